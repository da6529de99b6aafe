import PyProof.Rows.All
import Wide.All
import OpenK.AllK
import Wide.FinOn
import HandS.ForMost
import HandS.TupAny
import HandS.TupMul
import HandS.Deep
import HandS.Conv
import PyProof.SeqIndex
import HandS.ForExc
import HandS.Flow
import HandS.CallSlots
import HandS.ExcCtx
import HandS.SortInts
import PyProof.WalksMore
import PyProof.WalkInts
import HandS.ExcOwn
import HandS.Ends
import HandS.HeadEnd
import HandS.Defaults
import HandS.HeadHook2
import PyProof.AutoSeq1
import HandS.SetFor
import HandS.Strs
import PyProof.SeqRoads
import PyProof.ListIndex
import PyProof.ListIndexNeg
import HandS.Iter
import KE.GoesMore
import KE.GoesEnum
import HandS.SortKw
import KE.GoesEnumKw
import PyProof.ZipIter
import HandS.Comp
import HandS.Dict
import HandS.WordsExc
import HandS.HeadHook1
import PyProof.ReprReads
import HandS.Set
import HandS.Text
import HandS.StrMore
import HandS.FStr
import HandS.IsInst
import HandS.RaiseMore
import PyProof.StrLawsTight
import PyProof.Rows.StrCut
import PyProof.AssignAttr
import PyProof.ReprRoads
import PyProof.ReprLen
import PyProof.StrLawsRepr
import PyProof.CallFns
import HandS.ExcInit
import HandS.ExcField
import HandS.SetTxt0
import PyProof.Rows.SortStr
import HandS.DictComp
import PyProof.ListStr
import PyProof.StrBlock2
import KE.KStateDown
import HandS.Head0
import HandS.Head1
import HandS.Head2
import PyProof.TableCode
import PySem.Challenge.RW_copyplaces_k79_copyings_written_and_read
set_option Elab.async false
set_option linter.all false
set_option autoImplicit false
set_option maxRecDepth 100000
set_option maxHeartbeats 4000000
/-! MI: a small pure layer: what the program's constructs do to plain data. -/
set_option autoImplicit false
namespace MI

/-- a value: texts by their code points, tuples as trees, a mutable object by its place in the store; frz: a list that is read alone (the script); xtup: a tuple whose methods are called -/
inductive D where
  | non
  | bl (b : Bool)
  | int (i : Int)
  | str (s : List Nat)
  | tup (l : List D)
  | loc (n : Nat)
  | frz (l : List D)
  | xtup (l : List D)
  deriving Inhabited

/-- a mutable object -/
inductive Ob where
  | lst (l : List D)
  | ins (c : Nat) (fs : List (List Nat × D))
  | dic (kvs : List (D × D))
  | set (ks : List D)
  deriving Inhabited

inductive Rs (α : Type) where
  | ok (a : α)
  | exc (c : Nat) (fs : List (List Nat × D))

abbrev Stt := List Ob
abbrev Env := List (Option D)
abbrev R (α : Type) := Stt → Option (Rs α × Stt)
def ret {α : Type} (a : α) : R α := fun st => some (.ok a, st)
def fail {α : Type} : R α := fun _ => none
def bnd {α β : Type} (x : R α) (f : α → R β) : R β := fun st => match x st with
  | some (.ok a, st') => f a st'
  | some (.exc c fs, st') => some (.exc c fs, st')
  | none => none
def new (o : Ob) : R D := fun st => some (.ok (.loc st.length), st ++ [o])

structure Ctx where
  call : Nat → List D → R D
  meth : Nat → List Nat → Option Nat
  flds : Nat → List Nat → Bool
  fuel : Nat
abbrev SE := Ctx → Env → R D

/-- the largest length of a list, a text -/
abbrev lim : Nat := 16777216

/-! ### == of data -/
def b2i (b : Bool) : Int := if b then 1 else 0
mutual
def D.eqv : D → D → Bool
  | .non, .non => true
  | .bl a, .bl b => a == b
  | .bl a, .int j => b2i a == j
  | .int i, .bl b => i == b2i b
  | .int i, .int j => i == j
  | .str s, .str t => s == t
  | .tup l, .tup m => D.eqvL l m
  | .tup l, .xtup m => D.eqvL l m
  | .xtup l, .tup m => D.eqvL l m
  | .xtup l, .xtup m => D.eqvL l m
  | .frz l, .frz m => D.eqvL l m
  | _, _ => false
def D.eqvL : List D → List D → Bool
  | [], [] => true
  | x :: xs, y :: ys => D.eqv x y && D.eqvL xs ys
  | _, _ => false
end
mutual
/-- no mutable object within, nested so deep at most -/
def D.ok : Nat → D → Bool
  | _, .non => true
  | _, .bl _ => true
  | _, .int _ => true
  | _, .str s => s.all (· < 1114112)
  | 0, .tup _ => false
  | n + 1, .tup l => l.length < lim && D.okL n l
  | 0, .xtup _ => false
  | n + 1, .xtup l => l.length < lim && D.okL n l
  | _, .loc _ => false
  | 0, .frz _ => false
  | n + 1, .frz l => l.length < lim && D.okL n l
def D.okL : Nat → List D → Bool
  | _, [] => true
  | n, x :: xs => D.ok n x && D.okL n xs
end
abbrev deep : Nat := 40
/-- a list as it stands, as a value -/
def dat (x : D) (st : Stt) : Option D := match x with
  | .loc a => match st[a]? with
    | some (.lst l) => some (.frz l)
    | _ => none
  | x => some x
def eqD (x y : D) : R Bool := fun st => match dat x st with
  | some a => match dat y st with
    | some b => if D.ok deep a && D.ok deep b then some (.ok (D.eqv a b), st) else none
    | none => none
  | none => none
/-- the items of a list or tuple -/
def seqOf (x : D) : R (List D) := fun st => match x with
  | .tup l => some (.ok l, st)
  | .xtup l => some (.ok l, st)
  | .frz l => some (.ok l, st)
  | .loc a => match st[a]? with
    | some (.lst l) => some (.ok l, st)
    | _ => none
  | _ => none
def isInT (x s : D) : R Bool := fun st => match s with
  | .tup l => if D.ok deep x && D.okL deep l then some (.ok (l.any fun y => D.eqv y x), st) else none
  | .xtup l => if D.ok deep x && D.okL deep l then some (.ok (l.any fun y => D.eqv y x), st) else none
  | .frz l => if D.ok deep x && D.okL deep l then some (.ok (l.any fun y => D.eqv y x), st) else none
  | .loc a => match st[a]? with
    | some (.lst l) => if D.ok deep x && D.okL deep l then some (.ok (l.any fun y => D.eqv y x), st) else none
    | some (.dic kvs) => if D.ok deep x && D.okL deep (kvs.map (·.1)) then some (.ok (kvs.any fun p => D.eqv p.1 x), st) else none
    | _ => none
  | .str t => match x with
    | .str [c] => some (.ok (t.contains c), st)
    | _ => none
  | _ => none

/-! ### operators -/
def big : Int := 18446744073709551616
def opAdd (x y : D) : R D := fun st => match x, y with
  | .int i, .int j => some (.ok (.int (i + j)), st)
  | .str s, .str t => if s.length + t.length < lim then some (.ok (.str (s ++ t)), st) else none
  | .tup l, .tup m => if l.length + m.length < lim then some (.ok (.tup (l ++ m)), st) else none
  | .loc a, .loc b => match st[a]?, st[b]? with
    | some (.lst l), some (.lst m) => if l.length + m.length < lim then new (.lst (l ++ m)) st else none
    | _, _ => none
  | _, _ => none
def opSub (x y : D) : R D := fun st => match x, y with
  | .int i, .int j => some (.ok (.int (i - j)), st)
  | _, _ => none
def opMul (x y : D) : R D := fun st => match x, y with
  | .int i, .int j => if (-big < i ∧ i < big) ∨ (-big < j ∧ j < big) then some (.ok (.int (i * j)), st) else none
  | .tup l, .int j => if j < lim ∧ -lim < j ∧ l.length * j.toNat < 16000000 then some (.ok (.tup (List.replicate j.toNat l).flatten), st) else none
  | .loc a, .int j => match st[a]? with
    | some (.lst l) => if j < lim ∧ -lim < j ∧ l.length * j.toNat < lim then new (.lst (List.replicate j.toNat l).flatten) st else none
    | _ => none
  | _, _ => none
def opMod (x y : D) : R D := fun st => match x, y with
  | .int i, .int j => if 0 < j then some (.ok (.int (i % j)), st) else none
  | _, _ => none
def opDiv (x y : D) : R D := fun st => match x, y with
  | .int i, .int j => if 0 < j ∧ j < 1073741824 then some (.ok (.int (i / j)), st) else none
  | _, _ => none
def opPow (x y : D) : R D := fun st => match x, y with
  | .int i, .int j => if 0 ≤ j ∧ j ≤ 100 ∧ -big < i ∧ i < big then some (.ok (.int (i ^ j.toNat)), st) else none
  | _, _ => none
def opEq (x y : D) : R D := bnd (eqD x y) fun b => ret (.bl b)
def opNe (x y : D) : R D := bnd (eqD x y) fun b => ret (.bl (!b))
def opLt (x y : D) : R D := fun st => match x, y with
  | .int i, .int j => some (.ok (.bl (decide (i < j))), st)
  | _, _ => none
def opLe (x y : D) : R D := fun st => match x, y with
  | .int i, .int j => some (.ok (.bl (decide (i ≤ j))), st)
  | _, _ => none
def opGt (x y : D) : R D := fun st => match x, y with
  | .int i, .int j => some (.ok (.bl (decide (j < i))), st)
  | _, _ => none
def opGe (x y : D) : R D := fun st => match x, y with
  | .int i, .int j => some (.ok (.bl (decide (j ≤ i))), st)
  | _, _ => none
def opIn (x y : D) : R D := bnd (isInT x y) fun b => ret (.bl b)
def opNotIn (x y : D) : R D := bnd (isInT x y) fun b => ret (.bl (!b))
def isNone : D → Bool
  | .non => true
  | _ => false
def isTrue? : D → Option Bool
  | .bl b => some b
  | _ => none

/-! ### expressions -/
def eC (d : D) : SE := fun _ _ => ret d
def eVar (i : Nat) : SE := fun _ env st => match env[i]? with
  | some (some d) => some (.ok d, st)
  | _ => none
def eBin (f : D → D → R D) (a b : SE) : SE := fun c env => bnd (a c env) fun x => bnd (b c env) fun y => f x y
def eUn (f : D → R D) (a : SE) : SE := fun c env => bnd (a c env) f
def opNeg (x : D) : R D := fun st => match x with
  | .int i => some (.ok (.int (-i)), st)
  | _ => none
def opIsN (x : D) : R D := ret (.bl (isNone x))
def opNotN (x : D) : R D := ret (.bl (!isNone x))
abbrev SL := Ctx → Env → R (List D)
def lNil : SL := fun _ _ => ret []
def lCons (a : SE) (l : SL) : SL := fun c env => bnd (a c env) fun x => bnd (l c env) fun xs => ret (x :: xs)
def eTup (l : SL) : SE := fun c env => bnd (l c env) fun xs => if xs.length < lim then ret (.tup xs) else fail
def eLst (l : SL) : SE := fun c env => bnd (l c env) fun xs => if xs.length < lim then new (.lst xs) else fail
/-- a list that nobody changes: a value -/
def eLstF (l : SL) : SE := fun c env => bnd (l c env) fun xs => if xs.length < lim then ret (.frz xs) else fail
/-- a test -/
abbrev ST := Ctx → Env → R Bool
def cB (a : SE) : ST := fun c env => bnd (a c env) fun x => match x with
  | .bl b => ret b
  | _ => fail
def cNot (a : ST) : ST := fun c env => bnd (a c env) fun b => ret (!b)
def cAnd (a b : ST) : ST := fun c env => bnd (a c env) fun x => if x then b c env else ret false
def cOr (a b : ST) : ST := fun c env => bnd (a c env) fun x => if x then ret true else b c env
/-- and, or of bools as values; the last may be any value -/
def eAnd (a b : SE) : SE := fun c env => bnd (a c env) fun x => match x with
  | .bl true => b c env
  | .bl false => ret (.bl false)
  | _ => fail
def eOr (a b : SE) : SE := fun c env => bnd (a c env) fun x => match x with
  | .bl true => ret (.bl true)
  | .bl false => b c env
  | _ => fail
def eNot (a : SE) : SE := fun c env => bnd (a c env) fun x => match x with
  | .bl b => ret (.bl (!b))
  | _ => fail
def eNotT (t : ST) : SE := fun c env => bnd (t c env) fun b => ret (.bl (!b))
def eIf (t : ST) (a b : SE) : SE := fun c env => bnd (t c env) fun x => if x then a c env else b c env
/-- a op b op' c -/
def eChain (f g : D → D → R D) (a b d : SE) : SE := fun c env => bnd (a c env) fun x => bnd (b c env) fun y => bnd (f x y) fun r => match r with
  | .bl true => bnd (d c env) fun z => g y z
  | .bl false => ret (.bl false)
  | _ => fail

/-! ### subscripts -/
/-- the place of index i in n -/
def ixN (n : Nat) (i : Int) : Option Nat := if 0 ≤ i then (if i < n then some i.toNat else none) else if -(n : Int) ≤ i then some (i + n).toNat else none
def opIx (x y : D) : R D := fun st => match y with
  | .int i => match x with
    | .tup l => match (ixN l.length i).bind fun k => l[k]? with
      | some d => some (.ok d, st)
      | none => none
    | .xtup l => match (ixN l.length i).bind fun k => l[k]? with
      | some d => some (.ok d, st)
      | none => none
    | .str s => match (ixN s.length i).bind fun k => s[k]? with
      | some d => if s.length < lim then some (.ok (.str [d]), st) else none
      | none => none
    | .loc a => match st[a]? with
      | some (.lst l) => match (ixN l.length i).bind fun k => l[k]? with
        | some d => some (.ok d, st)
        | none => none
      | _ => none
    | .frz l => match (ixN l.length i).bind fun k => l[k]? with
      | some d => some (.ok d, st)
      | none => none
    | _ => none
  | _ => none
/-- a slice's bound -/
def clampI (n : Nat) (i : Int) : Nat := if i < 0 then (i + n).toNat else min i.toNat n
def cut {α : Type} (l : List α) (lo hi : Option Int) : List α :=
  let a := (lo.map (clampI l.length)).getD 0
  let b := (hi.map (clampI l.length)).getD l.length
  (l.take b).drop a
def everyOther {α : Type} : List α → List α
  | [] => []
  | [x] => [x]
  | x :: _ :: r => x :: everyOther r
abbrev SO := Ctx → Env → R (Option Int)
def oNone : SO := fun _ _ => ret none
def oSome (a : SE) : SO := fun c env => bnd (a c env) fun x => match x with
  | .int i => if -lim < i ∧ i < lim then ret (some i) else fail
  | _ => fail
def opSlc (x : D) (lo hi : Option Int) : R D := fun st => match x with
  | .tup l => some (.ok (.tup (cut l lo hi)), st)
  | .str s => if s.length < lim then some (.ok (.str (cut s lo hi)), st) else none
  | .loc a => match st[a]? with
    | some (.lst l) => some (.ok (.frz (cut l lo hi)), st)
    | _ => none
  | .frz l => some (.ok (.frz (cut l lo hi)), st)
  | _ => none
def eSlc (a : SE) (lo hi : SO) : SE := fun c env => bnd (a c env) fun x => bnd (lo c env) fun l => bnd (hi c env) fun h => opSlc x l h
/-- t[a:b:2] of a tuple, a and b written -/
def eSlc2 (a : SE) (lo hi : Option Int) : SE := fun c env => bnd (a c env) fun x => match x with
  | .tup l => ret (.tup (everyOther (cut l lo hi)))
  | _ => fail

/-! ### objects -/
def getD (fs : List (List Nat × D)) (f : List Nat) : Option D := (fs.find? fun p => p.1 == f).map (·.2)
def putD (fs : List (List Nat × D)) (f : List Nat) (d : D) : List (List Nat × D) := match fs with
  | [] => [(f, d)]
  | p :: r => if p.1 = f then (p.1, d) :: r else p :: putD r f d
def opFld (f : List Nat) (x : D) : R D := fun st => match x with
  | .loc a => match st[a]? with
    | some (.ins _ fs) => match getD fs f with
      | some d => some (.ok d, st)
      | none => none
    | _ => none
  | _ => none
def eFld (a : SE) (f : List Nat) : SE := fun c env => bnd (a c env) (opFld f)
/-- a call of a def by its number -/
def eCall (f : Nat) (l : SL) : SE := fun c env => bnd (l c env) fun xs => c.call f xs
/-- o.m(..): the class's own method -/
def opRes (c : Ctx) (m : List Nat) (x : D) : R Nat := fun st => match x with
  | .loc n => match st[n]? with
    | some (.ins k fs) => match c.meth k m, getD fs m with
      | some f, none => some (.ok f, st)
      | _, _ => none
    | _ => none
  | _ => none
def eMeth (a : SE) (m : List Nat) (l : SL) : SE := fun c env => bnd (a c env) fun x => bnd (opRes c m x) fun f => bnd (l c env) fun xs => c.call f (x :: xs)
def mkEnd (o r : D) : R D := match r with
  | .non => ret o
  | _ => fail
/-- C(..): a new instance, then its __init__ -/
def eMake (k f : Nat) (l : SL) : SE := fun c env => bnd (l c env) fun xs => bnd (new (.ins k [])) fun o => bnd (c.call f (o :: xs)) (mkEnd o)

/-! ### built-in functions -/
def bLen (x : D) : R D := fun st => match x with
  | .tup l => some (.ok (.int l.length), st)
  | .xtup l => some (.ok (.int l.length), st)
  | .str s => if s.length < lim then some (.ok (.int s.length), st) else none
  | .loc a => match st[a]? with
    | some (.lst l) => some (.ok (.int l.length), st)
    | some (.dic l) => some (.ok (.int l.length), st)
    | _ => none
  | .frz l => some (.ok (.int l.length), st)
  | _ => none
def bInt (x : D) : R D := fun st => match x with
  | .int i => some (.ok (.int i), st)
  | .bl b => some (.ok (.int (b2i b)), st)
  | _ => none
def bAbs (x : D) : R D := fun st => match x with
  | .int i => some (.ok (.int (if i < 0 then -i else i)), st)
  | _ => none
def bTuple (x : D) : R D := bnd (seqOf x) fun l => ret (.tup l)
/-- tuple(x) of a list, a tuple whose methods are called -/
def bTupleX (x : D) : R D := fun st => match x with
  | .loc a => match st[a]? with
    | some (.lst l) => some (.ok (.xtup l), st)
    | _ => none
  | .frz l => some (.ok (.xtup l), st)
  | _ => none
def bListF (x : D) : R D := bnd (seqOf x) fun l => if l.length < lim then ret (.frz l) else fail
def bList (x : D) : R D := bnd (seqOf x) fun l => if l.length < lim then new (.lst l) else fail
def bMax2 (x y : D) : R D := fun st => match x, y with
  | .int i, .int j => some (.ok (.int (if j > i then j else i)), st)
  | _, _ => none
def bMin2 (x y : D) : R D := fun st => match x, y with
  | .int i, .int j => some (.ok (.int (if j < i then j else i)), st)
  | _, _ => none
def ints? : List D → Option (List Int)
  | [] => some []
  | .int i :: r => (ints? r).map (i :: ·)
  | _ => none
def bools? : List D → Option (List Bool)
  | [] => some []
  | .bl i :: r => (bools? r).map (i :: ·)
  | _ => none
def leastI : Int → List Int → Int
  | m, [] => m
  | m, x :: r => leastI (if x < m then x else m) r
def greatI : Int → List Int → Int
  | m, [] => m
  | m, x :: r => greatI (if m < x then x else m) r
def bMin (x : D) : R D := bnd (seqOf x) fun l => match ints? l with
  | some (i :: r) => ret (.int (leastI i r))
  | _ => fail
def bMax (x : D) : R D := bnd (seqOf x) fun l => match ints? l with
  | some (i :: r) => ret (.int (greatI i r))
  | _ => fail
def lstOf (x : D) : R (List D) := fun st => match x with
  | .loc a => match st[a]? with
    | some (.lst l) => some (.ok l, st)
    | _ => none
  | .frz l => some (.ok l, st)
  | _ => none
def bSum (x : D) : R D := bnd (lstOf x) fun l => match ints? l with
  | some r => ret (.int r.sum)
  | _ => fail
def bAll (x : D) : R D := bnd (lstOf x) fun l => match bools? l with
  | some r => ret (.bl (r.all id))
  | _ => fail
def bAny (x : D) : R D := bnd (lstOf x) fun l => match bools? l with
  | some r => ret (.bl (r.any id))
  | _ => fail
def insI (x : Int) : List Int → List Int
  | [] => [x]
  | y :: r => if x ≤ y then x :: y :: r else y :: insI x r
def sortI : List Int → List Int
  | [] => []
  | x :: r => insI x (sortI r)
/-- sorted of ints -/
def bSorted (x : D) : R D := bnd (seqOf x) fun l => match ints? l with
  | some r => if r.length < lim then new (.lst ((sortI r).map D.int)) else fail
  | none => fail
def bSortedF (x : D) : R D := bnd (seqOf x) fun l => match ints? l with
  | some r => if r.length < lim then ret (.frz ((sortI r).map D.int)) else fail
  | none => fail
/-- set of ints; sorted of it -/
def bSet (x : D) : R D := bnd (seqOf x) fun l => match ints? l with
  | some r => if r.length < 64 then new (.set (r.map D.int)) else fail
  | none => fail
def rangeL (lo hi : Int) : List D := (List.range (hi - lo).toNat).map fun (k : Nat) => D.int (lo + k)

/-! ### methods of built-in types -/
def mIndex (x y : D) : R D := fun st => match x with
  | .xtup l => if D.ok deep y && D.okL deep l then (match l.findIdx? fun z => D.eqv z y with
    | some k => some (.ok (.int k), st)
    | none => none) else none
  | .loc a => match st[a]? with
    | some (.lst l) => if D.ok deep y && D.okL deep l then (match l.findIdx? fun z => D.eqv z y with
      | some k => some (.ok (.int k), st)
      | none => none) else none
    | _ => none
  | _ => none
def mCount (x y : D) : R D := fun st => match x with
  | .loc a => match st[a]? with
    | some (.lst l) => match ints? l, y with
      | some r, .int i => some (.ok (.int (r.count i)), st)
      | _, _ => none
    | _ => none
  | _ => none
def mAppend (x y : D) : R D := fun st => match x with
  | .loc a => match st[a]? with
    | some (.lst l) => if l.length < lim - 1 then some (.ok .non, st.set a (.lst (l ++ [y]))) else none
    | _ => none
  | _ => none
/-- the items of a list -/
def lstD (x : D) (st : Stt) : Option (List D) := match x with
  | .loc b => match st[b]? with
    | some (.lst m) => some m
    | _ => none
  | .frz m => some m
  | _ => none
def mExtend (x y : D) : R D := fun st => match x with
  | .loc a => match st[a]? with
    | some (.lst l) => match lstD y st with
      | some m => if l.length + m.length < lim then some (.ok .non, st.set a (.lst (l ++ m))) else none
      | none => none
    | _ => none
  | _ => none
def mPop (x : D) : R D := fun st => match x with
  | .loc a => match st[a]? with
    | some (.lst l) => match l.getLast? with
      | some d => some (.ok d, st.set a (.lst l.dropLast))
      | none => none
    | _ => none
  | _ => none

/-! ### what a for walks -/
/-- items that are fixed; the items of a list as they stand at each turn -/
inductive Src where
  | items (l : List D)
  | live (n : Nat)
  | liveE (n : Nat)
abbrev SI := Ctx → Env → R Src
def iSeq (a : SE) : SI := fun c env => bnd (a c env) fun x => fun st => match x with
  | .tup l => some (.ok (.items l), st)
  | .xtup l => some (.ok (.items l), st)
  | .loc n => match st[n]? with
    | some (.lst _) => some (.ok (.live n), st)
    | _ => none
  | .frz l => some (.ok (.items l), st)
  | _ => none
def iRange1 (a : SE) : SI := fun c env => bnd (a c env) fun x => match x with
  | .int n => if -lim < n ∧ n < lim then ret (.items (rangeL 0 n)) else fail
  | _ => fail
def iRange2 (a b : SE) : SI := fun c env => bnd (a c env) fun x => bnd (b c env) fun y => match x, y with
  | .int m, .int n => if -lim < m ∧ m < lim ∧ -lim < n ∧ n < lim then ret (.items (rangeL m n)) else fail
  | _, _ => fail
/-- range(0, n, 2) -/
def iRange3 (a : SE) : SI := fun c env => bnd (a c env) fun x => match x with
  | .int n => if -lim < n ∧ n < lim then ret (.items (everyOther (rangeL 0 n))) else fail
  | _ => fail
def enumD : Nat → List D → List D
  | _, [] => []
  | k, x :: r => .tup [.int k, x] :: enumD (k + 1) r
def iEnum (a : SE) : SI := fun c env => bnd (a c env) fun x => fun st => match x with
  | .tup l => if l.length < lim then some (.ok (.items (enumD 0 l)), st) else none
  | .frz l => if l.length < lim then some (.ok (.items (enumD 0 l)), st) else none
  | .loc n => match st[n]? with
    | some (.lst _) => some (.ok (.liveE n), st)
    | _ => none
  | _ => none
def zipD : List D → List D → List D
  | x :: r, y :: s => .tup [x, y] :: zipD r s
  | _, _ => []
/-- zip(.., strict=True) of two tuples of one length -/
def iZip (a b : SE) : SI := fun c env => bnd (a c env) fun x => bnd (b c env) fun y => match x, y with
  | .tup l, .tup m => if l.length = m.length then ret (.items (zipD l m)) else fail
  | _, _ => fail

/-- list(range(..)), tuple(range(..)) -/
def eListOf (it : SI) : SE := fun c env => bnd (it c env) fun s => match s with
  | .items l => if l.length < lim then new (.lst l) else fail
  | _ => fail
def eListOfF (it : SI) : SE := fun c env => bnd (it c env) fun s => match s with
  | .items l => if l.length < lim then ret (.frz l) else fail
  | _ => fail
def eTupleOf (it : SI) : SE := fun c env => bnd (it c env) fun s => match s with
  | .items l => if l.length < lim then ret (.tup l) else fail
  | _ => fail
/-- {'a': 1, ..}.get(x, y) -/
def lookI (kvs : List (List Nat × Int)) (s : List Nat) : Option Int := (kvs.find? fun p => p.1 == s).map (·.2)
def eDGet (kvs : List (List Nat × Int)) (a b : SE) : SE := fun c env => bnd (a c env) fun x => bnd (b c env) fun y => match x with
  | .str s => ret (match lookI kvs s with
    | some i => .int i
    | none => y)
  | _ => fail
/-- {'a': 1, ..}[x] -/
def eDIx (kvs : List (List Nat × Int)) (a : SE) : SE := fun c env => bnd (a c env) fun x => match x with
  | .str s => match lookI kvs s with
    | some i => ret (.int i)
    | none => fail
  | _ => fail
/-- a method of a built-in type: what the receiver must be is asked ahead of the arguments -/
def isLst (x : D) : R Unit := fun st => match x with
  | .loc a => match st[a]? with
    | some (.lst _) => some (.ok (), st)
    | _ => none
  | _ => none
def isIxd (x : D) : R Unit := fun st => match x with
  | .loc a => match st[a]? with
    | some (.lst _) => some (.ok (), st)
    | _ => none
  | .xtup _ => some (.ok (), st)
  | _ => none
def eMt0 (k : D → R Unit) (f : D → R D) (a : SE) : SE := fun c env => bnd (a c env) fun x => bnd (k x) fun _ => f x
def eMt1 (k : D → R Unit) (f : D → D → R D) (a b : SE) : SE := fun c env => bnd (a c env) fun x => bnd (k x) fun _ => bnd (b c env) fun y => f x y

/-! ### statements -/
inductive Fl where
  | nx
  | rt (d : D)
  | bk
  | ct
  | ex (c : Nat) (fs : List (List Nat × D))
abbrev SS := Ctx → Env → Stt → Option (Fl × Env × Stt)
/-- an expression, then .. -/
def sBnd {α : Type} (x : R α) (env : Env) (f : α → Stt → Option (Fl × Env × Stt)) : Stt → Option (Fl × Env × Stt) := fun st => match x st with
  | some (.ok a, st') => f a st'
  | some (.exc c fs, st') => some (.ex c fs, env, st')
  | none => none
def sPass : SS := fun _ env st => some (.nx, env, st)
def sSeq (a b : SS) : SS := fun c env st => match a c env st with
  | some (.nx, env', st') => b c env' st'
  | r => r
def sExpr (e : SE) : SS := fun c env => sBnd (e c env) env fun _ st => some (.nx, env, st)
def sRet (e : SE) : SS := fun c env => sBnd (e c env) env fun d st => some (.rt d, env, st)
def sRetN : SS := fun _ env st => some (.rt .non, env, st)
def sIf (t : ST) (a b : SS) : SS := fun c env => sBnd (t c env) env fun x st => if x then a c env st else b c env st
def sBrk : SS := fun _ env st => some (.bk, env, st)
def sCont : SS := fun _ env st => some (.ct, env, st)

/-! ### targets -/
/-- a target: names by place, tuples of targets; a[i]; o.f -/
abbrev SG := Ctx → D → Env → Stt → Option (Env × Stt)
def gVar (i : Nat) : SG := fun _ d env st => if i < env.length then some (env.set i (some d), st) else none
abbrev SGs := Ctx → List D → Env → Stt → Option (Env × Stt)
def gNil : SGs := fun _ l env st => match l with
  | [] => some (env, st)
  | _ => none
def gCons (g : SG) (r : SGs) : SGs := fun c l env st => match l with
  | x :: xs => match g c x env st with
    | some (env', st') => r c xs env' st'
    | none => none
  | [] => none
def gTup (n : Nat) (g : SGs) : SG := fun c d env st => match d with
  | .tup l => if l.length = n then g c l env st else none
  | _ => none
/-- an expression in a target; nothing is raised in it -/
def gBnd {α : Type} (x : R α) (f : α → Stt → Option (Env × Stt)) : Stt → Option (Env × Stt) := fun st => match x st with
  | some (.ok a, st') => f a st'
  | _ => none
def setIx (n : Nat) (k : Int) (d : D) (st : Stt) : Option Stt := match st[n]? with
  | some (.lst l) => match ixN l.length k with
    | some j => some (st.set n (.lst (l.set j d)))
    | none => none
  | _ => none
def putIx (env : Env) (x y d : D) (st : Stt) : Option (Env × Stt) := match x, y with
  | .loc n, .int k => match setIx n k d st with
    | some st' => some (env, st')
    | none => none
  | _, _ => none
def gSub (a i : SE) : SG := fun c d env => gBnd (a c env) fun x => gBnd (i c env) fun y st => putIx env x y d st
def sAsg (g : SG) (e : SE) : SS := fun c env => sBnd (e c env) env fun d st => match g c d env st with
  | some (env', st') => some (.nx, env', st')
  | none => none
def sSet (i : Nat) (e : SE) : SS := fun c env => sBnd (e c env) env fun d st => if i < env.length then some (.nx, env.set i (some d), st) else none
/-- x, y = a, b: two names, no tuple -/
def sPar (i j : Nat) (l : SL) : SS := fun c env => sBnd (l c env) env fun ds st => match ds with
  | [x, y] => if i < env.length ∧ j < env.length then some (.nx, (env.set i (some x)).set j (some y), st) else none
  | _ => none
/-- o.f = e -/
def setFld (c : Ctx) (n : Nat) (f : List Nat) (d : D) (st : Stt) : Option Stt := match st[n]? with
  | some (.ins k fs) => if fs.length < 999 ∧ c.flds k f = true then some (st.set n (.ins k (putD fs f d))) else none
  | _ => none
def endFld (c : Ctx) (env : Env) (f : List Nat) (x d : D) (st : Stt) : Option (Fl × Env × Stt) := match x with
  | .loc n => match setFld c n f d st with
    | some st' => some (.nx, env, st')
    | none => none
  | _ => none
def sFld (o : SE) (f : List Nat) (e : SE) : SS := fun c env => sBnd (e c env) env fun d => sBnd (o c env) env fun x st => endFld c env f x d st
/-- x op= e -/
def sAug (i : Nat) (f : D → D → R D) (e : SE) : SS := fun c env st => match env[i]? with
  | some (some x) => sBnd (e c env) env (fun y => sBnd (f x y) env fun d st => some (.nx, env.set i (some d), st)) st
  | _ => none
/-- o.f op= e -/
def opFldK (f : List Nat) (x : D) : R (Nat × D) := fun st => match x with
  | .loc a => match st[a]? with
    | some (.ins k fs) => match getD fs f with
      | some d => some (.ok (k, d), st)
      | none => none
    | _ => none
  | _ => none
def isCls (k : Nat) (x : D) (st : Stt) : Bool := match x with
  | .loc a => match st[a]? with
    | some (.ins k' _) => k' == k
    | _ => false
  | _ => false
def endFldK (c : Ctx) (env : Env) (f : List Nat) (k : Nat) (x d : D) (st : Stt) : Option (Fl × Env × Stt) := if isCls k x st = true then endFld c env f x d st else none
def sFldAug (o : SE) (f : List Nat) (g : D → D → R D) (e : SE) : SS := fun c env => sBnd (o c env) env fun x => sBnd (opFldK f x) env fun v => sBnd (e c env) env fun y => sBnd (g v.2 y) env fun z st => endFldK c env f v.1 x z st
/-- a[i] op= e -/
def endIx (env : Env) (x y d : D) (st : Stt) : Option (Fl × Env × Stt) := match x, y with
  | .loc n, .int k => match setIx n k d st with
    | some st' => some (.nx, env, st')
    | none => none
  | _, _ => none
def opIxL (x y : D) : R D := match x with
  | .loc _ => opIx x y
  | _ => fail
def sSubAug (a i : SE) (g : D → D → R D) (e : SE) : SS := fun c env => sBnd (a c env) env fun x => sBnd (i c env) env fun y => sBnd (opIxL x y) env fun v => sBnd (e c env) env fun z => sBnd (g v z) env fun u st => endIx env x y u st
/-- the operators of op= -/
def opIAdd (x y : D) : R D := fun st => match x, y with
  | .int i, .int j => some (.ok (.int (i + j)), st)
  | .str s, .str t => if s.length + t.length < lim then some (.ok (.str (s ++ t)), st) else none
  | .tup l, .tup m => if l.length + m.length < lim then some (.ok (.tup (l ++ m)), st) else none
  | _, _ => none

/-! ### loops -/
/-- one more turn? the item -/
def srcAt (s : Src) (i : Nat) (st : Stt) : Option (Option D) := match s with
  | .items l => some l[i]?
  | .live n => match st[n]? with
    | some (.lst l) => some l[i]?
    | _ => none
  | .liveE n => match st[n]? with
    | some (.lst l) => some (l[i]?.map fun x => .tup [.int i, x])
    | _ => none
def forL (s : Src) (turn : D → Env → Stt → Option (Fl × Env × Stt)) : Nat → Nat → Env → Stt → Option (Fl × Env × Stt)
  | 0, _, _, _ => none
  | m + 1, i, env, st => match srcAt s i st with
    | none => none
    | some none => some (.nx, env, st)
    | some (some d) => match turn d env st with
      | some (.nx, env', st') => forL s turn m (i + 1) env' st'
      | some (.ct, env', st') => forL s turn m (i + 1) env' st'
      | some (.bk, env', st') => some (.nx, env', st')
      | r => r
def turnOf (g : SG) (b : SS) (c : Ctx) : D → Env → Stt → Option (Fl × Env × Stt) := fun d env st => match g c d env st with
  | some (env', st') => b c env' st'
  | none => none
def sFor (g : SG) (it : SI) (b : SS) : SS := fun c env => sBnd (it c env) env fun s st => forL s (turnOf g b c) c.fuel 0 env st
def whileL (t : Env → R Bool) (turn : Env → Stt → Option (Fl × Env × Stt)) : Nat → Env → Stt → Option (Fl × Env × Stt)
  | 0, _, _ => none
  | m + 1, env, st => match t env st with
    | none => none
    | some (.exc k fs, st') => some (.ex k fs, env, st')
    | some (.ok false, st') => some (.nx, env, st')
    | some (.ok true, st') => match turn env st' with
      | some (.nx, env', st'') => whileL t turn m env' st''
      | some (.ct, env', st'') => whileL t turn m env' st''
      | some (.bk, env', st'') => some (.nx, env', st'')
      | r => r
def sWhile (t : ST) (b : SS) : SS := fun c env st => whileL (t c) (b c) c.fuel env st
/-- a comprehension's own names are forgotten ahead of it -/
def wipeE (env : Env) : List Nat → Env
  | [] => env
  | v :: vs => (wipeE env vs).set v none
/-- the items of a comprehension, from the i-th turn; nothing is raised in it -/
def compL (s : Src) (turn : D → R (Option D)) : Nat → Nat → List D → R (List D)
  | 0, _, _ => fail
  | m + 1, i, acc => fun st => match srcAt s i st with
    | none => none
    | some none => some (.ok acc, st)
    | some (some d) => match turn d st with
      | some (.ok (some x), st') => if acc.length < lim - 1 then compL s turn m (i + 1) (acc ++ [x]) st' else none
      | some (.ok none, st') => compL s turn m (i + 1) acc st'
      | _ => none
def compT (g : SG) (t : ST) (e : SE) (c : Ctx) (env : Env) (d : D) : R (Option D) := fun st => match g c d env st with
  | some (env', st') => (bnd (t c env') fun b => if b then bnd (e c env') fun x => ret (some x) else ret none) st'
  | _ => none
def cYes : ST := fun _ _ => ret true
def eComp (own : List Nat) (g : SG) (it : SI) (t : ST) (e : SE) : SE := fun c env => bnd (it c env) fun s => bnd (compL s (compT g t e c (wipeE env own)) c.fuel 0 []) fun l => new (.lst l)
def eCompF (own : List Nat) (g : SG) (it : SI) (t : ST) (e : SE) : SE := fun c env => bnd (it c env) fun s => bnd (compL s (compT g t e c (wipeE env own)) c.fuel 0 []) fun l => ret (.frz l)

/-! ### defs -/
structure Fn where
  pars : Nat
  slots : Nat
  body : SS
def Fn.run (f : Fn) (c : Ctx) (args : List D) : R D := fun st => if args.length = f.pars then match f.body c (args.map some ++ List.replicate (f.slots - f.pars) none) st with
  | some (.rt d, _, st') => some (.ok d, st')
  | some (.nx, _, st') => some (.ok .non, st')
  | some (.ex k fs, _, st') => some (.exc k fs, st')
  | _ => none
  else none
/-! ### calls that touch no store -/
mutual
/-- no mutable object within -/
def D.lf : D → Bool
  | .tup l => D.lfL l
  | .xtup l => D.lfL l
  | .frz l => D.lfL l
  | .loc _ => false
  | _ => true
def D.lfL : List D → Bool
  | [] => true
  | x :: xs => D.lf x && D.lfL xs
end
/-- a call whose arguments hold no mutable object, nor does what comes of it: it does as in an empty store -/
def optC (g : List D → R D) : List D → R D := fun ds st => if D.lfL ds = true then match g ds [] with
  | some (.ok d, st0) => match d with
    | .loc n => match st0[n]? with
      | some (.lst l) => if D.lfL l = true then some (.ok (.frz l), st) else none
      | _ => none
    | d => if D.lf d = true then some (.ok d, st) else none
  | some (.exc k fs, _) => if D.lfL (fs.map (·.2)) = true then some (.exc k fs, st) else none
  | none => none
  else g ds st
structure Prog where
  fns : List Fn
  meths : List (Nat × List Nat × Nat)
  flds : List (Nat × List Nat)
  pures : List Nat
def Prog.meth (p : Prog) (k : Nat) (m : List Nat) : Option Nat := (p.meths.find? fun q => q.1 == k && q.2.1 == m).map (·.2.2)
def Prog.fld (p : Prog) (k : Nat) (f : List Nat) : Bool := p.flds.any fun q => q.1 == k && q.2 == f
/-- so many calls within one another -/
def Prog.call (p : Prog) (fuel : Nat) : Nat → Nat → List D → R D
  | 0, _ => fun _ => fail
  | n + 1, f => match p.fns[f]? with
    | some fn => if p.pures.contains f = true then optC (fn.run ⟨p.call fuel n, p.meth, p.fld, fuel⟩) else fn.run ⟨p.call fuel n, p.meth, p.fld, fuel⟩
    | none => fun _ => fail
end MI

set_option Elab.async false
set_option linter.all false
set_option maxRecDepth 100000
set_option maxHeartbeats 4000000
/-! MSR1: rules of our own at the library's level: tuple * int for any int, in and index of a tuple of data. -/
namespace MS
open PySem PySem.Spec PyProof.Rows L2

theorem tuple_mulSame (l : Addr) (items : Array Value) (n : Nat) (dd : Option Addr) (sl : Array (Option Value)) (x : Int) (u : Tok) (c0 : (decide (x < -(2 ^ 63)) || decide (x ≥ 2 ^ 63)) = false) (c1 : (items.isEmpty || x == 1) = true) :
    Meets (Builtin.«tuple.__mul__» ⟨[.ref l, .int x u], []⟩) (fun _ R s => s.heap.get? l = some { cls := .type "tuple", dict := dd, data := .seq items n, slots := sl } ∧
      R (.ok (.ret (Value.ref l))) s) :=
  .of_wp fun prog w A R s h => by
    obtain ⟨hp, g, d, tk, os⟩ := s
    obtain ⟨hl, h⟩ := h
    have f1 := AutoSeq1.idx_int
    wp_walk using wpAny_loadPart' hl
    repeat (first
      | (refine wpAny_ite_false (decide_eq_false (by rw [c0]; exact Bool.false_ne_true)) ?_; wp_walk using wpAny_loadPart' hl)
      | (refine wpAny_ite_true (decide_eq_true (by rw [c1])) ?_; wp_walk using wpAny_loadPart' hl))
    exact ⟨_, rfl, h⟩
theorem tuple_mulNil (l : Addr) (items : Array Value) (n : Nat) (dd : Option Addr) (sl : Array (Option Value)) (x : Int) (u : Tok) (c0 : (decide (x < -(2 ^ 63)) || decide (x ≥ 2 ^ 63)) = false) (c1 : (items.isEmpty || x == 1) = false) (c2 : (decide (x ≤ 0) || items.isEmpty) = true) :
    Meets (Builtin.«tuple.__mul__» ⟨[.ref l, .int x u], []⟩) (fun _ R s => s.heap.get? l = some { cls := .type "tuple", dict := dd, data := .seq items n, slots := sl } ∧
      R (.ok (.ret (Value.ref s.heap.objs.size))) { s with heap := s.heap.push { cls := Value.type "tuple", data := Data.seq #[] }, toks := s.toks }) :=
  .of_wp fun prog w A R s h => by
    obtain ⟨hp, g, d, tk, os⟩ := s
    obtain ⟨hl, h⟩ := h
    have f1 := AutoSeq1.idx_int
    wp_walk using wpAny_loadPart' hl
    repeat (first
      | (refine wpAny_ite_false (decide_eq_false (by rw [c0]; exact Bool.false_ne_true)) ?_; wp_walk using wpAny_loadPart' hl)
      | (refine wpAny_ite_false (decide_eq_false (by rw [c1]; exact Bool.false_ne_true)) ?_; wp_walk using wpAny_loadPart' hl)
      | (refine wpAny_ite_true (decide_eq_true (by rw [c2])) ?_; wp_walk using wpAny_loadPart' hl))
    exact ⟨_, rfl, h⟩

/-- t * k -/
def rRepA (K : PySem.W.Frag) : R2 := fun x y H Q => ∃ l k xs, x = .ref l ∧ y = .int k ∧ SqT K H l xs ∧ -(2 ^ 62) < k ∧ k < 2 ^ 62 ∧ xs.length * k.toNat ≤ 16000000 ∧ ((xs = [] ∨ k = 1) → Q (.ref l) H) ∧
  ∀ p, H p = none → Q (.ref p) (upd H p (.tup (List.replicate k.toNat xs).flatten))
section
variable {X : Cx}
theorem op_repA : OpR X (binaryOp .Mult) (rRepA X.K) := by
  intro pins s σ H x y v u Q I rx ry h
  obtain ⟨l, k, xs, rfl, rfl, hT, h1, h2, hz, q0, q⟩ := h
  cases rx
  obtain ⟨t, rfl⟩ := ry
  obtain ⟨its, r, ⟨⟨cls, dd, data, sl⟩, ho, hc, n, hd⟩, hs⟩ := I.tuple hT
  simp only at hc hd
  subst hc hd
  have hle : its.length = xs.length := r.length.symm
  have c0 : (decide (k < -(2 ^ 63)) || decide (k ≥ 2 ^ 63)) = false := by
    rw [decide_eq_false (by omega), decide_eq_false (by omega)] <;> rfl
  have go : ∀ (Q' : Value → Shared → Prop), wpAny (model X.prog X.w) X.A (call (.builtin "tuple.__mul__") [.ref l, .int k t]) Q' X.xe s → wpAny (model X.prog X.w) X.A (binaryOp .Mult (.ref l) (.int k t)) Q' X.xe s := fun Q' hq =>
    wpAny_binaryOp_repeat_ref (T := "tuple") (U := "int") (by decide) ⟨_, ho, rfl⟩ (fun s' => typeIs_int s' k t) noFill_tuple_mul F.fills_int_mul F.slot_int_rmul repeat_tuple F.slot_int_index.lookup
      (call_meets F.slot_int_rmul (typeIs_int s k t) F.entry_int_rmul (F.args_int_rmul_2 _ _) (int_rmul_tuple k t l its.toArray n dd sl) ⟨ho, rfl, ⟨_, ho, rfl⟩, hq⟩)
  refine go _ ?_
  by_cases c1 : (its.toArray.isEmpty || k == 1) = true
  · refine call_meets F.slot_tuple_mul ⟨_, ho, rfl⟩ F.entry_tuple_mul (F.args_tuple_mul_2 _ _) (tuple_mulSame l its.toArray n dd sl k t c0 c1) ⟨ho, ?_⟩
    refine ⟨.ref l, H, I, rfl, q0 ?_⟩
    rcases Bool.or_eq_true_iff.mp c1 with e | e
    · left
      have : its = [] := by simpa using e
      rw [this] at hle
      exact List.eq_nil_of_length_eq_zero hle.symm
    · right; exact eq_of_beq e
  · have c1' : (its.toArray.isEmpty || k == 1) = false := by simpa using c1
    have nb : ∀ b o, s.heap.get? b = some o → (s.heap.push { cls := Value.type "tuple", data := Data.seq #[] }).get? b = some o := fun b o e => Heap.get?_push_of_some _ e
    by_cases c2 : (decide (k ≤ 0) || its.toArray.isEmpty) = true
    · refine call_meets F.slot_tuple_mul ⟨_, ho, rfl⟩ F.entry_tuple_mul (F.args_tuple_mul_2 _ _) (tuple_mulNil l its.toArray n dd sl k t c0 c1' c2) ⟨ho, ?_⟩
      have he : (List.replicate k.toNat xs).flatten = [] := by
        rcases Bool.or_eq_true_iff.mp c2 with e | e
        · have : k.toNat = 0 := by have := of_decide_eq_true e; omega
          rw [this]; rfl
        · exfalso; rw [e] at c1'; simp at c1'
      have q' := q _ (I.hok.fresh (Nat.le_refl _))
      rw [he] at q'
      refine ⟨.ref s.heap.objs.size, _, I.laid (t' := s.toks) (o := .tup []) (fun b ob q => Heap.get?_push_of_some _ q) (Nat.le_refl _) ?_, rfl, q'⟩
      exact ⟨Nat.zero_le _, [], .nil, IsTup.new _ _⟩
    · have c2' : (decide (k ≤ 0) || its.toArray.isEmpty) = false := by simpa using c2
      have hk0 : 0 < k := by
        have := (Bool.or_eq_false_iff.mp c2').1
        have := of_decide_eq_false this
        omega
      have hm : ((its.toArray.size : Nat) : Int) * k ≤ 16000000 := by
        rw [List.size_toArray, hle]
        have e : ((k.toNat : Nat) : Int) = k := by omega
        have a1 : ((xs.length * k.toNat : Nat) : Int) ≤ 16000000 := Int.ofNat_le.mpr hz
        rw [Int.natCast_mul, e] at a1
        exact a1
      have flen : (List.replicate k.toNat its).flatten.length ≤ sizeLine := by
        rw [PyProof.Rows.lm_len_rep_flat, hle, sizeLine_eq, Nat.mul_comm]
        omega
      have c4 : Builtin.Tuple.tupleTooMany (((its.toArray.size : Nat) : Int) * k) = false := by
        unfold Builtin.Tuple.tupleTooMany
        rw [sizeLine_eq]
        exact decide_eq_false (by omega)
      refine call_meets F.slot_tuple_mul ⟨_, ho, rfl⟩ F.entry_tuple_mul (F.args_tuple_mul_2 _ _) (tuple_mulW l its.toArray n dd sl k t c0 c1' c2' (by omega) c4 (by rw [size_rep, List.size_toArray]; exact flen)) ⟨ho, ?_⟩
      rw [size_rep]
      refine ⟨.ref s.heap.objs.size, _, I.laid (t' := s.toks) (o := .tup (List.replicate k.toNat xs).flatten) (fun b ob q => Heap.get?_push_of_some _ q) (Nat.le_refl _) ?_, rfl, q _ (I.hok.fresh (Nat.le_refl _))⟩
      exact ⟨by rw [PyProof.Rows.lm_len_rep_flat, sizeLine_eq, Nat.mul_comm]; omega, _, r.rep k.toNat, IsTup.new _ _⟩

/-! ### x in t, t.index(x): a tuple of data -/
theorem op_inDT (hu : X.A.units + 65 < cLine) : OpR X (compareOp .In) (fun x y H Q => ∃ d ds, Dp X.K H x d ∧ Dp X.K H y (.tuple ds) ∧ SeqAt.shaped d = true ∧ SeqAt.shaped (.tuple ds) = true ∧ Q (.bl (ds.any fun z => PyData.eqv z d)) H) := by
  intro pins s σ H x y v u Q I rx ry h
  obtain ⟨d, ds, hd, he, sd, se, q⟩ := h
  obtain ⟨as, r1⟩ := Dp.reads I d x v hd rx
  obtain ⟨bs, r2⟩ := Dp.reads I (.tuple ds) y u he ry
  exact SeqAt.in_tuple_reads r2 r1 (SeqAt.canLay_of_shaped se) (SeqAt.canLay_of_shaped sd) (room_in_shaped sd hu) ⟨.bl _, H, I, rfl, q⟩
theorem op_notInDT (hu : X.A.units + 65 < cLine) : OpR X (compareOp .NotIn) (fun x y H Q => ∃ d ds, Dp X.K H x d ∧ Dp X.K H y (.tuple ds) ∧ SeqAt.shaped d = true ∧ SeqAt.shaped (.tuple ds) = true ∧ Q (.bl (!ds.any fun z => PyData.eqv z d)) H) := by
  intro pins s σ H x y v u Q I rx ry h
  obtain ⟨d, ds, hd, he, sd, se, q⟩ := h
  obtain ⟨as, r1⟩ := Dp.reads I d x v hd rx
  obtain ⟨bs, r2⟩ := Dp.reads I (.tuple ds) y u he ry
  exact SeqAt.notIn_tuple_reads r2 r1 (SeqAt.canLay_of_shaped se) (SeqAt.canLay_of_shaped sd) (room_in_shaped sd hu) ⟨.bl _, H, I, rfl, q⟩
theorem mt_tindexD (hu : X.A.units + 65 < cLine) : MtR X "tuple.index" (fun x xs H Q => ∃ (a : Addr) (y : V) (d : PyData) (ds : List PyData) (j : Nat), x = V.ref a ∧ xs = [y] ∧ Dp X.K H (V.ref a) (.tuple ds) ∧ Dp X.K H y d ∧
    SeqAt.shaped (.tuple ds) = true ∧ SeqAt.shaped d = true ∧ ds.findIdx? (fun z => PyData.eqv z d) = some j ∧ Q (.int (j : Nat)) H) := by
  intro pins s σ H x xs v us Q I rx rxs h
  obtain ⟨a, y, d, ds, j, rfl, rfl, hl, hy, sl, sd, hj, q⟩ := h
  cases rx
  cases rxs with
  | cons ry rt =>
    rename_i uy ut
    cases rt
    obtain ⟨bs, r1⟩ := Dp.reads I d y uy hy ry
    obtain ⟨as, r2⟩ := Dp.reads I (.tuple ds) _ _ hl rfl
    have hxs : PyData.canLayAll0 ds = true := SeqAt.canLay_of_shaped sl
    have hroom : X.A.units + 1 + min (PyData.depthAll ds) d.depth < cLine := room_in_shaped sd hu
    cases r2 with
    | @tuple a1 o1 its n ds1 as1 h1 h2 h3 h4 =>
      have hmap : its.toList.map (SeqAt.readOf s.heap) = ds := SeqAt.readsAll_map ds its.toList _ hxs h4
      have eqs := SeqAt.items_eqAt (vs := its) h4 r1 hxs (SeqAt.canLay_of_shaped sd) hroom
      have hj2 : (ds.map fun z => PyData.eqv z d).idxOf true = j ∧ true ∈ ds.map fun z => PyData.eqv z d := by
        obtain ⟨hjl, hjt, hjn⟩ := List.findIdx?_eq_some_iff_getElem.mp hj
        have hm : true ∈ ds.map fun z => PyData.eqv z d := List.mem_map.mpr ⟨ds[j], List.getElem_mem hjl, hjt⟩
        refine ⟨?_, hm⟩
        have e : (ds.map fun z => PyData.eqv z d).idxOf true = ds.findIdx fun z => PyData.eqv z d := by
          unfold List.idxOf
          rw [List.findIdx_map]
          congr 1
          funext z
          show ((PyData.eqv z d) == true) = PyData.eqv z d
          simp
        rw [e]
        exact (List.findIdx?_eq_some_iff_findIdx_eq.mp hj).2
      refine SeqAt.call_tuple_index (vs := its.toList) (ks := ds.map fun z => PyData.eqv z d) (k := true) ⟨o1, h1, h2, n, by simpa using h3⟩ ⟨by rw [← hmap]; simp, fun i hi1 hi2 => ?_⟩ hj2.2 ?_
      · have e1 := eqs its.toList[i] (by simp)
        have e2 : (ds.map fun z => PyData.eqv z d)[i] = PyData.eqv (SeqAt.readOf s.heap its.toList[i]) d := by
          simp only [List.getElem_map, ← hmap]
        rw [e2]
        simpa using e1
      · rw [hj2.1]
        exact ⟨.int (j : Nat), H, I.tok _, ⟨_, rfl⟩, q⟩
end
end MS

set_option Elab.async false
set_option linter.all false
set_option maxRecDepth 100000
set_option maxHeartbeats 4000000
/-! MS1: MI's data over the abstract heap. -/
namespace MS
open PySem PySem.Spec PyProof.Rows L2 MI

abbrev sD (s : List Nat) : Str := ⟨s.toArray⟩
theorem sD_inj {s t : List Nat} (h : sD s = sD t) : s = t := by
  have h1 : s.toArray = t.toArray := congrArg Str.cps h
  simpa using h1
theorem sD_eq {s t : List Nat} : sD s = sD t ↔ s = t := ⟨sD_inj, fun h => by rw [h]⟩

/-- a list that is read alone -/
def FrL (K : PySem.W.Frag) (H : Hp) (a : Addr) (vs : List V) : Prop :=
  (∃ o, H a = some (.frz o (.lst vs))) ∨
    ∃ (o : Obj) (its : Array Value) (n : Nat), K.lookup a = some o ∧ o.cls = .type "list" ∧ o.dict = none ∧ o.data = .seq its n ∧ its.size ≤ sizeLine ∧ Vals vs its.toList
theorem FrL.seq {K : PySem.W.Frag} {H : Hp} {a : Addr} {vs : List V} (h : FrL K H a vs) : SqL K H a vs := by
  rcases h with ⟨o, h⟩ | h
  · exact .inl (.inr ⟨o, h⟩)
  · exact .inr h

/-- a tuple whose object is known to have no dict -/
def XT (H : Hp) (a : Addr) (vs : List V) : Prop := ∃ o : Obj, H a = some (.frz o (.tup vs)) ∧ o.cls = .type "tuple" ∧ o.dict = none
theorem XT.seq {K : PySem.W.Frag} {H : Hp} {a : Addr} {vs : List V} (h : XT H a vs) : SqT K H a vs := by
  obtain ⟨o, h, _⟩ := h
  exact .inl (.inr ⟨o, h⟩)

mutual
inductive Rv (K : PySem.W.Frag) (H : Hp) (ρ : List Addr) : V → D → Prop
  | non : Rv K H ρ .non .non
  | bl (b : Bool) : Rv K H ρ (.bl b) (.bl b)
  | int (i : Int) : Rv K H ρ (.int i) (.int i)
  | str (s : List Nat) : Rv K H ρ (.str (sD s)) (.str s)
  | tup {a : Addr} {vs : List V} {ds : List D} : SqT K H a vs → RvL K H ρ vs ds → Rv K H ρ (.ref a) (.tup ds)
  | frz {a : Addr} {vs : List V} {ds : List D} : FrL K H a vs → RvL K H ρ vs ds → Rv K H ρ (.ref a) (.frz ds)
  | xtup {a : Addr} {vs : List V} {ds : List D} : XT H a vs → RvL K H ρ vs ds → Rv K H ρ (.ref a) (.xtup ds)
  | loc {a : Addr} {n : Nat} : ρ[n]? = some a → Rv K H ρ (.ref a) (.loc n)
inductive RvL (K : PySem.W.Frag) (H : Hp) (ρ : List Addr) : List V → List D → Prop
  | nil : RvL K H ρ [] []
  | cons {v : V} {vs : List V} {d : D} {ds : List D} : Rv K H ρ v d → RvL K H ρ vs ds → RvL K H ρ (v :: vs) (d :: ds)
end
inductive RvF (K : PySem.W.Frag) (H : Hp) (ρ : List Addr) : List (Str × V) → List (List Nat × D) → Prop
  | nil : RvF K H ρ [] []
  | cons {f : List Nat} {v : V} {vs : List (Str × V)} {d : D} {ds : List (List Nat × D)} : Rv K H ρ v d → RvF K H ρ vs ds → RvF K H ρ ((sD f, v) :: vs) ((f, d) :: ds)
inductive RvE (K : PySem.W.Frag) (H : Hp) (ρ : List Addr) : L2.St → MI.Env → Prop
  | nil : RvE K H ρ [] []
  | hole {σ : L2.St} {env : MI.Env} {o : Option V} : RvE K H ρ σ env → RvE K H ρ (o :: σ) (none :: env)
  | val {v : V} {σ : L2.St} {d : D} {env : MI.Env} : Rv K H ρ v d → RvE K H ρ σ env → RvE K H ρ (some v :: σ) (some d :: env)

/-- what stands at a mutable object's address -/
inductive Ro (K : PySem.W.Frag) (cl : Nat → Addr) (H : Hp) (ρ : List Addr) : Addr → Ob → Prop
  | lst {a : Addr} {vs : List V} {ds : List D} : H a = some (.lst vs) → RvL K H ρ vs ds → Ro K cl H ρ a (.lst ds)
  | ins {a dx : Addr} {c : Nat} {vfs : List (Str × V)} {fs : List (List Nat × D)} : H a = some (.ins (cl c) dx vfs) → RvF K H ρ vfs fs → Cls K (cl c) → (∀ p ∈ fs, NoAttr K (cl c) (sD p.1)) → Ro K cl H ρ a (.ins c fs)

structure At (K : PySem.W.Frag) (cl : Nat → Addr) (ρ : List Addr) (H : Hp) (st : Stt) : Prop where
  len : ρ.length = st.length
  nd : ρ.Nodup
  obj : ∀ (n : Nat) a o, ρ[n]? = some a → st[n]? = some o → Ro K cl H ρ a o
/-- behind some steps: more objects, all that is not ours kept -/
structure Grow (ρ : List Addr) (H : Hp) (ρ' : List Addr) (H' : Hp) : Prop where
  ext : ∃ e, ρ' = ρ ++ e
  new : ∀ a ∈ ρ', a ∈ ρ ∨ H a = none
  frame : ∀ a o, H a = some o → a ∉ ρ → H' a = some o

section
variable {K : PySem.W.Frag} {cl : Nat → Addr} {ρ ρ' ρ1 ρ2 : List Addr} {H H' H1 H2 : Hp} {st st' : Stt} {a p : Addr}
theorem Grow.refl : Grow ρ H ρ H := ⟨⟨[], by simp⟩, fun _ h => .inl h, fun _ _ h _ => h⟩
theorem Grow.trans (g : Grow ρ H ρ1 H1) (h : Grow ρ1 H1 ρ2 H2) : Grow ρ H ρ2 H2 := by
  obtain ⟨e, he⟩ := g.ext
  obtain ⟨f, hf⟩ := h.ext
  have nin : ∀ a o, H a = some o → a ∉ ρ → a ∉ ρ1 := fun a o ha hn hm => by
    rcases g.new a hm with q | q
    · exact hn q
    · rw [q] at ha; cases ha
  refine ⟨⟨e ++ f, by rw [hf, he, List.append_assoc]⟩, fun a ha => ?_, fun a o ha hn => h.frame a o (g.frame a o ha hn) (nin a o ha hn)⟩
  rcases h.new a ha with q | q
  · exact g.new a q
  · by_cases hr : a ∈ ρ
    · exact .inl hr
    · cases e : H a with
      | none => exact .inr rfl
      | some o =>
        have := g.frame a o e hr
        rw [q] at this; cases this
theorem At.mem (A : At K cl ρ H st) (h : a ∈ ρ) : ∃ (n : Nat) (o : Ob), ρ[n]? = some a ∧ st[n]? = some o ∧ Ro K cl H ρ a o := by
  obtain ⟨n, hn, e⟩ := List.getElem_of_mem h
  have e1 : ρ[n]? = some a := by rw [List.getElem?_eq_getElem hn, e]
  have hn' : n < st.length := by rw [← A.len]; exact hn
  have e2 : st[n]? = some st[n] := List.getElem?_eq_getElem hn'
  exact ⟨n, _, e1, e2, A.obj n a _ e1 e2⟩
theorem Ro.mut {o : Ob} (h : Ro K cl H ρ a o) : (∃ vs, H a = some (.lst vs)) ∨ ∃ c dx vfs, H a = some (.ins (cl c) dx vfs) := by
  cases h with
  | lst h _ => exact .inl ⟨_, h⟩
  | ins h _ _ _ => exact .inr ⟨_, _, _, h⟩
theorem At.notTup (A : At K cl ρ H st) (h : a ∈ ρ) {vs : List V} : H a ≠ some (.tup vs) := fun e => by
  obtain ⟨_, _, _, _, r⟩ := A.mem h
  rcases r.mut with ⟨_, q⟩ | ⟨_, _, _, q⟩ <;> (rw [q] at e; cases e)
theorem At.notFrz (A : At K cl ρ H st) (h : a ∈ ρ) {ob : Obj} {u : HO} : H a ≠ some (.frz ob u) := fun e => by
  obtain ⟨_, _, _, _, r⟩ := A.mem h
  rcases r.mut with ⟨_, q⟩ | ⟨_, _, _, q⟩ <;> (rw [q] at e; cases e)
theorem At.there (A : At K cl ρ H st) (h : a ∈ ρ) : H a ≠ none := fun e => by
  obtain ⟨_, _, _, _, r⟩ := A.mem h
  rcases r.mut with ⟨_, q⟩ | ⟨_, _, _, q⟩ <;> (rw [q] at e; cases e)
/-- tuples and what is locked are kept -/
structure Keep (K : PySem.W.Frag) (H H' : Hp) : Prop where
  t : ∀ b vs, SqT K H b vs → SqT K H' b vs
  f : ∀ b vs, FrL K H b vs → FrL K H' b vs
  x : ∀ b vs, XT H b vs → XT H' b vs
theorem At.keep (A : At K cl ρ H st) (g : Grow ρ H ρ' H') : Keep K H H' where
  t := fun b vs h => by
    rcases h with (h | ⟨o, h⟩) | h
    · exact .inl (.inl (g.frame _ _ h fun m => A.notTup m h))
    · exact .inl (.inr ⟨o, g.frame _ _ h fun m => A.notFrz m h⟩)
    · exact .inr h
  f := fun b vs h => by
    rcases h with ⟨o, h⟩ | h
    · exact .inl ⟨o, g.frame _ _ h fun m => A.notFrz m h⟩
    · exact .inr h
  x := fun b vs ⟨o, h, q⟩ => ⟨o, g.frame _ _ h fun m => A.notFrz m h, q⟩
theorem getElem?_app {α : Type} {l e : List α} {n : Nat} {x : α} (h : l[n]? = some x) : (l ++ e)[n]? = some x := by
  obtain ⟨hl, he⟩ := List.getElem?_eq_some_iff.mp h
  rw [List.getElem?_append_left hl]; exact h
mutual
theorem Rv.keep (k : Keep K H H') (e : List Addr) : ∀ {v : V} {d : D}, Rv K H ρ v d → Rv K H' (ρ ++ e) v d
  | _, _, .non => .non
  | _, _, .bl b => .bl b
  | _, _, .int i => .int i
  | _, _, .str s => .str s
  | _, _, .tup h r => .tup (k.t _ _ h) (RvL.keep k e r)
  | _, _, .frz h r => .frz (k.f _ _ h) (RvL.keep k e r)
  | _, _, .xtup h r => .xtup (k.x _ _ h) (RvL.keep k e r)
  | _, _, .loc h => .loc (getElem?_app h)
theorem RvL.keep (k : Keep K H H') (e : List Addr) : ∀ {vs : List V} {ds : List D}, RvL K H ρ vs ds → RvL K H' (ρ ++ e) vs ds
  | _, _, .nil => .nil
  | _, _, .cons h r => .cons (Rv.keep k e h) (RvL.keep k e r)
end
theorem RvF.keep (k : Keep K H H') (e : List Addr) : ∀ {vs : List (Str × V)} {ds : List (List Nat × D)}, RvF K H ρ vs ds → RvF K H' (ρ ++ e) vs ds
  | _, _, .nil => .nil
  | _, _, .cons h r => .cons (h.keep k e) (RvF.keep k e r)
theorem RvE.keep (k : Keep K H H') (e : List Addr) : ∀ {σ : L2.St} {env : MI.Env}, RvE K H ρ σ env → RvE K H' (ρ ++ e) σ env
  | _, _, .nil => .nil
  | _, _, .hole r => .hole (RvE.keep k e r)
  | _, _, .val h r => .val (h.keep k e) (RvE.keep k e r)
theorem Rv.grow {v : V} {d : D} (A : At K cl ρ H st) (g : Grow ρ H ρ' H') (h : Rv K H ρ v d) : Rv K H' ρ' v d := by
  obtain ⟨e, rfl⟩ := g.ext; exact h.keep (A.keep g) e
theorem RvL.grow {v : List V} {d : List D} (A : At K cl ρ H st) (g : Grow ρ H ρ' H') (h : RvL K H ρ v d) : RvL K H' ρ' v d := by
  obtain ⟨e, rfl⟩ := g.ext; exact h.keep (A.keep g) e
theorem RvF.grow {v : List (Str × V)} {d : List (List Nat × D)} (A : At K cl ρ H st) (g : Grow ρ H ρ' H') (h : RvF K H ρ v d) : RvF K H' ρ' v d := by
  obtain ⟨e, rfl⟩ := g.ext; exact h.keep (A.keep g) e
theorem RvE.grow {v : L2.St} {d : MI.Env} (A : At K cl ρ H st) (g : Grow ρ H ρ' H') (h : RvE K H ρ v d) : RvE K H' ρ' v d := by
  obtain ⟨e, rfl⟩ := g.ext; exact h.keep (A.keep g) e

/-! ### lists that go together -/
theorem RvL.length : ∀ {vs : List V} {ds : List D}, RvL K H ρ vs ds → vs.length = ds.length
  | _, _, .nil => rfl
  | _, _, .cons _ r => by simp [RvL.length r]
theorem RvL.get : ∀ {vs : List V} {ds : List D} {i : Nat} {d : D}, RvL K H ρ vs ds → ds[i]? = some d → ∃ v, vs[i]? = some v ∧ Rv K H ρ v d
  | _, _, _, _, .nil, h => by simp at h
  | _, _, 0, _, .cons h _, q => by simp at q; subst q; exact ⟨_, rfl, h⟩
  | _, _, i + 1, _, .cons _ r, q => by
    obtain ⟨v, h1, h2⟩ := RvL.get (i := i) r (by simpa using q)
    exact ⟨v, by simpa using h1, h2⟩
theorem RvL.append : ∀ {vs ws : List V} {ds es : List D}, RvL K H ρ vs ds → RvL K H ρ ws es → RvL K H ρ (vs ++ ws) (ds ++ es)
  | _, _, _, _, .nil, s => s
  | _, _, _, _, .cons h r, s => .cons h (RvL.append r s)
theorem RvL.take (n : Nat) : ∀ {vs : List V} {ds : List D}, RvL K H ρ vs ds → RvL K H ρ (vs.take n) (ds.take n) := by
  induction n with
  | zero => intro vs ds _; simp; exact .nil
  | succ n ih =>
    intro vs ds h
    cases h with
    | nil => simp; exact .nil
    | cons h r => simp; exact .cons h (ih r)
theorem RvL.drop (n : Nat) : ∀ {vs : List V} {ds : List D}, RvL K H ρ vs ds → RvL K H ρ (vs.drop n) (ds.drop n) := by
  induction n with
  | zero => intro vs ds h; simpa using h
  | succ n ih =>
    intro vs ds h
    cases h with
    | nil => simp; exact .nil
    | cons h r => simp; exact ih r
theorem RvL.set {v : V} {d : D} (h : Rv K H ρ v d) : ∀ (i : Nat) {vs : List V} {ds : List D}, RvL K H ρ vs ds → RvL K H ρ (vs.set i v) (ds.set i d)
  | _, _, _, .nil => .nil
  | 0, _, _, .cons _ r => .cons h r
  | i + 1, _, _, .cons q r => .cons q (RvL.set h i r)
theorem RvE.length : ∀ {σ : L2.St} {env : MI.Env}, RvE K H ρ σ env → σ.length = env.length
  | _, _, .nil => rfl
  | _, _, .hole r => by simp [RvE.length r]
  | _, _, .val _ r => by simp [RvE.length r]
theorem RvE.get : ∀ {σ : L2.St} {env : MI.Env} {i : Nat} {d : D}, RvE K H ρ σ env → env[i]? = some (some d) → ∃ v, σ[i]? = some (some v) ∧ Rv K H ρ v d
  | _, _, _, _, .nil, h => by simp at h
  | _, _, 0, _, .hole _, q => by simp at q
  | _, _, 0, _, .val h _, q => by simp at q; subst q; exact ⟨_, rfl, h⟩
  | _, _, i + 1, _, .hole r, q => by
    obtain ⟨v, h1, h2⟩ := RvE.get (i := i) r (by simpa using q)
    exact ⟨v, by simpa using h1, h2⟩
  | _, _, i + 1, _, .val _ r, q => by
    obtain ⟨v, h1, h2⟩ := RvE.get (i := i) r (by simpa using q)
    exact ⟨v, by simpa using h1, h2⟩
theorem RvE.set {v : V} {d : D} (h : Rv K H ρ v d) : ∀ (i : Nat) {σ : L2.St} {env : MI.Env}, RvE K H ρ σ env → RvE K H ρ (σ.set i (some v)) (env.set i (some d))
  | _, _, _, .nil => .nil
  | 0, _, _, .hole r => .val h r
  | 0, _, _, .val _ r => .val h r
  | i + 1, _, _, .hole r => .hole (RvE.set h i r)
  | i + 1, _, _, .val q r => .val q (RvE.set h i r)
theorem RvE.unset : ∀ (i : Nat) {σ : L2.St} {env : MI.Env}, RvE K H ρ σ env → RvE K H ρ (σ.set i none) (env.set i none)
  | _, _, _, .nil => .nil
  | 0, _, _, .hole r => .hole r
  | 0, _, _, .val _ r => .hole r
  | i + 1, _, _, .hole r => .hole (RvE.unset i r)
  | i + 1, _, _, .val q r => .val q (RvE.unset i r)
theorem RvE.wipe : ∀ (own : List Nat) {σ : L2.St} {env : MI.Env}, RvE K H ρ σ env → RvE K H ρ (L2.wipe σ own) (wipeE env own)
  | [], _, _, h => h
  | v :: vs, _, _, h => RvE.unset v (RvE.wipe vs h)
theorem RvF.look {f : List Nat} {vs : List (Str × V)} {ds : List (List Nat × D)} (h : RvF K H ρ vs ds) : (MI.getD ds f = none ∧ vs.lookup (sD f) = none) ∨ ∃ d v, MI.getD ds f = some d ∧ vs.lookup (sD f) = some v ∧ Rv K H ρ v d := by
  induction h with
  | nil => exact .inl ⟨rfl, rfl⟩
  | @cons g v vs d ds h r ih =>
    by_cases e : g = f
    · subst e
      exact .inr ⟨d, v, by simp [MI.getD], by simp [List.lookup], h⟩
    · have ne : ¬ sD f = sD g := fun q => e (sD_inj q).symm
      have e1 : MI.getD ((g, d) :: ds) f = MI.getD ds f := by unfold MI.getD; rw [List.find?_cons_of_neg (by simpa using e)]
      have e2 : List.lookup (sD f) ((sD g, v) :: vs) = List.lookup (sD f) vs := by
        have q : (sD f == sD g) = false := beq_eq_false_iff_ne.mpr ne
        show (match (sD f == sD g) with | true => some v | false => List.lookup (sD f) vs) = List.lookup (sD f) vs
        rw [q]
      rw [e1, e2]; exact ih
theorem RvF.put {f : List Nat} {v : V} {d : D} (h : Rv K H ρ v d) : ∀ {vs : List (Str × V)} {ds : List (List Nat × D)}, RvF K H ρ vs ds → RvF K H ρ (L2.putF (sD f) v vs) (putD ds f d)
  | _, _, .nil => .cons h .nil
  | _, _, .cons (f := g) (v := w) (d := e) q r => by
    unfold L2.putF putD
    by_cases e : g = f
    · subst e; simp; exact .cons h r
    · have ne : ¬ sD g = sD f := fun q => e (sD_inj q)
      simp only [e, ne, if_false]; exact .cons q (RvF.put h r)
theorem RvF.length : ∀ {vs : List (Str × V)} {ds : List (List Nat × D)}, RvF K H ρ vs ds → vs.length = ds.length
  | _, _, .nil => rfl
  | _, _, .cons _ r => by simp [RvF.length r]
theorem Ro.keep (k : Keep K H H') (e : List Addr) {o : Ob} (h : Ro K cl H ρ a o) (q : H' a = H a) : Ro K cl H' (ρ ++ e) a o := by
  cases h with
  | lst h r => exact .lst (q.trans h) (r.keep k e)
  | ins h r c n => exact .ins (q.trans h) (r.keep k e) c n

/-! ### steps -/
/-- a new object that is no object of ours (a tuple, an iterator) -/
theorem At.side (A : At K cl ρ H st) {o : HO} (n : H p = none) : At K cl ρ (upd H p o) st ∧ Grow ρ H ρ (upd H p o) := by
  have g : Grow ρ H ρ (upd H p o) := ⟨⟨[], by simp⟩, fun _ h => .inl h, fun a u h _ => by rw [upd_ne (ne_of_none h n)]; exact h⟩
  refine ⟨⟨A.len, A.nd, fun i a u h1 h2 => ?_⟩, g⟩
  have hne : a ≠ p := fun e => A.there (List.mem_of_getElem? h1) (by rw [e]; exact n)
  have := (A.obj i a u h1 h2).keep (A.keep g) [] (upd_ne hne)
  simpa using this
/-- a new object of ours -/
theorem At.push (A : At K cl ρ H st) {o : HO} {ob : Ob} (n : H p = none) (r : Ro K cl (upd H p o) (ρ ++ [p]) p ob) : At K cl (ρ ++ [p]) (upd H p o) (st ++ [ob]) ∧ Grow ρ H (ρ ++ [p]) (upd H p o) := by
  have np : p ∉ ρ := fun h => A.there h n
  have g : Grow ρ H (ρ ++ [p]) (upd H p o) := ⟨⟨[p], rfl⟩, fun a h => by
    rcases List.mem_append.mp h with h | h
    · exact .inl h
    · have : a = p := by simpa using h
      subst this; exact .inr n, fun a u h _ => by rw [upd_ne (ne_of_none h n)]; exact h⟩
  refine ⟨⟨by simp [A.len], ?_, fun i a u h1 h2 => ?_⟩, g⟩
  · rw [List.nodup_append]
    refine ⟨A.nd, by simp, fun a ha b hb => ?_⟩
    have : b = p := by simpa using hb
    subst this; exact fun e => np (e ▸ ha)
  · by_cases hi : i < ρ.length
    · rw [List.getElem?_append_left hi] at h1
      rw [List.getElem?_append_left (by rw [← A.len]; exact hi)] at h2
      have hne : a ≠ p := fun e => A.there (List.mem_of_getElem? h1) (by rw [e]; exact n)
      exact (A.obj i a u h1 h2).keep (A.keep g) [p] (upd_ne hne)
    · have hi' : i = ρ.length := by
        have := (List.getElem?_eq_some_iff.mp h1).1
        simp at this; omega
      subst hi'
      simp at h1
      rw [A.len] at h2; simp at h2
      subst h1 h2; exact r
/-- an object of ours is changed -/
theorem At.put (A : At K cl ρ H st) {n : Nat} {o : HO} {ob : Ob} (h : ρ[n]? = some a) (r : Keep K H (upd H a o) → Ro K cl (upd H a o) ρ a ob) : At K cl ρ (upd H a o) (st.set n ob) ∧ Grow ρ H ρ (upd H a o) := by
  have ha : a ∈ ρ := List.mem_of_getElem? h
  have g : Grow ρ H ρ (upd H a o) := ⟨⟨[], by simp⟩, fun _ h => .inl h, fun b u q hn => by rw [upd_ne fun e => hn (by rw [e]; exact ha)]; exact q⟩
  refine ⟨⟨by simp [A.len], A.nd, fun i b u h1 h2 => ?_⟩, g⟩
  by_cases hi : i = n
  · subst hi
    rw [h] at h1; cases h1
    have hl : i < st.length := by rw [← A.len]; exact (List.getElem?_eq_some_iff.mp h).1
    rw [List.getElem?_set_self hl] at h2; cases h2
    exact r (A.keep g)
  · rw [List.getElem?_set_ne (Ne.symm hi)] at h2
    have hne : b ≠ a := fun e => by
      subst e
      obtain ⟨l1, e1⟩ := List.getElem?_eq_some_iff.mp h
      obtain ⟨l2, e2⟩ := List.getElem?_eq_some_iff.mp h1
      exact hi ((List.getElem_inj A.nd).mp (e2.trans e1.symm))
    have := (A.obj i b u h1 h2).keep (A.keep g) [] (upd_ne hne)
    simpa using this
theorem At.get (A : At K cl ρ H st) {n : Nat} {o : Ob} (h : ρ[n]? = some a) (q : st[n]? = some o) : Ro K cl H ρ a o := A.obj n a o h q
end
end MS

set_option Elab.async false
set_option linter.all false
set_option maxRecDepth 100000
set_option maxHeartbeats 4000000
/-! MSR2: t[a:b:2] of a tuple. -/
namespace MS
open PySem PySem.Spec PyProof.Rows L2

theorem everyOther_range {α : Type} : ∀ l : List α, MI.everyOther l = (List.range ((l.length + 1) / 2)).filterMap fun (m : Nat) => l[2 * m]?
  | [] => by simp [MI.everyOther]
  | [x] => by simp [MI.everyOther, List.range_succ_eq_map]
  | x :: y :: r => by
    have ih := everyOther_range r
    have e : ((x :: y :: r).length + 1) / 2 = (r.length + 1) / 2 + 1 := by simp only [List.length_cons]; omega
    rw [e, List.range_succ_eq_map, List.filterMap_cons, List.filterMap_map]
    show x :: MI.everyOther r = x :: _
    rw [ih]
    congr 1
theorem adjust2 (lo hi : Option Int) (n : Nat) : Builtin.Slice.sliceAdjust lo hi 2 (n : Int) = (((HT.sIx n 0 lo : Nat) : Int), ((HT.sIx n n hi : Nat) : Int)) := by
  have h1 : ¬ ((2 : Int) < 0) := by omega
  unfold Builtin.Slice.sliceAdjust
  simp only [h1, if_false]
  refine Prod.ext ?_ ?_
  · cases lo with
    | none => rfl
    | some v => exact HT.clip_eq v n 0
  · cases hi with
    | none => rfl
    | some v => exact HT.clip_eq v n n
theorem places2 (i j : Nat) : Builtin.Slice.slicePlaces (i : Int) (j : Int) 2 = (j - i + 1) / 2 := by
  unfold Builtin.Slice.slicePlaces
  have h1 : (2 : Int) > 0 := by omega
  simp only [h1, if_true]
  split <;> omega
section
variable {prog : Program} {w : World} {A : Around} {E : Value → Shared → Prop} {s : Shared}
theorem sliceApplied2 {sl : Addr} {vl vu vt : Value} {lo hi : Option Int} {n : Nat} {Q : Int × Int × Nat → Shared → Prop} (hs : s.heap.IsSliceOf sl vl vu vt) (pl : IsPart vl lo) (pu : IsPart vu hi) (pt : IsPart vt (some 2))
    (h : Q (((HT.sIx n 0 lo : Nat) : Int), 2, (HT.sIx n n hi - HT.sIx n 0 lo + 1) / 2) s) : wpAny (model prog w) A (Builtin.Slice.sliceApplied (.ref sl) (pure (n : Int))) Q E s := by
  obtain ⟨os, hos, hcs, hds⟩ := id hs
  unfold Builtin.Slice.sliceApplied Builtin.Slice.sliceFields
  refine wpAny_bind (wpAny_bind (wpAny_field hos hds (x := vl) rfl (wpAny_bind (wpAny_field hos hds (x := vu) rfl (wpAny_bind (wpAny_field hos hds (x := vt) rfl (wpAny_pure ?_)))))))
  refine wpAny_bind (HT.slicePart_ pt ?_)
  show wpAny _ _ (if ((2 : Int) == 0) = true then _ else _) _ _ s
  rw [if_neg (by decide)]
  refine wpAny_bind (HT.slicePart_ pl (wpAny_bind (HT.slicePart_ pu (wpAny_bind (wpAny_pure ?_)))))
  show wpAny _ _ (match Builtin.Slice.sliceAdjust lo hi 2 (n : Int) with | (lo, hi) => pure (lo, (2 : Int), Builtin.Slice.slicePlaces lo hi 2)) _ _ s
  rw [adjust2 lo hi n]
  show wpAny _ _ (pure (((HT.sIx n 0 lo : Nat) : Int), (2 : Int), Builtin.Slice.slicePlaces ((HT.sIx n 0 lo : Nat) : Int) ((HT.sIx n n hi : Nat) : Int) 2)) _ _ s
  rw [places2]
  exact wpAny_pure h
theorem pick2 (xs : Array Value) (i j : Nat) (hj : j ≤ xs.size) : ((List.range ((j - i + 1) / 2)).filterMap fun (m : Nat) => xs[((i : Int) + (m : Int) * 2).toNat]?).toArray = (MI.everyOther ((xs.toList.drop i).take (j - i))).toArray := by
  congr 1
  rw [everyOther_range]
  have hl : ((xs.toList.drop i).take (j - i)).length = j - i := by rw [List.length_take, List.length_drop, Array.length_toList]; omega
  rw [hl]
  have gen : ∀ (l : List Nat), (∀ m ∈ l, m < (j - i + 1) / 2) → l.filterMap (fun (m : Nat) => xs[((i : Int) + (m : Int) * 2).toNat]?) = l.filterMap fun (m : Nat) => ((xs.toList.drop i).take (j - i))[2 * m]? := by
    intro l
    induction l with
    | nil => intro _; rfl
    | cons m r ih =>
      intro h
      have e : xs[((i : Int) + (m : Int) * 2).toNat]? = ((xs.toList.drop i).take (j - i))[2 * m]? := by
        have hm := h m List.mem_cons_self
        have q : ((i : Int) + (m : Int) * 2).toNat = i + 2 * m := by omega
        rw [q, List.getElem?_take_of_lt (by omega), List.getElem?_drop, Array.getElem?_toList]
      rw [List.filterMap_cons, List.filterMap_cons, e, ih fun m' h' => h m' (List.mem_cons_of_mem _ h')]
  exact gen _ fun m hm => List.mem_range.mp hm
theorem everyOther_length {α : Type} : ∀ l : List α, (MI.everyOther l).length ≤ l.length
  | [] => Nat.le_refl _
  | [_] => Nat.le_refl _
  | _ :: _ :: r => by
    have := everyOther_length r
    show (MI.everyOther r).length + 1 ≤ r.length + 1 + 1
    omega
theorem getItem_tuple2 {t sl : Addr} {items : Array Value} {vl vu vt : Value} {lo hi : Option Int} {Q : Value → Shared → Prop} (ht : IsTup s.heap t items) (hs : s.heap.IsSliceOf sl vl vu vt) (pl : IsPart vl lo) (pu : IsPart vu hi) (pt : IsPart vt (some 2))
    (h : Q (.ref s.heap.objs.size) { s with heap := s.heap.push { cls := .type "tuple", data := .seq (MI.everyOther ((items.toList.drop (HT.sIx items.size 0 lo)).take (HT.sIx items.size items.size hi - HT.sIx items.size 0 lo))).toArray } })
    (hsz : items.size ≤ sizeLine) : wpAny (model prog w) A (getItem (.ref t) (.ref sl)) Q E s := by
  have hj : HT.sIx items.size items.size hi ≤ items.size := HT.sIx_le _ _ (Nat.le_refl _) hi
  have htake : sizeOk (.seq (MI.everyOther ((items.toList.drop (HT.sIx items.size 0 lo)).take (HT.sIx items.size items.size hi - HT.sIx items.size 0 lo))).toArray) := by
    show (MI.everyOther ((items.toList.drop (HT.sIx items.size 0 lo)).take (HT.sIx items.size items.size hi - HT.sIx items.size 0 lo))).toArray.size ≤ sizeLine
    rw [List.size_toArray]
    refine Nat.le_trans (everyOther_length _) ?_
    rw [List.length_take, List.length_drop, Array.length_toList]
    omega
  obtain ⟨os, hos, hcs, hds⟩ := id hs
  have hTs : s.TypeIs (.ref sl) "slice" := ⟨os, hos, hcs⟩
  unfold getItem
  try with_reducible refine wpAny_holding ?_
  first | refine wpAny_bind (wpAny_pure ?_) | skip
  refine wpAny_bind (wpAny_sequenceKey ht.typeIs (by decide) ?_)
  refine wpAny_bind (wpAny_callSpecial?_slot (name := Str.ofString "__getitem__") ht.typeIs PyProof.Rows.slot_tuple_getitem
    (wpAny_call_entry PyProof.Rows.slot_tuple_getitem ht.typeIs entry_tuple_getitem ?_ (args_tuple_getitem _ _)))
  show wpAny _ _ (Builtin.Tuple.tupleItemsOf (.ref t) >>= _) _ _ s
  refine wpAny_bind (tupleItemsOf_ ht ?_)
  refine wpAny_bind (wpAny_typeOf hTs ?_)
  rw [if_pos (by decide)]
  refine wpAny_bind (sliceApplied2 hs pl pu pt ?_)
  have hno : ¬ ((((HT.sIx items.size 0 lo : Nat) : Int) == 0 && (2 : Int) == 1 && ((HT.sIx items.size items.size hi - HT.sIx items.size 0 lo + 1) / 2) == items.size) = true) := by
    intro q
    rw [Bool.and_eq_true, Bool.and_eq_true] at q
    have q1 : ((2 : Int) == 1) = true := q.1.2
    exact absurd q1 (by decide)
  show wpAny _ _ (if (((HT.sIx items.size 0 lo : Nat) : Int) == 0 && (2 : Int) == 1 && ((HT.sIx items.size items.size hi - HT.sIx items.size 0 lo + 1) / 2) == items.size) = true then _ else _) _ _ s
  rw [if_neg hno, pick2 _ _ _ hj]
  first
    | exact wpAny_bind (m := Builtin.Tuple.tupleExact _) (wpAny_newObj_type (wpAny_pure ⟨_, rfl, wpAny_pure h⟩) htake)
    | exact wpAny_bind (m := Builtin.Tuple.tupleExact _) (wpAny_newObj_type (wpAny_bind (wpAny_pure (wpAny_pure ⟨_, rfl, wpAny_pure h⟩))) htake)
    | exact wpAny_bind (wpAny_bind (m := Builtin.Tuple.tupleExact _) (wpAny_newObj_type (wpAny_pure (wpAny_pure ⟨_, rfl, wpAny_pure h⟩)) htake))
    | exact wpAny_bind (wpAny_bind (m := Builtin.Tuple.tupleExact _) (wpAny_newObj_type (wpAny_pure ⟨_, rfl, wpAny_pure h⟩) htake))
end
theorem Vals.everyOther : ∀ {xs : List V} {us : List Value}, Vals xs us → Vals (MI.everyOther xs) (MI.everyOther us)
  | _, _, .nil => .nil
  | _, _, .cons r .nil => .cons r .nil
  | _, _, .cons r (.cons _ t) => .cons r (Vals.everyOther t)
section
variable {X : Cx} {e : Expr} {te : TE} {lo hi : Option Expr} {tl th : TO} {p2 p3 pos : Pos}
def rSl2 (K : PySem.W.Frag) : V → Option Int → Option Int → Hp → VK → Prop := fun x lo hi H Q => ∃ a xs, x = .ref a ∧ SqT K H a xs ∧ ∀ p, H p = none → Q (.ref p) (upd H p (.tup (MI.everyOther (cutV xs lo hi))))
theorem pe_slice2 {j : Nat} (he : PE X e te) (hl : PO X lo tl) (hu : PO X hi th) : PE X (.Subscript e (.Slice lo hi (some (.Constant (.int 2) j p3)) p2) pos) (tSl (rSl2 X.K) te tl th) := by
  refine ⟨fun pins s σ H Q I h => ?_⟩
  refine Subscript_ (thn (he.run pins s σ H _ I h) fun v s1 ⟨x, H1, I1, r1, q1⟩ => ?_)
  refine wpAny_Slice (thn (hl.run pins s1 σ H1 _ I1 q1) fun vl s2 ⟨l, H2, I2, pl, q2⟩ => thn (hu.run pins s2 σ H2 _ I2 q2) fun vu s3 ⟨u, H3, I3, pu, q3⟩ => ?_)
  rw [evalPart_some]
  refine wpAny_Constant_int ?_
  have I4 : Inv X pins σ H3 { s3 with heap := s3.heap.push { cls := .type "slice", data := .fields #[vl, vu, .int 2 s3.toks] }, toks := s3.toks + 1 } := I3.kept (t' := s3.toks + 1) fun b ob q => Heap.get?_push_of_some _ q
  obtain ⟨a, xs, rfl, hx, q⟩ := q3
  cases r1
  obtain ⟨its, r, ht, hz⟩ := I4.tuple hx
  show wpAny (model X.prog X.w) X.A (subscriptTail e (.Slice lo hi (some (.Constant (.int 2) j p3)) p2) (.ref a) (.ref s3.heap.objs.size)) (EP X pins σ Q) X.xe { s3 with heap := s3.heap.push { cls := .type "slice", data := .fields #[vl, vu, .int 2 s3.toks] }, toks := s3.toks + 1 }
  have hsz : its.toArray.size = xs.length := by rw [List.size_toArray]; exact r.length.symm
  refine tail_any (ops := [.ref a, .ref s3.heap.objs.size]) ht.typeIs PyProof.Rows.slot_tuple_getitem.lookup (getItem_tuple2 (vt := .int 2 s3.toks) ht (Heap.IsSliceOf.new ..) pl pu (.int 2 _) ?_ (by rw [hsz]; exact hz)) (by with_unfolding_all rfl)
  have e1 : Vals (MI.everyOther (cutV xs l u)) (MI.everyOther ((its.drop (HT.sIx its.toArray.size 0 l)).take (HT.sIx its.toArray.size its.toArray.size u - HT.sIx its.toArray.size 0 l))) := by
    rw [hsz]
    unfold cutV
    exact Vals.everyOther ((r.drop _).take _)
  refine ⟨.ref _, _, I4.laid (t' := s3.toks + 1) (o := .tup (MI.everyOther (cutV xs l u))) (fun b ob q => Heap.get?_push_of_some _ q) (Nat.le_refl _) ?_, rfl, q _ (I4.hok.fresh (Nat.le_refl _))⟩
  exact ⟨Nat.le_trans (everyOther_length _) (Nat.le_trans (cutV_length xs l u) hz), _, e1, IsTup.new _ _⟩
end
end MS

set_option Elab.async false
set_option linter.all false
set_option maxRecDepth 100000
set_option maxHeartbeats 4000000
/-! MSR3: sorted, max, min of a tuple of ints; tuple(list) whose object is known. -/
namespace MS
open PySem PySem.Spec PyProof.Rows L2
section
variable {prog : Program} {w : World} {A : Around} {E : Value → Shared → Prop} {s : Shared}
theorem collect_tuple {l : Addr} {vs : List Value} {Q : List Value → Shared → Prop} (hl : IsTup s.heap l vs.toArray)
    (h : Q vs { s with heap := (s.heap.push (seqObj "list" #[] 0)).update s.heap.objs.size (Obj.mapSeq (· ++ vs.toArray)) }) (hsz : vs.length ≤ sizeLine) :
    wpAny (model prog w) A (collect (.ref l)) Q E s := by
  obtain ⟨o, ho, hc, n, hd⟩ := id hl
  unfold collect
  refine wpAny_bind (wpAny_runValue (codeAny_builtin entry_proto_collect' ?_))
  show wpAny _ _ (do again (.builtin "list.__iadd__" ⟨[← newList [], .ref l], []⟩)) _ _ s
  refine wpAny_bind (wpAny_newList (wpAny_pure ⟨Code.quiet_builtin _ (by decide +kernel), codeAny_builtin entry_list_iadd' ?_⟩))
  show wpAny _ _ (Builtin.List.listExtendWith (.ref s.heap.objs.size) (.ref l) (.ref s.heap.objs.size)) _ _ { s with heap := s.heap.push (seqObj "list" #[] 0) }
  unfold Builtin.List.listExtendWith
  have ho' : (s.heap.push (seqObj "list" #[] 0)).get? l = some o := Heap.get?_push_of_some _ ho
  refine wpAny_bind (wpAny_typeOf (T := "tuple") ⟨o, ho', hc⟩ ?_)
  have ht : (Value.type "tuple" == Value.type "tuple") = true := by rfl
  rw [if_pos (by rw [ht]; simp)]
  refine wpAny_bind (listItems_at ho' hd ?_)
  refine wpAny_bind (listItems_at (xs := #[]) (n := 0) (Heap.get?_push_size _ rfl) rfl ?_)
  rw [if_neg (by simp)]
  refine wpAny_bind (listUpdate_at (xs := #[]) (n := 0) (Heap.get?_push_size _ rfl) rfl ?_ (Nat.zero_le _) (by show (#[] ++ vs.toArray).size ≤ sizeLine + 1; simp only [Array.size_append, List.size_toArray, List.length_nil]; omega))
  refine wpAny_pure ?_
  show wpAny (model prog w) A (do
      let o ← load s.heap.objs.size
      match o.data with
      | .seq xs _ => pure xs.toList
      | _ => unsupported "internal:collect") Q E { s with heap := (s.heap.push (seqObj "list" #[] 0)).update s.heap.objs.size (Obj.mapSeq (· ++ vs.toArray)) }
  refine wpAny_bind (wpAny_load (get?_update_seq (Heap.get?_push_size _ rfl) _) ?_)
  show wpAny _ _ (pure ((#[] : Array Value) ++ vs.toArray).toList) Q E _
  rw [show ((#[] : Array Value) ++ vs.toArray).toList = vs by simp]
  exact wpAny_pure h
theorem sorted_ordT {l : Addr} {vs : List Value} {ltv : Value → Value → Bool} {Q : Value → Shared → Prop} (O : SrtO.Swo ltv) (hl : IsTup s.heap l vs.toArray) (hz : vs.length ≤ sizeLine)
    (hS : 2 ≤ vs.length → ∀ (h₁ : Heap) (a : Addr), h₁.get? a = some (seqObj "list" vs.toArray 0) → (∀ b o, s.heap.get? b = some o → b ≠ a ∧ h₁.get? b = some o) → SrtO.SortableO prog w A.in1.in1 { s with heap := h₁ } a vs ltv)
    (h : ∀ out : List Value, SrtO.Srtd ltv out → SrtO.Stb ltv out vs → Q (.ref (s.heap.objs.size + 1)) { s with heap := sortedAll s.heap vs out.toArray }) :
    wpAny (model prog w) A (call (.builtin "sorted") [.ref l]) Q E s := by
  refine Calls.call_function_entry kind_sorted plain_sorted entry_sorted (args_sorted1 _) ?_
  unfold Builtin.«sorted»
  refine wpAny_bind (m := checkCount "sorted" 1 1 _) (wpAny_pure ?_)
  refine wpAny_bind (collect_tuple hl ?_ hz)
  refine wpAny_bind (wpAny_newList ?_ hz)
  have hsz : ((s.heap.push (seqObj "list" #[] 0)).update s.heap.objs.size (Obj.mapSeq (· ++ vs.toArray))).objs.size = s.heap.objs.size + 1 := by
    rw [Heap.size_update, size_push']
  have hoL : (((s.heap.push (seqObj "list" #[] 0)).update s.heap.objs.size (Obj.mapSeq (· ++ vs.toArray))).push (seqObj "list" vs.toArray 0)).get? (s.heap.objs.size + 1) = some (seqObj "list" vs.toArray 0) := by
    rw [← hsz]; exact Heap.get?_push_size _ rfl
  have keep : ∀ b o, s.heap.get? b = some o → b ≠ s.heap.objs.size + 1 ∧ (((s.heap.push (seqObj "list" #[] 0)).update s.heap.objs.size (Obj.mapSeq (· ++ vs.toArray))).push (seqObj "list" vs.toArray 0)).get? b = some o := fun b o q => by
    have hlt : b < s.heap.objs.size := Heap.lt_size q
    refine ⟨Nat.ne_of_lt (Nat.lt_succ_of_lt hlt), Heap.get?_push_of_some _ ?_⟩
    rw [Heap.get?_update_ne _ _ _ _ (Nat.ne_of_lt hlt)]
    exact Heap.get?_push_of_some _ q
  show wpAny _ _ _ _ _ { s with heap := ((s.heap.push (seqObj "list" #[] 0)).update s.heap.objs.size (Obj.mapSeq (· ++ vs.toArray))).push (seqObj "list" vs.toArray 0) }
  rw [hsz]
  refine wpAny_bind (wpAny_holding (wpAny_call_entry slot_list_sort ⟨_, hoL, rfl⟩ entry_list_sort (SrtO.list_sort_ord O hoL hz (fun h2 => hS h2 _ _ hoL keep) fun out hs hb => ⟨_, rfl, ?_⟩) (args_list_sort _)))
  exact wpAny_pure ⟨_, rfl, h out hs hb⟩
theorem iter_intTuple {l : Addr} {xs : Array (Int × Tok)} {Q : Value → Shared → Prop} (hl : s.heap.IsTuple l (intItems xs))
    (h : ∀ s₂ : Shared, s₂ = { s with heap := s.heap.push { cls := .type "tuple_iterator", data := .fields #[.ref l, .int 0 0] } } →
      (s₂.heap.IsTupleIter s.heap.objs.size l 0 ∧ s₂.heap.IsTuple l (intItems xs)) → (∀ b ∈ [s.heap.objs.size, l], b < s₂.heap.objs.size) → l ≠ s.heap.objs.size → Q (.ref s.heap.objs.size) s₂) :
    wpAny (model prog w) A (pyIter (.ref l)) Q E s := by
  have hlt : l < s.heap.objs.size := by obtain ⟨_, e, _⟩ := hl; exact Heap.lt_size e
  have hl2 : (s.heap.push { cls := .type "tuple_iterator", data := .fields #[.ref l, .int 0 0] }).IsTuple l (intItems xs) := by
    obtain ⟨o, e, r⟩ := hl
    exact ⟨o, Heap.get?_push_of_some _ e, r⟩
  refine wpAny_pyIter_tuple hl (h _ rfl ⟨⟨_, Heap.get?_push_size _ rfl, rfl, rfl⟩, hl2⟩ (fun b hb => ?_) (Nat.ne_of_lt hlt))
  show b < (s.heap.push _).objs.size
  rw [Heap.size_push]
  rcases List.mem_cons.mp hb with rfl | hb
  · exact Nat.lt_succ_self _
  · rcases List.mem_cons.mp hb with rfl | hb
    · exact Nat.lt_succ_of_lt hlt
    · cases hb
theorem old_keptT {l : Addr} {h' : Heap} (hk : ∀ b o, b ∉ [s.heap.objs.size] → (s.heap.push { cls := .type "tuple_iterator", data := .fields #[.ref l, .int 0 0] }).get? b = some o → h'.get? b = some o) :
    ∀ b o, s.heap.get? b = some o → h'.get? b = some o := fun b o e => by
  refine hk b o (fun hm => ?_) (Heap.get?_push_of_some _ e)
  rcases List.mem_cons.mp hm with e1 | hm
  · exact absurd (e1 ▸ Heap.lt_size e) (Nat.lt_irrefl _)
  · cases hm
theorem max_intTuple {l : Addr} {xs : Array (Int × Tok)} {Q : Value → Shared → Prop} (hh : A.handled = none) (hl : s.heap.IsTuple l (intItems xs)) (hne : 0 < xs.size)
    (h : ∀ v h' tk, (intItems xs)[argBest (fun i j => decide (numAt xs i > numAt xs j)) (xs.size - 1)]? = some v → (∀ b o, s.heap.get? b = some o → h'.get? b = some o) → Q v { s with heap := h', toks := tk }) :
    wpAny (model prog w) A (call (.builtin "max") [.ref l]) Q E s := by
  refine call_max_walk (iter_intTuple hl fun s₂ e st hfp hlI => ?_)
  subst e
  refine ⟨_, _, _, _, _, _, _, rfl, Walks.tuple (A := A.in1) hh _ l hlI (intItems xs), st, hfp, by simpa [intItems] using hne, CmpOf.ints_gt (numAt xs) (fun _ _ => intItems_at), fun v h' tk hP hk => ?_⟩
  exact h v h' tk (by simpa [intItems] using hP) (old_keptT hk)
theorem min_intTuple {l : Addr} {xs : Array (Int × Tok)} {Q : Value → Shared → Prop} (hh : A.handled = none) (hl : s.heap.IsTuple l (intItems xs)) (hne : 0 < xs.size)
    (h : ∀ v h' tk, (intItems xs)[argBest (fun i j => decide (numAt xs i < numAt xs j)) (xs.size - 1)]? = some v → (∀ b o, s.heap.get? b = some o → h'.get? b = some o) → Q v { s with heap := h', toks := tk }) :
    wpAny (model prog w) A (call (.builtin "min") [.ref l]) Q E s := by
  refine call_min_walk (iter_intTuple hl fun s₂ e st hfp hlI => ?_)
  subst e
  refine ⟨_, _, _, _, _, _, _, rfl, Walks.tuple (A := A.in1) hh _ l hlI (intItems xs), st, hfp, by simpa [intItems] using hne, CmpOf.ints_lt (numAt xs) (fun _ _ => intItems_at), fun v h' tk hP hk => ?_⟩
  exact h v h' tk (by simpa [intItems] using hP) (old_keptT hk)
theorem max_rawT {l : Addr} {its : List Value} {ns : List Int} {Q : Value → Shared → Prop} (hh : A.handled = none) (hl : s.heap.IsTuple l its.toArray) (hi : IntsAre its ns) (hne : 0 < ns.length)
    (h : ∀ h' tk M t', (∀ b o, s.heap.get? b = some o → h'.get? b = some o) → M ∈ ns → (∀ a, a ∈ ns → a ≤ M) → Q (.int M t') { s with heap := h', toks := tk }) : wpAny (model prog w) A (call (.builtin "max") [.ref l]) Q E s := by
  obtain ⟨xs, e⟩ := hi.allInts.items
  have hn : numsOf (intItems xs).toList = ns := by rw [← e]; exact hi.numsOf
  rw [nums_intItems] at hn
  subst hn
  rw [e] at hl
  have hsz : 0 < xs.size := by simpa using hne
  refine max_intTuple hh hl hsz fun v h' tk hv hk => ?_
  obtain ⟨t, rfl⟩ := intItems_at hv
  obtain ⟨h1, h2⟩ := argBest_gt (numAt xs) (xs.size - 1)
  refine h h' tk _ t hk ?_ fun a ha => ?_
  · rw [numAt_eq]; exact PySem.getD_mem (by rw [List.length_map, Array.length_toList]; omega)
  · obtain ⟨j, hj, rfl⟩ := mem_getD ha
    rw [List.length_map, Array.length_toList] at hj
    rw [← numAt_eq]; exact h2 j (by omega)
theorem min_rawT {l : Addr} {its : List Value} {ns : List Int} {Q : Value → Shared → Prop} (hh : A.handled = none) (hl : s.heap.IsTuple l its.toArray) (hi : IntsAre its ns) (hne : 0 < ns.length)
    (h : ∀ h' tk M t', (∀ b o, s.heap.get? b = some o → h'.get? b = some o) → M ∈ ns → (∀ a, a ∈ ns → M ≤ a) → Q (.int M t') { s with heap := h', toks := tk }) : wpAny (model prog w) A (call (.builtin "min") [.ref l]) Q E s := by
  obtain ⟨xs, e⟩ := hi.allInts.items
  have hn : numsOf (intItems xs).toList = ns := by rw [← e]; exact hi.numsOf
  rw [nums_intItems] at hn
  subst hn
  rw [e] at hl
  have hsz : 0 < xs.size := by simpa using hne
  refine min_intTuple hh hl hsz fun v h' tk hv hk => ?_
  obtain ⟨t, rfl⟩ := intItems_at hv
  obtain ⟨h1, h2⟩ := argBest_lt (numAt xs) (xs.size - 1)
  refine h h' tk _ t hk ?_ fun a ha => ?_
  · rw [numAt_eq]; exact PySem.getD_mem (by rw [List.length_map, Array.length_toList]; omega)
  · obtain ⟨j, hj, rfl⟩ := mem_getD ha
    rw [List.length_map, Array.length_toList] at hj
    rw [← numAt_eq]; exact h2 j (by omega)
end
section
variable {X : Cx}
theorem cr_sortedIT : CallR X (.builtin "sorted") (fun vs H Q => ∃ (a : Addr) (ns : List Int), vs = [V.ref a] ∧ SqT X.K H a (ns.map V.int) ∧ ∀ (ns' : List Int) (p : Addr), ns'.Perm ns → ns'.Pairwise (· ≤ ·) → H p = none → Q (.ref p) (upd H p (.lst (ns'.map V.int)))) := by
  intro pins s σ H vs us Q I r h
  obtain ⟨a, ns, rfl, hs, q⟩ := h
  obtain ⟨its, rv, hl, hz⟩ := I.tuple hs
  rw [Vals.ref1 r]
  have hi := rv.ints
  refine sorted_ordT SrtO.swo_int hl (by rw [← rv.length]; exact hz) (fun h2 h₁ a' _ _ => SrtO.ints_sortable hi h2) fun out h1 h2 => ?_
  obtain ⟨k1, k2, k3⟩ := SrtO.ints_out hi h1 h2
  obtain ⟨ep, he'⟩ := PyProof.Rows.sortedAll_at s.heap its out.toArray
  have hlen : ((out.map SrtO.iv).map V.int).length ≤ sizeLine := by
    rw [List.length_map, k2.length_eq]
    rw [List.length_map] at hz
    exact hz
  exact ⟨.ref _, upd H (s.heap.objs.size + 1) (.lst ((out.map SrtO.iv).map V.int)), I.laid (t' := s.toks) (fun _ _ => PyProof.Rows.sortedAll_old) (Nat.le_succ _) ⟨hlen, out, ep, vals_of_ints k1, he'⟩, rfl, q _ _ k2 k3 (I.hok.fresh (Nat.le_succ _))⟩
theorem cr_maxT (hc : X.calm = true) : CallR X (.builtin "max") (fun vs H Q => ∃ (a : Addr) (ns : List Int), vs = [V.ref a] ∧ SqT X.K H a (ns.map V.int) ∧ 0 < ns.length ∧ ∀ m, m ∈ ns → (∀ y, y ∈ ns → y ≤ m) → Q (.int m) H) := by
  intro pins s σ H vs us Q I r h
  obtain ⟨a, ns, rfl, hs, hne, q⟩ := h
  obtain ⟨its, rv, hl, _⟩ := I.tuple hs
  rw [Vals.ref1 r]
  exact max_rawT (I.ok.hd hc) hl rv.ints hne fun h' tk m t' hk h1 h2 => ⟨.int _, H, I.kept hk, ⟨_, rfl⟩, q m h1 h2⟩
theorem cr_minT (hc : X.calm = true) : CallR X (.builtin "min") (fun vs H Q => ∃ (a : Addr) (ns : List Int), vs = [V.ref a] ∧ SqT X.K H a (ns.map V.int) ∧ 0 < ns.length ∧ ∀ m, m ∈ ns → (∀ y, y ∈ ns → m ≤ y) → Q (.int m) H) := by
  intro pins s σ H vs us Q I r h
  obtain ⟨a, ns, rfl, hs, hne, q⟩ := h
  obtain ⟨its, rv, hl, _⟩ := I.tuple hs
  rw [Vals.ref1 r]
  exact min_rawT (I.ok.hd hc) hl rv.ints hne fun h' tk m t' hk h1 h2 => ⟨.int _, H, I.kept hk, ⟨_, rfl⟩, q m h1 h2⟩
/-- tuple(list): the new object is known -/
theorem call_tupleX : CallR X (.type "tuple") (fun xs H Q => ∃ p ys, xs = [.ref p] ∧ SqL X.K H p ys ∧ ∀ l o, H l = none → o.cls = .type "tuple" → o.dict = none → Q (.ref l) (upd H l (.frz o (.tup ys)))) := by
  intro pins s σ H xs us Q I r h
  obtain ⟨p, ys, rfl, hq, q⟩ := h
  obtain ⟨u, rfl, rx⟩ := vals1 r
  cases rx
  obtain ⟨its, r', pl, hz⟩ := I.list hq
  have hlen := r'.length
  refine call_tuple_list pl.isList (fun h' kp => ?_) (by simp only [List.size_toArray] <;> omega)
  have I1 : Inv X pins σ H { s with heap := h' } := I.kept (t' := s.toks) kp
  have hobj : (h'.push { cls := .type "tuple", data := .seq its.toArray }).get? h'.objs.size = some { cls := .type "tuple", data := .seq its.toArray } := Heap.get?_push_size _ rfl
  have I2 : Inv X pins σ (upd H h'.objs.size (.frz { cls := .type "tuple", data := .seq its.toArray } (.tup ys))) { s with heap := h'.push { cls := .type "tuple", data := .seq its.toArray } } :=
    I1.laid (t' := s.toks) (fun b o e => Heap.get?_push_of_some _ e) (Nat.le_refl _) (show ObjOk X.prog X.w _ _ _ (.frz _ (.tup ys)) from ⟨hobj, hz, its, r', IsTup.new _ _⟩)
  exact ⟨.ref h'.objs.size, _, I2, rfl, q _ _ (I1.hok.fresh (Nat.le_refl _)) rfl rfl⟩
end
end MS

set_option Elab.async false
set_option linter.all false
set_option maxRecDepth 100000
set_option maxHeartbeats 4000000
/-! MS2: expressions. -/
namespace MS
open PySem PySem.Spec PyProof.Rows L2 MI

/-- what is wanted where an exception (its class's number, its fields) leaves -/
abbrev EX := Nat → List (List Nat × D) → L2.St → List Addr → Hp → Stt → Prop
section
variable (K : PySem.W.Frag) (cl : Nat → Addr) (E : EX)
/-- m, run from st, ends, and what comes of it is enough for Q -/
def Rest {α β : Type} (rel : Hp → List Addr → β → α → Prop) (σ : L2.St) (Q : β → Hp → Prop) (m : MI.R α) (ρ : List Addr) (H : Hp) (st : Stt) : Prop :=
  (∃ d st', m st = some (.ok d, st') ∧ ∀ ρ' H' v, Grow ρ H ρ' H' → At K cl ρ' H' st' → rel H' ρ' v d → Q v H') ∨
  (∃ c fs st', m st = some (.exc c fs, st') ∧ ∀ ρ' H', Grow ρ H ρ' H' → At K cl ρ' H' st' → E c fs σ ρ' H' st')
def TM {α β : Type} (rel : Hp → List Addr → β → α → Prop) (g : MI.Env → MI.R α) : L2.St → Hp → (β → Hp → Prop) → Prop := fun σ H Q =>
  ∃ ρ env st, At K cl ρ H st ∧ RvE K H ρ σ env ∧ Rest K cl E rel σ Q (g env) ρ H st
end
section
variable {K : PySem.W.Frag} {cl : Nat → Addr} {E : EX} {α β γ δ : Type} {rel : Hp → List Addr → β → α → Prop} {rel' : Hp → List Addr → δ → γ → Prop} {σ : L2.St} {H H1 : Hp} {ρ ρ1 : List Addr} {st : Stt} {env : MI.Env}
theorem Rest.imp {Q Q' : β → Hp → Prop} {m : MI.R α} (h : Rest K cl E rel σ Q m ρ H st) (i : ∀ v H, Q v H → Q' v H) : Rest K cl E rel σ Q' m ρ H st := by
  rcases h with ⟨d, st', e, h⟩ | h
  · exact .inl ⟨d, st', e, fun ρ' H' v g A r => i _ _ (h ρ' H' v g A r)⟩
  · exact .inr h
theorem Rest.base {Q : β → Hp → Prop} {m : MI.R α} (h : Rest K cl E rel σ Q m ρ H st) (g : Grow ρ H ρ1 H1) : Rest K cl E rel σ Q m ρ1 H1 st := by
  rcases h with ⟨d, st', e, h⟩ | ⟨c, fs, st', e, h⟩
  · exact .inl ⟨d, st', e, fun ρ' H' v g' A r => h ρ' H' v (g.trans g') A r⟩
  · exact .inr ⟨c, fs, st', e, fun ρ' H' g' A => h ρ' H' (g.trans g') A⟩
theorem TM.imp {Q Q' : β → Hp → Prop} {g : MI.Env → MI.R α} (h : TM K cl E rel g σ H Q) (i : ∀ v H, Q v H → Q' v H) : TM K cl E rel g σ H Q' := by
  obtain ⟨ρ, env, st, A, e, h⟩ := h
  exact ⟨ρ, env, st, A, e, h.imp i⟩
/-- one step, then the rest -/
theorem Rest.step {Q : δ → Hp → Prop} {g : MI.Env → MI.R α} {f : α → MI.R γ} (rel : Hp → List Addr → β → α → Prop) (A : At K cl ρ H st) (e : RvE K H ρ σ env) (h : Rest K cl E rel' σ Q (bnd (g env) f) ρ H st) :
    TM K cl E rel g σ H (fun v1 H1 => ∃ ρ1 st1 d1, Grow ρ H ρ1 H1 ∧ At K cl ρ1 H1 st1 ∧ rel H1 ρ1 v1 d1 ∧ Rest K cl E rel' σ Q (f d1) ρ1 H1 st1) := by
  refine ⟨ρ, env, st, A, e, ?_⟩
  have run : ∀ r, bnd (g env) f st = some r → (∃ d st1, g env st = some (.ok d, st1) ∧ f d st1 = some r) ∨ ∃ c fs st1, g env st = some (.exc c fs, st1) ∧ r = (.exc c fs, st1) := fun r hr => by
    unfold bnd at hr
    cases q : g env st with
    | none => rw [q] at hr; cases hr
    | some p =>
      obtain ⟨rs, st1⟩ := p
      rw [q] at hr
      cases rs with
      | ok d => exact .inl ⟨d, st1, rfl, hr⟩
      | exc c fs => exact .inr ⟨c, fs, st1, rfl, (Option.some.inj hr).symm⟩
  rcases h with ⟨d, st', hr, h⟩ | ⟨c, fs, st', hr, h⟩
  · rcases run _ hr with ⟨d1, st1, q1, q2⟩ | ⟨c, fs, st1, q1, q2⟩
    · exact .inl ⟨d1, st1, q1, fun ρ1 H1 v1 g1 A1 r1 => ⟨ρ1, st1, d1, g1, A1, r1, .inl ⟨d, st', q2, fun ρ' H' v g' A' r => h ρ' H' v (g1.trans g') A' r⟩⟩⟩
    · cases q2
  · rcases run _ hr with ⟨d1, st1, q1, q2⟩ | ⟨c, fs, st1, q1, q2⟩
    · exact .inl ⟨d1, st1, q1, fun ρ1 H1 v1 g1 A1 r1 => ⟨ρ1, st1, d1, g1, A1, r1, .inr ⟨c, fs, st', q2, fun ρ' H' g' A' => h ρ' H' (g1.trans g') A'⟩⟩⟩
    · cases q2
      exact .inr ⟨_, _, _, q1, h⟩
/-- done: a value -/
theorem Rest.ok {Q : β → Hp → Prop} {m : MI.R α} {d : α} {st' : Stt} {v : β} (h : Rest K cl E rel σ Q m ρ H st) (q : m st = some (.ok d, st')) (g : Grow ρ H ρ1 H1) (A : At K cl ρ1 H1 st') (r : rel H1 ρ1 v d) : Q v H1 := by
  rcases h with ⟨d', st2, e, h⟩ | ⟨c, fs, st2, e, h⟩
  · rw [q] at e
    cases e
    exact h _ _ _ g A r
  · rw [q] at e; cases e
theorem Rest.none {Q : β → Hp → Prop} {m : MI.R α} {P : Prop} (h : Rest K cl E rel σ Q m ρ H st) (q : m st = Option.none) : P := by
  rcases h with ⟨d', st2, e, h⟩ | ⟨c, fs, st2, e, h⟩ <;> (rw [q] at e; cases e)
theorem Rest.eq {Q : β → Hp → Prop} {m m' : MI.R α} (h : Rest K cl E rel σ Q m ρ H st) (q : m st = m' st) : Rest K cl E rel σ Q m' ρ H st := by
  rcases h with ⟨d', st2, e, h⟩ | ⟨c, fs, st2, e, h⟩
  · exact .inl ⟨d', st2, q.symm.trans e, h⟩
  · exact .inr ⟨c, fs, st2, q.symm.trans e, h⟩
end

theorem peI {X : Cx} {e : Expr} {t t' : TE} (h : PE X e t) (i : ∀ σ H Q, t' σ H Q → t σ H Q) : PE X e t' := ⟨fun pins s σ H Q I q => h.run pins s σ H Q I (i σ H Q q)⟩
theorem ptI {X : Cx} {e : Expr} {t t' : TT} (h : PT X e t) (i : ∀ σ H Q, t' σ H Q → t σ H Q) : PT X e t' := ⟨fun pins s σ H Q I q => h.run pins s σ H Q I (i σ H Q q)⟩
theorem pwI {X : Cx} {e : Expr} {t t' : TT} (h : PW X e t) (i : ∀ σ H Q, t' σ H Q → t σ H Q) : PW X e t' := ⟨fun w pins s σ H Q I q => h.run w pins s σ H Q I (i σ H Q q)⟩
theorem paI {X : Cx} {e : List Expr} {t t' : TA} (h : PA X e t) (i : ∀ σ H Q, t' σ H Q → t σ H Q) : PA X e t' := ⟨fun p pins s σ H Q I q => h.run p pins s σ H Q I (i σ H Q q)⟩

/-- the relations of a value, a test, a list, an optional int -/
abbrev rV (K : PySem.W.Frag) : Hp → List Addr → V → D → Prop := fun H ρ => Rv K H ρ
abbrev rB : Hp → List Addr → Bool → Bool → Prop := fun _ _ a b => a = b
abbrev rL (K : PySem.W.Frag) : Hp → List Addr → List V → List D → Prop := fun H ρ => RvL K H ρ
abbrev rO : Hp → List Addr → Option Int → Option Int → Prop := fun _ _ a b => a = b

section
variable (X : Cx) (cl : Nat → Addr) (E : EX) (c : MI.Ctx)
abbrev ME (e : Expr) (g : SE) : Prop := PE X e (TM X.K cl E (rV X.K) (g c))
abbrev MT (e : Expr) (g : MI.ST) : Prop := PT X e (TM X.K cl E rB (g c))
abbrev MW (e : Expr) (g : MI.ST) : Prop := PW X e (TM X.K cl E rB (g c))
abbrev MA (es : List Expr) (g : SL) : Prop := PA X es (TM X.K cl E (rL X.K) (g c))
end
/-- a two-place operation -/
def OpS (K : PySem.W.Frag) (cl : Nat → Addr) (E : EX) (f : D → D → MI.R D) (r : R2) : Prop := ∀ {σ : L2.St} {Q : VK} {ρ : List Addr} {H : Hp} {st : Stt} {v1 v2 : V} {d1 d2 : D}, At K cl ρ H st → Rv K H ρ v1 d1 → Rv K H ρ v2 d2 →
  Rest K cl E (rV K) σ Q (f d1 d2) ρ H st → r v1 v2 H Q
def UnS (K : PySem.W.Frag) (cl : Nat → Addr) (E : EX) (f : D → MI.R D) (r : V → Hp → VK → Prop) : Prop := ∀ {σ : L2.St} {Q : VK} {ρ : List Addr} {H : Hp} {st : Stt} {v1 : V} {d1 : D}, At K cl ρ H st → Rv K H ρ v1 d1 →
  Rest K cl E (rV K) σ Q (f d1) ρ H st → r v1 H Q

section
variable {X : Cx} {cl : Nat → Addr} {E : EX} {c : MI.Ctx} {a b e : Expr} {ga gb : SE} {pos : Pos}
theorem tm_op {f : D → D → MI.R D} {r : R2} (hs : OpS X.K cl E f r) {σ : L2.St} {H : Hp} {Q : VK} (h : TM X.K cl E (rV X.K) (eBin f ga gb c) σ H Q) :
    tOp r (TM X.K cl E (rV X.K) (ga c)) (TM X.K cl E (rV X.K) (gb c)) σ H Q := by
  obtain ⟨ρ, env, st, A, e, h⟩ := h
  refine (Rest.step (g := ga c) (rV X.K) A e h).imp fun v1 H1 ⟨ρ1, st1, d1, g1, A1, r1, h1⟩ => ?_
  refine (Rest.step (g := gb c) (rV X.K) A1 (e.grow A g1) h1).imp fun v2 H2 ⟨ρ2, st2, d2, g2, A2, r2, h2⟩ => ?_
  exact hs A2 (r1.grow A1 g2) r2 h2
theorem me_bin {op : Operator} {f : D → D → MI.R D} {r : R2} (ho : OpR X (binaryOp op) r) (hs : OpS X.K cl E f r) (ha : ME X cl E c a ga) (hb : ME X cl E c b gb) : ME X cl E c (.BinOp a op b pos) (eBin f ga gb) :=
  peI (pe_op ho ha hb) fun _ _ _ h => tm_op hs h
theorem me_cmp {op : CmpOp} {f : D → D → MI.R D} {r : R2} (ho : OpR X (compareOp op) r) (hs : OpS X.K cl E f r) (ha : ME X cl E c a ga) (hb : ME X cl E c b gb) (hm : behindInMarks op b = false) : ME X cl E c (.Compare a [op] [b] pos) (eBin f ga gb) :=
  peI (pe_cmpR ho ha hb hm) fun _ _ _ h => tm_op hs h
theorem tm_un {f : D → MI.R D} {r : V → Hp → VK → Prop} (hs : UnS X.K cl E f r) {σ : L2.St} {H : Hp} {Q : VK} (h : TM X.K cl E (rV X.K) (eUn f ga c) σ H Q) :
    TM X.K cl E (rV X.K) (ga c) σ H fun x H1 => r x H1 Q := by
  obtain ⟨ρ, env, st, A, e, h⟩ := h
  refine (Rest.step (g := ga c) (rV X.K) A e h).imp fun v1 H1 ⟨ρ1, st1, d1, g1, A1, r1, h1⟩ => ?_
  exact hs A1 r1 h1
theorem me_un {op : UnaryOp} {f : D → MI.R D} {r : V → Hp → VK → Prop} (ho : UnR X (unaryOp op) r) (hs : UnS X.K cl E f r) (ha : ME X cl E c a ga) : ME X cl E c (.UnaryOp op a pos) (eUn f ga) :=
  peI (pe_un ho ha) fun _ _ _ h => tm_un hs h

/-! ### names, constants -/
theorem me_var (i : Nat) {x : Str} (hN : X.N[i]? = some x := by rfl) (hv : Vis X.env.scope x := by first | exact Or.inl rfl | exact Or.inr (Or.inl rfl) | exact Or.inr (Or.inr rfl)) (hd : (x == ("__debug__" : Str)) = false := by decide)
    (hcd : (x == ("__classdict__" : Str)) = false := by decide) : ME X cl E c (.Name x pos) (eVar i) :=
  peI (pe_var hN hv hd hcd) fun σ H Q h => by
    obtain ⟨ρ, env, st, A, e, h⟩ := h
    cases q : env[i]? with
    | none => exact h.none (by simp [eVar, q])
    | some o =>
      cases o with
      | none => exact h.none (by simp [eVar, q])
      | some d =>
        obtain ⟨v, hv, r⟩ := e.get q
        exact ⟨v, hv, h.ok (st' := st) (d := d) (by simp [eVar, q]) .refl A r⟩
theorem tm_c {d : D} {v : V} {σ : L2.St} {H : Hp} {Q : VK} (hr : ∀ H ρ, Rv X.K H ρ v d) (h : TM X.K cl E (rV X.K) (eC d c) σ H Q) : Q v H := by
  obtain ⟨ρ, env, st, A, e, h⟩ := h
  exact h.ok (st' := st) (d := d) rfl .refl A (hr _ _)
theorem me_int {i : Int} {j : Nat} : ME X cl E c (.Constant (.int i) j pos) (eC (.int i)) := peI pe_int fun _ _ _ h => tm_c (fun _ _ => .int i) h
theorem me_bl {b : Bool} {j : Nat} : ME X cl E c (.Constant (.bool b) j pos) (eC (.bl b)) := peI pe_bl fun _ _ _ h => tm_c (fun _ _ => .bl b) h
theorem me_non {j : Nat} : ME X cl E c (.Constant .none j pos) (eC .non) := peI pe_non fun _ _ _ h => tm_c (fun _ _ => .non) h
theorem me_str {x : Str} {j : Nat} (s : List Nat) (hx : x = sD s := by decide +kernel) : ME X cl E c (.Constant (.str x) j pos) (eC (.str s)) := by
  subst hx
  exact peI pe_str fun _ _ _ h => tm_c (fun _ _ => .str s) h
/-- a constant of the module -/
theorem me_glob {x : Str} {d : D} {v : V} {u : Value} (hg : Gl X x) (hm : X.mg x = some u) (r : RelV v u) (hr : ∀ H ρ, Rv X.K H ρ v d) (hd : (x == ("__debug__" : Str)) = false := by decide) : ME X cl E c (.Name x pos) (eC d) :=
  peI (pe_glob hg hm r hd) fun _ _ _ h => tm_c hr h

/-! ### argument lists, displays -/
theorem ma_nil : MA X cl E c [] lNil := paI pa_nil fun σ H Q h => by
  obtain ⟨ρ, env, st, A, e, h⟩ := h
  exact h.ok (st' := st) (d := []) rfl .refl A .nil
theorem ma_cons {es : List Expr} {gl : SL} (ha : ME X cl E c e ga) (hr : MA X cl E c es gl) (hs : starEach (e :: es) X.env = (false, eval e X.env) :: starEach es X.env := by rfl) : MA X cl E c (e :: es) (lCons ga gl) :=
  paI (pa_cons ha hr hs) fun σ H Q h => by
    obtain ⟨ρ, env, st, A, e, h⟩ := h
    refine (Rest.step (g := ga c) (rV X.K) A e h).imp fun v1 H1 ⟨ρ1, st1, d1, g1, A1, r1, h1⟩ => ?_
    refine (Rest.step (g := gl c) (rL X.K) A1 (e.grow A g1) h1).imp fun v2 H2 ⟨ρ2, st2, d2, g2, A2, r2, h2⟩ => ?_
    exact h2.ok (st' := st2) (d := d1 :: d2) rfl .refl A2 (.cons (r1.grow A1 g2) r2)
theorem lim_size {n : Nat} (h : n < lim) : n ≤ sizeLine := by rw [sizeLine_eq]; exact Nat.le_of_lt h
/-- a new tuple of known items -/
theorem rest_tup {K : PySem.W.Frag} {σ : L2.St} {Q : VK} {m : MI.R D} {ρ : List Addr} {H : Hp} {st : Stt} {vs : List V} {ds : List D} (A : At K cl ρ H st) (r : RvL K H ρ vs ds) (h : Rest K cl E (rV K) σ Q m ρ H st)
    (e : m st = some (.ok (.tup ds), st)) (p : Addr) (n : H p = none) : Q (.ref p) (upd H p (.tup vs)) := by
  obtain ⟨A', g⟩ := A.side (o := .tup vs) n
  exact h.ok e g A' (.tup (SqT.of upd_same) (r.grow A g))
theorem rest_lst {K : PySem.W.Frag} {σ : L2.St} {Q : VK} {m : MI.R D} {ρ : List Addr} {H : Hp} {st : Stt} {vs : List V} {ds : List D} (A : At K cl ρ H st) (r : RvL K H ρ vs ds) (h : Rest K cl E (rV K) σ Q m ρ H st)
    (e : m st = some (.ok (.loc st.length), st ++ [.lst ds])) (p : Addr) (n : H p = none) : Q (.ref p) (upd H p (.lst vs)) := by
  obtain ⟨_, g0⟩ := A.side (o := .lst vs) n
  have k : Keep K H (upd H p (.lst vs)) := A.keep g0
  obtain ⟨A', g⟩ := A.push (o := .lst vs) (ob := .lst ds) n (.lst upd_same (r.keep k [p]))
  exact h.ok e g A' (.loc (by rw [← A.len]; simp))
theorem me_tup {es : List Expr} {gl : SL} {x1} (h : MA X cl E c es gl) : ME X cl E c (.Tuple es x1 pos) (eTup gl) :=
  peI (pe_tup h) fun σ H Q h => by
    obtain ⟨ρ, env, st, A, e, h⟩ := h
    refine (Rest.step (g := gl c) (rL X.K) A e h).imp fun vs H1 ⟨ρ1, st1, ds, g1, A1, r1, h1⟩ => ?_
    by_cases hl : ds.length < lim
    · rw [if_pos hl] at h1
      exact ⟨by rw [r1.length]; exact lim_size hl, rest_tup A1 r1 h1 rfl⟩
    · rw [if_neg hl] at h1; exact h1.none rfl
theorem me_lst {es : List Expr} {gl : SL} (h : MA X cl E c es gl) : ME X cl E c (.List es pos) (eLst gl) :=
  peI (pe_lst h) fun σ H Q h => by
    obtain ⟨ρ, env, st, A, e, h⟩ := h
    refine (Rest.step (g := gl c) (rL X.K) A e h).imp fun vs H1 ⟨ρ1, st1, ds, g1, A1, r1, h1⟩ => ?_
    by_cases hl : ds.length < lim
    · rw [if_pos hl] at h1
      exact ⟨by rw [r1.length]; exact lim_size hl, rest_lst A1 r1 h1 rfl⟩
    · rw [if_neg hl] at h1; exact h1.none rfl

/-! ### lists that nobody changes -/
/-- Q, or Q once the new list is locked -/
def fz (Q : VK) : VK := fun v H1 => Q v H1 ∨ ∃ a vs, v = .ref a ∧ H1 a = some (.lst vs) ∧ ∀ od, Q v (upd H1 a (.frz od (.lst vs)))
theorem ep_fz {pins : List (Addr × Obj)} {σ : L2.St} {Q : VK} {u : Value} {s : Shared} (h : EP X pins σ (fz Q) u s) : EP X pins σ Q u s := by
  obtain ⟨v, H1, I, r, q | ⟨a, vs, rfl, hl, q⟩⟩ := h
  · exact ⟨v, H1, I, r, q⟩
  · obtain ⟨od, I'⟩ := I.lock hl trivial
    exact ⟨_, _, I', r, q od⟩
theorem pe_fz {t : TE} (h : PE X e t) : PE X e (fun σ H Q => t σ H (fz Q)) := ⟨fun pins s σ H Q I q => thn (h.run pins s σ H _ I q) fun u s1 z => ep_fz z⟩
def CallR.fz {f : Value} {r : List V → Hp → VK → Prop} (h : CallR X f r) : CallR X f (fun xs H Q => r xs H (MS.fz Q)) := fun pins s σ H xs us Q I rs q => thn (h pins s σ H xs us _ I rs q) fun u s1 z => ep_fz z
theorem rest_frz {K : PySem.W.Frag} {σ : L2.St} {Q : VK} {m : MI.R D} {ρ : List Addr} {H : Hp} {st : Stt} {vs : List V} {ds : List D} (A : At K cl ρ H st) (r : RvL K H ρ vs ds) (h : Rest K cl E (rV K) σ Q m ρ H st)
    (e : m st = some (.ok (.frz ds), st)) (p : Addr) (n : H p = none) : fz Q (.ref p) (upd H p (.lst vs)) := by
  refine .inr ⟨p, vs, rfl, upd_same, fun od => ?_⟩
  rw [L2.upd_upd]
  obtain ⟨A', g⟩ := A.side (o := .frz od (.lst vs)) n
  exact h.ok e g A' (.frz (.inl ⟨od, upd_same⟩) (r.grow A g))
theorem me_lstF {es : List Expr} {gl : SL} (h : MA X cl E c es gl) : ME X cl E c (.List es pos) (eLstF gl) :=
  peI (pe_fz (pe_lst h)) fun σ H Q h => by
    obtain ⟨ρ, env, st, A, e, h⟩ := h
    refine (Rest.step (g := gl c) (rL X.K) A e h).imp fun vs H1 ⟨ρ1, st1, ds, g1, A1, r1, h1⟩ => ?_
    by_cases hl : ds.length < lim
    · rw [if_pos hl] at h1
      exact ⟨by rw [r1.length]; exact lim_size hl, rest_frz A1 r1 h1 rfl⟩
    · rw [if_neg hl] at h1; exact h1.none rfl

/-! ### tests -/
theorem tm_b {σ : L2.St} {H : Hp} {Q : Bool → Hp → Prop} {t : TE} (ht : t = TM X.K cl E (rV X.K) (ga c)) (h : TM X.K cl E rB (cB ga c) σ H Q) : t σ H fun x H1 => ∃ k, x = .bl k ∧ Q k H1 := by
  subst ht
  obtain ⟨ρ, env, st, A, e, h⟩ := h
  refine (Rest.step (g := ga c) (rV X.K) A e h).imp fun v1 H1 ⟨ρ1, st1, d1, g1, A1, r1, h1⟩ => ?_
  cases r1 with
  | bl k => exact ⟨k, rfl, h1.ok (st' := st1) (d := k) rfl .refl A1 rfl⟩
  | _ => exact h1.none rfl
theorem mt_cmp {op : CmpOp} {f : D → D → MI.R D} {r : R2} (ho : OpR X (compareOp op) r) (hs : OpS X.K cl E f r) (ha : ME X cl E c a ga) (hb : ME X cl E c b gb) (hm : behindInMarks op b = false) : MT X cl E c (.Compare a [op] [b] pos) (cB (eBin f ga gb)) :=
  ptI (pt_cmpR ho ha hb hm) fun σ H Q h => tm_op hs (Q := fun x H' => ∃ k, x = .bl k ∧ Q k H') (tm_b (ga := eBin f ga gb) rfl h)
theorem mt_val (h : ME X cl E c e ga) (he : ∀ whole, isTrue e X.env whole = (do let v ← whole; standAt e.pos; holding [v] (truthy v)) := by intro _; rfl) : MT X cl E c e (cB ga) :=
  ptI (pt_val h he) fun σ H Q h => tm_b rfl h
theorem mt_not {t : MI.ST} (h : MT X cl E c e t) : MT X cl E c (.UnaryOp .Not e pos) (cNot t) :=
  ptI (pt_not h) fun σ H Q h => by
    obtain ⟨ρ, env, st, A, e, h⟩ := h
    refine (Rest.step (g := t c) rB A e h).imp fun v1 H1 ⟨ρ1, st1, d1, g1, A1, r1, h1⟩ => ?_
    have r1' : v1 = d1 := r1
    subst r1'
    exact h1.ok (st' := st1) (d := !v1) rfl .refl A1 rfl
variable {rest : List Expr} {ta tb : MI.ST}
theorem mw_and1 (h : MT X cl E c a ta) : MW X cl E c (.BoolOp .And [a] pos) ta := pw_and1 h
theorem mw_or1 (h : MT X cl E c a ta) : MW X cl E c (.BoolOp .Or [a] pos) ta := pw_or1 h
theorem mw_and (ha : MT X cl E c a ta) (hb : MW X cl E c (.BoolOp .And (b :: rest) pos) tb) : MW X cl E c (.BoolOp .And (a :: b :: rest) pos) (cAnd ta tb) :=
  pwI (pw_and ha hb) fun σ H Q h => by
    obtain ⟨ρ, env, st, A, e, h⟩ := h
    refine (Rest.step (g := ta c) rB A e h).imp fun v1 H1 ⟨ρ1, st1, d1, g1, A1, r1, h1⟩ => ?_
    have r1' : v1 = d1 := r1
    subst r1'
    cases v1 with
    | true => exact iteT ⟨ρ1, env, st1, A1, e.grow A g1, h1⟩
    | false => exact iteF (h1.ok (st' := st1) (d := false) rfl .refl A1 rfl)
theorem mw_or (ha : MT X cl E c a ta) (hb : MW X cl E c (.BoolOp .Or (b :: rest) pos) tb) : MW X cl E c (.BoolOp .Or (a :: b :: rest) pos) (cOr ta tb) :=
  pwI (pw_or ha hb) fun σ H Q h => by
    obtain ⟨ρ, env, st, A, e, h⟩ := h
    refine (Rest.step (g := ta c) rB A e h).imp fun v1 H1 ⟨ρ1, st1, d1, g1, A1, r1, h1⟩ => ?_
    have r1' : v1 = d1 := r1
    subst r1'
    cases v1 with
    | true => exact iteT (h1.ok (st' := st1) (d := true) rfl .refl A1 rfl)
    | false => exact iteF ⟨ρ1, env, st1, A1, e.grow A g1, h1⟩
theorem mt_bool (h : MW X cl E c e ta) : MT X cl E c e ta := PW.pt h
theorem me_if {t : MI.ST} (ht : MT X cl E c e t) (ha : ME X cl E c a ga) (hb : ME X cl E c b gb) : ME X cl E c (.IfExp e a b pos) (eIf t ga gb) :=
  peI (pe_ifExp ht ha hb) fun σ H Q h => by
    obtain ⟨ρ, env, st, A, e, h⟩ := h
    refine (Rest.step (g := t c) rB A e h).imp fun v1 H1 ⟨ρ1, st1, d1, g1, A1, r1, h1⟩ => ?_
    have r1' : v1 = d1 := r1
    subst r1'
    cases v1 with
    | true => exact iteT ⟨ρ1, env, st1, A1, e.grow A g1, h1⟩
    | false => exact iteF ⟨ρ1, env, st1, A1, e.grow A g1, h1⟩
end
end MS

set_option Elab.async false
set_option linter.all false
set_option maxRecDepth 100000
set_option maxHeartbeats 4000000
/-! MS3: operators. -/
namespace MS
open PySem PySem.Spec PyProof.Rows L2 MI

/-! ### data as the library has it -/
mutual
def toPy : D → PyData
  | .non => .none
  | .bl b => .bool b
  | .int i => .int i
  | .str s => .str (sD s)
  | .tup l => .tuple (toPys l)
  | .loc _ => .none
  | .frz l => .list (toPys l)
  | .xtup l => .tuple (toPys l)
def toPys : List D → List PyData
  | [] => []
  | x :: xs => toPy x :: toPys xs
end
theorem toPys_map : ∀ l : List D, toPys l = l.map toPy
  | [] => rfl
  | x :: xs => by simp [toPys, toPys_map xs]
section
variable {K : PySem.W.Frag} {cl : Nat → Addr} {E : EX} {σ : L2.St} {ρ : List Addr} {H : Hp} {st : Stt}
mutual
theorem dp_of : ∀ (n : Nat) (d : D) (v : V), D.ok n d = true → Rv K H ρ v d → Dp K H v (toPy d)
  | _, .non, _, _, r => by cases r; exact .non
  | _, .bl b, _, _, r => by cases r; exact .bl b
  | _, .int i, _, _, r => by cases r; exact .int i
  | _, .str s, _, _, r => by cases r; exact .str _
  | 0, .tup _, _, h, _ => by simp [D.ok] at h
  | n + 1, .tup l, _, h, r => by
    cases r with
    | tup hs rl =>
      have h' : D.okL n l = true := by
        have h2 : (decide (l.length < lim) && D.okL n l) = true := by rw [D.ok] at h; exact h
        exact (Bool.and_eq_true_iff.mp h2).2
      exact .tup hs (dpL_of n l _ h' rl)
  | 0, .xtup _, _, h, _ => by simp [D.ok] at h
  | n + 1, .xtup l, _, h, r => by
    cases r with
    | xtup hs rl =>
      have h' : D.okL n l = true := by
        have h2 : (decide (l.length < lim) && D.okL n l) = true := by rw [D.ok] at h; exact h
        exact (Bool.and_eq_true_iff.mp h2).2
      exact .tup hs.seq (dpL_of n l _ h' rl)
  | _, .loc _, _, h, _ => by simp [D.ok] at h
  | 0, .frz _, _, h, _ => by simp [D.ok] at h
  | n + 1, .frz l, _, h, r => by
    cases r with
    | frz hs rl =>
      have h' : D.okL n l = true := by
        have h2 : (decide (l.length < lim) && D.okL n l) = true := by rw [D.ok] at h; exact h
        exact (Bool.and_eq_true_iff.mp h2).2
      exact .lst hs.seq (dpL_of n l _ h' rl)
theorem dpL_of : ∀ (n : Nat) (l : List D) (vs : List V), D.okL n l = true → RvL K H ρ vs l → DpAll K H vs (toPys l)
  | _, [], _, _, r => by cases r; exact .nil
  | n, x :: xs, _, h, r => by
    cases r with
    | cons r1 r2 =>
      have h2 : D.ok n x = true ∧ D.okL n xs = true := by rw [D.okL] at h; exact Bool.and_eq_true_iff.mp h
      exact .cons (dp_of n x _ h2.1 r1) (dpL_of n xs _ h2.2 r2)
end
end
mutual
theorem lay_of : ∀ (n : Nat) (d : D), D.ok n d = true → (toPy d).canLay0 = true ∧ (toPy d).depth ≤ n
  | _, .non, _ => by simp [toPy, PyData.canLay0, PyData.depth]
  | _, .bl b, _ => by simp [toPy, PyData.canLay0, PyData.depth]
  | _, .int i, _ => by simp [toPy, PyData.canLay0, PyData.depth]
  | _, .str s, h => by
    have h' : s.all (· < 1114112) = true := by simpa [D.ok] using h
    refine ⟨?_, by simp [toPy, PyData.depth]⟩
    simp only [toPy, PyData.canLay0, PyData.strOk]
    simpa using h'
  | 0, .tup _, h => by simp [D.ok] at h
  | n + 1, .tup l, h => by
    have h' : D.okL n l = true := by
      have h2 : (decide (l.length < lim) && D.okL n l) = true := by rw [D.ok] at h; exact h
      exact (Bool.and_eq_true_iff.mp h2).2
    obtain ⟨a, b⟩ := layL_of n l h'
    exact ⟨by simpa [toPy, PyData.canLay0] using a, by simp only [toPy, PyData.depth]; omega⟩
  | 0, .xtup _, h => by simp [D.ok] at h
  | n + 1, .xtup l, h => by
    have h' : D.okL n l = true := by
      have h2 : (decide (l.length < lim) && D.okL n l) = true := by rw [D.ok] at h; exact h
      exact (Bool.and_eq_true_iff.mp h2).2
    obtain ⟨a, b⟩ := layL_of n l h'
    exact ⟨by simpa [toPy, PyData.canLay0] using a, by simp only [toPy, PyData.depth]; omega⟩
  | _, .loc _, h => by simp [D.ok] at h
  | 0, .frz _, h => by simp [D.ok] at h
  | n + 1, .frz l, h => by
    have h' : D.okL n l = true := by
      have h2 : (decide (l.length < lim) && D.okL n l) = true := by rw [D.ok] at h; exact h
      exact (Bool.and_eq_true_iff.mp h2).2
    obtain ⟨a, b⟩ := layL_of n l h'
    exact ⟨by simpa [toPy, PyData.canLay0] using a, by simp only [toPy, PyData.depth]; omega⟩
theorem layL_of : ∀ (n : Nat) (l : List D), D.okL n l = true → PyData.canLayAll0 (toPys l) = true ∧ PyData.depthAll (toPys l) ≤ n
  | _, [], _ => by simp [toPys, PyData.canLayAll0, PyData.depthAll]
  | n, x :: xs, h => by
    have h2 : D.ok n x = true ∧ D.okL n xs = true := by rw [D.okL] at h; exact Bool.and_eq_true_iff.mp h
    obtain ⟨a, b⟩ := lay_of n x h2.1
    obtain ⟨a', b'⟩ := layL_of n xs h2.2
    exact ⟨by simp [toPys, PyData.canLayAll0, a, a'], by simp only [toPys, PyData.depthAll]; omega⟩
end
theorem shaped_of {n : Nat} {d : D} (h : D.ok n d = true) (hn : n ≤ 60) : SeqAt.shaped (toPy d) = true := by
  obtain ⟨a, b⟩ := lay_of n d h
  exact Bool.and_eq_true_iff.mpr ⟨a, decide_eq_true (by omega)⟩
theorem shapedT_of {n : Nat} {l : List D} (h : D.okL n l = true) (hn : n ≤ 60) : SeqAt.shaped (.tuple (toPys l)) = true := by
  obtain ⟨a, b⟩ := layL_of n l h
  exact Bool.and_eq_true_iff.mpr ⟨by simpa [PyData.canLay0] using a, decide_eq_true (by simp only [PyData.depth]; omega)⟩
theorem shapedL_of {n : Nat} {l : List D} (h : D.okL n l = true) (hn : n ≤ 60) : SeqAt.shaped (.list (toPys l)) = true := by
  obtain ⟨a, b⟩ := layL_of n l h
  exact Bool.and_eq_true_iff.mpr ⟨by simpa [PyData.canLay0] using a, decide_eq_true (by simp only [PyData.depth]; omega)⟩
theorem sD_beq (s t : List Nat) : (sD s == sD t) = (s == t) := by
  by_cases e : s = t
  · subst e; simp
  · rw [beq_eq_false_iff_ne.mpr (fun q => e (sD_inj q)), beq_eq_false_iff_ne.mpr e]
mutual
theorem eqv_of : ∀ (n m : Nat) (x y : D), D.ok n x = true → D.ok m y = true → PyData.eqv (toPy x) (toPy y) = D.eqv x y
  | n, m, .tup l, .tup k, hx, hy => by
    cases n with
    | zero => simp [D.ok] at hx
    | succ n =>
      cases m with
      | zero => simp [D.ok] at hy
      | succ m =>
        have h1 : (decide (l.length < lim) && D.okL n l) = true := by rw [D.ok] at hx; exact hx
        have h2 : (decide (k.length < lim) && D.okL m k) = true := by rw [D.ok] at hy; exact hy
        have := eqvL_of n m l k (Bool.and_eq_true_iff.mp h1).2 (Bool.and_eq_true_iff.mp h2).2
        simp only [toPy, PyData.eqv, D.eqv, this]
  | n, m, .tup l, .xtup k, hx, hy => by
    cases n with
    | zero => simp [D.ok] at hx
    | succ n =>
      cases m with
      | zero => simp [D.ok] at hy
      | succ m =>
        have h1 : (decide (l.length < lim) && D.okL n l) = true := by rw [D.ok] at hx; exact hx
        have h2 : (decide (k.length < lim) && D.okL m k) = true := by rw [D.ok] at hy; exact hy
        have := eqvL_of n m l k (Bool.and_eq_true_iff.mp h1).2 (Bool.and_eq_true_iff.mp h2).2
        simp only [toPy, PyData.eqv, D.eqv, this]
  | n, m, .xtup l, .tup k, hx, hy => by
    cases n with
    | zero => simp [D.ok] at hx
    | succ n =>
      cases m with
      | zero => simp [D.ok] at hy
      | succ m =>
        have h1 : (decide (l.length < lim) && D.okL n l) = true := by rw [D.ok] at hx; exact hx
        have h2 : (decide (k.length < lim) && D.okL m k) = true := by rw [D.ok] at hy; exact hy
        have := eqvL_of n m l k (Bool.and_eq_true_iff.mp h1).2 (Bool.and_eq_true_iff.mp h2).2
        simp only [toPy, PyData.eqv, D.eqv, this]
  | n, m, .xtup l, .xtup k, hx, hy => by
    cases n with
    | zero => simp [D.ok] at hx
    | succ n =>
      cases m with
      | zero => simp [D.ok] at hy
      | succ m =>
        have h1 : (decide (l.length < lim) && D.okL n l) = true := by rw [D.ok] at hx; exact hx
        have h2 : (decide (k.length < lim) && D.okL m k) = true := by rw [D.ok] at hy; exact hy
        have := eqvL_of n m l k (Bool.and_eq_true_iff.mp h1).2 (Bool.and_eq_true_iff.mp h2).2
        simp only [toPy, PyData.eqv, D.eqv, this]
  | n, m, .frz l, .frz k, hx, hy => by
    cases n with
    | zero => simp [D.ok] at hx
    | succ n =>
      cases m with
      | zero => simp [D.ok] at hy
      | succ m =>
        have h1 : (decide (l.length < lim) && D.okL n l) = true := by rw [D.ok] at hx; exact hx
        have h2 : (decide (k.length < lim) && D.okL m k) = true := by rw [D.ok] at hy; exact hy
        have := eqvL_of n m l k (Bool.and_eq_true_iff.mp h1).2 (Bool.and_eq_true_iff.mp h2).2
        simp only [toPy, PyData.eqv, D.eqv, this]
  | _, _, .str s, .str t, _, _ => by simp only [toPy, PyData.eqv, D.eqv]; exact sD_beq s t
  | _, _, .loc _, _, h, _ => by simp [D.ok] at h
  | _, _, _, .loc _, _, h => by simp [D.ok] at h
  | _, _, .frz _, .non, _, _ => rfl
  | _, _, .non, .frz _, _, _ => rfl
  | _, _, .frz _, .bl _, _, _ => rfl
  | _, _, .bl _, .frz _, _, _ => rfl
  | _, _, .frz _, .int _, _, _ => rfl
  | _, _, .int _, .frz _, _, _ => rfl
  | _, _, .frz _, .str _, _, _ => rfl
  | _, _, .str _, .frz _, _, _ => rfl
  | _, _, .frz _, .tup _, _, _ => rfl
  | _, _, .tup _, .frz _, _, _ => rfl
  | _, _, .frz _, .xtup _, _, _ => rfl
  | _, _, .xtup _, .frz _, _, _ => rfl
  | _, _, .bl a, .int j, _, _ => by simp only [toPy, PyData.eqv, D.eqv, MI.b2i]
  | _, _, .int a, .bl j, _, _ => by simp only [toPy, PyData.eqv, D.eqv, MI.b2i]
  | _, _, .non, .non, _, _ => rfl
  | _, _, .non, .bl _, _, _ => rfl
  | _, _, .non, .int _, _, _ => rfl
  | _, _, .non, .str _, _, _ => rfl
  | _, _, .non, .tup _, _, _ => rfl
  | _, _, .non, .xtup _, _, _ => rfl
  | _, _, .bl _, .non, _, _ => rfl
  | _, _, .bl _, .bl _, _, _ => rfl
  | _, _, .bl _, .str _, _, _ => rfl
  | _, _, .bl _, .tup _, _, _ => rfl
  | _, _, .bl _, .xtup _, _, _ => rfl
  | _, _, .int _, .non, _, _ => rfl
  | _, _, .int _, .int _, _, _ => rfl
  | _, _, .int _, .str _, _, _ => rfl
  | _, _, .int _, .tup _, _, _ => rfl
  | _, _, .int _, .xtup _, _, _ => rfl
  | _, _, .str _, .non, _, _ => rfl
  | _, _, .str _, .bl _, _, _ => rfl
  | _, _, .str _, .int _, _, _ => rfl
  | _, _, .str _, .tup _, _, _ => rfl
  | _, _, .str _, .xtup _, _, _ => rfl
  | _, _, .tup _, .non, _, _ => rfl
  | _, _, .tup _, .bl _, _, _ => rfl
  | _, _, .tup _, .int _, _, _ => rfl
  | _, _, .tup _, .str _, _, _ => rfl
  | _, _, .xtup _, .non, _, _ => rfl
  | _, _, .xtup _, .bl _, _, _ => rfl
  | _, _, .xtup _, .int _, _, _ => rfl
  | _, _, .xtup _, .str _, _, _ => rfl
theorem eqvL_of : ∀ (n m : Nat) (x y : List D), D.okL n x = true → D.okL m y = true → PyData.eqvAll (toPys x) (toPys y) = D.eqvL x y
  | _, _, [], [], _, _ => rfl
  | _, _, [], _ :: _, _, _ => rfl
  | _, _, _ :: _, [], _, _ => rfl
  | n, m, x :: xs, y :: ys, hx, hy => by
    have h1 : D.ok n x = true ∧ D.okL n xs = true := by rw [D.okL] at hx; exact Bool.and_eq_true_iff.mp hx
    have h2 : D.ok m y = true ∧ D.okL m ys = true := by rw [D.okL] at hy; exact Bool.and_eq_true_iff.mp hy
    simp only [toPys, PyData.eqvAll, D.eqvL, eqv_of n m x y h1.1 h2.1, eqvL_of n m xs ys h1.2 h2.2]
end
theorem okL_mem : ∀ {n : Nat} {l : List D}, D.okL n l = true → ∀ x ∈ l, D.ok n x = true
  | _, [], _, x, h => by cases h
  | n, y :: ys, h, x, hx => by
    have h2 : D.ok n y = true ∧ D.okL n ys = true := by rw [D.okL] at h; exact Bool.and_eq_true_iff.mp h
    rcases List.mem_cons.mp hx with rfl | hx
    · exact h2.1
    · exact okL_mem h2.2 x hx
theorem any_of {n : Nat} {l : List D} {x : D} (h : D.okL n l = true) (hx : D.ok n x = true) : ((toPys l).any fun z => PyData.eqv z (toPy x)) = l.any fun z => D.eqv z x := by
  rw [toPys_map, List.any_map]
  induction l with
  | nil => rfl
  | cons y ys ih =>
    have h2 : D.ok n y = true ∧ D.okL n ys = true := by rw [D.okL] at h; exact Bool.and_eq_true_iff.mp h
    simp only [List.any_cons, Function.comp, eqv_of n n y x h2.1 hx]
    rw [← ih h2.2]
theorem find_of {n : Nat} {l : List D} {x : D} (h : D.okL n l = true) (hx : D.ok n x = true) : ((toPys l).findIdx? fun z => PyData.eqv z (toPy x)) = l.findIdx? fun z => D.eqv z x := by
  rw [toPys_map, List.findIdx?_map]
  induction l with
  | nil => rfl
  | cons y ys ih =>
    have h2 : D.ok n y = true ∧ D.okL n ys = true := by rw [D.okL] at h; exact Bool.and_eq_true_iff.mp h
    have := ih h2.2
    simp only [List.findIdx?_cons, Function.comp, eqv_of n n y x h2.1 hx] at this ⊢
    rw [this]

section
variable {K : PySem.W.Frag} {cl : Nat → Addr} {E : EX}
/-! ### + -/
def rAddA (K : PySem.W.Frag) : R2 := fun x y H Q => ((rI0 fun i j => .int (i + j)) x y H Q ∨ (∃ i j, x = .str i ∧ y = .str j ∧ i.length + j.length ≤ sizeLine ∧ Q (.str (i ++ j)) H)) ∨ (rCatA K x y H Q ∨ rCat x y H Q)
theorem op_addA {X : Cx} : OpR X (binaryOp .Add) (rAddA X.K) := OpR.or (OpR.or op_add op_add_str) (OpR.or op_catA op_cat)
theorem sD_len (s : List Nat) : (sD s).length = s.length := by simp [Str.length]
theorem sD_app (s t : List Nat) : sD s ++ sD t = sD (s ++ t) := by
  show (⟨s.toArray ++ t.toArray⟩ : Str) = ⟨(s ++ t).toArray⟩
  simp
theorem RvL.nil_iff {H : Hp} {ρ : List Addr} {vs : List V} {ds : List D} (r : RvL K H ρ vs ds) : vs = [] ↔ ds = [] := by
  have e := r.length
  constructor
  · intro q; subst q; exact List.eq_nil_of_length_eq_zero e.symm
  · intro q; subst q; exact List.eq_nil_of_length_eq_zero e
theorem s_add : OpS K cl E opAdd (rAddA K) := by
  intro σ Q ρ H st v1 v2 d1 d2 A r1 r2 h
  cases r1 with
  | int i =>
    cases r2 with
    | int j => exact .inl (.inl ⟨i, j, rfl, rfl, h.ok (st' := st) rfl .refl A (.int _)⟩)
    | _ => exact h.none rfl
  | str s =>
    cases r2 with
    | str t =>
      by_cases hl : s.length + t.length < lim
      · refine .inl (.inr ⟨_, _, rfl, rfl, by rw [sD_len, sD_len]; exact lim_size hl, ?_⟩)
        rw [sD_app]
        exact h.ok (st' := st) (d := .str (s ++ t)) (by simp [opAdd, hl]) .refl A (.str _)
      · exact h.none (by simp [opAdd, hl])
    | _ => exact h.none rfl
  | @tup a vs l hs r =>
    cases r2 with
    | @tup b ws m hs' r' =>
      by_cases hl : l.length + m.length < lim
      · have e : opAdd (.tup l) (.tup m) st = some (.ok (.tup (l ++ m)), st) := by simp [opAdd, hl]
        refine .inr (.inl ⟨a, b, vs, ws, rfl, rfl, hs, hs', by rw [r.length, r'.length]; exact lim_size hl, fun z => ?_, fun _ z => ?_, fun _ _ p n => ?_⟩)
        · have zl : l = [] := r.nil_iff.mp z
          refine h.ok e .refl A ?_
          rw [zl]; exact .tup hs' r'
        · have zl : m = [] := r'.nil_iff.mp z
          refine h.ok e .refl A ?_
          rw [zl, List.append_nil]; exact .tup hs r
        · exact rest_tup A (r.append r') h e p n
      · exact h.none (by simp [opAdd, hl])
    | _ => exact h.none rfl
  | @loc a n ha =>
    cases r2 with
    | @loc b m hb =>
      cases e1 : st[n]? with
      | none => exact h.none (by simp [opAdd, e1])
      | some o =>
        cases e2 : st[m]? with
        | none => exact h.none (by simp [opAdd, e1, e2])
        | some o' =>
          have q1 := A.get ha e1
          have q2 := A.get hb e2
          cases q1 with
          | @lst vs l h1 s1 =>
            cases q2 with
            | @lst ws m' h2 s2 =>
              by_cases hl : l.length + m'.length < lim
              · refine .inr (.inr ⟨a, b, vs, ws, rfl, rfl, h1, h2, by rw [s1.length, s2.length]; exact lim_size hl, fun p n => ?_⟩)
                exact rest_lst A (s1.append s2) h (by simp [opAdd, e1, e2, hl, MI.new]) p n
              · exact h.none (by simp [opAdd, e1, e2, hl])
            | _ => exact h.none (by simp [opAdd, e1, e2])
          | _ => exact h.none (by simp [opAdd, e1])
    | _ => exact h.none rfl
  | _ => exact h.none rfl
theorem s_sub : OpS K cl E opSub (rI0 fun i j => .int (i - j)) := by
  intro σ Q ρ H st v1 v2 d1 d2 A r1 r2 h
  cases r1 with
  | int i =>
    cases r2 with
    | int j => exact ⟨i, j, rfl, rfl, h.ok (st' := st) rfl .refl A (.int _)⟩
    | _ => exact h.none rfl
  | _ => exact h.none rfl
theorem s_mod : OpS K cl E opMod (rI (fun _ j => 0 < j) fun i j => .int (i % j)) := by
  intro σ Q ρ H st v1 v2 d1 d2 A r1 r2 h
  cases r1 with
  | int i =>
    cases r2 with
    | int j =>
      by_cases hj : 0 < j
      · exact ⟨i, j, rfl, rfl, hj, h.ok (st' := st) (d := .int (i % j)) (by simp [opMod, hj]) .refl A (.int _)⟩
      · exact h.none (by simp [opMod, hj])
    | _ => exact h.none rfl
  | _ => exact h.none rfl
theorem s_div : OpS K cl E opDiv (rI CDiv fun i j => .int (i / j)) := by
  intro σ Q ρ H st v1 v2 d1 d2 A r1 r2 h
  cases r1 with
  | int i =>
    cases r2 with
    | int j =>
      by_cases hj : 0 < j ∧ j < 1073741824
      · exact ⟨i, j, rfl, rfl, hj, h.ok (st' := st) (d := .int (i / j)) (by simp [opDiv, hj]) .refl A (.int _)⟩
      · exact h.none (by simp only [opDiv, if_neg hj])
    | _ => exact h.none rfl
  | _ => exact h.none rfl
theorem s_pow : OpS K cl E opPow (rI CPow fun i j => .int (i ^ j.toNat)) := by
  intro σ Q ρ H st v1 v2 d1 d2 A r1 r2 h
  cases r1 with
  | int i =>
    cases r2 with
    | int j =>
      by_cases hj : 0 ≤ j ∧ j ≤ 100 ∧ -MI.big < i ∧ i < MI.big
      · refine ⟨i, j, rfl, rfl, ⟨hj.1, by omega, ?_⟩, h.ok (st' := st) (d := .int (i ^ j.toNat)) (by simp only [opPow, if_pos hj]) .refl A (.int _)⟩
        have := hj.2.2
        unfold MI.big at this
        omega
      · exact h.none (by simp only [opPow, if_neg hj])
    | _ => exact h.none rfl
  | _ => exact h.none rfl
/-! ### * -/
def rMulA (K : PySem.W.Frag) : R2 := fun x y H Q => (rI CMul fun i j => .int (i * j)) x y H Q ∨ (rRepA K x y H Q ∨ rRep x y H Q)
theorem op_mulA {X : Cx} : OpR X (binaryOp .Mult) (rMulA X.K) := OpR.or op_mul (OpR.or op_repA op_rep)
theorem RvL.rep {H : Hp} {ρ : List Addr} {vs : List V} {ds : List D} (r : RvL K H ρ vs ds) : ∀ n : Nat, RvL K H ρ (List.replicate n vs).flatten (List.replicate n ds).flatten
  | 0 => by simp; exact .nil
  | n + 1 => by
    rw [List.replicate_succ, List.replicate_succ, List.flatten_cons, List.flatten_cons]
    exact r.append (RvL.rep r n)
theorem s_mul : OpS K cl E opMul (rMulA K) := by
  intro σ Q ρ H st v1 v2 d1 d2 A r1 r2 h
  cases r1 with
  | int i =>
    cases r2 with
    | int j =>
      by_cases hj : (-MI.big < i ∧ i < MI.big) ∨ (-MI.big < j ∧ j < MI.big)
      · refine .inl ⟨i, j, rfl, rfl, ?_, h.ok (st' := st) (d := .int (i * j)) (by simp only [opMul, if_pos hj]) .refl A (.int _)⟩
        unfold MI.big at hj
        unfold CMul
        omega
      · exact h.none (by simp only [opMul, if_neg hj])
    | _ => exact h.none rfl
  | @tup a vs l hs r =>
    cases r2 with
    | int j =>
      by_cases hj : j < lim ∧ -lim < j ∧ l.length * j.toNat < 16000000
      · have e : opMul (.tup l) (.int j) st = some (.ok (.tup (List.replicate j.toNat l).flatten), st) := by simp only [opMul, if_pos hj]
        refine .inr (.inl ⟨a, j, vs, rfl, rfl, hs, by have hl : (lim : Nat) = 16777216 := rfl; omega, by have hl : (lim : Nat) = 16777216 := rfl; omega, by rw [r.length]; omega, fun z => ?_, fun p n => rest_tup A (r.rep _) h e p n⟩)
        refine h.ok e .refl A ?_
        have q : (List.replicate j.toNat l).flatten = l := by
          rcases z with z | z
          · have : l = [] := r.nil_iff.mp z
            rw [this]; simp
          · rw [z]; simp
        rw [q]; exact .tup hs r
      · exact h.none (by simp only [opMul, if_neg hj])
    | _ => exact h.none rfl
  | @loc a n ha =>
    cases r2 with
    | int j =>
      cases e1 : st[n]? with
      | none => exact h.none (by simp [opMul, e1])
      | some o =>
        have q1 := A.get ha e1
        cases q1 with
        | @lst vs l h1 s1 =>
          by_cases hj : j < lim ∧ -lim < j ∧ l.length * j.toNat < lim
          · refine .inr (.inr ⟨a, j, vs, rfl, rfl, h1, by have hl : (lim : Nat) = 16777216 := rfl; omega, by have hl : (lim : Nat) = 16777216 := rfl; omega, by rw [s1.length]; exact lim_size hj.2.2, fun p n => ?_⟩)
            exact rest_lst A (s1.rep _) h (by simp only [opMul, e1, if_pos hj, MI.new]) p n
          · exact h.none (by simp only [opMul, e1, if_neg hj])
        | _ => exact h.none (by simp [opMul, e1])
    | _ => exact h.none rfl
  | str s =>
    cases r2 with
    | int j => exact h.none rfl
    | _ => exact h.none rfl
  | _ => exact h.none rfl
/-! ### comparisons -/
theorem s_lt : OpS K cl E opLt (rI0 fun i j => .bl (decide (i < j))) := by
  intro σ Q ρ H st v1 v2 d1 d2 A r1 r2 h
  cases r1 with
  | int i =>
    cases r2 with
    | int j => exact ⟨i, j, rfl, rfl, h.ok (st' := st) rfl .refl A (.bl _)⟩
    | _ => exact h.none rfl
  | _ => exact h.none rfl
theorem s_le : OpS K cl E opLe (rI0 fun i j => .bl (decide (i ≤ j))) := by
  intro σ Q ρ H st v1 v2 d1 d2 A r1 r2 h
  cases r1 with
  | int i =>
    cases r2 with
    | int j => exact ⟨i, j, rfl, rfl, h.ok (st' := st) rfl .refl A (.bl _)⟩
    | _ => exact h.none rfl
  | _ => exact h.none rfl
theorem s_gt : OpS K cl E opGt (rI0 fun i j => .bl (decide (j < i))) := by
  intro σ Q ρ H st v1 v2 d1 d2 A r1 r2 h
  cases r1 with
  | int i =>
    cases r2 with
    | int j => exact ⟨i, j, rfl, rfl, h.ok (st' := st) rfl .refl A (.bl _)⟩
    | _ => exact h.none rfl
  | _ => exact h.none rfl
theorem s_ge : OpS K cl E opGe (rI0 fun i j => .bl (decide (j ≤ i))) := by
  intro σ Q ρ H st v1 v2 d1 d2 A r1 r2 h
  cases r1 with
  | int i =>
    cases r2 with
    | int j => exact ⟨i, j, rfl, rfl, h.ok (st' := st) rfl .refl A (.bl _)⟩
    | _ => exact h.none rfl
  | _ => exact h.none rfl
theorem bnd_inv {α β : Type} {x : MI.R α} {f : α → MI.R β} {st : Stt} {a : α} {st' : Stt} (h : x st = some (.ok a, st')) : bnd x f st = f a st' := by unfold bnd; rw [h]
theorem bnd_none {α β : Type} {x : MI.R α} {f : α → MI.R β} {st : Stt} (h : x st = Option.none) : bnd x f st = Option.none := by unfold bnd; rw [h]
/-- == and != : what eqD says, where it says something -/
theorem dat_ok {ρ : List Addr} {H : Hp} {st : Stt} {v : V} {d : D} (A : At K cl ρ H st) (r : Rv K H ρ v d) : dat d st = Option.none ∨ ∃ a, dat d st = some a ∧ (D.ok deep a = true → Dp K H v (toPy a)) := by
  cases r with
  | @loc a n ha =>
    cases e1 : st[n]? with
    | none => exact .inl (by simp [dat, e1])
    | some o =>
      have q1 := A.get ha e1
      cases q1 with
      | @lst vs l h1 s1 =>
        refine .inr ⟨.frz l, by simp [dat, e1], fun ho => ?_⟩
        have h2 : (decide (l.length < lim) && D.okL 39 l) = true := by rw [D.ok] at ho; exact ho
        exact .lst (SqL.of h1) (dpL_of _ _ _ (Bool.and_eq_true_iff.mp h2).2 s1)
      | _ => exact .inl (by simp [dat, e1])
  | non => exact .inr ⟨_, rfl, fun h => dp_of (ρ := ρ) _ _ _ h .non⟩
  | bl b => exact .inr ⟨_, rfl, fun h => dp_of (ρ := ρ) _ _ _ h (.bl b)⟩
  | int b => exact .inr ⟨_, rfl, fun h => dp_of (ρ := ρ) _ _ _ h (.int b)⟩
  | str b => exact .inr ⟨_, rfl, fun h => dp_of (ρ := ρ) _ _ _ h (.str b)⟩
  | tup hs r => exact .inr ⟨_, rfl, fun h => dp_of _ _ _ h (.tup hs r)⟩
  | frz hs r => exact .inr ⟨_, rfl, fun h => dp_of _ _ _ h (.frz hs r)⟩
  | xtup hs r => exact .inr ⟨_, rfl, fun h => dp_of _ _ _ h (.xtup hs r)⟩
theorem eqD_ok {ρ : List Addr} {H : Hp} {st : Stt} {v1 v2 : V} {d1 d2 : D} (A : At K cl ρ H st) (r1 : Rv K H ρ v1 d1) (r2 : Rv K H ρ v2 d2) :
    eqD d1 d2 st = Option.none ∨ ∃ b x y, eqD d1 d2 st = some (.ok b, st) ∧ Dp K H v1 x ∧ Dp K H v2 y ∧ SeqAt.shaped x = true ∧ SeqAt.shaped y = true ∧ PyData.eqv x y = b := by
  rcases dat_ok A r1 with e | ⟨a, e, da⟩
  · exact .inl (by simp [eqD, e])
  · rcases dat_ok A r2 with f | ⟨b, f, db⟩
    · exact .inl (by simp [eqD, e, f])
    · by_cases ho : (D.ok deep a && D.ok deep b) = true
      · obtain ⟨o1, o2⟩ := Bool.and_eq_true_iff.mp ho
        exact .inr ⟨D.eqv a b, toPy a, toPy b, by simp only [eqD, e, f, if_pos ho], da o1, db o2, shaped_of o1 (by decide), shaped_of o2 (by decide), eqv_of _ _ _ _ o1 o2⟩
      · exact .inl (by simp only [eqD, e, f, if_neg ho])
theorem s_eq : OpS K cl E opEq (rEqD K) := by
  intro σ Q ρ H st v1 v2 d1 d2 A r1 r2 h
  rcases eqD_ok A r1 r2 with e | ⟨b, x, y, e, dx, dy, sx, sy, q⟩
  · exact h.none (bnd_none e)
  · exact ⟨x, y, dx, dy, sx, sy, h.ok (st' := st) (d := .bl b) (by unfold opEq; rw [bnd_inv e]; rfl) .refl A (by rw [q]; exact .bl b)⟩
theorem s_ne : OpS K cl E opNe (rNeD K) := by
  intro σ Q ρ H st v1 v2 d1 d2 A r1 r2 h
  rcases eqD_ok A r1 r2 with e | ⟨b, x, y, e, dx, dy, sx, sy, q⟩
  · exact h.none (bnd_none e)
  · exact ⟨x, y, dx, dy, sx, sy, h.ok (st' := st) (d := .bl (!b)) (by unfold opNe; rw [bnd_inv e]; rfl) .refl A (by rw [q]; exact .bl (!b))⟩
end
end MS

set_option Elab.async false
set_option linter.all false
set_option maxRecDepth 100000
set_option maxHeartbeats 4000000
/-! MS4: in, is None, and, or, not as values, chains, subscripts, slices, fields, calls, methods. -/
namespace MS
open PySem PySem.Spec PyProof.Rows L2 MI

section
variable {K : PySem.W.Frag} {cl : Nat → Addr} {E : EX}
/-! ### in -/
def rInA (K : PySem.W.Frag) : R2 := fun x y H Q => ((∃ d ds, Dp K H x d ∧ Dp K H y (.tuple ds) ∧ SeqAt.shaped d = true ∧ SeqAt.shaped (.tuple ds) = true ∧ Q (.bl (ds.any fun z => PyData.eqv z d)) H) ∨ rInD K x y H Q) ∨
  (∃ (c : Nat) (z : Str), x = .str ⟨#[c]⟩ ∧ y = .str z ∧ Q (.bl (decide (c ∈ z.cps.toList))) H)
theorem op_inA {X : Cx} (hu : X.A.units + 65 < cLine) : OpR X (compareOp .In) (rInA X.K) := OpR.or (OpR.or (op_inDT hu) (op_inD hu)) op_in_sign
def rNotInA (K : PySem.W.Frag) : R2 := fun x y H Q => ((∃ d ds, Dp K H x d ∧ Dp K H y (.tuple ds) ∧ SeqAt.shaped d = true ∧ SeqAt.shaped (.tuple ds) = true ∧ Q (.bl (!ds.any fun z => PyData.eqv z d)) H) ∨ rNotInD K x y H Q) ∨
  (∃ (c : Nat) (z : Str), x = .str ⟨#[c]⟩ ∧ y = .str z ∧ Q (.bl (!decide (c ∈ z.cps.toList))) H)
theorem op_notInA {X : Cx} (hu : X.A.units + 65 < cLine) : OpR X (compareOp .NotIn) (rNotInA X.K) := OpR.or (OpR.or (op_notInDT hu) (op_notInD hu)) op_notIn_sign
/-- what isInT says, where it says something -/
theorem isIn_ok {ρ : List Addr} {H : Hp} {st : Stt} {v1 v2 : V} {d1 d2 : D} (A : At K cl ρ H st) (r1 : Rv K H ρ v1 d1) (r2 : Rv K H ρ v2 d2) :
    isInT d1 d2 st = Option.none ∨ ∃ b, isInT d1 d2 st = some (.ok b, st) ∧
      (((∃ d ds, Dp K H v1 d ∧ Dp K H v2 (.tuple ds) ∧ SeqAt.shaped d = true ∧ SeqAt.shaped (.tuple ds) = true ∧ (ds.any fun z => PyData.eqv z d) = b) ∨
        (∃ d ds, Dp K H v1 d ∧ Dp K H v2 (.list ds) ∧ SeqAt.shaped d = true ∧ SeqAt.shaped (.list ds) = true ∧ (ds.any fun z => PyData.eqv z d) = b)) ∨
      (∃ (c : Nat) (z : Str), v1 = .str ⟨#[c]⟩ ∧ v2 = .str z ∧ decide (c ∈ z.cps.toList) = b)) := by
  cases r2 with
  | @tup a vs l hs r =>
    by_cases ho : (D.ok deep d1 && D.okL deep l) = true
    · obtain ⟨o1, o2⟩ := Bool.and_eq_true_iff.mp ho
      refine .inr ⟨_, by simp only [isInT, if_pos ho], .inl (.inl ⟨toPy d1, toPys l, dp_of _ _ _ o1 r1, .tup hs (dpL_of _ _ _ o2 r), shaped_of o1 (by decide), shapedT_of o2 (by decide), any_of o2 o1⟩)⟩
    · exact .inl (by simp only [isInT, if_neg ho])
  | @xtup a vs l hs r =>
    by_cases ho : (D.ok deep d1 && D.okL deep l) = true
    · obtain ⟨o1, o2⟩ := Bool.and_eq_true_iff.mp ho
      refine .inr ⟨_, by simp only [isInT, if_pos ho], .inl (.inl ⟨toPy d1, toPys l, dp_of _ _ _ o1 r1, .tup hs.seq (dpL_of _ _ _ o2 r), shaped_of o1 (by decide), shapedT_of o2 (by decide), any_of o2 o1⟩)⟩
    · exact .inl (by simp only [isInT, if_neg ho])
  | @frz a vs l hs r =>
    by_cases ho : (D.ok deep d1 && D.okL deep l) = true
    · obtain ⟨o1, o2⟩ := Bool.and_eq_true_iff.mp ho
      refine .inr ⟨_, by simp only [isInT, if_pos ho], .inl (.inr ⟨toPy d1, toPys l, dp_of _ _ _ o1 r1, .lst hs.seq (dpL_of _ _ _ o2 r), shaped_of o1 (by decide), shapedL_of o2 (by decide), any_of o2 o1⟩)⟩
    · exact .inl (by simp only [isInT, if_neg ho])
  | @loc a n ha =>
    cases e1 : st[n]? with
    | none => exact .inl (by simp [isInT, e1])
    | some o =>
      have q1 := A.get ha e1
      cases q1 with
      | @lst vs l h1 s1 =>
        by_cases ho : (D.ok deep d1 && D.okL deep l) = true
        · obtain ⟨o1, o2⟩ := Bool.and_eq_true_iff.mp ho
          refine .inr ⟨_, by simp only [isInT, e1, if_pos ho], .inl (.inr ⟨toPy d1, toPys l, dp_of _ _ _ o1 r1, .lst (SqL.of h1) (dpL_of _ _ _ o2 s1), shaped_of o1 (by decide), shapedL_of o2 (by decide), any_of o2 o1⟩)⟩
        · exact .inl (by simp only [isInT, e1, if_neg ho])
      | _ => exact .inl (by simp [isInT, e1])
  | str t =>
    cases r1 with
    | str s =>
      cases s with
      | nil => exact .inl (by simp [isInT])
      | cons c r =>
        cases r with
        | nil => exact .inr ⟨_, by simp only [isInT]; rfl, .inr ⟨c, sD t, rfl, rfl, by simp [sD]⟩⟩
        | cons _ _ => exact .inl (by simp [isInT])
    | _ => exact .inl (by simp [isInT])
  | _ => exact .inl (by simp [isInT])
theorem s_in : OpS K cl E opIn (rInA K) := by
  intro σ Q ρ H st v1 v2 d1 d2 A r1 r2 h
  rcases isIn_ok A r1 r2 with e | ⟨b, e, q⟩
  · exact h.none (bnd_none e)
  · have fin : Q (.bl b) H := h.ok (st' := st) (d := .bl b) (by unfold opIn; rw [bnd_inv e]; rfl) .refl A (.bl b)
    rcases q with (⟨d, ds, a1, a2, a3, a4, q⟩ | ⟨d, ds, a1, a2, a3, a4, q⟩) | ⟨c, z, a1, a2, q⟩
    · exact .inl (.inl ⟨d, ds, a1, a2, a3, a4, by rw [q]; exact fin⟩)
    · exact .inl (.inr ⟨d, ds, a1, a2, a3, a4, by rw [q]; exact fin⟩)
    · exact .inr ⟨c, z, a1, a2, by rw [q]; exact fin⟩
theorem s_notIn : OpS K cl E opNotIn (rNotInA K) := by
  intro σ Q ρ H st v1 v2 d1 d2 A r1 r2 h
  rcases isIn_ok A r1 r2 with e | ⟨b, e, q⟩
  · exact h.none (bnd_none e)
  · have fin : Q (.bl (!b)) H := h.ok (st' := st) (d := .bl (!b)) (by unfold opNotIn; rw [bnd_inv e]; rfl) .refl A (.bl (!b))
    rcases q with (⟨d, ds, a1, a2, a3, a4, q⟩ | ⟨d, ds, a1, a2, a3, a4, q⟩) | ⟨c, z, a1, a2, q⟩
    · exact .inl (.inl ⟨d, ds, a1, a2, a3, a4, by rw [q]; exact fin⟩)
    · exact .inl (.inr ⟨d, ds, a1, a2, a3, a4, by rw [q]; exact fin⟩)
    · exact .inr ⟨c, z, a1, a2, by rw [q]; exact fin⟩
theorem Rv.non_iff {ρ : List Addr} {H : Hp} {v : V} {d : D} (r : Rv K H ρ v d) : decide (v = .non) = MI.isNone d := by
  cases r <;> rfl
theorem s_neg : UnS K cl E opNeg (rU fun i => .int (-i)) := by
  intro σ Q ρ H st v1 d1 A r1 h
  cases r1 with
  | int i => exact ⟨i, rfl, h.ok (st' := st) rfl .refl A (.int _)⟩
  | _ => exact h.none rfl
end

section
variable {X : Cx} {cl : Nat → Addr} {E : EX} {c : MI.Ctx} {a b d e : Expr} {ga gb gd : SE} {pos : Pos}
theorem me_isN {j : Nat} {p : Pos} (ha : ME X cl E c a ga) : ME X cl E c (.Compare a [.Is] [.Constant .none j p] pos) (eUn opIsN ga) :=
  peI (pe_cmpR op_isN ha pe_non (nomark _)) fun σ H Q h => by
    obtain ⟨ρ, env, st, A, e, h⟩ := h
    refine (Rest.step (g := ga c) (rV X.K) A e h).imp fun v1 H1 ⟨ρ1, st1, d1, g1, A1, r1, h1⟩ => ⟨rfl, ?_⟩
    rw [r1.non_iff]
    exact h1.ok (st' := st1) rfl .refl A1 (.bl _)
theorem me_notN {j : Nat} {p : Pos} (ha : ME X cl E c a ga) : ME X cl E c (.Compare a [.IsNot] [.Constant .none j p] pos) (eUn opNotN ga) :=
  peI (pe_cmpR op_notN ha pe_non (nomark _)) fun σ H Q h => by
    obtain ⟨ρ, env, st, A, e, h⟩ := h
    refine (Rest.step (g := ga c) (rV X.K) A e h).imp fun v1 H1 ⟨ρ1, st1, d1, g1, A1, r1, h1⟩ => ⟨rfl, ?_⟩
    rw [r1.non_iff]
    exact h1.ok (st' := st1) rfl .refl A1 (.bl _)
/-- the same as a test -/
theorem mt_isN {j : Nat} {p : Pos} (ha : ME X cl E c a ga) : MT X cl E c (.Compare a [.Is] [.Constant .none j p] pos) (cB (eUn opIsN ga)) :=
  ptI (pt_cmpR op_isN ha pe_non (nomark _)) fun σ H Q h => by
    obtain ⟨ρ, env, st, A, e, h⟩ := h
    have h' : Rest X.K cl E rB σ Q (bnd (ga c env) fun x => MI.ret (MI.isNone x)) ρ H st := h.eq (by
      simp only [cB, eUn, bnd, opIsN, MI.ret]
      cases q : ga c env st with
      | none => rfl
      | some p => obtain ⟨rs, s'⟩ := p; cases rs <;> rfl)
    refine (Rest.step (g := ga c) (rV X.K) A e h').imp fun v1 H1 ⟨ρ1, st1, d1, g1, A1, r1, h1⟩ => ⟨rfl, _, rfl, ?_⟩
    exact h1.ok (st' := st1) rfl .refl A1 (r1.non_iff)
theorem mt_notN {j : Nat} {p : Pos} (ha : ME X cl E c a ga) : MT X cl E c (.Compare a [.IsNot] [.Constant .none j p] pos) (cB (eUn opNotN ga)) :=
  ptI (pt_cmpR op_notN ha pe_non (nomark _)) fun σ H Q h => by
    obtain ⟨ρ, env, st, A, e, h⟩ := h
    have h' : Rest X.K cl E rB σ Q (bnd (ga c env) fun x => MI.ret (!MI.isNone x)) ρ H st := h.eq (by
      simp only [cB, eUn, bnd, opNotN, MI.ret]
      cases q : ga c env st with
      | none => rfl
      | some p => obtain ⟨rs, s'⟩ := p; cases rs <;> rfl)
    refine (Rest.step (g := ga c) (rV X.K) A e h').imp fun v1 H1 ⟨ρ1, st1, d1, g1, A1, r1, h1⟩ => ⟨rfl, _, rfl, ?_⟩
    exact h1.ok (st' := st1) rfl .refl A1 (by rw [r1.non_iff])

/-! ### and, or, not as values -/
variable {rest : List Expr}
theorem me_one {op : BoolOp} (h : ME X cl E c a ga) : ME X cl E c (.BoolOp op [a] pos) ga := pe_one h
theorem me_and (ha : ME X cl E c a ga) (hb : ME X cl E c (.BoolOp .And (b :: rest) pos) gb) : ME X cl E c (.BoolOp .And (a :: b :: rest) pos) (eAnd ga gb) :=
  peI (pe_and ha hb) fun σ H Q h => by
    obtain ⟨ρ, env, st, A, e, h⟩ := h
    refine (Rest.step (g := ga c) (rV X.K) A e h).imp fun v1 H1 ⟨ρ1, st1, d1, g1, A1, r1, h1⟩ => ?_
    cases r1 with
    | bl k =>
      refine ⟨k, rfl, ?_⟩
      cases k with
      | true => exact iteT ⟨ρ1, env, st1, A1, e.grow A g1, h1⟩
      | false => exact iteF (h1.ok (st' := st1) rfl .refl A1 (.bl _))
    | _ => exact h1.none rfl
theorem me_or (ha : ME X cl E c a ga) (hb : ME X cl E c (.BoolOp .Or (b :: rest) pos) gb) : ME X cl E c (.BoolOp .Or (a :: b :: rest) pos) (eOr ga gb) :=
  peI (pe_or ha hb) fun σ H Q h => by
    obtain ⟨ρ, env, st, A, e, h⟩ := h
    refine (Rest.step (g := ga c) (rV X.K) A e h).imp fun v1 H1 ⟨ρ1, st1, d1, g1, A1, r1, h1⟩ => ?_
    cases r1 with
    | bl k =>
      refine ⟨k, rfl, ?_⟩
      cases k with
      | true => exact iteT (h1.ok (st' := st1) rfl .refl A1 (.bl _))
      | false => exact iteF ⟨ρ1, env, st1, A1, e.grow A g1, h1⟩
    | _ => exact h1.none rfl
theorem me_not (ha : ME X cl E c a ga) : ME X cl E c (.UnaryOp .Not a pos) (eNot ga) :=
  peI (pe_not ha) fun σ H Q h => by
    obtain ⟨ρ, env, st, A, e, h⟩ := h
    refine (Rest.step (g := ga c) (rV X.K) A e h).imp fun v1 H1 ⟨ρ1, st1, d1, g1, A1, r1, h1⟩ => ?_
    cases r1 with
    | bl k => exact ⟨k, rfl, h1.ok (st' := st1) rfl .refl A1 (.bl _)⟩
    | _ => exact h1.none rfl

/-! ### a op b op' d -/
theorem tm_chain {f g : D → D → MI.R D} {r r' : R2} (hs : OpS X.K cl E f r) (hs' : OpS X.K cl E g r') {σ : L2.St} {H : Hp} {Q : VK} (h : TM X.K cl E (rV X.K) (eChain f g ga gb gd c) σ H Q) :
    tChain r r' (TM X.K cl E (rV X.K) (ga c)) (TM X.K cl E (rV X.K) (gb c)) (TM X.K cl E (rV X.K) (gd c)) σ H Q := by
  obtain ⟨ρ, env, st, A, e, h⟩ := h
  refine (Rest.step (g := ga c) (rV X.K) A e h).imp fun v1 H1 ⟨ρ1, st1, d1, g1, A1, r1, h1⟩ => ?_
  refine (Rest.step (g := gb c) (rV X.K) A1 (e.grow A g1) h1).imp fun v2 H2 ⟨ρ2, st2, d2, g2, A2, r2, h2⟩ => ?_
  have e2 := (e.grow A g1).grow A1 g2
  refine hs (σ := σ) (st := st2) A2 (r1.grow A1 g2) r2 ?_
  -- the rest behind the first comparison
  rcases h2 with ⟨d', st', q, k⟩ | ⟨cc, fs, st', q, k⟩
  · unfold bnd at q
    cases qf : f d1 d2 st2 with
    | none => rw [qf] at q; cases q
    | some p =>
      obtain ⟨rs, s3⟩ := p
      rw [qf] at q
      cases rs with
      | exc c2 fs2 => cases q
      | ok z =>
        refine .inl ⟨z, s3, qf, fun ρ3 H3 v3 g3 A3 r3 => ?_⟩
        cases r3 with
        | bl k' =>
          refine ⟨k', rfl, ?_⟩
          cases k' with
          | true =>
            refine iteT ?_
            refine (Rest.step (rel' := rV X.K) (Q := Q) (g := gd c) (rV X.K) (f := fun z => g d2 z) A3 (e2.grow A2 g3) (.inl ⟨d', st', q, fun ρ' H' v g' A' r => k ρ' H' v (g3.trans g') A' r⟩)).imp fun v4 H4 ⟨ρ4, st4, d4, g4, A4, r4, h4⟩ => ?_
            exact hs' A4 (r2.grow A2 (g3.trans g4)) r4 h4
          | false =>
            refine iteF ?_
            have q' : some ((Rs.ok (D.bl false), s3) : Rs D × Stt) = some (Rs.ok d', st') := q
            cases q'
            exact k _ _ _ g3 A3 (.bl _)
        | _ => cases q
  · unfold bnd at q
    cases qf : f d1 d2 st2 with
    | none => rw [qf] at q; cases q
    | some p =>
      obtain ⟨rs, s3⟩ := p
      rw [qf] at q
      cases rs with
      | exc c2 fs2 =>
        cases q
        exact .inr ⟨_, _, _, qf, k⟩
      | ok z =>
        refine .inl ⟨z, s3, qf, fun ρ3 H3 v3 g3 A3 r3 => ?_⟩
        cases r3 with
        | bl k' =>
          refine ⟨k', rfl, ?_⟩
          cases k' with
          | true =>
            refine iteT ?_
            refine (Rest.step (rel' := rV X.K) (Q := Q) (g := gd c) (rV X.K) (f := fun z => g d2 z) A3 (e2.grow A2 g3) (.inr ⟨cc, fs, st', q, fun ρ' H' g' A' => k ρ' H' (g3.trans g') A'⟩)).imp fun v4 H4 ⟨ρ4, st4, d4, g4, A4, r4, h4⟩ => ?_
            exact hs' A4 (r2.grow A2 (g3.trans g4)) r4 h4
          | false =>
            have q' : some ((Rs.ok (D.bl false), s3) : Rs D × Stt) = some (Rs.exc cc fs, st') := q
            cases q'
        | _ => cases q
theorem me_chain {op op' : CmpOp} {f g : D → D → MI.R D} {r r' : R2} (ho : OpR X (compareOp op) r) (ho' : OpR X (compareOp op') r') (hs : OpS X.K cl E f r) (hs' : OpS X.K cl E g r') (ha : ME X cl E c a ga) (hb : ME X cl E c b gb) (hd : ME X cl E c d gd)
    (hm : lastMarks [op, op'] [b, d] = false := by with_unfolding_all rfl) : ME X cl E c (.Compare a [op, op'] [b, d] pos) (eChain f g ga gb gd) :=
  peI (pe_chain ho ho' ha hb hd hm) fun σ H Q h => tm_chain hs hs' h
theorem mt_chain {op op' : CmpOp} {f g : D → D → MI.R D} {r r' : R2} (ho : OpR X (compareOp op) r) (ho' : OpR X (compareOp op') r') (hs : OpS X.K cl E f r) (hs' : OpS X.K cl E g r') (ha : ME X cl E c a ga) (hb : ME X cl E c b gb) (hd : ME X cl E c d gd)
    (hm : lastMarks [op, op'] [b, d] = false := by with_unfolding_all rfl) : MT X cl E c (.Compare a [op, op'] [b, d] pos) (cB (eChain f g ga gb gd)) :=
  ptI (pt_chain ho ho' ha hb hd hm) fun σ H Q h => tm_chain hs hs' (Q := fun x H' => ∃ k, x = .bl k ∧ Q k H') (tm_b (ga := eChain f g ga gb gd) rfl h)
end
end MS

set_option Elab.async false
set_option linter.all false
set_option maxRecDepth 100000
set_option maxHeartbeats 4000000
/-! MSG: a def's promise where no repr is under way (repr of a tuple asks that). -/
namespace MS
open PySem PySem.Spec PyProof.Rows L2
/-- as L2.FnOk, of such surroundings alone -/
structure FnOk (P : Program) (w : World) (K : PySem.W.Frag) (mg : Str → Option Value) (base : Heap) (C : CXT) (k : Nat) (f : Addr) (fd : FuncData) (ps : List Str) (sp : Sp) : Prop where
  len : ∀ vs H Q E, sp vs H Q E → vs.length = ps.length
  run : ∀ (A : Around) (outer : List Env) (s : Shared) (H : Hp) (args : Args) (us : List Value) (vs : List V) (Q : VK) (E : XK), A.guards = some [] → Room k A → Env0 P w K mg base A outer s H → BindsTo s fd args (ps.zip us) → Vals vs us →
    sp vs H Q E → codeAny (model P w) A (.call (.ref f) args) (CR C outer P w H s Q E) s
section
variable {P : Program} {w : World} {K : PySem.W.Frag} {mg : Str → Option Value} {base : Heap} {C : CXT} {f : Addr} {fd : FuncData} {ps : List Str} {sp sp' : Sp}
theorem FnOk.mono {j k : Nat} (F : FnOk P w K mg base C j f fd ps sp) (h : j ≤ k) : FnOk P w K mg base C k f fd ps sp := ⟨F.len, fun A outer s H args us vs Q E hg hr => F.run A outer s H args us vs Q E hg (hr.mono h)⟩
theorem FnOk.imp {k : Nat} (F : FnOk P w K mg base C k f fd ps sp) (h : ∀ vs H Q E, sp' vs H Q E → sp vs H Q E) : FnOk P w K mg base C k f fd ps sp' :=
  ⟨fun vs H Q E q => F.len vs H Q E (h _ _ _ _ q), fun A outer s H args us vs Q E hg hr e0 hb r q => F.run A outer s H args us vs Q E hg hr e0 hb r (h _ _ _ _ q)⟩
/-- the ends of a call, seen by its caller -/
theorem ends_of {X : Cx} {E : L2.St → XK} {C : CXT} {pins : List (Addr × Obj)} {σ : L2.St} {H : Hp} {s : Shared} {Q : VK} (hx : PassesAt C X σ (E σ)) (I : Inv X pins σ H s) : ∀ (r : Result) (s' : Shared), CR C X.stack X.prog X.w H s Q (E σ) r s' → match r with
    | .ok (.ret u) => EP X pins σ Q u s'
    | .ok _ => False
    | .error e => X.xe e s'
  | .error e, s', h => hx pins H s e s' I h
  | .ok (.ret u), s', h => I.after h
  | .ok .next, s', h => h
  | .ok .brk, s', h => h
  | .ok .cont, s', h => h
theorem run_fnS {X : Cx} {k : Nat} {E : L2.St → XK} {pins : List (Addr × Obj)} {σ : L2.St} {H : Hp} {s : Shared} {Q : VK} {us : List Value} {vs : List V} (hg : X.A.guards = some []) (F : FnOk X.prog X.w X.K X.mg X.base C k f fd ps sp) (hr : Room k X.A) (hb : Binds X.K fd ps []) (hx : PassesAt C X σ (E σ))
    (I : Inv X pins σ H s) (r : Vals vs us) (h : sp vs H Q (E σ)) : wpAny (model X.prog X.w) X.A (call (.ref f) us) (EP X pins σ Q) X.xe s := by
  have b := hb s us I.kIn (by rw [List.append_nil, ← r.length]; exact F.len _ _ _ _ h)
  rw [List.append_nil] at b
  refine wpAny_call (codeAny_mono (F.run X.A X.stack s H ⟨us, []⟩ us vs Q (E σ) hg hr I.env0 b r h) fun rs s' hq => ?_)
  have q := ends_of hx I rs s' hq
  cases rs with
  | error e => exact q
  | ok fl => cases fl <;> first | exact q | exact q.elim
theorem pe_callS {X : Cx} {k : Nat} {E : L2.St → XK} {x : Str} {p pos : Pos} {e : Expr} {es : List Expr} {t : TA} (hgd : X.A.guards = some []) (F : FnOk X.prog X.w X.K X.mg X.base C k f fd ps sp) (hr : Room k X.A) (hg : Gl X x) (hm : X.mg x = some (.ref f)) (hk : PySem.W.keepIn X.K (.ref f) = true) (hb : Binds X.K fd ps []) (hx : ∀ σ, PassesAt C X σ (E σ))
    (ha : PA X (e :: es) t) (hdb : (x == ("__debug__" : Str)) = false := by decide) (he : starEach (e :: es) X.env = (false, eval e X.env) :: starEach es X.env := by rfl) (hpl : (backTo pos (starEach es X.env)).any (·.1) = false := by rfl) :
    PE X (.Call (.Name x p) (e :: es) [] pos) (tCallS sp E t) := ⟨fun pins s σ H Q I h =>
  wpAny_Call_Name_kw (ld_glob I hg hm (PySem.W.callWith_K (h₀ := X.base) I.ok.mod.kin hk (thn (ha.run pos pins s σ H _ I h) fun us s1 ⟨vs, H1, I1, r, q⟩ => ⟨I1.kIn, run_fnS hgd F hr hb (hx σ) I1 r q⟩) he hpl) hdb)⟩
/-! ### a def by its body -/
variable {x qual : Str} {params : Arguments} {body : List Stmt} {scope : Scope} {N : List Str} {dvs : List V} {kws : List (Str × V)}
theorem FunD.okG {k : Nat} (F : L2.FunD K x qual params body scope dvs kws f fd) (S : FnScope N ps scope) (len : ∀ vs H Q E, sp vs H Q E → vs.length = ps.length)
    (hbody : ∀ (cdv : Value) (A : Around) (outer : List Env) (s : Shared) (H : Hp) (vs : List V) (Q : VK) (E : XK), A.guards = some [] → Room k (A.deeper (envOfC qual scope s.heap.objs.size f cdv)) → sp vs H Q E →
      ∃ t, PSs (cxOf C P w K mg base N qual scope f cdv A outer s H E) body t ∧ t { nx := fun _ H' => Q .non H', rt := Q } (start N vs) H) : FnOk P w K mg base C (k + 1) f fd ps sp := by
  obtain ⟨oc, od, dV, kV, doc, pm, an, cdv, ct, osl, rfl, lk, hcd, _, _⟩ := F.ex
  refine ⟨len, fun A outer s H args us vs Q E hgd hr e0 hb r hsp => ?_⟩
  have keep : ∀ b o, base.get? b = some o → s.heap.get? b = some o := fun b o e => (e0.bs b o e).1
  have KX : K.In s.heap := e0.mod.kin.keeps keep
  have cells : ∀ {n : Nat} {y : Str}, scope.names.lookup y = some .cell → ((cellsFrom n scope.names []).lookup y).isSome = true := fun q => PySem.W.cellsFrom_some _ _ _ (.inl q)
  refine codeAny_call_function hr.depth (KX _ _ lk) rfl S.co S.gen rfl (PySem.W.codeRec_of KX hcd) (hb _ _ _ _ (wpAny_newFunctionEnv_cells S.kind (fun y hy => ?_) fun env he s1 x => ?_))
  · exact (S.par y.1 (List.of_mem_zip (b := y.2) hy).1).imp id fun q => ⟨q, cells q⟩
  · subst he
    obtain ⟨t, ht, hq⟩ := hbody cdv A outer s H vs Q E hgd (hr.deeper _) hsp
    refine ⟨(e0.mod.nolimit.keeps keep).keeps x.toInCall.keep, codeAny_func (wpAny_mono (ht.run [] s1 (start N vs) H _ (inv_start S hr.hd e0 (len _ _ _ _ hsp) r x) hq) (fun fl s' hs => ?_) fun e s' hs => hs)⟩
    match fl, hs with
    | .ret u, ⟨v, σ', H', J, rv, q⟩ => exact ⟨v, H', J.os, J.bare, J.base, J.hok, rv, q⟩
    | .next, ⟨σ', H', J, q⟩ => exact ⟨.non, H', J.os, J.bare, J.base, J.hok, rfl, q⟩
    | .brk, ⟨_, _, _, q⟩ => exact q.elim
    | .cont, ⟨_, _, _, q⟩ => exact q.elim
end

/-! ### the law's own call -/
section
variable {P : Program} {w : World} {K : PySem.W.Frag} {mg mb : Str → Option Value} {C : CXT} {k : Nat} {fa a : Addr} {fd : FuncData} {x : Str} {sp : Sp} {s : Shared} {vs : List Value} {ns : List Int}
/-- from an abstract heap that holds the script alone, or nothing -/
theorem call_from {H : Hp} (KX : K.In s.heap) (hns : s.heap.Ns mainGlobals mg) (hb : s.heap.Ns builtinsNs mb) (hbb : ∀ y : Str, y ≠ "__name__" → mb y = bootBuiltins y) (hlim : s.heap.NoLimit) (hg : s.gens = #[])
    (ha : s.heap.get? a = some { cls := .type "list", data := .seq vs.toArray }) (hr : Room k callerA)
    (F : ∀ base : Heap, K.In base → base.Ns mainGlobals mg → FnOk P w K mg base C k fa fd [x] sp) (hbind : ∀ (t : Shared) (u : Value), BindsTo t fd ⟨[u], []⟩ [(x, u)])
    (hsp : sp [.ref a] H (fun v _ => v = .bl true) fun _ _ _ => False) (hC : ∀ e s', C [] H s (fun _ _ _ => False) e s' → False)
    (hO : Only H) (hok : HOk P w H s.heap) (only : ∀ b, H b ≠ none → b = a) (nK : H a ≠ none → K.lookup a = none) :
    codeAny (model P w) callerA (.call (.ref fa) ⟨[.ref a], []⟩) (fun r s' => r = .ok (.ret (.bool true)) ∧ OldK s.heap s'.heap ∧ s'.os = s.os ∧ AllBare s'.gens) s := by
  -- what is no list is not hidden
  have free : ∀ {b : Addr} {o : Obj} {es : Array DictEntry} {ep : Nat}, s.heap.get? b = some o → o.data = .dict es ep → H b = none := fun {b o es ep} e d => by
    by_cases q : H b = none
    · exact q
    · rw [only b q, ha] at e
      cases e
      exact absurd d nofun
  have ns : ∀ {b : Addr} {m : Str → Option Value}, s.heap.Ns b m → (hidT s.heap H).Ns b m := fun ⟨o, es, ep, e, d, r⟩ => ⟨o, es, ep, hidT_get e (free e d), d, r⟩
  have KB : K.In (hidT s.heap H) := fun b o e => hidT_get (KX b o e) (by
    by_cases q : H b = none
    · exact q
    · have eb := only b q
      rw [eb] at q e
      rw [nK q] at e
      cases e)
  obtain ⟨mc, l1, l2⟩ := hlim
  have e0 : Env0 P w K mg (hidT s.heap H) callerA [] s H := ⟨rfl, ⟨KB, ns hns, ⟨mb, ns hb, hbb⟩, ⟨mc, ns l1, l2⟩⟩, fun _ _ e => of_hidT e, Nat.le_of_eq (hidT_size _ _), trivial, (fun _ q => by cases q), hok, .of_eq hg⟩
  refine codeAny_mono ((F _ KB (ns hns)).run callerA [] s H ⟨[.ref a], []⟩ [.ref a] [.ref a] _ _ rfl hr e0 (hbind s (.ref a)) (.cons rfl .nil) hsp) fun r s' h => ?_
  match r, h with
  | .error e, h => exact (hC e s' h).elim
  | .ok .next, h => exact h.elim
  | .ok .brk, h => exact h.elim
  | .ok .cont, h => exact h.elim
  | .ok (.ret u), ⟨v, H', os, bare, un, hok', rv, q⟩ =>
    have qv : v = .bl true := q
    subst qv
    obtain rfl : u = Value.bool true := rv
    refine ⟨rfl, OldK.of_keep fun b o e => ?_, os, bare⟩
    rcases hO b with z | ⟨ob, xs, z⟩
    · exact un.keep b o e z (by intro z; cases z) (by simp)
    · have e1 := (hok b _ z).1
      rw [e] at e1
      cases e1
      exact (hok' b _ (un.frzs b _ _ z)).1
theorem law_callG (KX : K.In s.heap) (hns : s.heap.Ns mainGlobals mg) (hb : s.heap.Ns builtinsNs mb) (hbb : ∀ y : Str, y ≠ "__name__" → mb y = bootBuiltins y) (hlim : s.heap.NoLimit) (hg : s.gens = #[])
    (ha : s.heap.get? a = some { cls := .type "list", data := .seq vs.toArray }) (hi : IntsAre vs ns) (hl : ns.length ≤ sizeLine) (hr : Room k callerA)
    (F : ∀ base : Heap, K.In base → base.Ns mainGlobals mg → FnOk P w K mg base C k fa fd [x] sp) (hbind : ∀ (t : Shared) (u : Value), BindsTo t fd ⟨[u], []⟩ [(x, u)])
    (hsp : ∀ H : Hp, Only H → SqL K H a (ns.map V.int) → sp [.ref a] H (fun v _ => v = .bl true) fun _ _ _ => False) (hC : ∀ H e s', C [] H s (fun _ _ _ => False) e s' → False) :
    codeAny (model P w) callerA (.call (.ref fa) ⟨[.ref a], []⟩) (fun r s' => r = .ok (.ret (.bool true)) ∧ OldK s.heap s'.heap ∧ s'.os = s.os ∧ AllBare s'.gens) s := by
  have rv := vals_ints hi
  have len := hi.length
  by_cases hk : K.lookup a = none
  · -- the script is held as what it is
    have hSa : ∀ b, (if b = a then some (HO.frz { cls := .type "list", data := .seq vs.toArray } (.lst (ns.map V.int))) else none) ≠ none → b = a := fun b z => Classical.byContradiction fun q => z (if_neg q)
    have hO : Only fun b => if b = a then some (HO.frz { cls := .type "list", data := .seq vs.toArray } (.lst (ns.map V.int))) else none := fun b => by
      by_cases q : b = a
      · exact .inr ⟨_, _, if_pos q⟩
      · exact .inl (if_neg q)
    refine call_from KX hns hb hbb hlim hg ha hr F hbind (hsp _ hO (.inl (.inr ⟨_, if_pos rfl⟩))) (hC _) hO (fun b u z => ?_) hSa fun _ => hk
    by_cases q : b = a
    · subst q
      have z' := (if_pos rfl).symm.trans z
      cases z'
      exact ⟨ha, by rw [List.length_map]; exact hl, vs, _, rv, ha⟩
    · exact absurd ((if_neg q).symm.trans z) nofun
  · obtain ⟨o, ho⟩ : ∃ o, K.lookup a = some o := Option.ne_none_iff_exists'.mp hk
    have e := KX a o ho
    rw [ha] at e
    cases e
    have hO : Only (fun _ => none) := fun _ => .inl rfl
    exact call_from (H := fun _ => none) KX hns hb hbb hlim hg ha hr F hbind (hsp _ hO (.inr ⟨_, vs.toArray, _, ho, rfl, rfl, rfl, by rw [List.size_toArray, len]; exact hl, by simpa using rv⟩)) (hC _) hO (fun _ _ z => absurd z nofun) (fun _ z => absurd rfl z) fun z => absurd rfl z
end
theorem walk_ofG {l : PySem.W.OpenLaw} {n k : Nat} {q : Program} {loose : List Str} {XP : (Str → Option Value) → Heap → Prop} {YP : World → Heap → Prop} {d : DefRec} {C : CXT} {x : Str}
    (hn : l.most = some n) (hn2 : n ≤ sizeLine) (hdf : d.params.defaults = []) (hr : Room k callerA)
    (F : ∀ (w : World) (mg : Str → Option Value) (fa : Addr) (h : Heap), YP w h → h.Ns mainGlobals mg → mg d.name = some (.ref fa) →
      ∃ (K : PySem.W.Frag) (fd : FuncData) (sp : Sp), K.In h ∧ (∀ (s : Shared) (u : Value), BindsTo s fd ⟨[u], []⟩ [(x, u)]) ∧
        (∀ (H : Hp) (a : Addr) (ns : List Int), ns.length ≤ n → Only H → SqL K H a (ns.map V.int) → sp [.ref a] H (fun v _ => v = .bl true) fun _ _ _ => False) ∧
        ∀ base : Heap, K.In base → base.Ns mainGlobals mg → FnOk l.prog w K mg base C k fa fd [x] sp)
    (hC : ∀ (H : Hp) (s : Shared) (e : Value) (s' : Shared), C [] H s (fun _ _ _ => False) e s' → False) :
    PySem.W.WalkO q loose XP YP l.row.toRowW d [] (fun f vs => PySem.call f vs) :=
  Att.attach_call hn hdf fun w s₀ s₁ mg mb fa o pm cd doc a vs ns G Y ho hd hcd hmg hobj hints hlen hg =>
    let ⟨_, _, _, KX, hb, hsp, hF⟩ := F w mg fa _ Y G.T.g hmg
    law_callG KX G.T.g G.T.b G.T.builtins G.T.nolimit hg hobj hints (Nat.le_trans hlen hn2) hr hF hb (fun H hO hS => hsp H a ns hlen hO hS) fun H e s' => hC H s₁ e s'
end MS

set_option Elab.async false
set_option linter.all false
set_option maxRecDepth 100000
set_option maxHeartbeats 4000000
/-! MS5: subscripts, slices, fields, calls. -/
namespace MS
open PySem PySem.Spec PyProof.Rows L2 MI

section
variable {K : PySem.W.Frag} {cl : Nat → Addr} {E : EX}
/-! ### a[i] -/
theorem ixN_same (n : Nat) (i : Int) : MI.ixN n i = L2.ixN n i := rfl
theorem atI_of {ρ : List Addr} {H : Hp} {vs : List V} {ds : List D} (r : RvL K H ρ vs ds) {i : Int} {d : D} (h : ((MI.ixN ds.length i).bind fun k => ds[k]?) = some d) : ∃ v, atI vs i = some v ∧ Rv K H ρ v d := by
  rw [Option.bind_eq_some_iff] at h
  obtain ⟨k, h1, h2⟩ := h
  obtain ⟨v, q1, q2⟩ := r.get h2
  refine ⟨v, ?_, q2⟩
  unfold atI
  rw [r.length, ← ixN_same, h1]
  exact q1
def rIxA (K : PySem.W.Frag) : R2 := fun x y H Q => (rIxL K x y H Q ∨ rIxT K x y H Q) ∨ rIxS x y H Q
theorem ix_all {X : Cx} : IxR X (rIxA X.K) := IxR.or (IxR.or ix_list ix_tup) ix_str
theorem s_ix : OpS K cl E opIx (rIxA K) := by
  intro σ Q ρ H st v1 v2 d1 d2 A r1 r2 h
  cases r2 with
  | int i =>
    cases r1 with
    | @tup a vs l hs r =>
      cases q : (MI.ixN l.length i).bind fun k => l[k]? with
      | none => exact h.none (by simp [opIx, q])
      | some d =>
        obtain ⟨v, q1, q2⟩ := atI_of r q
        exact .inl (.inr ⟨a, vs, i, v, rfl, rfl, hs, q1, h.ok (st' := st) (d := d) (by simp [opIx, q]) .refl A q2⟩)
    | @xtup a vs l hs r =>
      cases q : (MI.ixN l.length i).bind fun k => l[k]? with
      | none => exact h.none (by simp [opIx, q])
      | some d =>
        obtain ⟨v, q1, q2⟩ := atI_of r q
        exact .inl (.inr ⟨a, vs, i, v, rfl, rfl, hs.seq, q1, h.ok (st' := st) (d := d) (by simp [opIx, q]) .refl A q2⟩)
    | @frz a vs l hs r =>
      cases q : (MI.ixN l.length i).bind fun k => l[k]? with
      | none => exact h.none (by simp [opIx, q])
      | some d =>
        obtain ⟨v, q1, q2⟩ := atI_of r q
        exact .inl (.inl ⟨a, vs, i, v, rfl, rfl, hs.seq, q1, h.ok (st' := st) (d := d) (by simp [opIx, q]) .refl A q2⟩)
    | @loc a n ha =>
      cases e1 : st[n]? with
      | none => exact h.none (by simp [opIx, e1])
      | some o =>
        have q1 := A.get ha e1
        cases q1 with
        | @lst vs l h1 r =>
          cases q : (MI.ixN l.length i).bind fun k => l[k]? with
          | none => exact h.none (by simp [opIx, e1, q])
          | some d =>
            obtain ⟨v, q1, q2⟩ := atI_of r q
            exact .inl (.inl ⟨a, vs, i, v, rfl, rfl, SqL.of h1, q1, h.ok (st' := st) (d := d) (by simp [opIx, e1, q]) .refl A q2⟩)
        | _ => exact h.none (by simp [opIx, e1])
    | str s =>
      cases q : (MI.ixN s.length i).bind fun k => s[k]? with
      | none => exact h.none (by simp [opIx, q])
      | some ch =>
        by_cases hl : s.length < lim
        · refine .inr ⟨sD s, i, ch, rfl, rfl, by rw [sD_len]; exact lim_size hl, ?_, h.ok (st' := st) (d := .str [ch]) (by simp [opIx, q, hl]) .refl A (.str _)⟩
          unfold atI
          have q' := q
          rw [ixN_same] at q'
          simpa using q'
        · exact h.none (by simp [opIx, q, hl])
    | _ => exact h.none rfl
  | _ => cases r1 <;> exact h.none rfl
end
section
variable {X : Cx} {cl : Nat → Addr} {E : EX} {c : MI.Ctx} {a b e : Expr} {ga gb : SE} {pos : Pos}
theorem me_ix (ha : ME X cl E c a ga) (hb : ME X cl E c b gb) (hs : PlainIx b) : ME X cl E c (.Subscript a b pos) (eBin opIx ga gb) := peI (pe_ix ix_all ha hb hs) fun _ _ _ h => tm_op s_ix h

/-! ### a[lo:hi] -/
abbrev MO (X : Cx) (cl : Nat → Addr) (E : EX) (c : MI.Ctx) (e : Option Expr) (g : SO) : Prop := PO X e (TM X.K cl E rO (g c))
theorem poI {e : Option Expr} {t t' : TO} (h : PO X e t) (i : ∀ σ H Q, t' σ H Q → t σ H Q) : PO X e t' := ⟨fun pins s σ H Q I q => h.run pins s σ H Q I (i σ H Q q)⟩
theorem mo_none : MO X cl E c none oNone := poI po_none fun σ H Q h => by
  obtain ⟨ρ, env, st, A, e, h⟩ := h
  exact h.ok (st' := st) rfl .refl A rfl
theorem mo_some (h : ME X cl E c e ga) : MO X cl E c (some e) (oSome ga) := poI (po_some h) fun σ H Q h => by
  obtain ⟨ρ, env, st, A, e, h⟩ := h
  refine (Rest.step (g := ga c) (rV X.K) A e h).imp fun v1 H1 ⟨ρ1, st1, d1, g1, A1, r1, h1⟩ => ?_
  cases r1 with
  | int i =>
    by_cases hi : -lim < i ∧ i < lim
    · exact ⟨i, rfl, h1.ok (st' := st1) (d := some i) (by show (if -(lim : Int) < i ∧ i < lim then MI.ret (some i) else MI.fail) st1 = _; rw [if_pos hi]; rfl) .refl A1 rfl⟩
    · exact h1.none (by show (if -(lim : Int) < i ∧ i < lim then MI.ret (some i) else MI.fail) st1 = none; rw [if_neg hi]; rfl)
  | _ => exact h1.none rfl
theorem cut_same {α : Type} (l : List α) (lo hi : Option Int) : cut l lo hi = (l.drop (HT.sIx l.length 0 lo)).take (HT.sIx l.length l.length hi - HT.sIx l.length 0 lo) := by
  have e : ∀ (d : Nat) (o : Option Int), (o.map (clampI l.length)).getD d = HT.sIx l.length d o := fun d o => by cases o <;> rfl
  unfold cut
  rw [e, e, List.drop_take]
def rSlAll (K : PySem.W.Frag) : V → Option Int → Option Int → Hp → VK → Prop := fun x lo hi H Q => (rSlA K x lo hi H Q ∨ rSlL K x lo hi H Q) ∨ rSlS x lo hi H Q
theorem sl_all : SlR X (rSlAll X.K) := SlR.or (SlR.or sl_tupA sl_list) sl_str
theorem cut_rv {K : PySem.W.Frag} {ρ : List Addr} {H : Hp} {vs : List V} {ds : List D} (r : RvL K H ρ vs ds) (lo hi : Option Int) : RvL K H ρ (cutV vs lo hi) (cut ds lo hi) := by
  rw [cut_same]
  unfold cutV
  rw [r.length]
  exact (r.drop _).take _
theorem s_slc {K : PySem.W.Frag} {σ : L2.St} {Q : VK} {ρ : List Addr} {H : Hp} {st : Stt} {v1 : V} {d1 : D} {lo hi : Option Int} (A : At K cl ρ H st) (r1 : Rv K H ρ v1 d1) (h : Rest K cl E (rV K) σ Q (opSlc d1 lo hi) ρ H st) : rSlAll K v1 lo hi H (fz Q) := by
  cases r1 with
  | @tup a vs l hs r =>
    have e : opSlc (.tup l) lo hi st = some (.ok (.tup (cut l lo hi)), st) := rfl
    refine .inl (.inl ⟨a, vs, rfl, hs, fun q => .inl ?_, fun _ p n => .inl (rest_tup A (cut_rv r lo hi) h e p n)⟩)
    refine h.ok e .refl A ?_
    have : cut l lo hi = l := by
      rw [cut_same, ← r.length, q.1, q.2]
      simp [r.length]
    rw [this]; exact .tup hs r
  | @frz a vs l hs r =>
    exact .inl (.inr ⟨a, vs, rfl, hs.seq, fun p n => rest_frz A (cut_rv r lo hi) h rfl p n⟩)
  | @loc a n ha =>
    cases e1 : st[n]? with
    | none => exact h.none (by simp [opSlc, e1])
    | some o =>
      have q1 := A.get ha e1
      cases q1 with
      | @lst vs l h1 r => exact .inl (.inr ⟨a, vs, rfl, SqL.of h1, fun p n => rest_frz A (cut_rv r lo hi) h (by simp [opSlc, e1]) p n⟩)
      | _ => exact h.none (by simp [opSlc, e1])
  | str s =>
    by_cases hl : s.length < lim
    · refine .inr ⟨sD s, rfl, by rw [sD_len]; exact lim_size hl, ?_⟩
      have e : cutS (sD s) lo hi = sD (cut s lo hi) := by
        unfold cutS
        rw [cut_same, sD_len]
      rw [e]
      exact .inl <| h.ok (st' := st) (d := .str (cut s lo hi)) (by simp [opSlc, hl]) .refl A (.str _)
    · exact h.none (by simp [opSlc, hl])
  | _ => exact h.none rfl
theorem me_slc {lo hi : Option Expr} {gl gh : SO} {p2 : Pos} (ha : ME X cl E c a ga) (hl : MO X cl E c lo gl) (hh : MO X cl E c hi gh) : ME X cl E c (.Subscript a (.Slice lo hi none p2) pos) (eSlc ga gl gh) :=
  peI (pe_fz (pe_slice sl_all ha hl hh)) fun σ H Q h => by
    obtain ⟨ρ, env, st, A, e, h⟩ := h
    refine (Rest.step (g := ga c) (rV X.K) A e h).imp fun v1 H1 ⟨ρ1, st1, d1, g1, A1, r1, h1⟩ => ?_
    refine (Rest.step (g := gl c) rO A1 (e.grow A g1) h1).imp fun v2 H2 ⟨ρ2, st2, d2, g2, A2, r2, h2⟩ => ?_
    refine (Rest.step (g := gh c) rO A2 ((e.grow A g1).grow A1 g2) h2).imp fun v3 H3 ⟨ρ3, st3, d3, g3, A3, r3, h3⟩ => ?_
    have e2 : v2 = d2 := r2
    have e3 : v3 = d3 := r3
    subst e2 e3
    exact s_slc A3 (r1.grow A1 (g2.trans g3)) h3
/-- a[lo:hi:2], lo and hi written -/
theorem me_slc2 {lo hi : Option Expr} {l h' : Option Int} {p2 p3 : Pos} {j : Nat} (ha : ME X cl E c a ga) (hl : MO X cl E c lo (fun _ _ => MI.ret l)) (hh : MO X cl E c hi (fun _ _ => MI.ret h')) : ME X cl E c (.Subscript a (.Slice lo hi (some (.Constant (.int 2) j p3)) p2) pos) (eSlc2 ga l h') :=
  peI (pe_slice2 ha hl hh) fun σ H Q h => by
    obtain ⟨ρ, env, st, A, e, h⟩ := h
    refine (Rest.step (g := ga c) (rV X.K) A e h).imp fun v1 H1 ⟨ρ1, st1, d1, g1, A1, r1, h1⟩ => ?_
    refine ⟨ρ1, env, st1, A1, e.grow A g1, .inl ⟨l, st1, rfl, fun ρ2 H2 v2 g2 A2 r2 => ?_⟩⟩
    refine ⟨ρ2, env, st1, A2, (e.grow A g1).grow A1 g2, .inl ⟨h', st1, rfl, fun ρ3 H3 v3 g3 A3 r3 => ?_⟩⟩
    have e2 : v2 = l := r2
    have e3 : v3 = h' := r3
    subst e2 e3
    have A' := g2.trans g3
    cases r1 with
    | @tup a' vs ds hs r =>
      have r' : Rv X.K H3 ρ3 (.ref a') (.tup ds) := (Rv.tup hs r).grow A1 A'
      cases r' with
      | tup hs' rr =>
        have ev : ∀ {vs : List V} {ds : List D} {H : Hp} {ρ : List Addr}, RvL X.K H ρ vs ds → RvL X.K H ρ (everyOther vs) (everyOther ds) := by
          intro vs ds H ρ r
          suffices ∀ (n : Nat) (vs : List V) (ds : List D), vs.length ≤ n → RvL X.K H ρ vs ds → RvL X.K H ρ (everyOther vs) (everyOther ds) from this _ _ _ (Nat.le_refl _) r
          intro n
          induction n with
          | zero => intro vs ds hn r; cases r with
            | nil => exact .nil
            | cons _ _ => simp at hn
          | succ n ih =>
            intro vs ds hn r
            cases r with
            | nil => exact .nil
            | cons r1 r2 => cases r2 with
              | nil => exact .cons r1 .nil
              | cons r3 r4 => exact .cons r1 (ih _ _ (by simp only [List.length_cons] at hn; omega) r4)
        exact ⟨a', _, rfl, hs', fun p n => rest_tup (m := fun _ => some (.ok (.tup (everyOther (cut ds v2 v3))), st1)) A3 (ev (cut_rv rr v2 v3)) ((h1.eq rfl).base A') rfl p n⟩
    | _ => exact h1.none rfl
theorem mo_lit {i : Int} {j : Nat} (p : Pos) : MO X cl E c (some (.Constant (.int i) j p)) (fun _ _ => MI.ret (some i)) := poI (po_some pe_int) fun σ H Q h => by
  obtain ⟨ρ, env, st, A, e, h⟩ := h
  exact ⟨i, rfl, h.ok (st' := st) rfl .refl A rfl⟩
theorem mo_neg {i : Int} {j : Nat} (p p' : Pos) : MO X cl E c (some (.UnaryOp .USub (.Constant (.int i) j p) p')) (fun _ _ => MI.ret (some (-i))) := poI (po_some (pe_un un_neg pe_int)) fun σ H Q h => by
  obtain ⟨ρ, env, st, A, e, h⟩ := h
  exact ⟨i, rfl, -i, rfl, h.ok (st' := st) rfl .refl A rfl⟩
theorem mo_omit : MO X cl E c none (fun _ _ => MI.ret none) := mo_none

/-! ### o.f -/
theorem me_fld {f : Str} (g : List Nat) (ha : ME X cl E c e ga) (hf : f = sD g := by decide +kernel) (hb : attributeBase e f X.env (eval e X.env) = eval e X.env := by rfl) : ME X cl E c (.Attribute e f pos) (eFld ga g) :=
  peI (pe_fld ha hb) fun σ H Q h => by
    subst hf
    obtain ⟨ρ, env, st, A, e, h⟩ := h
    refine (Rest.step (g := ga c) (rV X.K) A e h).imp fun v1 H1 ⟨ρ1, st1, d1, g1, A1, r1, h1⟩ => ?_
    cases r1 with
    | @loc a n ha =>
      cases e1 : st1[n]? with
      | none => exact h1.none (by simp [opFld, e1])
      | some o =>
        have q1 := A1.get ha e1
        cases q1 with
        | @ins dx k vfs fs h2 r hc hn =>
          rcases r.look (f := g) with ⟨q, _⟩ | ⟨d, v, q2, q3, q4⟩
          · exact h1.none (by simp [opFld, e1, q])
          · have hm : ∃ p ∈ fs, p.1 = g := by
              unfold MI.getD at q2
              obtain ⟨p, hp, _⟩ := Option.map_eq_some_iff.mp q2
              exact ⟨p, List.mem_of_find?_eq_some hp, by simpa using List.find?_some hp⟩
            obtain ⟨p, hp, hpg⟩ := hm
            have hno : NoAttr X.K (cl k) (sD g) := by rw [← hpg]; exact hn p hp
            exact ⟨a, cl k, dx, vfs, v, rfl, h2, hc, hno, q3, h1.ok (st' := st1) (d := d) (by simp [opFld, e1, q2]) .refl A1 q4⟩
        | _ => exact h1.none (by simp [opFld, e1])
    | _ => exact h1.none rfl
end

/-! ### exceptions: a wish of the layer's, as a wish of ours -/
def XD (K : PySem.W.Frag) (d : Option Addr) (H : Hp) (ρ : List Addr) (fs : List (List Nat × D)) : Prop := match d with
  | none => fs = []
  | some dx => ∃ vfs, H dx = some (.xd vfs) ∧ RvF K H ρ vfs fs
def EXW (K : PySem.W.Frag) (cl : Nat → Addr) (W : WX) : EX := fun k fs σ ρ H _ => ∀ d, XD K d H ρ fs → W (.ref (cl k)) d σ H
def EXK (K : PySem.W.Frag) (cl : Nat → Addr) (E : XK) : EX := fun k fs _ ρ H _ => ∀ d, XD K d H ρ fs → E (.ref (cl k)) d H

/-! ### what a def promises: it does what g does -/
def spOf (K : PySem.W.Frag) (cl : Nat → Addr) (n : Nat) (g : List D → MI.R D) : Sp := fun vs H Q E => vs.length = n ∧ ∃ ρ ds st, At K cl ρ H st ∧ RvL K H ρ vs ds ∧ Rest K cl (EXK K cl E) (rV K) [] Q (g ds) ρ H st
/-- the def at f does what g does -/
def FnT (P : Program) (w : World) (K : PySem.W.Frag) (mg : Str → Option Value) (base : Heap) (cl : Nat → Addr) (lv : Nat) (f : Addr) (g : List D → MI.R D) : Prop :=
  ∃ (fd : FuncData) (ps : List Str), FnOk P w K mg base (L2.CX P w) lv f fd ps (spOf K cl ps.length g) ∧ Binds K fd ps [] ∧ PySem.W.keepIn K (.ref f) = true ∧ ∀ ds st r, g ds st = some r → ds.length = ps.length
theorem FnT.sp {K : PySem.W.Frag} {cl : Nat → Addr} {n : Nat} {g : List D → MI.R D} {σ : L2.St} {Q : VK} {W : WX} {ρ : List Addr} {H : Hp} {st : Stt} {vs : List V} {ds : List D}
    (ar : ∀ ds st r, g ds st = some r → ds.length = n) (A : At K cl ρ H st) (r : RvL K H ρ vs ds) (h : Rest K cl (EXW K cl W) (rV K) σ Q (g ds) ρ H st) : spOf K cl n g vs H Q (WE W σ) := by
  refine ⟨?_, ρ, ds, st, A, r, ?_⟩
  · rw [r.length]
    rcases h with ⟨d, st', e, _⟩ | ⟨k, fs, st', e, _⟩
    · exact ar _ _ _ e
    · exact ar _ _ _ e
  · rcases h with h | ⟨k, fs, st', e, h⟩
    · exact .inl h
    · exact .inr ⟨k, fs, st', e, h⟩
/-- the surroundings of a def's body -/
structure Good (X : Cx) (W : WX) (cl : Nat → Addr) (c : MI.Ctx) (lv : Nat) : Prop where
  tk : Takes X W
  room : Room (lv + 1) X.A
  calm : X.calm = true
  gd : X.A.guards = some []
  nd : X.N.Nodup
  flds : ∀ k f, c.flds k f = true → NoAttr X.K (cl k) (sD f) ∧ Cls X.K (cl k)
  meth : ∀ k m f, c.meth k m = some f → ∃ fA, Meth X.K (cl k) (sD m) fA ∧ FnT X.prog X.w X.K X.mg X.base cl lv fA (c.call f)
theorem Good.hu {X : Cx} {W : WX} {cl : Nat → Addr} {c : MI.Ctx} {lv : Nat} (G : Good X W cl c lv) : X.A.units + 65 < cLine := by
  have := G.room.un
  omega
end MS

set_option Elab.async false
set_option linter.all false
set_option maxRecDepth 100000
set_option maxHeartbeats 4000000
/-! MS6: calls of defs, methods, classes. -/
namespace MS
open PySem PySem.Spec PyProof.Rows L2 MI

section
variable {X : Cx} {W : WX} {cl : Nat → Addr} {c : MI.Ctx} {lv : Nat} {x m : Str} {p pos apos : Pos} {e o : Expr} {es : List Expr} {gl : SL} {ga : SE}
/-- f is the def that the module's x names -/
def FnG (X : Cx) (cl : Nat → Addr) (c : MI.Ctx) (lv : Nat) (x : Str) (f : Nat) : Prop := ∃ fA, X.mg x = some (.ref fA) ∧ FnT X.prog X.w X.K X.mg X.base cl lv fA (c.call f)
theorem me_call {f : Nat} (G : Good X W cl c lv) (F : FnG X cl c lv x f) (hg : Gl X x) (ha : MA X cl (EXW X.K cl W) c (e :: es) gl) (hdb : (x == ("__debug__" : Str)) = false := by decide +kernel)
    (he : starEach (e :: es) X.env = (false, eval e X.env) :: starEach es X.env := by rfl) (hpl : (backTo pos (starEach es X.env)).any (·.1) = false := by rfl) :
    ME X cl (EXW X.K cl W) c (.Call (.Name x p) (e :: es) [] pos) (eCall f gl) := by
  obtain ⟨fA, hm, fd, ps, F, hb, hk, ar⟩ := F
  refine peI (pe_callS G.gd F (G.room.mono (Nat.le_succ _)) hg hm hk hb (fun σ => passAt G.tk σ) ha hdb he hpl) fun σ H Q h => ?_
  obtain ⟨ρ, env, st, A, e, h⟩ := h
  exact (Rest.step (g := gl c) (rL X.K) A e h).imp fun vs H1 ⟨ρ1, st1, ds, g1, A1, r1, h1⟩ => FnT.sp ar A1 r1 h1
theorem me_call0 {f : Nat} (G : Good X W cl c lv) (F : FnG X cl c lv x f) (hg : Gl X x) (hdb : (x == ("__debug__" : Str)) = false := by decide +kernel) :
    ME X cl (EXW X.K cl W) c (.Call (.Name x p) [] [] pos) (eCall f lNil) := by
  obtain ⟨fA, hm, fd, ps, F, hb, hk, ar⟩ := F
  refine ⟨fun pins s σ H Q I h => ?_⟩
  refine wpAny_Call_Name_kw (ld_glob I hg hm ?_ hdb)
  refine PySem.W.callWith_K0 I.kIn hk (run_fnS G.gd (us := []) (vs := []) (E := WE W) F (G.room.mono (Nat.le_succ _)) hb (passAt G.tk σ) I .nil ?_)
  obtain ⟨ρ, env, st, A, e, h⟩ := h
  exact FnT.sp ar A .nil (h.eq rfl)

/-- o.m(..), the class found at the call -/
def tMethD (X : Cx) (W : WX) (m : Str) (ta : TE) (t : TA) : TE := fun σ H Q => ta σ H fun x H1 => ∃ a C dx fs f fd ps sp k, x = .ref a ∧ H1 a = some (.ins C dx fs) ∧ Cls X.K C ∧ Meth X.K C m f ∧ fs.lookup m = none ∧
  FnOk X.prog X.w X.K X.mg X.base (L2.CX X.prog X.w) k f fd ps sp ∧ Room k X.A ∧ Binds X.K fd ps [] ∧ t σ H1 fun vs H2 => sp (x :: vs) H2 Q (WE W σ)
theorem pe_methD {pl : Sem Bool} {ta : TE} {t : TA} (gd : X.A.guards = some []) (tk : Takes X W) (he : PE X o ta) (ha : PA X (e :: es) t)
    (hst : starEach (e :: es) X.env = (false, eval e X.env) :: starEach es X.env := by rfl) (hpl : (backTo pos (starEach es X.env)).any (·.1) = false := by rfl)
    (ht : eval (.Call (.Attribute o m apos) (e :: es) [] pos) X.env = (do
      let ov ← eval o X.env
      standAt apos.atName
      let (f, first) ← holding [ov] (getMethod ov m pl)
      callWith pos f first (backTo pos (starEach (e :: es) X.env)) (backToKw pos (keywordEach [] X.env))) := by rfl) :
    PE X (.Call (.Attribute o m apos) (e :: es) [] pos) (tMethD X W m ta t) := by
  refine ⟨fun pins s σ H Q I h => ?_⟩
  refine PySem.W.methodCall_KW (pl := pl) (thn (he.run pins s σ H _ I h) fun u s1 ⟨x, H1, I1, rx, a, C, dx, fs, f, fd, ps, sp, k, ex, ea, c, hm, l, F, hr, hb, q⟩ => ?_) ht
  subst ex
  obtain rfl : u = Value.ref a := rx
  refine getmeth_ok I1 ea c hm l ?_
  refine PySem.W.callWith_K (first := [.ref a]) (h₀ := X.base) I.ok.mod.kin hm.kp (thn (ha.run pos pins s1 σ H1 _ I1 q) fun us s2 ⟨vs, H2, I2, r, q2⟩ => ⟨I2.kIn, ?_⟩) hst hpl
  exact run_fnS gd (us := .ref a :: us) (vs := .ref a :: vs) F hr hb (passAt tk σ) I2 (.cons rfl r) q2
theorem pe_methD0 {pl : Sem Bool} {ta : TE} (gd : X.A.guards = some []) (tk : Takes X W) (he : PE X o ta)
    (ht : eval (.Call (.Attribute o m apos) [] [] pos) X.env = (do
      let ov ← eval o X.env
      standAt apos.atName
      let (f, first) ← holding [ov] (getMethod ov m pl)
      callWith pos f first (backTo pos (starEach [] X.env)) (backToKw pos (keywordEach [] X.env))) := by rfl) :
    PE X (.Call (.Attribute o m apos) [] [] pos) (tMethD X W m ta tNil) := by
  refine ⟨fun pins s σ H Q I h => ?_⟩
  refine PySem.W.methodCall_KW (pl := pl) (thn (he.run pins s σ H _ I h) fun u s1 ⟨x, H1, I1, rx, a, C, dx, fs, f, fd, ps, sp, k, ex, ea, c, hm, l, F, hr, hb, q⟩ => ?_) ht
  subst ex
  obtain rfl : u = Value.ref a := rx
  refine getmeth_ok I1 ea c hm l ?_
  exact PySem.W.callWith_K0 (first := [.ref a]) I1.kIn hm.kp (run_fnS gd (us := [.ref a]) (vs := [.ref a]) F hr hb (passAt tk σ) I1 (.cons rfl .nil) q)
theorem tm_meth (G : Good X W cl c lv) (n : List Nat) {σ : L2.St} {H : Hp} {Q : VK} (h : TM X.K cl (EXW X.K cl W) (rV X.K) (eMeth ga n gl c) σ H Q) :
    tMethD X W (sD n) (TM X.K cl (EXW X.K cl W) (rV X.K) (ga c)) (TM X.K cl (EXW X.K cl W) (rL X.K) (gl c)) σ H Q := by
  obtain ⟨ρ, env, st, A, e, h⟩ := h
  refine (Rest.step (g := ga c) (rV X.K) A e h).imp fun v1 H1 ⟨ρ1, st1, d1, g1, A1, r1, h1⟩ => ?_
  have bad : opRes c n d1 st1 = none → ∀ {P : Prop}, P := fun q => h1.none (bnd_none q)
  cases r1 with
  | @loc a i ha =>
    cases e1 : st1[i]? with
    | none => exact bad (by simp [opRes, e1])
    | some ob =>
      have q1 := A1.get ha e1
      cases q1 with
      | @ins dx k vfs fs h2 r hc hn =>
        cases q : c.meth k n with
        | none => exact bad (by simp [opRes, e1, q])
        | some f =>
          rcases r.look (f := n) with ⟨q0, l0⟩ | ⟨d, v, q2, _⟩
          · obtain ⟨fA, hM, fd, ps, F, hb, hk, ar⟩ := G.meth k n f q
            refine ⟨a, cl k, dx, vfs, fA, fd, ps, _, lv, rfl, h2, hc, hM, l0, F, G.room.mono (Nat.le_succ _), hb, ?_⟩
            have e2 : opRes c n (.loc i) st1 = some (.ok f, st1) := by simp [opRes, e1, q, q0]
            have h1' : Rest X.K cl (EXW X.K cl W) (rV X.K) σ Q (bnd (gl c env) fun xs => c.call f (.loc i :: xs)) ρ1 H1 st1 := h1.eq (bnd_inv e2)
            refine (Rest.step (g := gl c) (rL X.K) A1 (e.grow A g1) h1').imp fun vs H2 ⟨ρ2, st2, ds, g2, A2, r2, h3⟩ => ?_
            exact FnT.sp ar A2 (.cons ((Rv.loc ha).grow A1 g2) r2) h3
          · exact bad (by simp [opRes, e1, q, q2])
      | _ => exact bad (by simp [opRes, e1])
  | _ => exact bad rfl
theorem me_meth {pl : Sem Bool} (G : Good X W cl c lv) (n : List Nat) (hn : m = sD n) (ho : ME X cl (EXW X.K cl W) c o ga) (ha : MA X cl (EXW X.K cl W) c (e :: es) gl)
    (hst : starEach (e :: es) X.env = (false, eval e X.env) :: starEach es X.env := by rfl) (hpl : (backTo pos (starEach es X.env)).any (·.1) = false := by rfl)
    (ht : eval (.Call (.Attribute o m apos) (e :: es) [] pos) X.env = (do
      let ov ← eval o X.env
      standAt apos.atName
      let (f, first) ← holding [ov] (getMethod ov m pl)
      callWith pos f first (backTo pos (starEach (e :: es) X.env)) (backToKw pos (keywordEach [] X.env))) := by rfl) :
    ME X cl (EXW X.K cl W) c (.Call (.Attribute o m apos) (e :: es) [] pos) (eMeth ga n gl) :=
  peI (pe_methD G.gd G.tk ho ha hst hpl ht) fun _ _ _ h => by subst hn; exact tm_meth G n h
theorem me_meth0 {pl : Sem Bool} (G : Good X W cl c lv) (n : List Nat) (hn : m = sD n) (ho : ME X cl (EXW X.K cl W) c o ga)
    (ht : eval (.Call (.Attribute o m apos) [] [] pos) X.env = (do
      let ov ← eval o X.env
      standAt apos.atName
      let (f, first) ← holding [ov] (getMethod ov m pl)
      callWith pos f first (backTo pos (starEach [] X.env)) (backToKw pos (keywordEach [] X.env))) := by rfl) :
    ME X cl (EXW X.K cl W) c (.Call (.Attribute o m apos) [] [] pos) (eMeth ga n lNil) :=
  peI (pe_methD0 G.gd G.tk ho ht) fun σ H Q h => by
    subst hn
    refine (tm_meth G n h).imp fun v1 H1 q => ?_
    obtain ⟨a, C, dx, fs, f, fd, ps, sp, k, q1, q2, q3, q4, q5, q6, q7, q8, ρ, env, st, A, e, q9⟩ := q
    exact ⟨a, C, dx, fs, f, fd, ps, sp, k, q1, q2, q3, q4, q5, q6, q7, q8, q9.ok (st' := st) rfl .refl A .nil⟩

/-! ### C(..) -/
theorem make_guards {A : Around} {C : Addr} {us : List Value} {kw : List (Str × Value)} (h : A.guards = some []) : (A.under (.builtin "type.__call__" ⟨.ref C :: us, kw⟩)).guards = some [] := by
  simp [Around.under, Code.guards, Code.isGuard, guardIds, pushGuards, h]
theorem run_makeS {k : Nat} {C f : Addr} {fd : FuncData} {ps : List Str} {sp : Sp} {pins : List (Addr × Obj)} {σ : L2.St} {H : Hp} {s : Shared} {Q : VK} {us : List Value} {vs : List V} (gd : X.A.guards = some []) (tk : Takes X W) (M : Mk X.K C f) (F : FnOk X.prog X.w X.K X.mg X.base (L2.CX X.prog X.w) k f fd ps sp) (hr : Room (k + 1) X.A) (hb : Binds X.K fd ps [])
    (I : Inv X pins σ H s) (r : Vals vs us)
    (h : ∀ x dx, H x = none → H dx = none → dx ≠ x → sp (.ref x :: vs) (upd (upd H dx (.own x)) x (.ins C dx [])) (fun v H2 => v = .non ∧ Q (.ref x) H2) (WE W σ)) :
    wpAny (model X.prog X.w) X.A (call (.ref C) us) (EP X pins σ Q) X.xe s := by
  have hq := h (s.heap.objs.size + 1) s.heap.objs.size (I.hok.fresh (Nat.le_succ _)) (I.hok.fresh (Nat.le_refl _)) (Nat.ne_of_lt (Nat.lt_succ_self _))
  have I2 := Inv.made (C := C) I
  have r2 : Vals (V.ref (s.heap.objs.size + 1) :: vs) (Value.ref (s.heap.objs.size + 1) :: us) := .cons rfl r
  have hl : (Value.ref (s.heap.objs.size + 1) :: us).length = ps.length := by
    have e := r2.length
    rw [F.len _ _ _ _ hq] at e
    exact e.symm
  have b := hb _ (Value.ref (s.heap.objs.size + 1) :: us) I2.kIn (by rw [List.append_nil]; exact hl)
  rw [List.append_nil] at b
  refine wpAny_call (make_map (f := f) I.kIn M.makes M.init (beq_iff_eq.mp M.fn) (codeAny_mono (F.run _ X.stack _ _ ⟨Value.ref (s.heap.objs.size + 1) :: us, []⟩ (Value.ref (s.heap.objs.size + 1) :: us) _ _ (WE W σ) (make_guards gd) (hr.make C us [])
    (I2.env0.make C us []) b r2 hq) fun r s' hq' => ?_))
  cases r with
  | error e => exact passAt tk σ pins _ _ e s' I2 hq'
  | ok fl =>
    cases fl with
    | ret u =>
      obtain ⟨v, H', I3, rv, ev, q3⟩ := I2.after hq'
      subst ev
      exact ⟨rv, ⟨V.ref (s.heap.objs.size + 1), H', I3, rfl, q3⟩⟩
    | next => exact False.elim hq'
    | brk => exact False.elim hq'
    | cont => exact False.elim hq'
/-- the module's x is the class number k, whose __init__ is the def f -/
def ClG (X : Cx) (cl : Nat → Addr) (c : MI.Ctx) (lv : Nat) (x : Str) (k f : Nat) : Prop := X.mg x = some (.ref (cl k)) ∧ Cls X.K (cl k) ∧ ∃ fA, Mk X.K (cl k) fA ∧ FnT X.prog X.w X.K X.mg X.base cl lv fA (c.call f)
theorem me_make {k f : Nat} (G : Good X W cl c lv) (F : ClG X cl c lv x k f) (hg : Gl X x) (ha : MA X cl (EXW X.K cl W) c (e :: es) gl) (hdb : (x == ("__debug__" : Str)) = false := by decide +kernel)
    (he : starEach (e :: es) X.env = (false, eval e X.env) :: starEach es X.env := by rfl) (hpl : (backTo pos (starEach es X.env)).any (·.1) = false := by rfl) :
    ME X cl (EXW X.K cl W) c (.Call (.Name x p) (e :: es) [] pos) (eMake k f gl) := by
  obtain ⟨hm, hC, fA, M, fd, ps, F, hb, hk, ar⟩ := F
  refine ⟨fun pins s σ H Q I h => ?_⟩
  obtain ⟨ρ, env, st, A, e', h⟩ := h
  refine wpAny_Call_Name_kw (ld_glob I hg hm ?_ hdb)
  refine PySem.W.callWith_K (h₀ := X.base) I.ok.mod.kin M.kp (thn (ha.run pos pins s σ H _ I (Rest.step (g := gl c) (rL X.K) A e' h)) fun us s1 ⟨vs, H1, I1, r, q⟩ => ⟨I1.kIn, ?_⟩) he hpl
  obtain ⟨ρ1, st1, ds, g1, A1, r1, h1⟩ := q
  refine run_makeS G.gd G.tk M F G.room hb I1 r fun x dx nx ndx nex => ?_
  obtain ⟨A2, g2⟩ := A1.side (o := .own x) ndx
  have nx2 : upd H1 dx (.own x) x = none := by rw [upd_ne (fun q => nex q.symm)]; exact nx
  obtain ⟨A3, g3⟩ := A2.push (o := .ins (cl k) dx []) (ob := .ins k []) nx2 (.ins upd_same .nil hC (fun p hp => by cases hp))
  have g23 := g2.trans g3
  have r3 : RvL X.K (upd (upd H1 dx (.own x)) x (.ins (cl k) dx [])) (ρ1 ++ [x]) (.ref x :: vs) (.loc st1.length :: ds) := .cons (.loc (by rw [← A1.len]; simp)) (r1.grow A1 g23)
  have h2 : Rest X.K cl (EXW X.K cl W) (rV X.K) σ Q (bnd (c.call f (.loc st1.length :: ds)) (mkEnd (D.loc st1.length))) (ρ1 ++ [x]) (upd (upd H1 dx (.own x)) x (.ins (cl k) dx [])) (st1 ++ [.ins k []]) := by
    rcases h1 with ⟨d, st', q, kk⟩ | ⟨kc, fs, st', q, kk⟩
    · exact .inl ⟨d, st', q, fun ρ' H' v g' A' r' => kk ρ' H' v (g23.trans g') A' r'⟩
    · exact .inr ⟨kc, fs, st', q, fun ρ' H' g' A' => kk ρ' H' (g23.trans g') A'⟩
  -- the def's own promise, and what is wanted behind it
  have hlen : (.ref x :: vs : List V).length = ps.length := by
    rw [r3.length]
    rcases h2 with ⟨d, st', q, _⟩ | ⟨kc, fs, st', q, _⟩
    all_goals
      unfold bnd at q
      cases qq : c.call f (.loc st1.length :: ds) (st1 ++ [.ins k []]) with
      | none => rw [qq] at q; cases q
      | some rr => exact ar _ _ _ qq
  refine ⟨hlen, ρ1 ++ [x], _, st1 ++ [.ins k []], A3, r3, ?_⟩
  have step : ∀ rr, bnd (c.call f (.loc st1.length :: ds)) (mkEnd (D.loc st1.length)) (st1 ++ [.ins k []]) = some rr →
      (∃ s3, c.call f (.loc st1.length :: ds) (st1 ++ [.ins k []]) = some (.ok .non, s3) ∧ rr = (.ok (.loc st1.length), s3)) ∨ (∃ kc fs s3, c.call f (.loc st1.length :: ds) (st1 ++ [.ins k []]) = some (.exc kc fs, s3) ∧ rr = (.exc kc fs, s3)) := fun rr q => by
    unfold bnd at q
    cases qq : c.call f (.loc st1.length :: ds) (st1 ++ [.ins k []]) with
    | none => rw [qq] at q; cases q
    | some pr =>
      obtain ⟨rs, s3⟩ := pr
      rw [qq] at q
      cases rs with
      | exc kc fs => exact .inr ⟨kc, fs, s3, rfl, (Option.some.inj q).symm⟩
      | ok z =>
        cases z with
        | non => exact .inl ⟨s3, rfl, (Option.some.inj q).symm⟩
        | _ => cases q
  rcases h2 with ⟨d, st', q, kk⟩ | ⟨kc, fs, st', q, kk⟩
  · rcases step _ q with ⟨s3, q1, q2⟩ | ⟨kc, fs, s3, q1, q2⟩
    · cases q2
      refine .inl ⟨.non, st', q1, fun ρ' H' v g' A' r' => ?_⟩
      cases r'
      refine ⟨rfl, kk ρ' H' _ g' A' ?_⟩
      obtain ⟨ee, rfl⟩ := g'.ext
      exact .loc (by rw [← A1.len]; simp)
    · cases q2
  · rcases step _ q with ⟨s3, q1, q2⟩ | ⟨kc', fs', s3, q1, q2⟩
    · cases q2
    · cases q2
      exact .inr ⟨_, _, _, q1, kk⟩
end
end MS

set_option Elab.async false
set_option linter.all false
set_option maxRecDepth 100000
set_option maxHeartbeats 4000000
/-! MSR7: rules of our own: extend by a list that is only read. -/
namespace MS
open PySem PySem.Spec PyProof.Rows L2
theorem list_extendW (l : Addr) (items : Array Value) (n : Nat) (b : Addr) (items2 : Array Value) (n2 : Nat) (dd2 : Option Addr) (sl2 : Array (Option Value)) (hc0 : ¬(!items.isEmpty && Builtin.List.listTooLong (items.size + items2.size)) = true) (hc1 : items.size ≤ sizeLine) (hs2 : items.size + items2.size ≤ sizeLine + 1) :
    Meets (Builtin.«list.extend» ⟨[.ref l, .ref b], []⟩) (fun _ R s => s.heap.get? l = some { cls := .type "list", dict := none, data := .seq items n, slots := #[] } ∧ s.heap.get? b = some { cls := .type "list", dict := dd2, data := .seq items2 n2, slots := sl2 } ∧ R (.ok (.ret Value.none)) { s with heap := s.heap.update l (Obj.mapSeq fun x => x ++ items2), toks := s.toks }) :=
  .of_wp fun prog w A R s h => by
    obtain ⟨hp, g, d, tk, os⟩ := s; obtain ⟨hl, hb, h⟩ := h
    have f1 := AutoSeq1.idx_int; have f2 := AutoSeq1.sub_tuple_tuple; have f3 := AutoSeq1.sub_list_list; have f4 := AutoSeq1.sub_tuple_list; have f5 := AutoSeq1.sub_list_tuple
    have hz' : (items ++ items2).size ≤ sizeLine + 1 := by rw [Array.size_append]; exact hs2
    wp_walk using (wpAny_updateSeq hl rfl (hz := hc1) (_hz' := hz')), AutoSeq1.wpAny_loadPart' hl, AutoSeq1.wpAny_loadPart' hb
    exact ⟨_, rfl, h⟩
def rExtendS (K : PySem.W.Frag) : V → List V → Hp → VK → Prop := fun x vs H Q => ∃ l b xs zs, x = .ref l ∧ vs = [.ref b] ∧ H l = some (.lst xs) ∧ SqL K H b zs ∧ xs.length + zs.length ≤ sizeLine ∧ Q .non (upd H l (.lst (xs ++ zs)))
theorem mt_extendS {X : Cx} : MtM X "list.extend" (rExtendS X.K) := by
  intro pins s σ H x vs v us Q I rx rv h
  obtain ⟨l, b, xs, zs, rfl, rfl, hH, hB, hz, q⟩ := h
  cases rx
  obtain ⟨u, rfl, ru⟩ := rv.one
  cases ru
  obtain ⟨z, its, n, r, hl, e⟩ := I.lstM hH
  obtain ⟨its2, r2, pl, hl2'⟩ := I.list hB
  have hl2 := r2.length
  obtain ⟨⟨cls, dd2, data2, sl2⟩, n2, e2, hc, hd, hdt⟩ := id pl
  simp only at hc hd hdt
  subst hc hd hdt
  have hsz : its.toArray.size + its2.toArray.size ≤ sizeLine := by rw [List.size_toArray, List.size_toArray]; omega
  have hlong : ¬ (!its.toArray.isEmpty && Builtin.List.listTooLong (its.toArray.size + its2.toArray.size)) = true := by
    rw [notLongL hsz, Bool.and_false]
    exact Bool.false_ne_true
  refine call_meets F.slot_list_extend ⟨_, e, rfl⟩ F.entry_list_extend (F.args_list_extend_2 _ _)
    (list_extendW l its.toArray n b its2.toArray n2 _ sl2 hlong (by rw [List.size_toArray]; omega) (by omega)) ⟨e, e2, ?_⟩
  refine ⟨.non, _, I.lset (its' := its ++ its2) hH e (by simp) (r.append r2) ?_, rfl, q⟩
  rw [List.length_append]
  omega
end MS

set_option Elab.async false
set_option linter.all false
set_option maxRecDepth 100000
set_option maxHeartbeats 4000000
/-! MS7: built-in functions and methods. -/
namespace MS
open PySem PySem.Spec PyProof.Rows L2 MI

section
variable {X : Cx} {cl : Nat → Addr} {E : EX} {c : MI.Ctx} {x : Str} {p pos apos cpos : Pos} {e e' o : Expr} {es : List Expr} {ga gb : SE} {id T : String}
/-- a built-in of one, of two arguments -/
def Ca1 (K : PySem.W.Frag) (cl : Nat → Addr) (E : EX) (f : D → MI.R D) (r : List V → Hp → VK → Prop) : Prop := UnS K cl E f fun v H Q => r [v] H Q
def Ca2 (K : PySem.W.Frag) (cl : Nat → Addr) (E : EX) (f : D → D → MI.R D) (r : List V → Hp → VK → Prop) : Prop := OpS K cl E f fun v u H Q => r [v, u] H Q
theorem tm_args1 {r : List V → Hp → VK → Prop} {σ : L2.St} {H : Hp} {Q : VK} (h : TM X.K cl E (rV X.K) (ga c) σ H fun v H1 => r [v] H1 Q) : tCB r (tCons (TM X.K cl E (rV X.K) (ga c)) tNil) σ H Q := h
theorem me_b1 {f : D → MI.R D} {r : List V → Hp → VK → Prop} (hc : CallR X (.builtin id) r) (hs : Ca1 X.K cl E f r) (hg : Gl X x) (hm : X.mg x = none) (hv : bootBuiltins x = some (.builtin id)) (ha : ME X cl E c e ga) (hn : x ≠ "__name__" := by decide +kernel) (hdb : (x == ("__debug__" : Str)) = false := by decide +kernel)
    (he : starEach [e] X.env = (false, eval e X.env) :: starEach [] X.env := by rfl) : ME X cl E c (.Call (.Name x p) [e] [] pos) (eUn f ga) :=
  peI (pe_callB hc hg hm hv (pa_cons ha pa_nil he) hn hdb he (by rfl)) fun σ H Q h => tm_args1 (tm_un (f := f) (r := fun v H Q => r [v] H Q) hs h)
theorem me_t1 {f : D → MI.R D} {r : List V → Hp → VK → Prop} (hc : CallR X (.type T) r) (hs : Ca1 X.K cl E f r) (hg : Gl X x) (hm : X.mg x = none) (hv : bootBuiltins x = some (.type T)) (ha : ME X cl E c e ga) (hn : x ≠ "__name__" := by decide +kernel) (hdb : (x == ("__debug__" : Str)) = false := by decide +kernel)
    (he : starEach [e] X.env = (false, eval e X.env) :: starEach [] X.env := by rfl) : ME X cl E c (.Call (.Name x p) [e] [] pos) (eUn f ga) :=
  peI (pe_callTy hc hg hm hv (pa_cons ha pa_nil he) hn hdb he (by rfl)) fun σ H Q h => tm_args1 (tm_un (f := f) (r := fun v H Q => r [v] H Q) hs h)
theorem me_b2 {f : D → D → MI.R D} {r : List V → Hp → VK → Prop} (hc : CallR X (.builtin id) r) (hs : Ca2 X.K cl E f r) (hg : Gl X x) (hm : X.mg x = none) (hv : bootBuiltins x = some (.builtin id)) (ha : ME X cl E c e ga) (hb : ME X cl E c e' gb) (hn : x ≠ "__name__" := by decide +kernel) (hdb : (x == ("__debug__" : Str)) = false := by decide +kernel)
    (he : starEach [e, e'] X.env = (false, eval e X.env) :: starEach [e'] X.env := by rfl) (he' : starEach [e'] X.env = (false, eval e' X.env) :: starEach [] X.env := by rfl) (hpl : (backTo pos (starEach [e'] X.env)).any (·.1) = false := by rfl) : ME X cl E c (.Call (.Name x p) [e, e'] [] pos) (eBin f ga gb) :=
  peI (pe_callB hc hg hm hv (pa_cons ha (pa_cons hb pa_nil he') he) hn hdb he hpl) fun σ H Q h => tm_op (f := f) (r := fun v u H Q => r [v, u] H Q) hs h
end

section
variable {K : PySem.W.Frag} {cl : Nat → Addr} {E : EX}
/-! ### what each does -/
theorem s_len : Ca1 K cl E bLen (fun xs H Q => ∃ x n, xs = [x] ∧ LenV K x H n ∧ Q (.int n) H) := by
  intro σ Q ρ H st v1 d1 A r1 h
  cases r1 with
  | @tup a vs l hs r => exact ⟨_, l.length, rfl, .inr ⟨vs, hs, r.length.symm⟩, h.ok (st' := st) rfl .refl A (.int _)⟩
  | @xtup a vs l hs r => exact ⟨_, l.length, rfl, .inr ⟨vs, hs.seq, r.length.symm⟩, h.ok (st' := st) rfl .refl A (.int _)⟩
  | @frz a vs l hs r => exact ⟨_, l.length, rfl, .inl ⟨vs, hs.seq, r.length.symm⟩, h.ok (st' := st) rfl .refl A (.int _)⟩
  | @loc a n ha =>
    cases e1 : st[n]? with
    | none => exact h.none (by simp [bLen, e1])
    | some o =>
      have q1 := A.get ha e1
      cases q1 with
      | @lst vs l h1 r => exact ⟨_, l.length, rfl, .inl ⟨vs, SqL.of h1, r.length.symm⟩, h.ok (st' := st) (d := .int l.length) (by simp [bLen, e1]) .refl A (.int _)⟩
      | _ => exact h.none (by simp [bLen, e1])
  | str s =>
    by_cases hl : s.length < lim
    · exact ⟨_, s.length, rfl, ⟨by rw [sD_len]; exact lim_size hl, (sD_len s).symm⟩, h.ok (st' := st) (d := .int s.length) (by simp [bLen, hl]) .refl A (.int _)⟩
    · exact h.none (by simp [bLen, hl])
  | _ => exact h.none rfl
theorem s_int : Ca1 K cl E bInt (fun xs H Q => (∃ i, xs = [.int i] ∧ Q (.int i) H) ∨ ∃ k, xs = [.bl k] ∧ Q (.int (if k then 1 else 0)) H) := by
  intro σ Q ρ H st v1 d1 A r1 h
  cases r1 with
  | int i => exact .inl ⟨i, rfl, h.ok (st' := st) rfl .refl A (.int _)⟩
  | bl k => exact .inr ⟨k, rfl, h.ok (st' := st) (d := .int (if k then 1 else 0)) rfl .refl A (.int _)⟩
  | _ => exact h.none rfl
theorem s_abs : Ca1 K cl E bAbs (fun xs H Q => ∃ i, xs = [.int i] ∧ Q (.int (if i < 0 then -i else i)) H) := by
  intro σ Q ρ H st v1 d1 A r1 h
  cases r1 with
  | int i => exact ⟨i, rfl, h.ok (st' := st) rfl .refl A (.int _)⟩
  | _ => exact h.none rfl
theorem s_max2 : Ca2 K cl E bMax2 (fun xs H Q => ∃ i j, xs = [.int i, .int j] ∧ Q (.int (if j > i then j else i)) H) := by
  intro σ Q ρ H st v1 v2 d1 d2 A r1 r2 h
  cases r1 with
  | int i =>
    cases r2 with
    | int j => exact ⟨i, j, rfl, h.ok (st' := st) rfl .refl A (.int _)⟩
    | _ => exact h.none rfl
  | _ => exact h.none rfl
theorem s_min2 : Ca2 K cl E bMin2 (fun xs H Q => ∃ i j, xs = [.int i, .int j] ∧ Q (.int (if j < i then j else i)) H) := by
  intro σ Q ρ H st v1 v2 d1 d2 A r1 r2 h
  cases r1 with
  | int i =>
    cases r2 with
    | int j => exact ⟨i, j, rfl, h.ok (st' := st) rfl .refl A (.int _)⟩
    | _ => exact h.none rfl
  | _ => exact h.none rfl
/-- a list or tuple, by its items -/
theorem seqOf_ok {ρ : List Addr} {H : Hp} {st : Stt} {v : V} {d : D} (A : At K cl ρ H st) (r : Rv K H ρ v d) :
    seqOf d st = Option.none ∨ ∃ a vs l, v = .ref a ∧ seqOf d st = some (.ok l, st) ∧ RvL K H ρ vs l ∧ (SqL K H a vs ∨ SqT K H a vs) := by
  cases r with
  | @tup a vs l hs r => exact .inr ⟨a, vs, l, rfl, rfl, r, .inr hs⟩
  | @xtup a vs l hs r => exact .inr ⟨a, vs, l, rfl, rfl, r, .inr hs.seq⟩
  | @frz a vs l hs r => exact .inr ⟨a, vs, l, rfl, rfl, r, .inl hs.seq⟩
  | @loc a n ha =>
    cases e1 : st[n]? with
    | none => exact .inl (by simp [seqOf, e1])
    | some o =>
      have q1 := A.get ha e1
      cases q1 with
      | @lst vs l h1 r => exact .inr ⟨a, vs, l, rfl, by simp [seqOf, e1], r, .inl (SqL.of h1)⟩
      | _ => exact .inl (by simp [seqOf, e1])
  | _ => exact .inl rfl
theorem s_tuple : Ca1 K cl E bTuple (fun xs H Q => ∃ p ys, xs = [.ref p] ∧ ((SqL K H p ys ∧ ∀ l, H l = none → Q (.ref l) (upd H l (.tup ys))) ∨ (SqT K H p ys ∧ Q (.ref p) H))) := by
  intro σ Q ρ H st v1 d1 A r1 h
  rcases seqOf_ok A r1 with q | ⟨a, vs, l, rfl, q, r, hs⟩
  · exact h.none (bnd_none q)
  · have e : bTuple d1 st = some (.ok (.tup l), st) := by unfold bTuple; rw [bnd_inv q]; rfl
    rcases hs with hs | hs
    · exact ⟨a, vs, rfl, .inl ⟨hs, fun p n => rest_tup A r h e p n⟩⟩
    · exact ⟨a, vs, rfl, .inr ⟨hs, h.ok e .refl A (.tup hs r)⟩⟩
theorem s_tupleX : Ca1 K cl E bTupleX (fun xs H Q => ∃ p ys, xs = [.ref p] ∧ SqL K H p ys ∧ ∀ l o, H l = none → o.cls = .type "tuple" → o.dict = none → Q (.ref l) (upd H l (.frz o (.tup ys)))) := by
  intro σ Q ρ H st v1 d1 A r1 h
  cases r1 with
  | @loc a n ha =>
    cases e1 : st[n]? with
    | none => exact h.none (by simp [bTupleX, e1])
    | some o =>
      have q1 := A.get ha e1
      cases q1 with
      | @lst vs l h1 r =>
        refine ⟨a, vs, rfl, SqL.of h1, fun p ob n c1 c2 => ?_⟩
        obtain ⟨A', g⟩ := A.side (o := .frz ob (.tup vs)) n
        exact h.ok (st' := st) (d := .xtup l) (by simp [bTupleX, e1]) g A' (.xtup ⟨ob, upd_same, c1, c2⟩ (r.grow A g))
      | _ => exact h.none (by simp [bTupleX, e1])
  | @frz a vs l hs r =>
    refine ⟨a, vs, rfl, hs.seq, fun p ob n c1 c2 => ?_⟩
    obtain ⟨A', g⟩ := A.side (o := .frz ob (.tup vs)) n
    exact h.ok (st' := st) (d := .xtup l) rfl g A' (.xtup ⟨ob, upd_same, c1, c2⟩ (r.grow A g))
  | _ => exact h.none rfl
theorem s_list : Ca1 K cl E bList (fun xs H Q => ∃ p ys, xs = [.ref p] ∧ (SqL K H p ys ∨ SqT K H p ys) ∧ ∀ l, H l = none → Q (.ref l) (upd H l (.lst ys))) := by
  intro σ Q ρ H st v1 d1 A r1 h
  rcases seqOf_ok A r1 with q | ⟨a, vs, l, rfl, q, r, hs⟩
  · exact h.none (bnd_none q)
  · by_cases hl : l.length < lim
    · have e : bList d1 st = some (.ok (.loc st.length), st ++ [.lst l]) := by unfold bList; rw [bnd_inv q, if_pos hl]; rfl
      exact ⟨a, vs, rfl, hs, fun p n => rest_lst A r h e p n⟩
    · exact h.none (by unfold bList; rw [bnd_inv q, if_neg hl]; rfl)
theorem s_listF : Ca1 K cl E bListF (fun xs H Q => ∃ p ys, xs = [.ref p] ∧ (SqL K H p ys ∨ SqT K H p ys) ∧ ∀ l, H l = none → fz Q (.ref l) (upd H l (.lst ys))) := by
  intro σ Q ρ H st v1 d1 A r1 h
  rcases seqOf_ok A r1 with q | ⟨a, vs, l, rfl, q, r, hs⟩
  · exact h.none (bnd_none q)
  · by_cases hl : l.length < lim
    · have e : bListF d1 st = some (.ok (.frz l), st) := by unfold bListF; rw [bnd_inv q, if_pos hl]; rfl
      exact ⟨a, vs, rfl, hs, fun p n => rest_frz A r h e p n⟩
    · exact h.none (by unfold bListF; rw [bnd_inv q, if_neg hl]; rfl)
theorem ints_of {ρ : List Addr} {H : Hp} : ∀ {l : List D} {vs : List V} {ns : List Int}, ints? l = some ns → RvL K H ρ vs l → vs = ns.map V.int
  | [], _, _, h, r => by cases r; cases h; rfl
  | .int i :: l, _, ns, h, r => by
    cases r with
    | cons r1 r2 =>
      cases r1
      unfold ints? at h
      obtain ⟨m, h1, h2⟩ := Option.map_eq_some_iff.mp h
      subst h2
      rw [List.map_cons, ints_of h1 r2]
  | .non :: _, _, _, h, _ => by cases h
  | .bl _ :: _, _, _, h, _ => by cases h
  | .str _ :: _, _, _, h, _ => by cases h
  | .tup _ :: _, _, _, h, _ => by cases h
  | .loc _ :: _, _, _, h, _ => by cases h
  | .frz _ :: _, _, _, h, _ => by cases h
  | .xtup _ :: _, _, _, h, _ => by cases h
theorem bools_of {ρ : List Addr} {H : Hp} : ∀ {l : List D} {vs : List V} {ns : List Bool}, bools? l = some ns → RvL K H ρ vs l → vs = ns.map V.bl
  | [], _, _, h, r => by cases r; cases h; rfl
  | .bl i :: l, _, ns, h, r => by
    cases r with
    | cons r1 r2 =>
      cases r1
      unfold bools? at h
      obtain ⟨m, h1, h2⟩ := Option.map_eq_some_iff.mp h
      subst h2
      rw [List.map_cons, bools_of h1 r2]
  | .non :: _, _, _, h, _ => by cases h
  | .int _ :: _, _, _, h, _ => by cases h
  | .str _ :: _, _, _, h, _ => by cases h
  | .tup _ :: _, _, _, h, _ => by cases h
  | .loc _ :: _, _, _, h, _ => by cases h
  | .frz _ :: _, _, _, h, _ => by cases h
  | .xtup _ :: _, _, _, h, _ => by cases h
theorem leastI_le : ∀ (r : List Int) (m : Int), leastI m r ≤ m ∧ ∀ y ∈ r, leastI m r ≤ y
  | [], m => ⟨Int.le_refl _, fun _ h => by cases h⟩
  | x :: r, m => by
    have h := leastI_le r (if x < m then x else m)
    unfold leastI
    by_cases q : x < m
    · rw [if_pos q] at h ⊢
      refine ⟨by have := h.1; omega, fun y hy => ?_⟩
      rcases List.mem_cons.mp hy with rfl | hy
      · exact h.1
      · exact h.2 y hy
    · rw [if_neg q] at h ⊢
      refine ⟨h.1, fun y hy => ?_⟩
      rcases List.mem_cons.mp hy with rfl | hy
      · have := h.1; omega
      · exact h.2 y hy
theorem leastI_mem : ∀ (r : List Int) (m : Int), leastI m r ∈ m :: r
  | [], m => by simp [leastI]
  | x :: r, m => by
    have h := leastI_mem r (if x < m then x else m)
    unfold leastI
    split at h
    · rename_i q; rw [if_pos q]; exact List.mem_cons_of_mem _ h
    · rename_i q; rw [if_neg q]
      rcases List.mem_cons.mp h with h | h
      · rw [h]; exact List.mem_cons_self
      · exact List.mem_cons_of_mem _ (List.mem_cons_of_mem _ h)
theorem greatI_ge : ∀ (r : List Int) (m : Int), m ≤ greatI m r ∧ ∀ y ∈ r, y ≤ greatI m r
  | [], m => ⟨Int.le_refl _, fun _ h => by cases h⟩
  | x :: r, m => by
    have h := greatI_ge r (if m < x then x else m)
    unfold greatI
    by_cases q : m < x
    · rw [if_pos q] at h ⊢
      refine ⟨by have := h.1; omega, fun y hy => ?_⟩
      rcases List.mem_cons.mp hy with rfl | hy
      · exact h.1
      · exact h.2 y hy
    · rw [if_neg q] at h ⊢
      refine ⟨h.1, fun y hy => ?_⟩
      rcases List.mem_cons.mp hy with rfl | hy
      · have := h.1; omega
      · exact h.2 y hy
theorem greatI_mem : ∀ (r : List Int) (m : Int), greatI m r ∈ m :: r
  | [], m => by simp [greatI]
  | x :: r, m => by
    have h := greatI_mem r (if m < x then x else m)
    unfold greatI
    split at h
    · rename_i q; rw [if_pos q]; exact List.mem_cons_of_mem _ h
    · rename_i q; rw [if_neg q]
      rcases List.mem_cons.mp h with h | h
      · rw [h]; exact List.mem_cons_self
      · exact List.mem_cons_of_mem _ (List.mem_cons_of_mem _ h)
theorem s_min : Ca1 K cl E bMin (fun vs H Q => rMin K vs H Q ∨ ∃ (a : Addr) (ns : List Int), vs = [V.ref a] ∧ SqT K H a (ns.map V.int) ∧ 0 < ns.length ∧ ∀ m, m ∈ ns → (∀ y, y ∈ ns → m ≤ y) → Q (.int m) H) := by
  intro σ Q ρ H st v1 d1 A r1 h
  rcases seqOf_ok A r1 with q | ⟨a, vs, l, rfl, q, r, hs⟩
  · exact h.none (bnd_none q)
  · cases qi : ints? l with
    | none => exact h.none (by unfold bMin; rw [bnd_inv q, qi]; rfl)
    | some ns =>
      have ev := ints_of qi r
      subst ev
      cases ns with
      | nil => exact h.none (by unfold bMin; rw [bnd_inv q, qi]; rfl)
      | cons i ns =>
        have e : bMin d1 st = some (.ok (.int (leastI i ns)), st) := by unfold bMin; rw [bnd_inv q, qi]; rfl
        have fin : ∀ m, m ∈ i :: ns → (∀ y, y ∈ i :: ns → m ≤ y) → Q (.int m) H := fun m hm hy => by
          have l1 := leastI_le ns i
          have l2 := leastI_mem ns i
          have e1 : m = leastI i ns := by
            have a1 := hy _ l2
            have a2 : leastI i ns ≤ m := by
              rcases List.mem_cons.mp hm with rfl | hm
              · exact l1.1
              · exact l1.2 m hm
            omega
          rw [e1]
          exact h.ok e .refl A (.int _)
        rcases hs with hs | hs
        · exact .inl ⟨a, i :: ns, rfl, hs, Nat.succ_pos _, fin⟩
        · exact .inr ⟨a, i :: ns, rfl, hs, Nat.succ_pos _, fin⟩
theorem s_max : Ca1 K cl E bMax (fun vs H Q => rMax K vs H Q ∨ ∃ (a : Addr) (ns : List Int), vs = [V.ref a] ∧ SqT K H a (ns.map V.int) ∧ 0 < ns.length ∧ ∀ m, m ∈ ns → (∀ y, y ∈ ns → y ≤ m) → Q (.int m) H) := by
  intro σ Q ρ H st v1 d1 A r1 h
  rcases seqOf_ok A r1 with q | ⟨a, vs, l, rfl, q, r, hs⟩
  · exact h.none (bnd_none q)
  · cases qi : ints? l with
    | none => exact h.none (by unfold bMax; rw [bnd_inv q, qi]; rfl)
    | some ns =>
      have ev := ints_of qi r
      subst ev
      cases ns with
      | nil => exact h.none (by unfold bMax; rw [bnd_inv q, qi]; rfl)
      | cons i ns =>
        have e : bMax d1 st = some (.ok (.int (greatI i ns)), st) := by unfold bMax; rw [bnd_inv q, qi]; rfl
        have fin : ∀ m, m ∈ i :: ns → (∀ y, y ∈ i :: ns → y ≤ m) → Q (.int m) H := fun m hm hy => by
          have l1 := greatI_ge ns i
          have l2 := greatI_mem ns i
          have e1 : m = greatI i ns := by
            have a1 := hy _ l2
            have a2 : m ≤ greatI i ns := by
              rcases List.mem_cons.mp hm with rfl | hm
              · exact l1.1
              · exact l1.2 m hm
            omega
          rw [e1]
          exact h.ok e .refl A (.int _)
        rcases hs with hs | hs
        · exact .inl ⟨a, i :: ns, rfl, hs, Nat.succ_pos _, fin⟩
        · exact .inr ⟨a, i :: ns, rfl, hs, Nat.succ_pos _, fin⟩
end
theorem call_minA {X : Cx} (hc : X.calm = true) : CallR X (.builtin "min") (fun vs H Q => rMin X.K vs H Q ∨ ∃ (a : Addr) (ns : List Int), vs = [V.ref a] ∧ SqT X.K H a (ns.map V.int) ∧ 0 < ns.length ∧ ∀ m, m ∈ ns → (∀ y, y ∈ ns → m ≤ y) → Q (.int m) H) := CallR.or (cr_min hc) (cr_minT hc)
theorem call_maxA {X : Cx} (hc : X.calm = true) : CallR X (.builtin "max") (fun vs H Q => rMax X.K vs H Q ∨ ∃ (a : Addr) (ns : List Int), vs = [V.ref a] ∧ SqT X.K H a (ns.map V.int) ∧ 0 < ns.length ∧ ∀ m, m ∈ ns → (∀ y, y ∈ ns → y ≤ m) → Q (.int m) H) := CallR.or (cr_max hc) (cr_maxT hc)
section
variable {K : PySem.W.Frag} {cl : Nat → Addr} {E : EX}
theorem insI_perm (x : Int) : ∀ l : List Int, (insI x l).Perm (x :: l)
  | [] => .refl _
  | y :: r => by
    unfold insI
    split
    · exact .refl _
    · exact ((insI_perm x r).cons y).trans (.swap x y r)
theorem sortI_perm : ∀ l : List Int, (sortI l).Perm l
  | [] => .refl _
  | x :: r => (insI_perm x (sortI r)).trans ((sortI_perm r).cons x)
theorem insI_sorted (x : Int) : ∀ l : List Int, l.Pairwise (· ≤ ·) → (insI x l).Pairwise (· ≤ ·)
  | [], _ => by simp [insI]
  | y :: r, h => by
    unfold insI
    obtain ⟨h1, h2⟩ := List.pairwise_cons.mp h
    split
    · rename_i q
      refine List.pairwise_cons.mpr ⟨fun z hz => ?_, h⟩
      rcases List.mem_cons.mp hz with rfl | hz
      · exact q
      · exact Int.le_trans q (h1 z hz)
    · rename_i q
      refine List.pairwise_cons.mpr ⟨fun z hz => ?_, insI_sorted x r h2⟩
      rcases List.mem_cons.mp ((insI_perm x r).mem_iff.mp hz) with rfl | hz
      · omega
      · exact h1 z hz
theorem sortI_sorted : ∀ l : List Int, (sortI l).Pairwise (· ≤ ·)
  | [] => .nil
  | x :: r => insI_sorted x _ (sortI_sorted r)
theorem sortI_unique {l m : List Int} (p : m.Perm l) (s : m.Pairwise (· ≤ ·)) : m = sortI l :=
  List.Perm.eq_of_pairwise (le := (· ≤ ·)) (fun a b _ _ h1 h2 => Int.le_antisymm h1 h2) s (sortI_sorted l) (p.trans (sortI_perm l).symm)
theorem ints_map {H : Hp} {ρ : List Addr} : ∀ ns : List Int, RvL K H ρ (ns.map V.int) (ns.map D.int)
  | [] => .nil
  | n :: ns => .cons (.int n) (ints_map ns)
theorem s_sorted : Ca1 K cl E bSorted (fun vs H Q => rSortedI K vs H Q ∨ ∃ (a : Addr) (ns : List Int), vs = [V.ref a] ∧ SqT K H a (ns.map V.int) ∧ ∀ (ns' : List Int) (p : Addr), ns'.Perm ns → ns'.Pairwise (· ≤ ·) → H p = none → Q (.ref p) (upd H p (.lst (ns'.map V.int)))) := by
  intro σ Q ρ H st v1 d1 A r1 h
  rcases seqOf_ok A r1 with q | ⟨a, vs, l, rfl, q, r, hs⟩
  · exact h.none (bnd_none q)
  · cases qi : ints? l with
    | none => exact h.none (by unfold bSorted; rw [bnd_inv q, qi]; rfl)
    | some ns =>
      have ev := ints_of qi r
      subst ev
      by_cases hl : ns.length < lim
      · have e : bSorted d1 st = some (.ok (.loc st.length), st ++ [.lst ((sortI ns).map D.int)]) := by unfold bSorted; rw [bnd_inv q, qi]; simp only [if_pos hl]; rfl
        have fin : ∀ (ns' : List Int) (p : Addr), ns'.Perm ns → ns'.Pairwise (· ≤ ·) → H p = none → Q (.ref p) (upd H p (.lst (ns'.map V.int))) := fun ns' p hp hs n => by
          rw [sortI_unique hp hs]
          exact rest_lst A (ints_map _) h e p n
        rcases hs with hs | hs
        · exact .inl ⟨a, ns, rfl, hs, fin⟩
        · exact .inr ⟨a, ns, rfl, hs, fin⟩
      · exact h.none (by unfold bSorted; rw [bnd_inv q, qi]; simp only [if_neg hl]; rfl)
theorem s_sortedF : Ca1 K cl E bSortedF (fun vs H Q => rSortedI K vs H (fz Q) ∨ ∃ (a : Addr) (ns : List Int), vs = [V.ref a] ∧ SqT K H a (ns.map V.int) ∧ ∀ (ns' : List Int) (p : Addr), ns'.Perm ns → ns'.Pairwise (· ≤ ·) → H p = none → fz Q (.ref p) (upd H p (.lst (ns'.map V.int)))) := by
  intro σ Q ρ H st v1 d1 A r1 h
  rcases seqOf_ok A r1 with q | ⟨a, vs, l, rfl, q, r, hs⟩
  · exact h.none (bnd_none q)
  · cases qi : ints? l with
    | none => exact h.none (by unfold bSortedF; rw [bnd_inv q, qi]; rfl)
    | some ns =>
      have ev := ints_of qi r
      subst ev
      by_cases hl : ns.length < lim
      · have e : bSortedF d1 st = some (.ok (.frz ((sortI ns).map D.int)), st) := by unfold bSortedF; rw [bnd_inv q, qi]; simp only [if_pos hl]; rfl
        have fin : ∀ (ns' : List Int) (p : Addr), ns'.Perm ns → ns'.Pairwise (· ≤ ·) → H p = none → fz Q (.ref p) (upd H p (.lst (ns'.map V.int))) := fun ns' p hp hs n => by
          rw [sortI_unique hp hs]
          exact rest_frz A (ints_map _) h e p n
        rcases hs with hs | hs
        · exact .inl ⟨a, ns, rfl, hs, fin⟩
        · exact .inr ⟨a, ns, rfl, hs, fin⟩
      · exact h.none (by unfold bSortedF; rw [bnd_inv q, qi]; simp only [if_neg hl]; rfl)
theorem lstOf_ok {ρ : List Addr} {H : Hp} {st : Stt} {v : V} {d : D} (A : At K cl ρ H st) (r : Rv K H ρ v d) :
    lstOf d st = Option.none ∨ ∃ a vs l, v = .ref a ∧ lstOf d st = some (.ok l, st) ∧ RvL K H ρ vs l ∧ SqL K H a vs := by
  cases r with
  | @loc a n ha =>
    cases e1 : st[n]? with
    | none => exact .inl (by simp [lstOf, e1])
    | some o =>
      have q1 := A.get ha e1
      cases q1 with
      | @lst vs l h1 r => exact .inr ⟨a, vs, l, rfl, by simp [lstOf, e1], r, SqL.of h1⟩
      | _ => exact .inl (by simp [lstOf, e1])
  | @frz a vs l hs r => exact .inr ⟨a, vs, l, rfl, rfl, r, hs.seq⟩
  | _ => exact .inl rfl
theorem s_sum : Ca1 K cl E bSum (fun vs H Q => rSum K vs H Q) := by
  intro σ Q ρ H st v1 d1 A r1 h
  rcases lstOf_ok A r1 with q | ⟨a, vs, l, rfl, q, r, hs⟩
  · exact h.none (bnd_none q)
  · cases qi : ints? l with
    | none => exact h.none (by unfold bSum; rw [bnd_inv q, qi]; rfl)
    | some ns =>
      have ev := ints_of qi r
      subst ev
      exact ⟨a, ns, rfl, hs, h.ok (st' := st) (d := .int ns.sum) (by unfold bSum; rw [bnd_inv q, qi]; rfl) .refl A (.int _)⟩
theorem s_all : Ca1 K cl E bAll (fun vs H Q => rAll K vs H Q) := by
  intro σ Q ρ H st v1 d1 A r1 h
  rcases lstOf_ok A r1 with q | ⟨a, vs, l, rfl, q, r, hs⟩
  · exact h.none (bnd_none q)
  · cases qi : bools? l with
    | none => exact h.none (by unfold bAll; rw [bnd_inv q, qi]; rfl)
    | some ns =>
      have ev := bools_of qi r
      subst ev
      exact ⟨a, ns, rfl, hs, h.ok (st' := st) (d := .bl (ns.all id)) (by unfold bAll; rw [bnd_inv q, qi]; rfl) .refl A (.bl _)⟩
theorem s_any : Ca1 K cl E bAny (fun vs H Q => rAny K vs H Q) := by
  intro σ Q ρ H st v1 d1 A r1 h
  rcases lstOf_ok A r1 with q | ⟨a, vs, l, rfl, q, r, hs⟩
  · exact h.none (bnd_none q)
  · cases qi : bools? l with
    | none => exact h.none (by unfold bAny; rw [bnd_inv q, qi]; rfl)
    | some ns =>
      have ev := bools_of qi r
      subst ev
      exact ⟨a, ns, rfl, hs, h.ok (st' := st) (d := .bl (ns.any id)) (by unfold bAny; rw [bnd_inv q, qi]; rfl) .refl A (.bl _)⟩
end
end MS

set_option Elab.async false
set_option linter.all false
set_option maxRecDepth 100000
set_option maxHeartbeats 4000000
/-! MS8: methods of built-in types, list(range), {..}.get. -/
namespace MS
open PySem PySem.Spec PyProof.Rows L2 MI

/-- the value is of that builtin type, its object without a dict -/
def TyOk (X : Cx) (T : String) (x : V) (H : Hp) : Prop := ∀ (pins : List (Addr × Obj)) (σ : L2.St) (s : Shared) (v : Value), Inv X pins σ H s → RelV x v →
  s.TypeIs v T ∧ ∀ a, v = .ref a → ∃ ob, s.heap.get? a = some ob ∧ ob.dict = none
theorem TyOk.of {X : Cx} {T : String} {x : V} {H : Hp} (h : tyV X.K T x H) : TyOk X T x H := fun _ _ _ _ I r => tyV_is I r h
theorem TyOk.xt {X : Cx} {a : Addr} {vs : List V} {H : Hp} (h : XT H a vs) : TyOk X "tuple" (.ref a) H := fun pins σ s v I r => by
  obtain ⟨o, h1, h2, h3⟩ := h
  cases r
  obtain ⟨e, _⟩ := I.hok a _ h1
  exact ⟨⟨o, e, h2⟩, fun b q => by cases q; exact ⟨o, e, h3⟩⟩
/-- a built-in type that has the method -/
structure BM (X : Cx) (name : Str) (T id : String) (r : V → List V → Hp → VK → Prop) : Prop where
  pa : PlainAttrs T
  slot : Slot T name id
  hty : typeOf (.builtin id) = pure (.type "method_descriptor")
  hm : MtR X id r
section
variable {X : Cx} {name : Str} {o e : Expr} {es : List Expr} {to : TE} {t : TA} {apos cpos : Pos}
def tBMU (X : Cx) (name : Str) (to : TE) (t : TA) : TE := fun σ H Q => to σ H fun x H1 => ∃ T id r, BM X name T id r ∧ TyOk X T x H1 ∧ t σ H1 fun xs H2 => r x xs H2 Q
theorem pe_bmU0 (ho : PE X o to) (hbase : attributeBase o name X.env (eval o X.env) = eval o X.env := by rfl) (hline : (apos.endLine == cpos.line) = true := by rfl) : PE X (.Call (.Attribute o name apos) [] [] cpos) (tBMU X name to tNil) := by
  refine ⟨fun pins s σ H Q I h => ?_⟩
  refine wpAny_Call_method0_late hbase hline (thn (ho.run pins s σ H _ I h) fun v s1 ⟨x, H1, I1, r1, T, id, r, B, ty, q1⟩ => ?_)
  obtain ⟨h1, h2⟩ := ty pins σ s1 v I1 r1
  exact ⟨T, id, B.pa, B.slot, B.hty, h1, h2, Calls.callWith_builtin rfl (PySem.evalArgs_none (B.hm pins s1 σ H1 x [] v [] Q I1 r1 .nil q1))⟩
theorem pe_bmU (ho : PE X o to) (ha : PA X (e :: es) t)
    (hbase : attributeBase o name X.env (eval o X.env) = eval o X.env := by rfl)
    (hfew : ((backTo cpos (starEach (e :: es) X.env)).all (fun x => !x.1) && (backToKw cpos (keywordEach [] X.env)).all (fun x => x.1.isSome)
      && decide ((e :: es).length + ([] : List Keyword).length + (if ([] : List Keyword).isEmpty then 0 else 1) < 30)) = true := by rfl)
    (hline : (apos.endLine == cpos.line) = true := by rfl) (hs : starEach (e :: es) X.env = (false, eval e X.env) :: starEach es X.env := by rfl) (hplain : (backTo cpos (starEach es X.env)).any (·.1) = false := by rfl) :
    PE X (.Call (.Attribute o name apos) (e :: es) [] cpos) (tBMU X name to t) := by
  refine ⟨fun pins s σ H Q I h => ?_⟩
  refine wpAny_Call_method_late hbase hfew hline rfl (thn (ho.run pins s σ H _ I h) fun v s1 ⟨x, H1, I1, r1, T, id, r, B, ty, q1⟩ => ?_)
  obtain ⟨h1, h2⟩ := ty pins σ s1 v I1 r1
  refine ⟨T, id, B.pa, B.slot, B.hty, h1, h2, ?_⟩
  have hA := ha.run cpos pins s1 σ H1 _ I1 q1
  rw [hs] at hA ⊢
  refine Calls.callWith_builtin (by show (false || (backTo cpos (starEach es X.env)).any (·.1)) = false; rw [hplain] <;> rfl) (Calls.evalArgs_plain ?_)
  exact thn hA fun us s2 ⟨vs, H2, I2, r2, q2⟩ => B.hm pins s2 σ H2 x vs v us Q I2 r1 r2 q2
end

section
variable {X : Cx} {cl : Nat → Addr} {E : EX} {c : MI.Ctx} {name : Str} {o e : Expr} {apos cpos : Pos} {ga gb : SE}
/-- what a method of one argument does: the receiver's look k, then f -/
def Mt1 (X : Cx) (cl : Nat → Addr) (E : EX) (name : Str) (k : D → MI.R Unit) (f : D → D → MI.R D) : Prop := ∀ {ρ : List Addr} {H : Hp} {st : Stt} {v : V} {d : D}, At X.K cl ρ H st → Rv X.K H ρ v d →
  k d st = none ∨ (k d st = some (.ok (), st) ∧ ∃ T id r, BM X name T id r ∧ TyOk X T v H ∧
    ∀ {σ : L2.St} {Q : VK} {ρ1 : List Addr} {H1 : Hp} {st1 : Stt} {y : V} {z : D}, At X.K cl ρ1 H1 st1 → Rv X.K H1 ρ1 v d → Rv X.K H1 ρ1 y z → Rest X.K cl E (rV X.K) σ Q (f d z) ρ1 H1 st1 → r v [y] H1 Q)
def Mt0 (X : Cx) (cl : Nat → Addr) (E : EX) (name : Str) (k : D → MI.R Unit) (f : D → MI.R D) : Prop := ∀ {ρ : List Addr} {H : Hp} {st : Stt} {v : V} {d : D}, At X.K cl ρ H st → Rv X.K H ρ v d →
  k d st = none ∨ (k d st = some (.ok (), st) ∧ ∃ T id r, BM X name T id r ∧ TyOk X T v H ∧ ∀ {σ : L2.St} {Q : VK}, Rest X.K cl E (rV X.K) σ Q (f d) ρ H st → r v [] H Q)
theorem me_mt1 {k : D → MI.R Unit} {f : D → D → MI.R D} (hM : Mt1 X cl E name k f) (ho : ME X cl E c o ga) (he : ME X cl E c e gb)
    (hbase : attributeBase o name X.env (eval o X.env) = eval o X.env := by rfl)
    (hfew : ((backTo cpos (starEach [e] X.env)).all (fun x => !x.1) && (backToKw cpos (keywordEach [] X.env)).all (fun x => x.1.isSome)
      && decide (([e] : List Expr).length + ([] : List Keyword).length + (if ([] : List Keyword).isEmpty then 0 else 1) < 30)) = true := by rfl)
    (hline : (apos.endLine == cpos.line) = true := by rfl) (hs : starEach [e] X.env = (false, eval e X.env) :: starEach [] X.env := by rfl) :
    ME X cl E c (.Call (.Attribute o name apos) [e] [] cpos) (eMt1 k f ga gb) :=
  peI (pe_bmU ho (pa_cons he pa_nil hs) hbase hfew hline hs (by rfl)) fun σ H Q h => by
    obtain ⟨ρ, env, st, A, e, h⟩ := h
    refine (Rest.step (g := ga c) (rV X.K) A e h).imp fun v1 H1 ⟨ρ1, st1, d1, g1, A1, r1, h1⟩ => ?_
    rcases hM A1 r1 with q | ⟨q, T, id, r, B, ty, go⟩
    · exact h1.none (bnd_none q)
    · refine ⟨T, id, r, B, ty, ?_⟩
      have h2 : Rest X.K cl E (rV X.K) σ Q (bnd (gb c env) fun y => f d1 y) ρ1 H1 st1 := h1.eq (bnd_inv q)
      refine (Rest.step (g := gb c) (rV X.K) A1 (e.grow A g1) h2).imp fun v2 H2 ⟨ρ2, st2, d2, g2, A2, r2, h3⟩ => ?_
      exact go A2 (r1.grow A1 g2) r2 h3
theorem me_mt0 {k : D → MI.R Unit} {f : D → MI.R D} (hM : Mt0 X cl E name k f) (ho : ME X cl E c o ga)
    (hbase : attributeBase o name X.env (eval o X.env) = eval o X.env := by rfl) (hline : (apos.endLine == cpos.line) = true := by rfl) :
    ME X cl E c (.Call (.Attribute o name apos) [] [] cpos) (eMt0 k f ga) :=
  peI (pe_bmU0 ho hbase hline) fun σ H Q h => by
    obtain ⟨ρ, env, st, A, e, h⟩ := h
    refine (Rest.step (g := ga c) (rV X.K) A e h).imp fun v1 H1 ⟨ρ1, st1, d1, g1, A1, r1, h1⟩ => ?_
    rcases hM A1 r1 with q | ⟨q, T, id, r, B, ty, go⟩
    · exact h1.none (bnd_none q)
    · exact ⟨T, id, r, B, ty, go (h1.eq (bnd_inv q))⟩
theorem isLst_ok {ρ : List Addr} {H : Hp} {st : Stt} {v : V} {d : D} (A : At X.K cl ρ H st) (r : Rv X.K H ρ v d) :
    isLst d st = none ∨ (isLst d st = some (.ok (), st) ∧ ∃ a n vs l, v = .ref a ∧ d = .loc n ∧ ρ[n]? = some a ∧ st[n]? = some (.lst l) ∧ H a = some (.lst vs) ∧ RvL X.K H ρ vs l ∧ TyOk X "list" v H) := by
  cases r with
  | @loc a n ha =>
    cases e1 : st[n]? with
    | none => exact .inl (by simp [isLst, e1])
    | some o =>
      have q1 := A.get ha e1
      cases q1 with
      | @lst vs l h1 r => exact .inr ⟨by simp [isLst, e1], a, n, vs, l, rfl, rfl, ha, e1, h1, r, .of (.inl ⟨rfl, vs, SqL.of h1⟩)⟩
      | _ => exact .inl (by simp [isLst, e1])
  | _ => exact .inl rfl
/-- the list behind the arguments -/
theorem lst_at {ρ : List Addr} {H : Hp} {st : Stt} {a : Addr} {n : Nat} (A : At X.K cl ρ H st) (r : Rv X.K H ρ (.ref a) (.loc n)) : ρ[n]? = some a ∧ ((∃ vs l, st[n]? = some (.lst l) ∧ H a = some (.lst vs) ∧ RvL X.K H ρ vs l) ∨ ∀ l, st[n]? ≠ some (.lst l)) := by
  cases r with
  | loc ha =>
    refine ⟨ha, ?_⟩
    cases e1 : st[n]? with
    | none => exact .inr fun l q => by cases q
    | some o =>
      have q1 := A.get ha e1
      cases q1 with
      | @lst vs l h1 r => exact .inl ⟨vs, l, rfl, h1, r⟩
      | _ => exact .inr fun l q => by cases q
theorem m_append : Mt1 X cl E "append" isLst mAppend := fun {ρ H st v d} A r => by
  rcases isLst_ok A r with q | ⟨q, a, n, vs, l, rfl, rfl, ha, e1, h1, rl, ty⟩
  · exact .inl q
  · refine .inr ⟨q, "list", "list.append", rAppend, ⟨PySem.F.plainAttrs_list, PySem.F.slot_list_append, PySem.F.type_list_append, mt_append⟩, ty, fun {σ Q ρ1 H1 st1 y z} A1 r1 r2 h => ?_⟩
    obtain ⟨ha, ⟨vs, l, e1, h1, rl⟩ | hn⟩ := lst_at A1 r1
    · by_cases hl : l.length < lim - 1
      · refine ⟨a, vs, y, rfl, rfl, h1, ?_, ?_⟩
        · rw [rl.length, sizeLine_eq]
          have : (lim : Nat) = 16777216 := rfl
          omega
        · obtain ⟨A2, g2⟩ := A1.put (o := .lst (vs ++ [y])) (ob := .lst (l ++ [z])) ha fun k => .lst upd_same (by
            have a1 := rl.keep k []
            have a2 := r2.keep k []
            simp only [List.append_nil] at a1 a2
            exact a1.append (.cons a2 .nil))
          exact h.ok (st' := st1.set n (.lst (l ++ [z]))) (d := .non) (by simp only [mAppend, e1, if_pos hl]) g2 A2 .non
      · exact h.none (by simp only [mAppend, e1, if_neg hl])
    · exact h.none (by
        cases e2 : st1[n]? with
        | none => simp [mAppend, e2]
        | some o => cases o <;> first | (simp [mAppend, e2]; done) | exact absurd e2 (hn _))
theorem lstD_ok {K : PySem.W.Frag} {cl : Nat → Addr} {ρ : List Addr} {H : Hp} {st : Stt} {v : V} {d : D} (A : At K cl ρ H st) (r : Rv K H ρ v d) : lstD d st = none ∨ ∃ a vs l, v = .ref a ∧ lstD d st = some l ∧ SqL K H a vs ∧ RvL K H ρ vs l := by
  cases r with
  | @loc a n ha =>
    cases e1 : st[n]? with
    | none => exact .inl (by simp [lstD, e1])
    | some o =>
      have q1 := A.get ha e1
      cases q1 with
      | @lst vs l h1 r => exact .inr ⟨a, vs, l, rfl, by simp [lstD, e1], SqL.of h1, r⟩
      | _ => exact .inl (by simp [lstD, e1])
  | @frz a vs l hs r => exact .inr ⟨a, vs, l, rfl, rfl, hs.seq, r⟩
  | _ => exact .inl rfl
theorem m_extend : Mt1 X cl E "extend" isLst mExtend := fun {ρ H st v d} A r => by
  rcases isLst_ok A r with q | ⟨q, a, n, vs, l, rfl, rfl, ha, e1, h1, rl, ty⟩
  · exact .inl q
  · refine .inr ⟨q, "list", "list.extend", rExtendS X.K, ⟨PySem.F.plainAttrs_list, PySem.F.slot_list_extend, PySem.F.type_list_extend, mt_extendS⟩, ty, fun {σ Q ρ1 H1 st1 y z} A1 r1 r2 h => ?_⟩
    obtain ⟨ha, ⟨vs, l, e1, h1, rl⟩ | hn⟩ := lst_at A1 r1
    · rcases lstD_ok A1 r2 with e2 | ⟨b, ws, l2, rfl, e2, h2, rl2⟩
      · exact h.none (by simp only [mExtend, e1, e2])
      · by_cases hl : l.length + l2.length < lim
        · refine ⟨a, b, vs, ws, rfl, rfl, h1, h2, by rw [rl.length, rl2.length]; exact lim_size hl, ?_⟩
          obtain ⟨A2, g2⟩ := A1.put (o := .lst (vs ++ ws)) (ob := .lst (l ++ l2)) ha fun k => .lst upd_same (by
            have a1 := rl.keep k []
            have a2 := rl2.keep k []
            simp only [List.append_nil] at a1 a2
            exact a1.append a2)
          exact h.ok (st' := st1.set n (.lst (l ++ l2))) (d := .non) (by simp only [mExtend, e1, e2, if_pos hl]) g2 A2 .non
        · exact h.none (by simp only [mExtend, e1, e2, if_neg hl])
    · exact h.none (by
        unfold mExtend
        cases e2 : st1[n]? with
        | none => simp [e2]
        | some o => cases o <;> first | (simp [e2]; done) | exact absurd e2 (hn _))
theorem m_count : Mt1 X cl E "count" isLst mCount := fun {ρ H st v d} A r => by
  rcases isLst_ok A r with q | ⟨q, a, n, vs, l, rfl, rfl, ha, e1, h1, rl, ty⟩
  · exact .inl q
  · refine .inr ⟨q, "list", "list.count", rCntI X.K, ⟨PySem.F.plainAttrs_list, PySem.F.slot_list_count, PySem.F.type_list_count, mt_lcount⟩, ty, fun {σ Q ρ1 H1 st1 y z} A1 r1 r2 h => ?_⟩
    obtain ⟨ha, ⟨vs, l, e1, h1, rl⟩ | hn⟩ := lst_at A1 r1
    · cases qi : ints? l with
      | none => exact h.none (by simp [mCount, e1, qi])
      | some ns =>
        cases r2 with
        | int i =>
          have ev := ints_of qi rl
          subst ev
          exact ⟨a, ns, i, rfl, rfl, SqL.of h1, h.ok (st' := st1) (d := .int (ns.count i)) (by simp [mCount, e1, qi]) .refl A1 (.int _)⟩
        | _ => exact h.none (by simp [mCount, e1, qi])
    · exact h.none (by
        cases e2 : st1[n]? with
        | none => simp [mCount, e2]
        | some o => cases o <;> first | (simp [mCount, e2]; done) | exact absurd e2 (hn _))
theorem m_pop : Mt0 X cl E "pop" isLst mPop := fun {ρ H st v d} A r => by
  rcases isLst_ok A r with q | ⟨q, a, n, vs, l, rfl, rfl, ha, e1, h1, rl, ty⟩
  · exact .inl q
  · refine .inr ⟨q, "list", "list.pop", rPop, ⟨PySem.F.plainAttrs_list, PySem.F.slot_list_pop, PySem.F.type_list_pop, mt_pop⟩, ty, fun {σ Q} h => ?_⟩
    cases ql : l.getLast? with
    | none => exact h.none (by simp [mPop, e1, ql])
    | some x =>
      have hx : l[l.length - 1]? = some x := by rw [← ql, List.getLast?_eq_getElem?]
      obtain ⟨y, hy, ry⟩ := rl.get hx
      refine ⟨a, vs, y, rfl, rfl, h1, by rw [rl.length]; exact hy, ?_⟩
      obtain ⟨A2, g2⟩ := A.put (o := .lst vs.dropLast) (ob := .lst l.dropLast) ha fun k => .lst upd_same (by
        have gen : ∀ {H' : Hp}, RvL X.K H' ρ vs l → RvL X.K H' ρ vs.dropLast l.dropLast := fun r => by
          rw [List.dropLast_eq_take, List.dropLast_eq_take, r.length]
          exact r.take _
        have a1 := rl.keep k []
        simp only [List.append_nil] at a1
        exact gen a1)
      exact h.ok (st' := st.set n (.lst l.dropLast)) (d := x) (by simp [mPop, e1, ql]) g2 A2 (ry.grow A g2)
theorem m_index (hu : X.A.units + 65 < cLine) : Mt1 X cl E "index" isIxd mIndex := fun {ρ H st v d} A r => by
  cases r with
  | @xtup a vs l hs rl =>
    refine .inr ⟨rfl, "tuple", "tuple.index", _, ⟨PySem.F.plainAttrs_tuple, PySem.F.slot_tuple_index, PySem.F.type_tuple_index, mt_tindexD hu⟩, .xt hs, fun {σ Q ρ1 H1 st1 y z} A1 r1 r2 h => ?_⟩
    cases r1 with
    | xtup hs rl =>
      by_cases ho : (D.ok deep z && D.okL deep l) = true
      · obtain ⟨o1, o2⟩ := Bool.and_eq_true_iff.mp ho
        cases qf : l.findIdx? fun w => D.eqv w z with
        | none => exact h.none (by simp only [mIndex, if_pos ho, qf])
        | some j =>
          exact ⟨a, y, toPy z, toPys l, j, rfl, rfl, .tup hs.seq (dpL_of _ _ _ o2 rl), dp_of _ _ _ o1 r2, shapedT_of o2 (by decide), shaped_of o1 (by decide), by rw [find_of o2 o1]; exact qf,
            h.ok (st' := st1) (d := .int j) (by simp only [mIndex, if_pos ho, qf]) .refl A1 (.int _)⟩
      · exact h.none (by simp only [mIndex, if_neg ho])
  | @loc a n ha =>
    cases e1 : st[n]? with
    | none => exact .inl (by simp [isIxd, e1])
    | some o =>
      have q1 := A.get ha e1
      cases q1 with
      | @lst vs l h1 rl =>
        refine .inr ⟨by simp [isIxd, e1], "list", "list.index", rIndexD X.K, ⟨PySem.F.plainAttrs_list, PySem.F.slot_list_index, PySem.F.type_list_index, mt_indexD hu⟩, .of (.inl ⟨rfl, vs, SqL.of h1⟩), fun {σ Q ρ1 H1 st1 y z} A1 r1 r2 h => ?_⟩
        obtain ⟨ha, ⟨vs, l, e1, h1, rl⟩ | hn⟩ := lst_at A1 r1
        · by_cases ho : (D.ok deep z && D.okL deep l) = true
          · obtain ⟨o1, o2⟩ := Bool.and_eq_true_iff.mp ho
            cases qf : l.findIdx? fun w => D.eqv w z with
            | none => exact h.none (by simp only [mIndex, e1, if_pos ho, qf])
            | some j =>
              have qf' := find_of o2 o1
              rw [qf] at qf'
              obtain ⟨hjl, hjt, hjn⟩ := List.findIdx?_eq_some_iff_getElem.mp qf'
              refine ⟨a, y, toPy z, toPys l, j, (toPys l)[j], rfl, rfl, .lst (SqL.of h1) (dpL_of _ _ _ o2 rl), dp_of _ _ _ o1 r2, shapedL_of o2 (by decide), shaped_of o1 (by decide), List.getElem?_eq_getElem hjl, hjt, fun m z' hm hz' => ?_, ?_⟩
              · obtain ⟨hml, hme⟩ := List.getElem?_eq_some_iff.mp hz'
                have := hjn m hm
                rw [hme] at this
                simpa using this
              · exact h.ok (st' := st1) (d := .int j) (by simp only [mIndex, e1, if_pos ho, qf]) .refl A1 (.int _)
          · exact h.none (by simp only [mIndex, e1, if_neg ho])
        · exact h.none (by
            cases e2 : st1[n]? with
            | none => simp [mIndex, e2]
            | some o => cases o <;> first | (simp [mIndex, e2]; done) | exact absurd e2 (hn _))
      | _ => exact .inl (by simp [isIxd, e1])
  | _ => exact .inl rfl
end
end MS

set_option Elab.async false
set_option linter.all false
set_option maxRecDepth 100000
set_option maxHeartbeats 4000000
/-! MSR4: rules of our own: tuple += tuple, a list's item by values. -/
namespace MS
open PySem PySem.Spec PyProof.Rows L2 HT

theorem noI_tuple_add' : typeLookup (.type "tuple") (dunderI "add") = pure none := by rw [typeLookup_type, builtinLookup_eq_fast]; kernel_rfl
section
variable {prog : Program} {w : World} {A : Around} {E : Value → Shared → Prop} {s : Shared}
theorem iconcat_meetsM {T id : String} {B : Builtin} {a b : Value} {S : PySem.Spec} {Q : Value → Shared → Prop} (ha : s.TypeIs a T) (hb : s.TypeIs b T) (hno : typeLookup (.type T) (dunderI "add") = pure none)
    (hfill : fillsNumberSlot (.type T) "add" = pure false) (hseq : seqSlot? (.type T) "__add__" = pure (some (.builtin id))) (slot : Slot T "__add__" id)
    (entry : entryFor table id = some B) (args : argsOk id ⟨[a, b], []⟩) (g : Meets (B ⟨[a, b], []⟩) S) (h : S A (wants Q E) s) : wpAny (model prog w) A (inplaceOp .Add a b) Q E s :=
  wpAny_inplaceOp_concat ha hb hno hfill hseq (call_meets slot ha entry args g h)
theorem icat_tup0 {t b : Addr} {ws : List Value} {Q : Value → Shared → Prop} (ht : IsTup s.heap t ([] : List Value).toArray) (hb : IsTup s.heap b ws.toArray) (h : Q (.ref b) s) : wpAny (model prog w) A (inplaceOp .Add (.ref t) (.ref b)) Q E s := by
  obtain ⟨⟨cls, dd, data, sl⟩, ho, hc, n, hd⟩ := id ht
  obtain ⟨⟨cls2, dd2, data2, sl2⟩, ho2, hc2, n2, hd2⟩ := id hb
  simp only at hc hd hc2 hd2
  subst hc hd hc2 hd2
  exact iconcat_meetsM ⟨_, ho, rfl⟩ ⟨_, ho2, rfl⟩ noI_tuple_add' noFill_tuple_add seq_tuple_add PySem.F.slot_tuple_add PySem.F.entry_tuple_add (PySem.F.args_tuple_add_2 _ _)
    (tuple_addW0 t b ([] : List Value).toArray ws.toArray n n2 dd dd2 sl sl2 (by simp)) ⟨ho, ho2, h⟩
theorem icat_tup {t b : Addr} {vs ws : List Value} {Q : Value → Shared → Prop} (ht : IsTup s.heap t vs.toArray) (hb : IsTup s.heap b ws.toArray) (hv : vs ≠ [])
    (h1 : ws = [] → Q (.ref t) s) (h2 : ws ≠ [] → Q (.ref s.heap.objs.size) { s with heap := s.heap.push { cls := .type "tuple", data := .seq (vs ++ ws).toArray } })
    (hsz : vs.length + ws.length ≤ sizeLine) : wpAny (model prog w) A (inplaceOp .Add (.ref t) (.ref b)) Q E s := by
  obtain ⟨⟨cls, dd, data, sl⟩, ho, hc, n, hd⟩ := id ht
  obtain ⟨⟨cls2, dd2, data2, sl2⟩, ho2, hc2, n2, hd2⟩ := id hb
  simp only at hc hd hc2 hd2
  subst hc hd hc2 hd2
  have e : vs.toArray ++ ws.toArray = (vs ++ ws).toArray := by simp
  by_cases hw : ws = []
  · exact iconcat_meetsM ⟨_, ho, rfl⟩ ⟨_, ho2, rfl⟩ noI_tuple_add' noFill_tuple_add seq_tuple_add PySem.F.slot_tuple_add PySem.F.entry_tuple_add (PySem.F.args_tuple_add_2 _ _)
      (tuple_addW1 t b vs.toArray ws.toArray n n2 dd dd2 sl sl2 (by simpa using hv) (by simp [hw])) ⟨ho, ho2, h1 hw⟩
  · refine iconcat_meetsM ⟨_, ho, rfl⟩ ⟨_, ho2, rfl⟩ noI_tuple_add' noFill_tuple_add seq_tuple_add PySem.F.slot_tuple_add PySem.F.entry_tuple_add (PySem.F.args_tuple_add_2 _ _)
      (tuple_addW2 t b vs.toArray ws.toArray n n2 dd dd2 sl sl2 (by simpa using hv) (by simpa using hw) (by rw [List.size_toArray, List.size_toArray]; exact hsz)) ⟨ho, ho2, ?_⟩
    rw [e]
    exact h2 hw
end
theorem OpR.orI {X : Cx} {f : Value → Value → Sem Value} {r r' : R2} (h : OpR X f r) (h' : OpR X f r') : OpR X f (fun x y H Q => r x y H Q ∨ r' x y H Q) := by
  intro pins s σ H x y v u Q I rx ry q
  rcases q with q | q
  · exact h pins s σ H x y v u Q I rx ry q
  · exact h' pins s σ H x y v u Q I rx ry q
theorem iop_catA {X : Cx} : OpR X (inplaceOp .Add) (rCatA X.K) := by
  intro pins s σ H x y v u Q I rx ry h
  obtain ⟨a, b, xs, ys, rfl, rfl, ha, hb, hz, q0, q1, q2⟩ := h
  by_cases hx : xs = []
  · subst hx
    cases rx
    cases ry
    obtain ⟨its, r1, p1, _⟩ := I.tuple ha
    obtain ⟨its2, r2, p2, _⟩ := I.tuple hb
    cases r1
    exact icat_tup0 p1 p2 ⟨.ref b, H, I, rfl, q0 rfl⟩
  · cases rx
    cases ry
    obtain ⟨its, r1, p1, _⟩ := I.tuple ha
    obtain ⟨its2, r2, p2, _⟩ := I.tuple hb
    refine icat_tup p1 p2 (fun z => hx (r1.nil_iff.mp z)) (fun z => ⟨.ref a, H, I, rfl, q1 hx (r2.nil_iff.mp z)⟩) (fun z => ?_) (by rw [← r1.length, ← r2.length]; exact hz)
    refine ⟨.ref s.heap.objs.size, _, I.laid (t' := s.toks) (o := .tup (xs ++ ys)) (fun b ob q => Heap.get?_push_of_some _ q) (Nat.le_refl _) ?_, rfl, q2 hx (fun w => z (r2.nil_iff.mpr w)) _ (I.hok.fresh (Nat.le_refl _))⟩
    exact ⟨by rw [List.length_append]; exact hz, _, r1.append r2, IsTup.new _ _⟩
theorem pget_list {X : Cx} : PGet X (rIxL X.K) := by
  intro pins s σ H x y v u Q I rx ry h
  obtain ⟨p, xs, i, z, rfl, rfl, hq, he, q⟩ := h
  cases rx
  obtain ⟨t, rfl⟩ := ry
  obtain ⟨its, r, pl, hz⟩ := I.list hq
  obtain ⟨j, h1, h2, h3, h4, h5⟩ := atI_get he
  obtain ⟨w, ew, rw'⟩ := r.get h2
  have hl := r.length
  have hn := line63
  have fin : EP X pins σ Q w s := ⟨z, H, I, rw', q⟩
  by_cases h0 : 0 ≤ i
  · have hj : i.toNat = j := by
      rw [seqIndex_of h0 h5] at h1
      exact Option.some.inj h1
    exact wpAny_getItem_list pl.isList h0 (by omega) (by rw [hj]; simpa using ew) fin
  · have hj : (i + (its.toArray.size : Int)).toNat = j := by
      rw [seqIndex_neg (by omega) h4] at h1
      rw [List.size_toArray, ← hl]
      exact Option.some.inj h1
    exact wpAny_getItem_list_neg pl.isList (by omega) (by rw [List.size_toArray] <;> omega) (by omega) (by rw [hj]; simpa using ew) fin
end MS

set_option Elab.async false
set_option linter.all false
set_option maxRecDepth 100000
set_option maxHeartbeats 4000000
/-! MS9: statements. -/
namespace MS
open PySem PySem.Spec PyProof.Rows L2 MI

section
variable (K : PySem.W.Frag) (cl : Nat → Addr) (E : EX)
/-- what a statement came to is enough for D -/
def RestS (D : Ends) (r : Option (Fl × MI.Env × Stt)) (ρ : List Addr) (H : Hp) : Prop := match r with
  | none => False
  | some (.nx, env', st') => ∀ ρ' H' σ', Grow ρ H ρ' H' → At K cl ρ' H' st' → RvE K H' ρ' σ' env' → D.nx σ' H'
  | some (.bk, env', st') => ∀ ρ' H' σ', Grow ρ H ρ' H' → At K cl ρ' H' st' → RvE K H' ρ' σ' env' → D.bk σ' H'
  | some (.ct, env', st') => ∀ ρ' H' σ', Grow ρ H ρ' H' → At K cl ρ' H' st' → RvE K H' ρ' σ' env' → D.ct σ' H'
  | some (.rt d, _, st') => ∀ ρ' H' v, Grow ρ H ρ' H' → At K cl ρ' H' st' → Rv K H' ρ' v d → D.rt v H'
  | some (.ex c fs, env', st') => ∀ ρ' H' σ', Grow ρ H ρ' H' → At K cl ρ' H' st' → RvE K H' ρ' σ' env' → E c fs σ' ρ' H' st'
def TSm (g : MI.Env → Stt → Option (Fl × MI.Env × Stt)) : TS := fun D σ H => ∃ ρ env st, At K cl ρ H st ∧ RvE K H ρ σ env ∧ RestS K cl E D (g env st) ρ H
/-- a target -/
def RestG (Q : L2.St → Hp → Prop) (r : Option (MI.Env × Stt)) (ρ : List Addr) (H : Hp) : Prop := match r with
  | none => False
  | some (env', st') => ∀ ρ' H' σ', Grow ρ H ρ' H' → At K cl ρ' H' st' → RvE K H' ρ' σ' env' → Q σ' H'
def TGm (g : D → MI.Env → Stt → Option (MI.Env × Stt)) : TG := fun v σ H Q => ∃ ρ env st d, At K cl ρ H st ∧ RvE K H ρ σ env ∧ Rv K H ρ v d ∧ RestG K cl Q (g d env st) ρ H
def TGsm (g : List D → MI.Env → Stt → Option (MI.Env × Stt)) : TGs := fun vs σ H Q => ∃ ρ env st ds, At K cl ρ H st ∧ RvE K H ρ σ env ∧ RvL K H ρ vs ds ∧ RestG K cl Q (g ds env st) ρ H
end
section
variable {K : PySem.W.Frag} {cl : Nat → Addr} {E : EX} {α β : Type} {σ : L2.St} {H H1 : Hp} {ρ ρ1 : List Addr} {st : Stt} {env : MI.Env} {D : Ends}
theorem RestS.base {r : Option (Fl × MI.Env × Stt)} (h : RestS K cl E D r ρ H) (g : Grow ρ H ρ1 H1) : RestS K cl E D r ρ1 H1 := by
  match r, h with
  | some (.nx, env', st'), h => exact fun ρ' H' σ' g' A e => h ρ' H' σ' (g.trans g') A e
  | some (.bk, env', st'), h => exact fun ρ' H' σ' g' A e => h ρ' H' σ' (g.trans g') A e
  | some (.ct, env', st'), h => exact fun ρ' H' σ' g' A e => h ρ' H' σ' (g.trans g') A e
  | some (.rt d, env', st'), h => exact fun ρ' H' σ' g' A e => h ρ' H' σ' (g.trans g') A e
  | some (.ex k fs, env', st'), h => exact fun ρ' H' σ' g' A e => h ρ' H' σ' (g.trans g') A e
theorem RestG.base {Q : L2.St → Hp → Prop} {r : Option (MI.Env × Stt)} (h : RestG K cl Q r ρ H) (g : Grow ρ H ρ1 H1) : RestG K cl Q r ρ1 H1 := by
  match r, h with
  | some (env', st'), h => exact fun ρ' H' σ' g' A e => h ρ' H' σ' (g.trans g') A e
theorem RestS.rest {m : MI.R α} {f : α → Stt → Option (Fl × MI.Env × Stt)} (rel : Hp → List Addr → β → α → Prop) (A : At K cl ρ H st) (e : RvE K H ρ σ env) (h : RestS K cl E D (sBnd m env f st) ρ H) :
    Rest K cl E rel σ (fun v1 H1 => ∃ ρ1 st1 d1, Grow ρ H ρ1 H1 ∧ At K cl ρ1 H1 st1 ∧ rel H1 ρ1 v1 d1 ∧ RestS K cl E D (f d1 st1) ρ1 H1) m ρ H st := by
  unfold sBnd at h
  cases q : m st with
  | none => rw [q] at h; exact h.elim
  | some p =>
    obtain ⟨rs, st1⟩ := p
    rw [q] at h
    cases rs with
    | ok d => exact .inl ⟨d, st1, q, fun ρ1 H1 v1 g1 A1 r1 => ⟨ρ1, st1, d, g1, A1, r1, h.base g1⟩⟩
    | exc k fs => exact .inr ⟨k, fs, st1, q, fun ρ1 H1 g1 A1 => h ρ1 H1 σ g1 A1 (e.grow A g1)⟩
theorem RestS.step {x : MI.Env → MI.R α} {f : α → Stt → Option (Fl × MI.Env × Stt)} (rel : Hp → List Addr → β → α → Prop) (A : At K cl ρ H st) (e : RvE K H ρ σ env) (h : RestS K cl E D (sBnd (x env) env f st) ρ H) :
    TM K cl E rel x σ H (fun v1 H1 => ∃ ρ1 st1 d1, Grow ρ H ρ1 H1 ∧ At K cl ρ1 H1 st1 ∧ rel H1 ρ1 v1 d1 ∧ RestS K cl E D (f d1 st1) ρ1 H1) := ⟨ρ, env, st, A, e, h.rest rel A e⟩
theorem RestG.step {Q : L2.St → Hp → Prop} {x : MI.Env → MI.R α} {f : α → Stt → Option (MI.Env × Stt)} (rel : Hp → List Addr → β → α → Prop) (A : At K cl ρ H st) (e : RvE K H ρ σ env) (h : RestG K cl Q (gBnd (x env) f st) ρ H) :
    TM K cl E rel x σ H (fun v1 H1 => ∃ ρ1 st1 d1, Grow ρ H ρ1 H1 ∧ At K cl ρ1 H1 st1 ∧ rel H1 ρ1 v1 d1 ∧ RestG K cl Q (f d1 st1) ρ1 H1) := by
  refine ⟨ρ, env, st, A, e, ?_⟩
  unfold gBnd at h
  cases q : x env st with
  | none => rw [q] at h; exact h.elim
  | some p =>
    obtain ⟨rs, st1⟩ := p
    rw [q] at h
    cases rs with
    | ok d => exact .inl ⟨d, st1, q, fun ρ1 H1 v1 g1 A1 r1 => ⟨ρ1, st1, d, g1, A1, r1, h.base g1⟩⟩
    | exc k fs => exact h.elim
end
theorem psI {X : Cx} {s : Stmt} {t t' : TS} (h : PS X s t) (i : ∀ D σ H, t' D σ H → t D σ H) : PS X s t' := ⟨fun pins s σ H D I q => h.run pins s σ H D I (i D σ H q)⟩
theorem pssI {X : Cx} {s : List Stmt} {t t' : TS} (h : PSs X s t) (i : ∀ D σ H, t' D σ H → t D σ H) : PSs X s t' := ⟨fun pins s σ H D I q => h.run pins s σ H D I (i D σ H q)⟩
theorem pgI {X : Cx} {e : Expr} {t t' : TG} (h : PG X e t) (i : ∀ v σ H Q, t' v σ H Q → t v σ H Q) : PG X e t' := ⟨fun pins s σ H v u Q I r q => h.run pins s σ H v u Q I r (i v σ H Q q)⟩
theorem pgsI {X : Cx} {e : List Expr} {t t' : TGs} (h : PGs X e t) (i : ∀ v σ H Q, t' v σ H Q → t v σ H Q) : PGs X e t' := ⟨fun pins s σ H v u Q I r q => h.run pins s σ H v u Q I r (i v σ H Q q)⟩
section
variable (X : Cx) (cl : Nat → Addr) (E : EX) (c : MI.Ctx)
abbrev MST (s : Stmt) (g : SS) : Prop := PS X s (TSm X.K cl E (g c))
abbrev MSS (s : List Stmt) (g : SS) : Prop := PSs X s (TSm X.K cl E (g c))
abbrev MG (e : Expr) (g : SG) : Prop := PG X e (TGm X.K cl (g c))
abbrev MGs (e : List Expr) (g : SGs) : Prop := PGs X e (TGsm X.K cl (g c))
end

section
variable {X : Cx} {cl : Nat → Addr} {E : EX} {c : MI.Ctx} {a b e : Expr} {ga gb ge : SE} {pos : Pos} {s : Stmt} {ss : List Stmt} {gs gr : SS} {t : MI.ST}
/-! ### blocks, small statements -/
theorem mss_nil : MSS X cl E c [] sPass := pssI pss_nil fun D σ H ⟨ρ, env, st, A, e, h⟩ => h ρ H σ .refl A e
theorem mss_one (h : MST X cl E c s gs) : MSS X cl E c [s] gs := pss_one h
theorem mss_cons (h : MST X cl E c s gs) (hr : MSS X cl E c ss gr) : MSS X cl E c (s :: ss) (sSeq gs gr) := pssI (pss_cons h hr) fun D σ H ⟨ρ, env, st, A, e, h⟩ => by
  refine ⟨ρ, env, st, A, e, ?_⟩
  unfold sSeq at h
  match q : gs c env st, h with
  | some (.nx, env', st'), h => exact fun ρ' H' σ' g' A' e' => ⟨ρ', env', st', A', e', RestS.base h g'⟩
  | some (.bk, env', st'), h => exact h
  | some (.ct, env', st'), h => exact h
  | some (.rt d, env', st'), h => exact h
  | some (.ex k fs, env', st'), h => exact h
theorem ms_pass : MST X cl E c (.Pass pos) sPass := psI ps_pass fun D σ H ⟨ρ, env, st, A, e, h⟩ => h ρ H σ .refl A e
theorem ms_doc {x j pos'} : MST X cl E c (.Expr (.Constant (.str x) j pos) pos') sPass := psI ps_doc fun D σ H ⟨ρ, env, st, A, e, h⟩ => h ρ H σ .refl A e
theorem ms_brk : MST X cl E c (.Break pos) sBrk := psI ps_break fun D σ H ⟨ρ, env, st, A, e, h⟩ => h ρ H σ .refl A e
theorem ms_cont : MST X cl E c (.Continue pos) sCont := psI ps_continue fun D σ H ⟨ρ, env, st, A, e, h⟩ => h ρ H σ .refl A e
theorem ms_expr (he : ME X cl E c e ge) (hs : swapsWith e none pos.line X.env = pure false := by rfl) : MST X cl E c (.Expr e pos) (sExpr ge) := psI (ps_expr he hs) fun D σ H ⟨ρ, env, st, A, e, h⟩ =>
  (RestS.step (x := ge c) (rV X.K) A e h).imp fun v1 H1 ⟨ρ1, st1, d1, g1, A1, r1, h1⟩ => h1 ρ1 H1 σ .refl A1 (e.grow A g1)
theorem ms_ret (he : ME X cl E c e ge) : MST X cl E c (.Return (some e) pos) (sRet ge) := psI (ps_ret he) fun D σ H ⟨ρ, env, st, A, e, h⟩ =>
  (RestS.step (x := ge c) (rV X.K) A e h).imp fun v1 H1 ⟨ρ1, st1, d1, g1, A1, r1, h1⟩ => h1 ρ1 H1 v1 .refl A1 r1
theorem ms_retN : MST X cl E c (.Return none pos) sRetN := psI ps_retN fun D σ H ⟨ρ, env, st, A, e, h⟩ => h ρ H .non .refl A .non
theorem ms_if {a b : List Stmt} {gA gB : SS} (ht : MT X cl E c e t) (ha : MSS X cl E c a gA) (hb : MSS X cl E c b gB) : MST X cl E c (.If e a b pos) (sIf t gA gB) := psI (ps_if ht ha hb) fun D σ H ⟨ρ, env, st, A, e, h⟩ =>
  (RestS.step (x := t c) rB A e h).imp fun v1 H1 ⟨ρ1, st1, d1, g1, A1, r1, h1⟩ => by
    have r1' : v1 = d1 := r1
    subst r1'
    cases v1 with
    | true => exact iteT ⟨ρ1, env, st1, A1, e.grow A g1, h1⟩
    | false => exact iteF ⟨ρ1, env, st1, A1, e.grow A g1, h1⟩

/-! ### targets -/
theorem mg_name {i : Nat} {x : Str} (hN : X.N.Nodup) (hi : X.N[i]? = some x := by rfl) (hx : Loc X.env.scope x := by first | exact Or.inl rfl | exact Or.inr rfl) (hf : X.fn x = true ∨ X.env.scope.names.lookup x = some .local := by first | exact .inl rfl | exact .inr rfl | assumption) : MG X cl c (.Name x pos) (gVar i) :=
  pgI (pg_name hN hi hx hf) fun v σ H Q ⟨ρ, env, st, d, A, e, r, h⟩ => by
    unfold gVar at h
    by_cases hl : i < env.length
    · rw [if_pos hl] at h
      exact h ρ H _ .refl A (RvE.set r i e)
    · rw [if_neg hl] at h; exact h.elim
variable {es : List Expr} {g : SG} {gg : SGs}
theorem mgs_nil : MGs X cl c [] MI.gNil := pgsI pgs_nil fun vs σ H Q ⟨ρ, env, st, ds, A, e, r, h⟩ => by
  cases r with
  | nil => exact ⟨rfl, h ρ H σ .refl A e⟩
  | cons _ _ => exact h.elim
theorem mgs_cons (h1 : MG X cl c e g) (h2 : MGs X cl c es gg) (hs : (assignEach (e :: es) X.env).map (·.2) = assign e X.env :: (assignEach es X.env).map (·.2) := by rfl) : MGs X cl c (e :: es) (MI.gCons g gg) :=
  pgsI (pgs_cons h1 h2 hs) fun vs σ H Q ⟨ρ, env, st, ds, A, e, r, h⟩ => by
    cases r with
    | nil => exact h.elim
    | @cons v vs d ds r rr =>
      refine ⟨v, vs, rfl, ρ, env, st, d, A, e, r, ?_⟩
      match q : g c d env st, h with
      | none, h => simp only [MI.gCons, q] at h; exact h.elim
      | some (env', st'), h =>
        simp only [MI.gCons, q] at h
        exact fun ρ' H' σ' g' A' e' => ⟨ρ', env', st', ds, A', e', rr.grow A g', RestG.base h g'⟩
theorem mg_tup {k n : Nat} (hc : X.calm = true) (h : MGs X cl c es gg) (hn : (assignEach es X.env).length = n := by rfl) (hst : (assignEach es X.env).findIdx? (·.1) = none := by rfl) : MG X cl c (.Tuple es k pos) (MI.gTup n gg) :=
  pgI (pg_tup hc h hn hst) fun v σ H Q ⟨ρ, env, st, d, A, e, r, h⟩ => by
    cases r with
    | @tup a vs l hs r =>
      unfold MI.gTup at h
      by_cases hl : l.length = n
      · simp only [hl, if_true] at h
        exact ⟨a, vs, rfl, hs, by rw [r.length]; exact hl, ρ, env, st, l, A, e, r, h⟩
      · simp only [hl, if_false] at h; exact h.elim
    | _ => exact h.elim
/-- what a store into a list does -/
theorem setIx_at {K : PySem.W.Frag} {ρ : List Addr} {H : Hp} {st st' : Stt} {n : Nat} {k : Int} {v : V} {d : D} {p : Addr} (A : At K cl ρ H st) (hp : ρ[n]? = some p) (r : Rv K H ρ v d) (h : setIx n k d st = some st') :
    ∃ xs j, H p = some (.lst xs) ∧ L2.ixN xs.length k = some j ∧ At K cl ρ (upd H p (.lst (xs.set j v))) st' ∧ Grow ρ H ρ (upd H p (.lst (xs.set j v))) := by
  unfold setIx at h
  cases e1 : st[n]? with
  | none => rw [e1] at h; cases h
  | some o =>
    rw [e1] at h
    have q1 := A.get hp e1
    cases q1 with
    | @lst vs l h1 rl =>
      cases q : MI.ixN l.length k with
      | none => simp only [q] at h; cases h
      | some j =>
        simp only [q] at h
        cases h
        obtain ⟨A', g⟩ := A.put (n := n) (o := .lst (vs.set j v)) (ob := .lst (l.set j d)) hp (fun kk => .lst upd_same (by
          have := RvL.set (r.keep kk []) j (rl.keep kk [])
          simpa using this))
        exact ⟨vs, j, h1, by rw [rl.length, ← ixN_same]; exact q, A', g⟩
    | _ => cases h
theorem mg_sub (ha : ME X cl (fun _ _ _ _ _ _ => False) c a ga) (hb : ME X cl (fun _ _ _ _ _ _ => False) c b gb)
    (hq : ∀ v, assign (.Subscript a b pos) X.env v = (do
      let ov ← holding [v] (eval a X.env)
      let iv ← holding [v, ov] (eval b X.env)
      standAt pos
      holding [v, ov, iv] (setItem ov iv v)
      release [v, ov, iv] []) := by intro _; rfl) : MG X cl c (.Subscript a b pos) (MI.gSub ga gb) :=
  pgI (pg_sub ha hb set_list hq) fun v σ H Q ⟨ρ, env, st, d, A, e, r, h⟩ => by
    refine (RestG.step (x := ga c) (rV X.K) A e h).imp fun v1 H1 ⟨ρ1, st1, d1, g1, A1, r1, h1⟩ => ?_
    refine (RestG.step (x := gb c) (rV X.K) A1 (e.grow A g1) h1).imp fun v2 H2 ⟨ρ2, st2, d2, g2, A2, r2, h2⟩ => ?_
    have r1' := r1.grow A1 g2
    cases r1' with
    | @loc p n hp =>
      cases r2 with
      | int k =>
        unfold putIx at h2
        cases q : setIx n k d st2 with
        | none => simp only [q] at h2; exact h2.elim
        | some st3 =>
          simp only [q] at h2
          obtain ⟨xs, j, q1, q2, A3, g3⟩ := setIx_at A2 hp (r.grow A (g1.trans g2)) q
          exact ⟨p, xs, k, j, rfl, rfl, q1, q2, h2 _ _ σ g3 A3 (e.grow A ((g1.trans g2).trans g3))⟩
      | _ => exact h2.elim
    | _ => exact h2.elim

/-! ### stores -/
theorem ms_asg (he : ME X cl E c e ge) (hg : MG X cl c a g) (hs : swapsWithSole [a] e pos.line X.env = pure false := by rfl) (hw : swappedStores [a] e X.env = pure none := by rfl)
    (h1 : (assignEach [a] X.env).map (·.2) = [assign a X.env] := by rfl) : MST X cl E c (.Assign [a] e pos) (sAsg g ge) := psI (ps_asg he hg hs hw h1) fun D σ H ⟨ρ, env, st, A, e, h⟩ =>
  (RestS.step (x := ge c) (rV X.K) A e h).imp fun v1 H1 ⟨ρ1, st1, d1, g1, A1, r1, h1⟩ => by
    refine ⟨ρ1, env, st1, d1, A1, e.grow A g1, r1, ?_⟩
    match q : g c d1 env st1, h1 with
    | none, h1 => simp only [q] at h1; exact h1.elim
    | some (env', st'), h1 => simp only [q] at h1; exact h1
theorem ms_set {i : Nat} {x : Str} {pos' : Pos} (hN : X.N.Nodup) (he : ME X cl E c e ge) (hi : X.N[i]? = some x := by rfl) (hx : Loc X.env.scope x := by first | exact Or.inl rfl | exact Or.inr rfl) (hs : swapsWith e (some (.Name x pos')) pos.line X.env = pure false := by rfl)
    (hf : X.fn x = true ∨ X.env.scope.names.lookup x = some .local := by first | exact .inl rfl | exact .inr rfl | assumption) : MST X cl E c (.Assign [.Name x pos'] e pos) (sSet i ge) := psI (ps_set hN hi hx he hs hf) fun D σ H ⟨ρ, env, st, A, e, h⟩ =>
  (RestS.step (x := ge c) (rV X.K) A e h).imp fun v1 H1 ⟨ρ1, st1, d1, g1, A1, r1, h1⟩ => by
    by_cases hl : i < env.length
    · rw [if_pos hl] at h1
      exact h1 ρ1 H1 _ .refl A1 (RvE.set r1 i (e.grow A g1))
    · rw [if_neg hl] at h1; exact h1.elim
theorem ms_par {i j : Nat} {x y : Str} {gl : SL} {px py pt : Pos} {kt k2 pt2} (hc : X.calm = true) (hN : X.N.Nodup) (ha : MA X cl E c [a, b] gl)
    (hw : swappedStores [.Tuple [.Name x px, .Name y py] kt pt] (.Tuple [a, b] k2 pt2) X.env = pure (some [x, y])) (hi : X.N[i]? = some x := by rfl) (hj : X.N[j]? = some y := by rfl) (hij : i ≠ j := by decide)
    (hx : X.env.scope.names.lookup x = some .local := by rfl) (hy : X.env.scope.names.lookup y = some .local := by rfl)
    (hs : swapsWithSole [.Tuple [.Name x px, .Name y py] kt pt] (.Tuple [a, b] k2 pt2) pos.line X.env = pure false := by rfl) :
    MST X cl E c (.Assign [.Tuple [.Name x px, .Name y py] kt pt] (.Tuple [a, b] k2 pt2) pos) (sPar i j gl) := psI (ps_par hc hN hi hj hij hx hy ha hw hs) fun D σ H ⟨ρ, env, st, A, e, h⟩ =>
  (RestS.step (x := gl c) (rL X.K) A e h).imp fun v1 H1 ⟨ρ1, st1, d1, g1, A1, r1, h1⟩ => by
    cases r1 with
    | nil => exact h1.elim
    | @cons v vs d ds ra rr =>
      cases rr with
      | nil => exact h1.elim
      | @cons w ws d' ds' rb rr =>
        cases rr with
        | cons _ _ => exact h1.elim
        | nil =>
          refine ⟨v, w, rfl, ?_⟩
          by_cases hl : i < env.length ∧ j < env.length
          · have h2 : RestS X.K cl E D (if i < env.length ∧ j < env.length then some (.nx, (env.set i (some d)).set j (some d'), st1) else none) ρ1 H1 := h1
            rw [if_pos hl] at h2
            exact h2 ρ1 H1 _ .refl A1 (RvE.set rb j (RvE.set ra i (e.grow A g1)))
          · have h2 : RestS X.K cl E D (if i < env.length ∧ j < env.length then some (.nx, (env.set i (some d)).set j (some d'), st1) else none) ρ1 H1 := h1
            rw [if_neg hl] at h2; exact h2.elim
theorem ms_aug {i : Nat} {x : Str} {op : Operator} {f : D → D → MI.R D} {r : R2} {pos' : Pos} (hN : X.N.Nodup) (ho : OpR X (inplaceOp op) r) (hs : OpS X.K cl E f r) (he : ME X cl E c e ge) (hi : X.N[i]? = some x := by rfl) (hx : Loc X.env.scope x := by first | exact Or.inl rfl | exact Or.inr rfl)
    (hf : X.fn x = true ∨ X.env.scope.names.lookup x = some .local := by first | exact .inl rfl | exact .inr rfl | assumption) : MST X cl E c (.AugAssign (.Name x pos') op e pos) (sAug i f ge) := psI (ps_aug hN hi hx he ho hf) fun D σ H ⟨ρ, env, st, A, e, h⟩ => by
  unfold sAug at h
  match q : env[i]?, h with
  | none, h => simp only [q] at h; exact h.elim
  | some none, h => simp only [q] at h; exact h.elim
  | some (some d), h =>
    simp only [q] at h
    obtain ⟨v, hv, r⟩ := e.get q
    refine ⟨v, hv, (RestS.step (x := ge c) (rV X.K) A e h).imp fun v1 H1 ⟨ρ1, st1, d1, g1, A1, r1, h1⟩ => ?_⟩
    have e1 := e.grow A g1
    refine hs A1 (r.grow A g1) r1 ((RestS.rest (rV X.K) A1 e1 h1).imp fun v2 H2 ⟨ρ2, st2, d2, g2, A2, r2, h2⟩ => ?_)
    exact h2 ρ2 H2 _ .refl A2 (RvE.set r2 i (e1.grow A1 g2))

/-! ### fields -/
theorem setFld_at {W : WX} {lv : Nat} (G : Good X W cl c lv) {ρ : List Addr} {H : Hp} {st st' : Stt} {n : Nat} {f : List Nat} {v : V} {d : D} {p : Addr} (A : At X.K cl ρ H st) (hp : ρ[n]? = some p) (r : Rv X.K H ρ v d) (h : setFld c n f d st = some st') :
    ∃ C dx fs, H p = some (.ins C dx fs) ∧ Cls X.K C ∧ NoAttr X.K C (sD f) ∧ fs.length < 1000 ∧ At X.K cl ρ (upd H p (.ins C dx (L2.putF (sD f) v fs))) st' ∧ Grow ρ H ρ (upd H p (.ins C dx (L2.putF (sD f) v fs))) := by
  unfold setFld at h
  cases e1 : st[n]? with
  | none => rw [e1] at h; cases h
  | some o =>
    rw [e1] at h
    have q1 := A.get hp e1
    cases q1 with
    | @ins dx k vfs fs h1 rl hc hn =>
      by_cases hb : fs.length < 999 ∧ c.flds k f = true
      · simp only [hb, and_self, if_true] at h
        cases h
        obtain ⟨na, hC⟩ := G.flds k f hb.2
        obtain ⟨A', g⟩ := A.put (n := n) (o := .ins (cl k) dx (L2.putF (sD f) v vfs)) (ob := .ins k (putD fs f d)) hp (fun kk => .ins upd_same (by
          have := RvF.put (f := f) (r.keep kk []) (rl.keep kk [])
          simpa using this) hc (fun p hp => by
            have : p.1 = f ∨ ∃ q ∈ fs, q.1 = p.1 := by
              clear h1 rl hn hb A e1
              induction fs with
              | nil =>
                simp [putD] at hp
                left; rw [hp]
              | cons q qs ih =>
                unfold putD at hp
                by_cases e : q.1 = f
                · rw [if_pos e] at hp
                  rcases List.mem_cons.mp hp with hp | hp
                  · left; rw [hp]; exact e
                  · right; exact ⟨p, List.mem_cons_of_mem _ hp, rfl⟩
                · rw [if_neg e] at hp
                  rcases List.mem_cons.mp hp with hp | hp
                  · right; exact ⟨q, List.mem_cons_self, by rw [hp]⟩
                  · rcases ih hp with z | ⟨z, z1, z2⟩
                    · exact .inl z
                    · exact .inr ⟨z, List.mem_cons_of_mem _ z1, z2⟩
            rcases this with z | ⟨q, z1, z2⟩
            · rw [z]; exact na
            · rw [← z2]; exact hn q z1))
        exact ⟨cl k, dx, vfs, h1, hc, na, by rw [rl.length]; omega, A', g⟩
      · simp only [hb, if_false] at h; cases h
    | _ => cases h
theorem ms_fld {W : WX} {lv : Nat} {f : Str} {pos' : Pos} (G : Good X W cl c lv) (n : List Nat) (hn : f = sD n) (ha : ME X cl E c a ga) (he : ME X cl E c e ge) (hs : swapsWith e (some (.Attribute a f pos')) pos.line X.env = pure false := by rfl) :
    MST X cl E c (.Assign [.Attribute a f pos'] e pos) (MI.sFld ga n ge) := psI (ps_fld ha he hs) fun D σ H ⟨ρ, env, st, A, e, h⟩ => by
  subst hn
  refine (RestS.step (x := ge c) (rV X.K) A e h).imp fun v1 H1 ⟨ρ1, st1, d1, g1, A1, r1, h1⟩ => ?_
  have e1 := e.grow A g1
  refine (RestS.step (x := ga c) (rV X.K) A1 e1 h1).imp fun v2 H2 ⟨ρ2, st2, d2, g2, A2, r2, h2⟩ => ?_
  cases r2 with
  | @loc p i hp =>
    unfold endFld at h2
    cases q : setFld c i n d1 st2 with
    | none => simp only [q] at h2; exact h2.elim
    | some st3 =>
      simp only [q] at h2
      obtain ⟨C, dx, fs, q1, q2, q3, q4, A3, g3⟩ := setFld_at G A2 hp (r1.grow A1 g2) q
      exact ⟨p, C, dx, fs, rfl, q1, q2, q3, q4, h2 _ _ σ g3 A3 ((e1.grow A1 g2).grow A2 g3)⟩
  | _ => exact h2.elim
theorem ms_fldaug {W : WX} {lv : Nat} {f : Str} {tpos : Pos} {op : Operator} {fo : D → D → MI.R D} {r : R2} (G : Good X W cl c lv) (n : List Nat) (hn : f = sD n) (ho : OpR X (inplaceOp op) r) (hs : OpS X.K cl E fo r) (ha : ME X cl E c a ga) (he : ME X cl E c e ge) :
    MST X cl E c (.AugAssign (.Attribute a f tpos) op e pos) (MI.sFldAug ga n fo ge) := psI (ps_fldaug ha he ho) fun D σ H ⟨ρ, env, st, A, e, h⟩ => by
  subst hn
  refine (RestS.step (x := ga c) (rV X.K) A e h).imp fun v1 H1 ⟨ρ1, st1, d1, g1, A1, r1, h1⟩ => ?_
  have e1 := e.grow A g1
  cases r1 with
  | @loc p i hp =>
    have bad : opFldK n (.loc i) st1 = none → ∀ {P : Prop}, P := fun q => by
      unfold sBnd at h1
      rw [q] at h1; exact h1.elim
    cases e1' : st1[i]? with
    | none => exact bad (by simp [opFldK, e1'])
    | some o =>
      have q1 := A1.get hp e1'
      cases q1 with
      | @ins dx k vfs fs h2 rl hc hnn =>
        rcases rl.look (f := n) with ⟨q, _⟩ | ⟨d, v, q2, q3, q4⟩
        · exact bad (by simp [opFldK, e1', q])
        · have hm : ∃ p ∈ fs, p.1 = n := by
            unfold MI.getD at q2
            obtain ⟨p, hp, _⟩ := Option.map_eq_some_iff.mp q2
            exact ⟨p, List.mem_of_find?_eq_some hp, by simpa using List.find?_some hp⟩
          obtain ⟨pp, hpp, hpg⟩ := hm
          have hno : NoAttr X.K (cl k) (sD n) := by rw [← hpg]; exact hnn pp hpp
          have eo : opFldK n (.loc i) st1 = some (.ok (k, d), st1) := by simp [opFldK, e1', q2]
          have h2' : RestS X.K cl E D (sBnd (ge c env) env (fun y => sBnd (fo d y) env fun z st => endFldK c env n k (.loc i) z st) st1) ρ1 H1 := by
            unfold sBnd at h1
            rw [eo] at h1; exact h1
          refine ⟨p, cl k, dx, vfs, v, rfl, h2, hc, hno, q3, ?_⟩
          refine (RestS.step (x := ge c) (rV X.K) A1 e1 h2').imp fun v2 H2 ⟨ρ2, st2, d2, g2, A2, r2, h3⟩ => ?_
          have e2 := e1.grow A1 g2
          refine hs A2 (q4.grow A1 g2) r2 ((RestS.rest (rV X.K) A2 e2 h3).imp fun v3 H3 ⟨ρ3, st3, d3, g3, A3, r3, h4⟩ => ?_)
          have hp3 : ρ3[i]? = some p := by
            obtain ⟨x1, rfl⟩ := g2.ext
            obtain ⟨x2, rfl⟩ := g3.ext
            exact getElem?_app (getElem?_app hp)
          unfold endFldK at h4
          by_cases hk : isCls k (.loc i) st3 = true
          · rw [if_pos hk] at h4
            unfold endFld at h4
            cases qq : setFld c i n d3 st3 with
            | none => simp only [qq] at h4; exact h4.elim
            | some st4 =>
              simp only [qq] at h4
              obtain ⟨C, dx', fs', z1, z2, z3, z4, A4, g4⟩ := setFld_at G A3 hp3 r3 qq
              have hC : C = cl k := by
                unfold isCls at hk
                cases e3 : st3[i]? with
                | none => simp [e3] at hk
                | some o3 =>
                  have w := A3.get hp3 e3
                  cases w with
                  | @ins dx3 k3 vfs3 fs3 y1 y2 y3 y4 =>
                    have : k3 = k := by simpa [e3] using hk
                    subst this
                    rw [z1] at y1; cases y1; rfl
                  | _ => simp [e3] at hk
              subst hC
              exact ⟨dx', fs', z1, z4, h4 _ _ σ g4 A4 ((e2.grow A2 g3).grow A3 g4)⟩
          · rw [if_neg hk] at h4; exact h4.elim
      | _ => exact bad (by simp [opFldK, e1'])
  | _ =>
    exfalso
    unfold sBnd at h1
    exact h1
end
end MS

set_option Elab.async false
set_option linter.all false
set_option maxRecDepth 100000
set_option maxHeartbeats 4000000
/-! MSR5: rules of our own: a walk over a list or a tuple, enumerate of a tuple. -/
namespace PySem
open Sem (wp)
open AutoSeq1 (wpAny_loadPart')
theorem meets_enumerate_newTM (l : Addr) (items : Array Value) (n : Nat) (dct : Option Addr) (sl : Array (Option Value)) :
    Meets (Builtin.«enumerate.__new__» ⟨[.type "enumerate", .ref l], []⟩) (fun _ R s => s.heap.get? l = some { cls := .type "tuple", dict := dct, data := .seq items n, slots := sl } ∧
      R (.ok (.ret (.ref (s.heap.push { cls := .type "tuple_iterator", data := .fields #[.ref l, .int 0 0] }).objs.size)))
        { s with heap := (s.heap.push { cls := .type "tuple_iterator", data := .fields #[.ref l, .int 0 0] }).push { cls := .type "enumerate", data := .fields #[.none, .bool false, .ref s.heap.objs.size, rawInt 0, .none, .none] } }) :=
  .of_wp fun prog w A R s h => by
    obtain ⟨hp, g, d, tk, os⟩ := s; obtain ⟨hl, h⟩ := h
    have hsub := sub_enumerate
    have hL : Heap.IsTuple (Shared.heap ⟨hp, g, d, tk, os⟩) l items := ⟨_, hl, rfl, n, rfl⟩
    wp_walk using wpAny_loadPart' hl
    refine wpAny_stack_any fun st => wpAny_pure ?_
    split
    · rename_i c _ _ _ _ _
      cases (c == Value.type "enumerate")
      · wp_walk using wpAny_loadPart' hl, wpAny_pyIter_tuple hL
        exact ⟨_, rfl, h⟩
      · wp_walk using wpAny_loadPart' hl, wpAny_pyIter_tuple hL
        exact ⟨_, rfl, h⟩
    · wp_walk using wpAny_loadPart' hl, wpAny_pyIter_tuple hL
      exact ⟨_, rfl, h⟩
section
variable {prog : Program} {w : World} {A : Around} {E : Value → Shared → Prop} {s : Shared}
theorem call_enumerate_tupleM {l : Addr} {items : Array Value} {Q : Value → Shared → Prop} (hL : s.heap.IsTuple l items)
    (h : ∀ h', IsEnum h' (s.heap.objs.size + 1) s.heap.objs.size 0 .none → h'.IsTupleIter s.heap.objs.size l 0 → h'.objs.size = s.heap.objs.size + 2 →
      (∀ b o, s.heap.get? b = some o → h'.get? b = some o) → Q (.ref (s.heap.objs.size + 1)) { s with heap := h' }) :
    wpAny (model prog w) A (call (.type "enumerate") [.ref l]) Q E s := by
  obtain ⟨⟨c, dct, dt, sl⟩, hl, hc, n, hd⟩ := hL
  replace hc : c = .type "tuple" := hc
  replace hd : dt = .seq items n := hd
  subst hc hd
  refine callType_new F.called_enumerate (by decide) (F.typeCall_enumerate_1 _) (F.newCall_enumerate_1 _) (fun obj => F.args_object_init_2 obj _) F.entry_enumerate_new
    (meets_enumerate_newTM l items n dct sl) ⟨hl, ?_⟩
  have hz : (s.heap.push { cls := .type "tuple_iterator", data := .fields #[.ref l, .int 0 0] }).objs.size = s.heap.objs.size + 1 := Heap.size_push ..
  show _ ∧ _
  rw [hz]
  have he : IsEnum ((s.heap.push { cls := .type "tuple_iterator", data := .fields #[.ref l, .int 0 0] }).push
      { cls := .type "enumerate", data := .fields #[.none, .bool false, .ref s.heap.objs.size, rawInt 0, .none, .none] }) (s.heap.objs.size + 1) s.heap.objs.size 0 .none := by
    have := Heap.get?_push_size (s.heap.push { cls := .type "tuple_iterator", data := .fields #[.ref l, .int 0 0] })
      (o := { cls := .type "enumerate", data := .fields #[.none, .bool false, .ref s.heap.objs.size, rawInt 0, .none, .none] }) rfl
    rw [hz] at this; exact this
  refine ⟨⟨_, he, rfl⟩, h _ he ⟨_, Heap.get?_push_of_some _ (Heap.get?_push_size _ rfl), rfl, rfl⟩ (by rw [Heap.size_push, hz]) fun b o x => Heap.get?_push_of_some _ (Heap.get?_push_of_some _ x)⟩
theorem wpAny_pyNext_enum_endT {e it t : Addr} {k : Nat} {items : Array Value} {i : Int} {old : Value} {Q : Option Value → Shared → Prop}
    (hh : A.handled = none) (he : IsEnum s.heap e it i old) (hit : s.heap.IsTupleIter it t k) (ht : s.heap.IsTuple t items) (hx : items[k]? = none)
    (hQ : ∀ h', Heap.ExtBut it s.heap h' → Q none { s with heap := h' }) : wpAny (model prog w) A (pyNext (.ref e)) Q E s := by
  have hT : s.TypeIs (.ref e) "enumerate" := ⟨_, he, rfl⟩
  unfold pyNext
  refine wpAny_bind (wpAny_attempt (wpAny_callSpecial?_slot (name := Str.ofString "__next__") hT F.slot_enumerate_next
    (wpAny_call_entry F.slot_enumerate_next hT F.entry_enumerate_next ?_ (F.args_enumerate_next_1 _))))
  show wpAny _ _ (field (.ref e) 2 >>= _) _ _ _
  refine wpAny_bind (wpAny_field he rfl (x := .ref it) rfl ?_)
  refine wpAny_bind (wpAny_nextOf_tuple_end (A := A.in1) hh hit ht hx fun h' x he' hx' => ?_)
  obtain ⟨o, ho, hc⟩ := hx'
  refine wpAny_bind (wpAny_isInstance (T := "StopIteration") (b := true) ⟨o, ho, hc⟩ isSubtype_stop ?_)
  exact wpAny_pure (hQ _ he')
end
end PySem
namespace MS
open PySem PySem.Spec PyProof.Rows L2

/-- the tuple at a, each item in a new pair -/
def IteT (K : PySem.W.Frag) (a : Addr) : It :=
  ⟨fun i H => ∃ (xs : List V) (x : V), SqT K H a xs ∧ xs[i]? = some x, fun i H v H' => ∃ T x, v = .ref T ∧ H T = none ∧ H' = upd H T (.tup [.int (i : Nat), x]) ∧ ∀ xs, SqT K H a xs → xs[i]? = some x, fun i H => ∃ xs : List V, SqT K H a xs ∧ xs.length ≤ i⟩
theorem turn_enumT {P : Program} {w : World} {K : PySem.W.Frag} {elts : List Expr} {kk : Nat} {tpos : Pos} (a e it : Addr) :
    Turn P w K (.Tuple elts kk tpos) (IteT K a) [e, it] e (fun i h => (∃ old, IsEnum h e it ((i : Nat) : Int) old) ∧ h.IsTupleIter it a i ∧ e ≠ it) where
  mem := by simp
  obj := fun i h st b hb => by
    obtain ⟨⟨old, he⟩, ⟨o, ho, hc, hd⟩, _⟩ := st
    have e' : b = e ∨ b = it := by simpa using hb
    rcases e' with z | z
    · rw [z]; exact ⟨_, he, fun v q => nomatch q⟩
    · rw [z]; exact ⟨o, ho, fun v q => by rw [hd] at q; cases q⟩
  keep := fun i h h' st k => let ⟨⟨old, he⟩, hi, hne⟩ := st; ⟨⟨old, k e (by simp) _ he⟩, hi.at fun o q => k it (by simp) o q, hne⟩
  item := by
    intro X hP hw hK hc i pins s σ H E I hf st hg
    subst hP hw hK
    obtain ⟨⟨old, he⟩, hit, hne⟩ := st
    obtain ⟨xs, x, hq, hx⟩ := hg
    obtain ⟨its, rv, p, hz⟩ := I.tuple hq
    obtain ⟨u, hu, ru⟩ := rv.get hx
    have hel : e < s.heap.objs.size := Heap.lt_size he
    have hil : it < s.heap.objs.size := by obtain ⟨_, q, _⟩ := hit; exact Heap.lt_size q
    have hai : a ≠ it := fun z => by
      obtain ⟨o1, q1, c1, _⟩ := id p
      obtain ⟨o2, q2, c2, _⟩ := id hit
      rw [z, q2] at q1; cases q1
      rw [c1] at c2; exact absurd c2 (by decide)
    have hae : e ≠ a := fun z => by
      obtain ⟨o1, q1, c1, _⟩ := id p
      have he' := he
      rw [z] at he'
      unfold IsEnum at he'
      rw [q1] at he'; cases he'
      exact absurd (show (Value.type "enumerate") = .type "tuple" from c1) (by decide)
    have hlt : i < its.toArray.size := by
      have := (List.getElem?_eq_some_iff.mp hu).1
      simpa using this
    refine wpAny_pyNext_enum_itemD (Draws.tuple (A := X.A.in1) (I.ok.hd hc) it a hai its.toArray) he ⟨hit, (show s.heap.IsTuple a its.toArray from p)⟩ hlt hne (by simp [hne, hae]) fun x1 h' tk hx1 ho hst' hT hsz hk => ?_
    have ex : x1 = u := by
      have h1 : its[i]? = some x1 := by simpa using hx1
      rw [hu] at h1; cases h1; rfl
    subst ex
    obtain ⟨hit', _⟩ := hst'
    refine ⟨_, rfl, wpAny_letOwnedTupleGo_enum (s := { s with heap := h', toks := tk + 1 }) ho fun h'' he' sb => ?_⟩
    have hT2 : h''.get? s.heap.objs.size = some { cls := .type "tuple", data := .seq #[.int i tk, x1] } := (sb.2 _ (Nat.ne_of_gt hel)).trans hT
    have new : ObjOk X.prog X.w (upd H s.heap.objs.size (.tup [.int (i : Nat), x])) h'' s.heap.objs.size (.tup [.int (i : Nat), x]) :=
      ⟨by show 2 ≤ sizeLine; decide, [.int i tk, x1], .cons ⟨_, rfl⟩ (.cons ru .nil), ⟨_, hT2, rfl, _, rfl⟩⟩
    have I1 : Inv X pins σ (upd H s.heap.objs.size (.tup [.int (i : Nat), x])) { s with heap := h'', toks := tk + 1 } :=
      I.turnedNew (ch := [e, it]) (fun b ob hb q => (sb.2 b (fun z => hb (by simp [z]))).trans (hk b ob (fun z => hb (by simp [z])) (fun z => hb (by simp [z])) q)) hf (Nat.le_refl _) new
    refine ⟨.ref s.heap.objs.size, _, I1, rfl, ⟨_, x, rfl, I.hok.fresh (Nat.le_refl _), rfl, fun ys hy => by
      rw [I.tuple_inj hy hq]; exact hx⟩, ⟨⟨x1, ?_⟩, hit'.at fun o q => (sb.2 it (Ne.symm hne)).trans q, hne⟩, fun b hb => ?_⟩
    · have e1 : ((i + 1 : Nat) : Int) = (i : Int) + 1 := by omega
      rw [e1]; exact he'
    · have hb' : b < s.heap.objs.size := by
        have e' : b = e ∨ b = it := by simpa using hb
        rcases e' with z | z
        · rw [z]; exact hel
        · rw [z]; exact hil
      rw [upd_ne (Nat.ne_of_lt hb')]
      exact (hf b hb).1
  done := by
    intro X hP hw hK hc i pins s σ H E I hf st hg
    subst hP hw hK
    obtain ⟨⟨old, he⟩, hit, hne⟩ := st
    obtain ⟨xs, hq, hx⟩ := hg
    obtain ⟨its, rv, p, hz⟩ := I.tuple hq
    obtain ⟨f0, f1, f2, f3, f4, f5⟩ := hf it (by simp)
    have hl := rv.length
    exact wpAny_pyNext_enum_endT (I.ok.hd hc) he hit (show s.heap.IsTuple a its.toArray from p) (by simp; omega) fun h' eb => ⟨rfl, I.turned (t' := s.toks) (fun b o hb q => eb b o hb q) f0 f1 f3 f4 f5⟩
  self := fun A i s Q E st h => let ⟨⟨_, he⟩, _⟩ := st; wpAny_pyIter_enum he h
/-- a walk over a list or a tuple -/
def iSeqA (K : PySem.W.Frag) (tl : TE) : TI := fun σ H R => tl σ H fun x H1 => ∃ a, x = .ref a ∧ (((∃ xs, SqL K H1 a xs) ∧ R (Itl K a) H1) ∨ ((∃ xs, SqT K H1 a xs) ∧ R (Itt K a) H1))
theorem pi_seqA {X : Cx} {tg l : Expr} {tl : TE} (hl : PE X l tl) : PI X tg l (iSeqA X.K tl) := by
  refine ⟨fun pins s σ H R I h => ?_⟩
  refine thn (hl.run pins s σ H _ I h) fun v s1 ⟨x, H1, I1, r1, q1⟩ => ?_
  obtain ⟨a, e, ⟨⟨xs, hq⟩, q⟩ | ⟨⟨xs, hq⟩, q⟩⟩ := q1
  · subst e
    cases r1
    obtain ⟨its, rv, p, hz⟩ := I1.list hq
    refine wpAny_pyIter_list p.isList ?_
    refine ⟨s1.heap.objs.size, [s1.heap.objs.size], _, _, H1, rfl, I1.kept (t' := s1.toks) fun b o e => Heap.get?_push_of_some _ e, turn_list a _, ⟨_, Heap.get?_push_size _ rfl, rfl, rfl⟩, fun b hb => ?_, q⟩
    have e : b = s1.heap.objs.size := by simpa using hb
    subst e
    exact I1.fpOk (Nat.le_refl _) (I1.hok.fresh (Nat.le_refl _))
  · subst e
    cases r1
    obtain ⟨its, rv, p, hz⟩ := I1.tuple hq
    refine wpAny_pyIter_tuple (show s1.heap.IsTuple a its.toArray from p) ?_
    refine ⟨s1.heap.objs.size, [s1.heap.objs.size], _, _, H1, rfl, I1.kept (t' := s1.toks) fun b o e => Heap.get?_push_of_some _ e, turn_tuple a _, ⟨_, Heap.get?_push_size _ rfl, rfl, rfl⟩, fun b hb => ?_, q⟩
    have e : b = s1.heap.objs.size := by simpa using hb
    subst e
    exact I1.fpOk (Nat.le_refl _) (I1.hok.fresh (Nat.le_refl _))
def iEnumA (K : PySem.W.Frag) (ta : TA) : TI := fun σ H R => ta σ H fun vs H1 => ∃ a, vs = [.ref a] ∧ (((∃ xs, SqL K H1 a xs) ∧ R (Ite K a) H1) ∨ ((∃ xs, SqT K H1 a xs) ∧ R (IteT K a) H1))
theorem pi_enumA {X : Cx} {e : Expr} {ta : TA} {p pos tpos : Pos} {elts : List Expr} {kk : Nat} (hg : Gl X "enumerate") (hm : X.mg "enumerate" = none) (ha : PA X [e] ta) (hs : starEach [e] X.env = [(false, eval e X.env)] := by rfl) :
    PI X (.Tuple elts kk tpos) (.Call (.Name "enumerate" p) [e] [] pos) (iEnumA X.K ta) := by
  refine ⟨fun pins s σ H R I h => ?_⟩
  refine Call_ (ld_blt I hg hm boot_enumerate (PyProof.Rows.callWith_type1 (thn (ha.run pos pins s σ H _ I h) fun us s1 ⟨vs, H1, I1, r1, q1⟩ => ?_) hs rfl))
  obtain ⟨a, ex, q⟩ := q1
  subst ex
  cases r1 with
  | cons r rr =>
    cases rr
    cases r
    have fin : ∀ b, b ∈ [s1.heap.objs.size + 1, s1.heap.objs.size] → FpOk X pins H1 b := fun b hb => by
      have e' : b = s1.heap.objs.size + 1 ∨ b = s1.heap.objs.size := by simpa using hb
      have hle : s1.heap.objs.size ≤ b := by
        rcases e' with z | z
        · rw [z]; exact Nat.le_add_right _ _
        · rw [z]; exact Nat.le_refl _
      exact I1.fpOk hle (I1.hok.fresh hle)
    rcases q with ⟨⟨xs, hq⟩, q⟩ | ⟨⟨xs, hq⟩, q⟩
    · obtain ⟨its, rv, p', hz⟩ := I1.list hq
      refine call_enumerate_list p'.isList fun h' he hit hsz hk => wpAny_pyIter_enum he ?_
      have I2 : Inv X pins σ H1 { s1 with heap := h' } := I1.kept (t' := s1.toks) hk
      exact ⟨s1.heap.objs.size + 1, [s1.heap.objs.size + 1, s1.heap.objs.size], _, _, H1, rfl, I2, turn_enum a (s1.heap.objs.size + 1) s1.heap.objs.size, ⟨⟨.none, he⟩, hit, Nat.succ_ne_self _⟩, fin, q⟩
    · obtain ⟨its, rv, p', hz⟩ := I1.tuple hq
      refine call_enumerate_tupleM (show s1.heap.IsTuple a its.toArray from p') fun h' he hit hsz hk => wpAny_pyIter_enum he ?_
      have I2 : Inv X pins σ H1 { s1 with heap := h' } := I1.kept (t' := s1.toks) hk
      exact ⟨s1.heap.objs.size + 1, [s1.heap.objs.size + 1, s1.heap.objs.size], _, _, H1, rfl, I2, turn_enumT a (s1.heap.objs.size + 1) s1.heap.objs.size, ⟨⟨.none, he⟩, hit, Nat.succ_ne_self _⟩, fin, q⟩
end MS

set_option Elab.async false
set_option linter.all false
set_option maxRecDepth 100000
set_option maxHeartbeats 4000000
/-! MS10: in-place operators, loops, what they walk. -/
namespace MS
open PySem PySem.Spec PyProof.Rows L2 MI

section
variable {K : PySem.W.Frag} {cl : Nat → Addr} {E : EX}
def rIAddA (K : PySem.W.Frag) : R2 := fun x y H Q => ((rI0 fun i j => .int (i + j)) x y H Q ∨ (∃ i j, x = .str i ∧ y = .str j ∧ i.length + j.length ≤ sizeLine ∧ Q (.str (i ++ j)) H)) ∨ rCatA K x y H Q
theorem iop_addA {X : Cx} : OpR X (inplaceOp .Add) (rIAddA X.K) := OpR.orI (OpR.orI iop_add iop_add_str) iop_catA
theorem s_iadd : OpS K cl E opIAdd (rIAddA K) := by
  intro σ Q ρ H st v1 v2 d1 d2 A r1 r2 h
  cases r1 with
  | int i =>
    cases r2 with
    | int j => exact .inl (.inl ⟨i, j, rfl, rfl, h.ok (st' := st) rfl .refl A (.int _)⟩)
    | _ => exact h.none rfl
  | str s =>
    cases r2 with
    | str t =>
      by_cases hl : s.length + t.length < lim
      · refine .inl (.inr ⟨_, _, rfl, rfl, by rw [sD_len, sD_len]; exact lim_size hl, ?_⟩)
        rw [sD_app]
        exact h.ok (st' := st) (d := .str (s ++ t)) (by simp [opIAdd, hl]) .refl A (.str _)
      · exact h.none (by simp [opIAdd, hl])
    | _ => exact h.none rfl
  | @tup a vs l hs r =>
    cases r2 with
    | @tup b ws m hs' r' =>
      by_cases hl : l.length + m.length < lim
      · have e : opIAdd (.tup l) (.tup m) st = some (.ok (.tup (l ++ m)), st) := by simp [opIAdd, hl]
        refine .inr ⟨a, b, vs, ws, rfl, rfl, hs, hs', by rw [r.length, r'.length]; exact lim_size hl, fun z => ?_, fun _ z => ?_, fun _ _ p n => ?_⟩
        · have zl : l = [] := r.nil_iff.mp z
          refine h.ok e .refl A ?_
          rw [zl]; exact .tup hs' r'
        · have zl : m = [] := r'.nil_iff.mp z
          refine h.ok e .refl A ?_
          rw [zl, List.append_nil]; exact .tup hs r
        · exact rest_tup A (r.append r') h e p n
      · exact h.none (by simp [opIAdd, hl])
    | _ => exact h.none rfl
  | _ => exact h.none rfl
end

section
variable {X : Cx} {cl : Nat → Addr} {E : EX} {c : MI.Ctx} {a b e : Expr} {ga gb ge : SE} {pos : Pos} {ss : List Stmt} {gs gr : SS} {t : MI.ST}
/-! ### a[i] op= e -/
theorem ms_subaug {op : Operator} {fo : D → D → MI.R D} {r : R2} {tpos : Pos} (ho : OpR X (inplaceOp op) r) (hs : OpS X.K cl E fo r) (ha : ME X cl E c a ga) (hb : ME X cl E c b gb) (he : ME X cl E c e ge)
    (hq : ∀ ov iv new, augStore b ov iv new = (do holding [new, ov, iv] (setItem ov iv new); release [new, ov, iv] []; pure .next) := by intros; rfl) : MST X cl E c (.AugAssign (.Subscript a b tpos) op e pos) (sSubAug ga gb fo ge) :=
  psI (ps_augS ha hb pget_list he ho set_list hq) fun D σ H ⟨ρ, env, st, A, e, h⟩ => by
    refine (RestS.step (x := ga c) (rV X.K) A e h).imp fun v1 H1 ⟨ρ1, st1, d1, g1, A1, r1, h1⟩ => ?_
    refine (RestS.step (x := gb c) (rV X.K) A1 (e.grow A g1) h1).imp fun v2 H2 ⟨ρ2, st2, d2, g2, A2, r2, h2⟩ => ?_
    have e2 := (e.grow A g1).grow A1 g2
    have r1' := r1.grow A1 g2
    have bad : opIxL d1 d2 st2 = none → ∀ {P : Prop}, P := fun q => by
      unfold sBnd at h2
      rw [q] at h2; exact h2.elim
    cases r1' with
    | @loc p n hp =>
      cases r2 with
      | int i =>
        cases e1 : st2[n]? with
        | none => exact bad (by simp [opIxL, opIx, e1])
        | some o =>
          have q1 := A2.get hp e1
          cases q1 with
          | @lst vs l z1 r =>
            cases q : (MI.ixN l.length i).bind fun k => l[k]? with
            | none => exact bad (by simp [opIxL, opIx, e1, q])
            | some d =>
              obtain ⟨v, y1, y2⟩ := atI_of r q
              have eo : opIxL (.loc n) (.int i) st2 = some (.ok d, st2) := by simp [opIxL, opIx, e1, q]
              have h3 : RestS X.K cl E D (sBnd (ge c env) env (fun z => sBnd (fo d z) env fun u st => endIx env (.loc n) (.int i) u st) st2) ρ2 H2 := by
                unfold sBnd at h2
                rw [eo] at h2; exact h2
              refine ⟨p, vs, i, v, rfl, rfl, SqL.of z1, y1, ?_⟩
              refine (RestS.step (x := ge c) (rV X.K) A2 e2 h3).imp fun v4 H4 ⟨ρ4, st4, d4, g4, A4, r4, h4⟩ => ?_
              have e4 := e2.grow A2 g4
              refine hs A4 (y2.grow A2 g4) r4 ((RestS.rest (rV X.K) A4 e4 h4).imp fun v5 H5 ⟨ρ5, st5, d5, g5, A5, r5, h5⟩ => ?_)
              have hp5 : ρ5[n]? = some p := by
                obtain ⟨x1, rfl⟩ := g4.ext
                obtain ⟨x2, rfl⟩ := g5.ext
                exact getElem?_app (getElem?_app hp)
              unfold endIx at h5
              cases qq : setIx n i d5 st5 with
              | none => simp only [qq] at h5; exact h5.elim
              | some st6 =>
                simp only [qq] at h5
                obtain ⟨xs, j, w1, w2, A6, g6⟩ := setIx_at A5 hp5 r5 qq
                exact ⟨p, xs, i, j, rfl, rfl, w1, w2, h5 _ _ σ g6 A6 ((e4.grow A4 g5).grow A5 g6)⟩
          | _ => exact bad (by simp [opIxL, opIx, e1])
      | _ => exact bad (by simp [opIxL, opIx])
    | _ => exact bad rfl

/-! ### while -/
theorem ms_while (hp : PassesOwn (model X.prog X.w) X.A X.env X.xe) (ht : MT X cl E c e t) (hb : MSS X cl E c ss gs) : MST X cl E c (.While e ss [] pos) (sWhile t gs) := psI (ps_while hp ht hb) fun D σ H ⟨ρ, env, st, A, e, h⟩ => by
  refine ⟨fun m σ H => ∃ ρ env st, At X.K cl ρ H st ∧ RvE X.K H ρ σ env ∧ RestS X.K cl E D (whileL (t c) (gs c) m env st) ρ H, ⟨c.fuel, ρ, env, st, A, e, h⟩, ?_⟩
  rintro m σ H ⟨ρ, env, st, A, e, h⟩
  cases m with
  | zero => exact h.elim
  | succ m =>
    refine ⟨ρ, env, st, A, e, ?_⟩
    unfold whileL at h
    cases q : t c env st with
    | none => simp only [q] at h; exact h.elim
    | some p =>
      obtain ⟨rs, st1⟩ := p
      cases rs with
      | exc k fs =>
        simp only [q] at h
        exact .inr ⟨k, fs, st1, q, fun ρ1 H1 g1 A1 => h ρ1 H1 σ g1 A1 (e.grow A g1)⟩
      | ok b =>
        refine .inl ⟨b, st1, q, fun ρ1 H1 v1 g1 A1 r1 => ?_⟩
        have r1' : v1 = b := r1
        subst r1'
        have e1 := e.grow A g1
        cases v1 with
        | false =>
          simp only [q] at h
          exact iteF (h ρ1 H1 σ g1 A1 e1)
        | true =>
          simp only [q] at h
          refine iteT ⟨fun σ' H' => ∃ ρ env st, At X.K cl ρ H' st ∧ RvE X.K H' ρ σ' env ∧ RestS X.K cl E D (whileL (t c) (gs c) m env st) ρ H', fun σ' H' w => ⟨m, Nat.lt_succ_self m, w⟩, ρ1, env, st1, A1, e1, ?_⟩
          match qq : gs c env st1, h with
          | none, h => simp only [qq] at h; exact h.elim
          | some (.nx, env', st'), h => simp only [qq] at h; exact fun ρ' H' σ' g' A' e' => ⟨ρ', env', st', A', e', RestS.base h (g1.trans g')⟩
          | some (.ct, env', st'), h => simp only [qq] at h; exact fun ρ' H' σ' g' A' e' => ⟨ρ', env', st', A', e', RestS.base h (g1.trans g')⟩
          | some (.bk, env', st'), h => simp only [qq] at h; exact fun ρ' H' σ' g' A' e' => h ρ' H' σ' (g1.trans g') A' e'
          | some (.rt d, env', st'), h => simp only [qq] at h; exact fun ρ' H' σ' g' A' e' => h ρ' H' σ' (g1.trans g') A' e'
          | some (.ex k fs, env', st'), h => simp only [qq] at h; exact fun ρ' H' σ' g' A' e' => h ρ' H' σ' (g1.trans g') A' e'

/-! ### for -/
/-- J walks what s gives -/
structure SrcOk (K : PySem.W.Frag) (cl : Nat → Addr) (s : Src) (J : It) (ρ0 : List Addr) (H0 : Hp) : Prop where
  go : ∀ ρ H st i d, Grow ρ0 H0 ρ H → At K cl ρ H st → srcAt s i st = some (some d) → J.go i H ∧ ∀ x H', J.yld i H x H' → ∃ ρ', Grow ρ H ρ' H' ∧ At K cl ρ' H' st ∧ Rv K H' ρ' x d
  stop : ∀ ρ H st i, Grow ρ0 H0 ρ H → At K cl ρ H st → srcAt s i st = some none → J.stop i H
abbrev rS (K : PySem.W.Frag) (cl : Nat → Addr) : Hp → List Addr → It → Src → Prop := fun H ρ J s => SrcOk K cl s J ρ H
abbrev MI_ (X : Cx) (cl : Nat → Addr) (E : EX) (c : MI.Ctx) (tg e : Expr) (g : SI) : Prop := PI X tg e (TM X.K cl E (rS X.K cl) (g c))
theorem piI {tg : Expr} {t t' : TI} (h : PI X tg e t) (i : ∀ σ H R, t' σ H R → t σ H R) : PI X tg e t' := ⟨fun pins s σ H R I q => h.run pins s σ H R I (i σ H R q)⟩
theorem ms_for {tg : Expr} {g : SG} {gi : SI} (hp : PassesOwn (model X.prog X.w) X.A X.env X.xe) (hc : X.calm = true) (hi : MI_ X cl E c tg e gi) (hg : MG X cl c tg g) (hb : MSS X cl E c ss gs)
    (hs : ∀ x, foldedSetIterable e X.env x = pure x := by intro _; rfl) : MST X cl E c (.For tg e ss [] pos) (sFor g gi gs) := psI (ps_for hp hc hi hg hb hs) fun D σ H ⟨ρ, env, st, A, e, h⟩ => by
  refine (RestS.step (x := gi c) (rS X.K cl) A e h).imp fun J H1 ⟨ρ1, st1, s, g1, A1, S, h1⟩ => ?_
  refine ⟨fun i m σ H => ∃ ρ env st, Grow ρ1 H1 ρ H ∧ At X.K cl ρ H st ∧ RvE X.K H ρ σ env ∧ RestS X.K cl E D (forL s (turnOf g gs c) m i env st) ρ H, ⟨c.fuel, ρ1, env, st1, .refl, A1, e.grow A g1, h1⟩, ?_⟩
  rintro i m σ H ⟨ρ, env, st, gg, A, e, h⟩
  cases m with
  | zero => exact h.elim
  | succ m =>
    unfold forL at h
    cases q : srcAt s i st with
    | none => simp only [q] at h; exact h.elim
    | some o =>
      cases o with
      | none =>
        simp only [q] at h
        exact .inl ⟨S.stop ρ H st i gg A q, h ρ H σ .refl A e⟩
      | some d =>
        simp only [q] at h
        obtain ⟨go, yl⟩ := S.go ρ H st i d gg A q
        refine .inr ⟨go, fun σ' H' => ∃ ρ env st, Grow ρ1 H1 ρ H' ∧ At X.K cl ρ H' st ∧ RvE X.K H' ρ σ' env ∧ RestS X.K cl E D (forL s (turnOf g gs c) m (i + 1) env st) ρ H', fun σ' H' w => ⟨m, Nat.lt_succ_self m, w⟩, fun x H' y => ?_⟩
        obtain ⟨ρ2, g2, A2, r2⟩ := yl x H' y
        refine ⟨ρ2, env, st, d, A2, e.grow A g2, r2, ?_⟩
        unfold turnOf at h
        match qq : g c d env st, h with
        | none, h => simp only [qq] at h; exact h.elim
        | some (env', st'), h =>
          simp only [qq] at h
          refine fun ρ3 H3 σ3 g3 A3 e3 => ⟨ρ3, env', st', A3, e3, ?_⟩
          have g13 := g2.trans g3
          match q3 : gs c env' st', h with
          | none, h => simp only [q3] at h; exact h.elim
          | some (.nx, env', st'), h => simp only [q3] at h; exact fun ρ' H' σ' g' A' e' => ⟨ρ', env', st', gg.trans (g13.trans g'), A', e', RestS.base h (g13.trans g')⟩
          | some (.ct, env', st'), h => simp only [q3] at h; exact fun ρ' H' σ' g' A' e' => ⟨ρ', env', st', gg.trans (g13.trans g'), A', e', RestS.base h (g13.trans g')⟩
          | some (.bk, env', st'), h => simp only [q3] at h; exact fun ρ' H' σ' g' A' e' => h ρ' H' σ' (g13.trans g') A' e'
          | some (.rt d, env', st'), h => simp only [q3] at h; exact fun ρ' H' σ' g' A' e' => h ρ' H' σ' (g13.trans g') A' e'
          | some (.ex k fs, env', st'), h => simp only [q3] at h; exact fun ρ' H' σ' g' A' e' => h ρ' H' σ' (g13.trans g') A' e'

/-! ### what is walked -/
theorem src_list {K : PySem.W.Frag} {ρ0 : List Addr} {H0 : Hp} {n : Nat} {p : Addr} (hp : ρ0[n]? = some p) : SrcOk K cl (.live n) (Itl K p) ρ0 H0 := by
  have at_ : ∀ {ρ H st}, Grow ρ0 H0 ρ H → At K cl ρ H st → ∀ {l}, st[n]? = some (.lst l) → ∃ vs, H p = some (.lst vs) ∧ RvL K H ρ vs l := fun {ρ H st} g A {l} e1 => by
    have hp' : ρ[n]? = some p := by obtain ⟨x, rfl⟩ := g.ext; exact getElem?_app hp
    have q1 := A.get hp' e1
    cases q1 with
    | lst z r => exact ⟨_, z, r⟩
  refine ⟨fun ρ H st i d g A h => ?_, fun ρ H st i g A h => ?_⟩
  · unfold srcAt at h
    cases e1 : st[n]? with
    | none => simp only [e1] at h; cases h
    | some o =>
      cases o with
      | lst l =>
        simp only [e1] at h
        obtain ⟨vs, z, r⟩ := at_ g A e1
        obtain ⟨v, hv, rv⟩ := r.get (Option.some.inj h)
        refine ⟨⟨vs, v, SqL.of z, hv⟩, fun x H' y => ?_⟩
        obtain ⟨rfl, y⟩ := y
        have := y vs (SqL.of z)
        rw [hv] at this; cases this
        exact ⟨ρ, .refl, A, rv⟩
      | _ => simp only [e1] at h; cases h
  · unfold srcAt at h
    cases e1 : st[n]? with
    | none => simp only [e1] at h; cases h
    | some o =>
      cases o with
      | lst l =>
        simp only [e1] at h
        obtain ⟨vs, z, r⟩ := at_ g A e1
        refine ⟨vs, SqL.of z, ?_⟩
        rw [r.length]
        exact List.getElem?_eq_none_iff.mp (Option.some.inj h)
      | _ => simp only [e1] at h; cases h
theorem src_tup {K : PySem.W.Frag} {ρ0 : List Addr} {H0 : Hp} {st0 : Stt} {p : Addr} {vs : List V} {l : List D} (A0 : At K cl ρ0 H0 st0) (hs : SqT K H0 p vs) (r : RvL K H0 ρ0 vs l) : SrcOk K cl (.items l) (Itt K p) ρ0 H0 := by
  refine ⟨fun ρ H st i d g A h => ?_, fun ρ H st i g A h => ?_⟩
  · have s1 := (A0.keep g).t _ _ hs
    obtain ⟨v, hv, rv⟩ := (r.grow A0 g).get (Option.some.inj h)
    refine ⟨⟨vs, v, s1, hv⟩, fun x H' y => ?_⟩
    obtain ⟨rfl, y⟩ := y
    have := y vs s1
    rw [hv] at this; cases this
    exact ⟨ρ, .refl, A, rv⟩
  · refine ⟨vs, (A0.keep g).t _ _ hs, ?_⟩
    rw [r.length]
    exact List.getElem?_eq_none_iff.mp (Option.some.inj h)
theorem src_frz {K : PySem.W.Frag} {ρ0 : List Addr} {H0 : Hp} {st0 : Stt} {p : Addr} {vs : List V} {l : List D} (A0 : At K cl ρ0 H0 st0) (hs : FrL K H0 p vs) (r : RvL K H0 ρ0 vs l) : SrcOk K cl (.items l) (Itl K p) ρ0 H0 := by
  refine ⟨fun ρ H st i d g A h => ?_, fun ρ H st i g A h => ?_⟩
  · have s1 := ((A0.keep g).f _ _ hs).seq
    obtain ⟨v, hv, rv⟩ := (r.grow A0 g).get (Option.some.inj h)
    refine ⟨⟨vs, v, s1, hv⟩, fun x H' y => ?_⟩
    obtain ⟨rfl, y⟩ := y
    have := y vs s1
    rw [hv] at this; cases this
    exact ⟨ρ, .refl, A, rv⟩
  · refine ⟨vs, ((A0.keep g).f _ _ hs).seq, ?_⟩
    rw [r.length]
    exact List.getElem?_eq_none_iff.mp (Option.some.inj h)
theorem mi_seq {tg : Expr} (ha : ME X cl E c a ga) : MI_ X cl E c tg a (iSeq ga) := piI (pi_seqA ha) fun σ H R ⟨ρ, env, st, A, e, h⟩ => by
  refine (Rest.step (g := ga c) (rV X.K) A e h).imp fun v1 H1 ⟨ρ1, st1, d1, g1, A1, r1, h1⟩ => ?_
  cases r1 with
  | @tup p vs l hs r => exact ⟨p, rfl, .inr ⟨⟨vs, hs⟩, h1.ok (st' := st1) (d := .items l) rfl .refl A1 (src_tup A1 hs r)⟩⟩
  | @xtup p vs l hs r => exact ⟨p, rfl, .inr ⟨⟨vs, hs.seq⟩, h1.ok (st' := st1) (d := .items l) rfl .refl A1 (src_tup A1 hs.seq r)⟩⟩
  | @frz p vs l hs r => exact ⟨p, rfl, .inl ⟨⟨vs, hs.seq⟩, h1.ok (st' := st1) (d := .items l) rfl .refl A1 (src_frz A1 hs r)⟩⟩
  | @loc p n hp =>
    cases e1 : st1[n]? with
    | none => exact h1.none (by simp [e1])
    | some o =>
      have q1 := A1.get hp e1
      cases q1 with
      | @lst vs l z r => exact ⟨p, rfl, .inl ⟨⟨vs, SqL.of z⟩, h1.ok (st' := st1) (d := .live n) (by simp [e1]) .refl A1 (src_list hp)⟩⟩
      | _ => exact h1.none (by simp [e1])
  | _ => exact h1.none rfl
/-! ### range -/
theorem rangeL_get {lo hi : Int} {i : Nat} : (rangeL lo hi)[i]? = if i < (hi - lo).toNat then some (.int (lo + i)) else none := by
  unfold rangeL
  by_cases h : i < (hi - lo).toNat
  · simp [h]
  · simp [h]
theorem src_range {K : PySem.W.Frag} {ρ0 : List Addr} {H0 : Hp} {lo hi : Int} : SrcOk K cl (.items (rangeL lo hi)) (Itr lo (hi - lo).toNat) ρ0 H0 := by
  refine ⟨fun ρ H st i d g A h => ?_, fun ρ H st i g A h => ?_⟩
  · have h' := Option.some.inj h
    rw [rangeL_get] at h'
    by_cases hi' : i < (hi - lo).toNat
    · rw [if_pos hi'] at h'
      cases h'
      refine ⟨hi', fun x H' y => ?_⟩
      obtain ⟨rfl, rfl⟩ := y
      exact ⟨ρ, .refl, A, .int _⟩
    · rw [if_neg hi'] at h'; cases h'
  · have h' := Option.some.inj h
    rw [rangeL_get] at h'
    by_cases hi' : i < (hi - lo).toNat
    · rw [if_pos hi'] at h'; cases h'
    · exact Nat.le_of_not_lt hi'
theorem lim_eq : (lim : Int) = 16777216 := rfl
theorem mi_range1 {tg : Expr} {p : Pos} (hg : Gl X "range") (hm : X.mg "range" = none) (ha : ME X cl E c a ga) (hs : starEach [a] X.env = [(false, eval a X.env)] := by rfl) : MI_ X cl E c tg (.Call (.Name "range" p) [a] [] pos) (iRange1 ga) :=
  piI (pi_range1 (ta := tCons (TM X.K cl E (rV X.K) (ga c)) tNil) hg hm (pa_cons ha pa_nil hs) hs) fun σ H R ⟨ρ, env, st, A, e, h⟩ => by
    refine (Rest.step (g := ga c) (rV X.K) A e h).imp fun v1 H1 ⟨ρ1, st1, d1, g1, A1, r1, h1⟩ => ?_
    cases r1 with
    | int n =>
      by_cases hb : -(lim : Int) < n ∧ n < lim
      · have e1 := lim_eq
        refine ⟨n, rfl, by omega, by omega, h1.ok (st' := st1) (d := .items (rangeL 0 n)) (by show (if -(lim : Int) < n ∧ n < lim then MI.ret (Src.items (rangeL 0 n)) else MI.fail) st1 = _; rw [if_pos hb]; rfl) .refl A1 ?_⟩
        have := src_range (K := X.K) (cl := cl) (ρ0 := ρ1) (H0 := H1) (lo := 0) (hi := n)
        simpa using this
      · exact h1.none (by show (if -(lim : Int) < n ∧ n < lim then MI.ret (Src.items (rangeL 0 n)) else MI.fail) st1 = _; rw [if_neg hb]; rfl)
    | _ => exact h1.none rfl
theorem mi_range2 {tg : Expr} {p : Pos} (hg : Gl X "range") (hm : X.mg "range" = none) (ha : ME X cl E c a ga) (hb : ME X cl E c b gb) (hs : starEach [a, b] X.env = [(false, eval a X.env), (false, eval b X.env)] := by rfl) (hs2 : starEach [b] X.env = [(false, eval b X.env)] := by rfl) : MI_ X cl E c tg (.Call (.Name "range" p) [a, b] [] pos) (iRange2 ga gb) :=
  piI (pi_range2 (ta := tCons (TM X.K cl E (rV X.K) (ga c)) (tCons (TM X.K cl E (rV X.K) (gb c)) tNil)) hg hm (pa_cons ha (pa_cons hb pa_nil hs2) (by rw [hs, hs2])) hs hs2) fun σ H R ⟨ρ, env, st, A, e, h⟩ => by
    refine (Rest.step (g := ga c) (rV X.K) A e h).imp fun v1 H1 ⟨ρ1, st1, d1, g1, A1, r1, h1⟩ => ?_
    refine (Rest.step (g := gb c) (rV X.K) A1 (e.grow A g1) h1).imp fun v2 H2 ⟨ρ2, st2, d2, g2, A2, r2, h2⟩ => ?_
    cases r1 with
    | int m =>
      cases r2 with
      | int n =>
        have e1 := lim_eq
        by_cases hb : -(lim : Int) < m ∧ m < lim ∧ -(lim : Int) < n ∧ n < lim
        · refine ⟨m, n, rfl, by omega, h2.ok (st' := st2) (d := .items (rangeL m n)) (by show (if -(lim : Int) < m ∧ m < lim ∧ -(lim : Int) < n ∧ n < lim then MI.ret (Src.items (rangeL m n)) else MI.fail) st2 = _; rw [if_pos hb]; rfl) .refl A2 src_range⟩
        · exact h2.none (by show (if -(lim : Int) < m ∧ m < lim ∧ -(lim : Int) < n ∧ n < lim then MI.ret (Src.items (rangeL m n)) else MI.fail) st2 = _; rw [if_neg hb]; rfl)
      | _ => exact h2.none rfl
    | _ => exact h2.none (by cases r2 <;> rfl)
theorem everyOther_get {α : Type} : ∀ (l : List α) (i : Nat), (everyOther l)[i]? = l[2 * i]?
  | [], _ => rfl
  | [x], 0 => rfl
  | [x], i + 1 => by simp [everyOther]
  | x :: y :: r, 0 => rfl
  | x :: y :: r, i + 1 => by
    have e : 2 * (i + 1) = (2 * i + 1) + 1 := by omega
    rw [e]
    simp only [everyOther, List.getElem?_cons_succ]
    exact everyOther_get r i
theorem mi_range3 {tg : Expr} {p p1 p2 : Pos} {j1 j2 : Nat} (hg : Gl X "range") (hm : X.mg "range" = none) (ha : ME X cl E c a ga)
    (hs : starEach [Expr.Constant (.int 0) j1 p1, a, .Constant (.int 2) j2 p2] X.env = (false, eval (Expr.Constant (.int 0) j1 p1) X.env) :: starEach [a, .Constant (.int 2) j2 p2] X.env := by rfl)
    (hs2 : starEach [a, Expr.Constant (.int 2) j2 p2] X.env = (false, eval a X.env) :: starEach [Expr.Constant (.int 2) j2 p2] X.env := by rfl)
    (hs3 : starEach [Expr.Constant (.int 2) j2 p2] X.env = (false, eval (Expr.Constant (.int 2) j2 p2) X.env) :: starEach [] X.env := by rfl) (hpl : (backTo pos (starEach [a, Expr.Constant (.int 2) j2 p2] X.env)).any (·.1) = false := by rfl) :
    MI_ X cl E c tg (.Call (.Name "range" p) [.Constant (.int 0) j1 p1, a, .Constant (.int 2) j2 p2] [] pos) (iRange3 ga) :=
  piI (pi_range3 (ta := tCons (tC (.int 0)) (tCons (TM X.K cl E (rV X.K) (ga c)) (tCons (tC (.int 2)) tNil))) hg hm (pa_cons pe_int (pa_cons ha (pa_cons pe_int pa_nil hs3) hs2) hs) hs hpl) fun σ H R ⟨ρ, env, st, A, e, h⟩ => by
    show TM X.K cl E (rV X.K) (ga c) σ H _
    refine (Rest.step (g := ga c) (rV X.K) A e h).imp fun v1 H1 ⟨ρ1, st1, d1, g1, A1, r1, h1⟩ => ?_
    cases r1 with
    | int n =>
      have e1 := lim_eq
      by_cases hb : -(lim : Int) < n ∧ n < lim
      · have hsz : Builtin.Range.rangeSize 0 n 2 = (((n + 1) / 2).toNat : Nat) := by
          unfold Builtin.Range.rangeSize
          simp only [show (2 : Int) > 0 by decide, if_true]
          split <;> omega
        refine ⟨0, n, 2, ((n + 1) / 2).toNat, rfl, ⟨by decide, by decide, ?_, hsz⟩, h1.ok (st' := st1) (d := .items (everyOther (rangeL 0 n))) (by show (if -(lim : Int) < n ∧ n < lim then MI.ret (Src.items (everyOther (rangeL 0 n))) else MI.fail) st1 = _; rw [if_pos hb]; rfl) .refl A1 ?_⟩
        · unfold Builtin.Range.small
          rw [hsz]
          simp only [Builtin.Range.rangeFitsLong, Bool.and_eq_true, Bool.or_eq_true, decide_eq_true_eq, beq_iff_eq, show (2 : Int) > 0 by decide, if_true]
          omega
        · refine ⟨fun ρ H st i d g A h => ?_, fun ρ H st i g A h => ?_⟩
          · have h' := Option.some.inj h
            rw [everyOther_get, rangeL_get] at h'
            by_cases hi' : 2 * i < (n - 0).toNat
            · rw [if_pos hi'] at h'
              cases h'
              refine ⟨(show i < ((n + 1) / 2).toNat by omega), fun x H' y => ?_⟩
              obtain ⟨rfl, rfl⟩ := y
              refine ⟨ρ, .refl, A, ?_⟩
              have : (0 : Int) + (2 * i : Nat) = 0 + (i : Nat) * 2 := by omega
              rw [this]; exact .int _
            · rw [if_neg hi'] at h'; cases h'
          · have h' := Option.some.inj h
            rw [everyOther_get, rangeL_get] at h'
            by_cases hi' : 2 * i < (n - 0).toNat
            · rw [if_pos hi'] at h'; cases h'
            · show ((n + 1) / 2).toNat ≤ i
              omega
      · exact h1.none (by show (if -(lim : Int) < n ∧ n < lim then MI.ret (Src.items (everyOther (rangeL 0 n))) else MI.fail) st1 = _; rw [if_neg hb]; rfl)
    | _ => exact h1.none rfl

/-! ### list(range(..)), tuple(range(..)) -/
theorem rg_rel {K : PySem.W.Frag} {H : Hp} {ρ : List Addr} (lo hi : Int) : RvL K H ρ (rgV lo hi) (rangeL lo hi) := by
  unfold rgV rangeL
  generalize List.range (hi - lo).toNat = l
  induction l with
  | nil => exact .nil
  | cons x xs ih => exact .cons (.int _) ih
theorem rangeL_length (lo hi : Int) : (rangeL lo hi).length = (hi - lo).toNat := by unfold rangeL; simp
theorem bnd_assoc {α β γ : Type} (x : MI.R α) (f : α → MI.R β) (g : β → MI.R γ) : bnd (bnd x f) g = bnd x fun a => bnd (f a) g := by
  funext st
  unfold bnd
  cases x st with
  | none => rfl
  | some p =>
    obtain ⟨rs, st1⟩ := p
    cases rs <;> rfl
theorem tm_rg1 {σ : L2.St} {H : Hp} {Q : VK} {k : Src → MI.R D} (h : TM X.K cl E (rV X.K) (fun env => bnd (iRange1 ga c env) k) σ H Q) :
    tRg1 (TM X.K cl E (rV X.K) (ga c)) σ H fun lo hi H1 => (-(lim : Int) < lo ∧ lo < lim ∧ -(lim : Int) < hi ∧ hi < lim) ∧ ∃ ρ1 st1, At X.K cl ρ1 H1 st1 ∧ Rest X.K cl E (rV X.K) σ Q (k (.items (rangeL lo hi))) ρ1 H1 st1 := by
  obtain ⟨ρ, env, st, A, e, h⟩ := h
  have h' : Rest X.K cl E (rV X.K) σ Q (bnd (ga c env) fun x => bnd (match x with | .int n => if -(lim : Int) < n ∧ n < lim then MI.ret (Src.items (rangeL 0 n)) else MI.fail | _ => MI.fail) k) ρ H st := by
    rw [← bnd_assoc]; exact h
  refine (Rest.step (g := ga c) (rV X.K) A e h').imp fun v1 H1 ⟨ρ1, st1, d1, g1, A1, r1, h1⟩ => ?_
  cases r1 with
  | int n =>
    by_cases hb : -(lim : Int) < n ∧ n < lim
    · refine ⟨n, rfl, ⟨by decide, by decide, hb.1, hb.2⟩, ρ1, st1, A1, h1.eq ?_⟩
      show bnd (if -(lim : Int) < n ∧ n < lim then MI.ret (Src.items (rangeL 0 n)) else MI.fail) k st1 = _
      rw [if_pos hb]; rfl
    · refine h1.none ?_
      show bnd (if -(lim : Int) < n ∧ n < lim then MI.ret (Src.items (rangeL 0 n)) else MI.fail) k st1 = _
      rw [if_neg hb]; rfl
  | _ => exact h1.none rfl
theorem tm_rg2 {σ : L2.St} {H : Hp} {Q : VK} {k : Src → MI.R D} (h : TM X.K cl E (rV X.K) (fun env => bnd (iRange2 ga gb c env) k) σ H Q) :
    tRg2 (TM X.K cl E (rV X.K) (ga c)) (TM X.K cl E (rV X.K) (gb c)) σ H fun lo hi H1 => (-(lim : Int) < lo ∧ lo < lim ∧ -(lim : Int) < hi ∧ hi < lim) ∧ ∃ ρ1 st1, At X.K cl ρ1 H1 st1 ∧ Rest X.K cl E (rV X.K) σ Q (k (.items (rangeL lo hi))) ρ1 H1 st1 := by
  obtain ⟨ρ, env, st, A, e, h⟩ := h
  have h' : Rest X.K cl E (rV X.K) σ Q (bnd (ga c env) fun x => bnd (gb c env) fun y => bnd (match x, y with | .int m, .int n => if -(lim : Int) < m ∧ m < lim ∧ -(lim : Int) < n ∧ n < lim then MI.ret (Src.items (rangeL m n)) else MI.fail | _, _ => MI.fail) k) ρ H st := by
    have h2 : Rest X.K cl E (rV X.K) σ Q (bnd (bnd (ga c env) fun x => bnd (gb c env) fun y => match x, y with | .int m, .int n => if -(lim : Int) < m ∧ m < lim ∧ -(lim : Int) < n ∧ n < lim then MI.ret (Src.items (rangeL m n)) else MI.fail | _, _ => MI.fail) k) ρ H st := h
    rw [bnd_assoc] at h2
    have e3 : ∀ (x : D), bnd (bnd (gb c env) fun y => match x, y with | .int m, .int n => if -(lim : Int) < m ∧ m < lim ∧ -(lim : Int) < n ∧ n < lim then MI.ret (Src.items (rangeL m n)) else MI.fail | _, _ => MI.fail) k = bnd (gb c env) fun y => bnd (match x, y with | .int m, .int n => if -(lim : Int) < m ∧ m < lim ∧ -(lim : Int) < n ∧ n < lim then MI.ret (Src.items (rangeL m n)) else MI.fail | _, _ => MI.fail) k := fun x => bnd_assoc _ _ _
    simp only [e3] at h2
    exact h2
  refine (Rest.step (g := ga c) (rV X.K) A e h').imp fun v1 H1 ⟨ρ1, st1, d1, g1, A1, r1, h1⟩ => ?_
  refine (Rest.step (g := gb c) (rV X.K) A1 (e.grow A g1) h1).imp fun v2 H2 ⟨ρ2, st2, d2, g2, A2, r2, h2⟩ => ?_
  cases r1 with
  | int m =>
    cases r2 with
    | int n =>
      by_cases hb : -(lim : Int) < m ∧ m < lim ∧ -(lim : Int) < n ∧ n < lim
      · refine ⟨m, n, rfl, rfl, hb, ρ2, st2, A2, h2.eq ?_⟩
        show bnd (if -(lim : Int) < m ∧ m < lim ∧ -(lim : Int) < n ∧ n < lim then MI.ret (Src.items (rangeL m n)) else MI.fail) k st2 = _
        rw [if_pos hb]; rfl
      · refine h2.none ?_
        show bnd (if -(lim : Int) < m ∧ m < lim ∧ -(lim : Int) < n ∧ n < lim then MI.ret (Src.items (rangeL m n)) else MI.fail) k st2 = _
        rw [if_neg hb]; rfl
    | _ => exact h2.none rfl
  | _ => exact h2.none (by cases r2 <;> rfl)
theorem rgok {lo hi : Int} (h : -(lim : Int) < lo ∧ lo < lim ∧ -(lim : Int) < hi ∧ hi < lim) (hl : (rangeL lo hi).length < lim) : RgOk lo hi := by
  have e1 := lim_eq
  rw [rangeL_length] at hl
  have e2 : lim = 16777216 := rfl
  exact ⟨by omega, by omega, by omega, by omega, by omega⟩
theorem end_lstRg {σ : L2.St} {Q : VK} {lo hi : Int} {ρ : List Addr} {H : Hp} {st : Stt} (hb : -(lim : Int) < lo ∧ lo < lim ∧ -(lim : Int) < hi ∧ hi < lim) (A : At X.K cl ρ H st)
    (h : Rest X.K cl E (rV X.K) σ Q (if (rangeL lo hi).length < lim then MI.new (.lst (rangeL lo hi)) else MI.fail) ρ H st) : RgOk lo hi ∧ ∀ q, H q = none → Q (.ref q) (upd H q (.lst (rgV lo hi))) := by
  by_cases hl : (rangeL lo hi).length < lim
  · rw [if_pos hl] at h
    exact ⟨rgok hb hl, fun q n => rest_lst A (rg_rel lo hi) h rfl q n⟩
  · rw [if_neg hl] at h; exact h.none rfl
theorem end_lstRgF {σ : L2.St} {Q : VK} {lo hi : Int} {ρ : List Addr} {H : Hp} {st : Stt} (hb : -(lim : Int) < lo ∧ lo < lim ∧ -(lim : Int) < hi ∧ hi < lim) (A : At X.K cl ρ H st)
    (h : Rest X.K cl E (rV X.K) σ Q (if (rangeL lo hi).length < lim then MI.ret (.frz (rangeL lo hi)) else MI.fail) ρ H st) : RgOk lo hi ∧ ∀ q, H q = none → fz Q (.ref q) (upd H q (.lst (rgV lo hi))) := by
  by_cases hl : (rangeL lo hi).length < lim
  · rw [if_pos hl] at h
    exact ⟨rgok hb hl, fun q n => rest_frz A (rg_rel lo hi) h rfl q n⟩
  · rw [if_neg hl] at h; exact h.none rfl
theorem end_tupRg {σ : L2.St} {Q : VK} {lo hi : Int} {ρ : List Addr} {H : Hp} {st : Stt} (hb : -(lim : Int) < lo ∧ lo < lim ∧ -(lim : Int) < hi ∧ hi < lim) (A : At X.K cl ρ H st)
    (h : Rest X.K cl E (rV X.K) σ Q (if (rangeL lo hi).length < lim then MI.ret (.tup (rangeL lo hi)) else MI.fail) ρ H st) : RgOk lo hi ∧ ∀ q, H q = none → Q (.ref q) (upd H q (.tup (rgV lo hi))) := by
  by_cases hl : (rangeL lo hi).length < lim
  · rw [if_pos hl] at h
    exact ⟨rgok hb hl, fun q n => rest_tup A (rg_rel lo hi) h rfl q n⟩
  · rw [if_neg hl] at h; exact h.none rfl
end
section
variable {X : Cx} {cl : Nat → Addr} {E : EX} {c : MI.Ctx} {a b e : Expr} {ga gb ge : SE} {pos p q qos : Pos}
theorem prgI {e : Expr} {t t' : L2.St → Hp → (Int → Int → Hp → Prop) → Prop} (h : PRg X e t) : PRg X e t := h
theorem me_lstRg1 (hc : X.calm = true) (hg : Gl X "list") (hm : X.mg "list" = none) (hg' : Gl X "range") (hm' : X.mg "range" = none) (ha : ME X cl E c a ga) (na : starEach [a] X.env = (false, eval a X.env) :: starEach [] X.env := by rfl)
    (nb : starEach [Expr.Call (.Name "range" q) [a] [] qos] X.env = (false, eval (Expr.Call (.Name "range" q) [a] [] qos) X.env) :: starEach [] X.env := by rfl) : ME X cl E c (.Call (.Name "list" p) [.Call (.Name "range" q) [a] [] qos] [] pos) (eListOf (iRange1 ga)) :=
  peI (pe_listRg hc hg hm (prg_1 hg' hm' ha na) nb) fun σ H Q h => by
    obtain ⟨ρ, env, st, A, e, h⟩ := tm_rg1 h
    exact ⟨ρ, env, st, A, e, h.imp fun v1 H1 ⟨n, e1, hb, ρ1, st1, A1, h1⟩ => ⟨n, e1, end_lstRg hb A1 h1⟩⟩
theorem me_lstRg2 (hc : X.calm = true) (hg : Gl X "list") (hm : X.mg "list" = none) (hg' : Gl X "range") (hm' : X.mg "range" = none) (ha : ME X cl E c a ga) (hb : ME X cl E c b gb) (na : starEach [a, b] X.env = (false, eval a X.env) :: starEach [b] X.env := by rfl) (na2 : starEach [b] X.env = (false, eval b X.env) :: starEach [] X.env := by rfl)
    (hpl : (backTo qos (starEach [b] X.env)).any (·.1) = false := by rfl) (nb : starEach [Expr.Call (.Name "range" q) [a, b] [] qos] X.env = (false, eval (Expr.Call (.Name "range" q) [a, b] [] qos) X.env) :: starEach [] X.env := by rfl) : ME X cl E c (.Call (.Name "list" p) [.Call (.Name "range" q) [a, b] [] qos] [] pos) (eListOf (iRange2 ga gb)) :=
  peI (pe_listRg hc hg hm (prg_2 hg' hm' ha hb na na2 hpl) nb) fun σ H Q h => by
    obtain ⟨ρ, env, st, A, e, h⟩ := tm_rg2 h
    exact ⟨ρ, env, st, A, e, h.imp fun v1 H1 h1 => h1.imp fun v2 H2 ⟨m, n, e1, e2, hb, ρ1, st1, A1, h1⟩ => ⟨m, n, e1, e2, end_lstRg hb A1 h1⟩⟩
theorem me_lstRgF1 (hc : X.calm = true) (hg : Gl X "list") (hm : X.mg "list" = none) (hg' : Gl X "range") (hm' : X.mg "range" = none) (ha : ME X cl E c a ga) (na : starEach [a] X.env = (false, eval a X.env) :: starEach [] X.env := by rfl)
    (nb : starEach [Expr.Call (.Name "range" q) [a] [] qos] X.env = (false, eval (Expr.Call (.Name "range" q) [a] [] qos) X.env) :: starEach [] X.env := by rfl) : ME X cl E c (.Call (.Name "list" p) [.Call (.Name "range" q) [a] [] qos] [] pos) (eListOfF (iRange1 ga)) :=
  peI (pe_fz (pe_listRg hc hg hm (prg_1 hg' hm' ha na) nb)) fun σ H Q h => by
    obtain ⟨ρ, env, st, A, e, h⟩ := tm_rg1 h
    exact ⟨ρ, env, st, A, e, h.imp fun v1 H1 ⟨n, e1, hb, ρ1, st1, A1, h1⟩ => ⟨n, e1, end_lstRgF hb A1 h1⟩⟩
theorem me_lstRgF2 (hc : X.calm = true) (hg : Gl X "list") (hm : X.mg "list" = none) (hg' : Gl X "range") (hm' : X.mg "range" = none) (ha : ME X cl E c a ga) (hb : ME X cl E c b gb) (na : starEach [a, b] X.env = (false, eval a X.env) :: starEach [b] X.env := by rfl) (na2 : starEach [b] X.env = (false, eval b X.env) :: starEach [] X.env := by rfl)
    (hpl : (backTo qos (starEach [b] X.env)).any (·.1) = false := by rfl) (nb : starEach [Expr.Call (.Name "range" q) [a, b] [] qos] X.env = (false, eval (Expr.Call (.Name "range" q) [a, b] [] qos) X.env) :: starEach [] X.env := by rfl) : ME X cl E c (.Call (.Name "list" p) [.Call (.Name "range" q) [a, b] [] qos] [] pos) (eListOfF (iRange2 ga gb)) :=
  peI (pe_fz (pe_listRg hc hg hm (prg_2 hg' hm' ha hb na na2 hpl) nb)) fun σ H Q h => by
    obtain ⟨ρ, env, st, A, e, h⟩ := tm_rg2 h
    exact ⟨ρ, env, st, A, e, h.imp fun v1 H1 h1 => h1.imp fun v2 H2 ⟨m, n, e1, e2, hb, ρ1, st1, A1, h1⟩ => ⟨m, n, e1, e2, end_lstRgF hb A1 h1⟩⟩
theorem me_tupRg1 (hc : X.calm = true) (hg : Gl X "tuple") (hm : X.mg "tuple" = none) (hg' : Gl X "range") (hm' : X.mg "range" = none) (ha : ME X cl E c a ga) (na : starEach [a] X.env = (false, eval a X.env) :: starEach [] X.env := by rfl)
    (nb : starEach [Expr.Call (.Name "range" q) [a] [] qos] X.env = (false, eval (Expr.Call (.Name "range" q) [a] [] qos) X.env) :: starEach [] X.env := by rfl) : ME X cl E c (.Call (.Name "tuple" p) [.Call (.Name "range" q) [a] [] qos] [] pos) (eTupleOf (iRange1 ga)) :=
  peI (pe_tupRg hc hg hm (prg_1 hg' hm' ha na) nb) fun σ H Q h => by
    obtain ⟨ρ, env, st, A, e, h⟩ := tm_rg1 h
    exact ⟨ρ, env, st, A, e, h.imp fun v1 H1 ⟨n, e1, hb, ρ1, st1, A1, h1⟩ => ⟨n, e1, end_tupRg hb A1 h1⟩⟩
theorem me_tupRg2 (hc : X.calm = true) (hg : Gl X "tuple") (hm : X.mg "tuple" = none) (hg' : Gl X "range") (hm' : X.mg "range" = none) (ha : ME X cl E c a ga) (hb : ME X cl E c b gb) (na : starEach [a, b] X.env = (false, eval a X.env) :: starEach [b] X.env := by rfl) (na2 : starEach [b] X.env = (false, eval b X.env) :: starEach [] X.env := by rfl)
    (hpl : (backTo qos (starEach [b] X.env)).any (·.1) = false := by rfl) (nb : starEach [Expr.Call (.Name "range" q) [a, b] [] qos] X.env = (false, eval (Expr.Call (.Name "range" q) [a, b] [] qos) X.env) :: starEach [] X.env := by rfl) : ME X cl E c (.Call (.Name "tuple" p) [.Call (.Name "range" q) [a, b] [] qos] [] pos) (eTupleOf (iRange2 ga gb)) :=
  peI (pe_tupRg hc hg hm (prg_2 hg' hm' ha hb na na2 hpl) nb) fun σ H Q h => by
    obtain ⟨ρ, env, st, A, e, h⟩ := tm_rg2 h
    exact ⟨ρ, env, st, A, e, h.imp fun v1 H1 h1 => h1.imp fun v2 H2 ⟨m, n, e1, e2, hb, ρ1, st1, A1, h1⟩ => ⟨m, n, e1, e2, end_tupRg hb A1 h1⟩⟩

/-! ### enumerate -/
theorem enumD_get : ∀ (l : List D) (k i : Nat), (enumD k l)[i]? = l[i]?.map fun x => D.tup [.int ((k + i : Nat) : Int), x]
  | [], _, _ => rfl
  | x :: r, k, 0 => rfl
  | x :: r, k, i + 1 => by
    simp only [enumD, List.getElem?_cons_succ]
    rw [enumD_get r (k + 1) i]
    have : k + 1 + i = k + (i + 1) := by omega
    rw [this]
theorem mi_enum {elts : List Expr} {kk : Nat} {tpos : Pos} (hg : Gl X "enumerate") (hm : X.mg "enumerate" = none) (ha : ME X cl E c a ga) (hs : starEach [a] X.env = [(false, eval a X.env)] := by rfl) : MI_ X cl E c (.Tuple elts kk tpos) (.Call (.Name "enumerate" p) [a] [] pos) (MI.iEnum ga) :=
  piI (pi_enumA (ta := tCons (TM X.K cl E (rV X.K) (ga c)) tNil) hg hm (pa_cons ha pa_nil hs) hs) fun σ H R ⟨ρ, env, st, A, e, h⟩ => by
    refine (Rest.step (g := ga c) (rV X.K) A e h).imp fun v1 H1 ⟨ρ1, st1, d1, g1, A1, r1, h1⟩ => ?_
    cases r1 with
    | @tup p vs l hs r =>
      by_cases hl : l.length < lim
      · refine ⟨p, rfl, .inr ⟨⟨vs, hs⟩, h1.ok (st' := st1) (d := .items (enumD 0 l)) (by simp [hl]) .refl A1 ⟨fun ρ H st i d g A h => ?_, fun ρ H st i g A h => ?_⟩⟩⟩
        · have s1 := (A1.keep g).t _ _ hs
          have h' := Option.some.inj h
          rw [enumD_get] at h'
          obtain ⟨y, hy, rfl⟩ := Option.map_eq_some_iff.mp h'
          obtain ⟨v, hv, rv⟩ := (r.grow A1 g).get hy
          refine ⟨⟨vs, v, s1, hv⟩, fun x H' z => ?_⟩
          obtain ⟨T, x1, rfl, hn, rfl, z⟩ := z
          have := z vs s1
          rw [hv] at this; cases this
          obtain ⟨A', g'⟩ := A.side (o := .tup [.int (i : Nat), v]) hn
          refine ⟨ρ, g', A', .tup (SqT.of upd_same) (.cons ?_ (.cons (rv.grow A g') .nil))⟩
          rw [Nat.zero_add]; exact .int _
        · refine ⟨vs, (A1.keep g).t _ _ hs, ?_⟩
          have h' := Option.some.inj h
          rw [enumD_get] at h'
          rw [r.length]
          exact List.getElem?_eq_none_iff.mp (Option.map_eq_none_iff.mp h')
      · exact h1.none (by simp [hl])
    | @frz p vs l hs r =>
      by_cases hl : l.length < lim
      · refine ⟨p, rfl, .inl ⟨⟨vs, hs.seq⟩, h1.ok (st' := st1) (d := .items (enumD 0 l)) (by simp [hl]) .refl A1 ⟨fun ρ H st i d g A h => ?_, fun ρ H st i g A h => ?_⟩⟩⟩
        · have s1 := ((A1.keep g).f _ _ hs).seq
          have h' := Option.some.inj h
          rw [enumD_get] at h'
          obtain ⟨y, hy, rfl⟩ := Option.map_eq_some_iff.mp h'
          obtain ⟨v, hv, rv⟩ := (r.grow A1 g).get hy
          refine ⟨⟨vs, v, s1, hv⟩, fun x H' z => ?_⟩
          obtain ⟨T, x1, rfl, hn, rfl, z⟩ := z
          have := z vs s1
          rw [hv] at this; cases this
          obtain ⟨A', g'⟩ := A.side (o := .tup [.int (i : Nat), v]) hn
          refine ⟨ρ, g', A', .tup (SqT.of upd_same) (.cons ?_ (.cons (rv.grow A g') .nil))⟩
          rw [Nat.zero_add]; exact .int _
        · refine ⟨vs, ((A1.keep g).f _ _ hs).seq, ?_⟩
          have h' := Option.some.inj h
          rw [enumD_get] at h'
          rw [r.length]
          exact List.getElem?_eq_none_iff.mp (Option.map_eq_none_iff.mp h')
      · exact h1.none (by simp [hl])
    | @loc p n hp =>
      cases e1 : st1[n]? with
      | none => exact h1.none (by simp [e1])
      | some o =>
        have q1 := A1.get hp e1
        cases q1 with
        | @lst vs l z r =>
          refine ⟨p, rfl, .inl ⟨⟨vs, SqL.of z⟩, h1.ok (st' := st1) (d := .liveE n) (by simp [e1]) .refl A1 ?_⟩⟩
          have at_ : ∀ {ρ H st}, Grow ρ1 H1 ρ H → At X.K cl ρ H st → ∀ {l}, st[n]? = some (.lst l) → ∃ vs, H p = some (.lst vs) ∧ RvL X.K H ρ vs l := fun {ρ H st} g A {l} e1 => by
            have hp' : ρ[n]? = some p := by obtain ⟨x, rfl⟩ := g.ext; exact getElem?_app hp
            have q1 := A.get hp' e1
            cases q1 with
            | lst z r => exact ⟨_, z, r⟩
          refine ⟨fun ρ H st i d g A h => ?_, fun ρ H st i g A h => ?_⟩
          · unfold srcAt at h
            cases e2 : st[n]? with
            | none => simp only [e2] at h; cases h
            | some o =>
              cases o with
              | lst l =>
                simp only [e2] at h
                obtain ⟨vs, z, r⟩ := at_ g A e2
                obtain ⟨y, hy, rfl⟩ := Option.map_eq_some_iff.mp (Option.some.inj h)
                obtain ⟨v, hv, rv⟩ := r.get hy
                refine ⟨⟨vs, v, SqL.of z, hv⟩, fun x H' w => ?_⟩
                obtain ⟨T, x1, rfl, hn, rfl, w⟩ := w
                have := w vs (SqL.of z)
                rw [hv] at this; cases this
                obtain ⟨A', g'⟩ := A.side (o := .tup [.int (i : Nat), v]) hn
                exact ⟨ρ, g', A', .tup (SqT.of upd_same) (.cons (.int _) (.cons (rv.grow A g') .nil))⟩
              | _ => simp only [e2] at h; cases h
          · unfold srcAt at h
            cases e2 : st[n]? with
            | none => simp only [e2] at h; cases h
            | some o =>
              cases o with
              | lst l =>
                simp only [e2] at h
                obtain ⟨vs, z, r⟩ := at_ g A e2
                refine ⟨vs, SqL.of z, ?_⟩
                rw [r.length]
                exact List.getElem?_eq_none_iff.mp (Option.map_eq_none_iff.mp (Option.some.inj h))
              | _ => simp only [e2] at h; cases h
        | _ => exact h1.none (by simp [e1])
    | _ => exact h1.none rfl
end
end MS

set_option Elab.async false
set_option linter.all false
set_option maxRecDepth 100000
set_option maxHeartbeats 4000000
/-! MSR6: rules of our own: zip(t, u, strict=True) of two tuples. -/
namespace PySem
open Sem (wp)
open AutoSeq1 (wpAny_loadPart')
namespace F
theorem typeCall_zip_strict (a b c : Value) : checkTypeCall "zip" ⟨[a, b], [(Str.ofString "strict", c)]⟩ = pure () := by kernel_rfl
theorem newCall_zip_strict (a b c : Value) : checkBuiltinCall "zip.__new__" ⟨[.type "zip", a, b], [(Str.ofString "strict", c)]⟩ = pure () := by kernel_rfl
theorem args_object_init_strict (obj a b c : Value) : argsOk "object.__init__" ⟨[obj, a, b], [(Str.ofString "strict", c)]⟩ := by unfold argsOk; kernel_rfl
end F
theorem wpAny_iteNo {M : Model} {A : Around} {E : Value → Shared → Prop} {s : Shared} {α : Type} {c : Prop} [Decidable c] {t e : Sem α} {Q : α → Shared → Prop} (h : ¬ c) (k : wpAny M A e Q E s) : wpAny M A (if c then t else e) Q E s := by
  rw [if_neg h]; exact k
abbrev IsZipS (h : Heap) (z TI TO : Addr) (f0 : Value) : Prop :=
  h.get? z = some { cls := .type "zip", dict := none, data := .fields #[f0, .bool false, .bool true, .ref TI, .ref TO], slots := #[] }
section
variable {prog : Program} {w : World} {A : Around} {E : Value → Shared → Prop} {s : Shared}
theorem zipS_next_item {z TI TO i1 i2 l1 l2 : Addr} {k1 k2 : Nat} {xs ys : Array Value} {x y a b : Value} {Q : Value → Shared → Prop} (D : ZipApart z TI TO i1 i2 l1 l2)
    (hz : IsZipS s.heap z TI TO .none) (hTI : IsPair s.heap TI (.ref i1) (.ref i2)) (hTO : IsPair s.heap TO a b)
    (h1 : s.heap.IsTupleIter i1 l1 k1) (h2 : s.heap.IsTupleIter i2 l2 k2) (hl1 : s.heap.IsTuple l1 xs) (hl2 : s.heap.IsTuple l2 ys) (hx : xs[k1]? = some x) (hy : ys[k2]? = some y)
    (hQ : ∀ h', IsZipS h' z TI TO (rawInt s.heap.objs.size) → IsPair h' TO x y → h'.IsTupleIter i1 l1 (k1 + 1) → h'.IsTupleIter i2 l2 (k2 + 1) → IsPair h' s.heap.objs.size x y → h'.objs.size = s.heap.objs.size + 1 →
      (∀ c o, c ≠ z → c ≠ TO → c ≠ i1 → c ≠ i2 → s.heap.get? c = some o → h'.get? c = some o) → Q (.ref s.heap.objs.size) { s with heap := h' }) :
    wpAny (model prog w) A (Builtin.«zip.__next__» ⟨[.ref z], []⟩) (fun fin s' => ∃ v, fin = .done (.ret v) ∧ Q v s') E s := by
  show wpAny _ _ (field (.ref z) 2 >>= _) _ _ _
  refine wpAny_bind (wpAny_field hz rfl (x := .bool true) rfl ?_)
  show wpAny _ _ (field (.ref z) 3 >>= _) _ _ _
  refine wpAny_bind (wpAny_field hz rfl (x := .ref TI) rfl ?_)
  refine wpAny_bind (wpAny_seqItems hTI rfl ?_)
  show wpAny _ _ (Builtin.SmallTypes.ownedTupleIsFree (.ref z) >>= _) _ _ _
  refine wpAny_bind ?_
  unfold Builtin.SmallTypes.ownedTupleIsFree
  refine wpAny_bind (wpAny_field hz rfl (x := .none) rfl (wpAny_pure ?_))
  simp only [if_true]
  refine wpAny_bind (wpAny_rule ?_)
  refine wpAny_bind (wpAny_field hz rfl (x := .ref TO) rfl ?_)
  refine wpAny_bind (wpAny_setField_rec hz (by simp) fun h₁ hz₁ hs₁ => ?_)
  replace hz₁ : IsZipS h₁ z TI TO .ellipsis := hz₁
  refine wpAny_bind ?_
  simp only [List.zipIdx_cons, List.zipIdx_nil, List.forIn_cons, List.forIn_nil]

  refine wpAny_bind (wpAny_bind (wpAny_onRaise ?_))
  show wpAny _ _ (Builtin.SmallTypes.nextOrEnd (.ref i1)) _ _ _
  unfold Builtin.SmallTypes.nextOrEnd
  refine wpAny_bind (wpAny_attempt (wpAny_nextOf_tuple_item (h1.extBut hs₁.extBut D.i1z) (hl1.extBut hs₁.extBut D.l1z) hx fun h₂ h1₂ hs₂ => wpAny_pure ?_))
  have hTO₂ : IsPair h₂ TO a b := hs₂.extBut _ _ D.TOi1 (hs₁.extBut _ _ D.TOz hTO)
  refine wpAny_bind (wpAny_seqItems hTO₂ rfl ?_)
  refine wpAny_bind (wpAny_updateSeq_pair hTO₂ fun h₃ hTO₃ hs₃ => ?_)
  replace hTO₃ : IsPair h₃ TO x b := hTO₃
  refine wpAny_bind (wpAny_letGo (wpAny_pure ?_))

  refine wpAny_bind (wpAny_bind (wpAny_onRaise ?_))
  show wpAny _ _ (Builtin.SmallTypes.nextOrEnd (.ref i2)) _ _ _
  unfold Builtin.SmallTypes.nextOrEnd
  refine wpAny_bind (wpAny_attempt (wpAny_nextOf_tuple_item (((h2.extBut hs₁.extBut D.i2z).extBut hs₂.extBut D.i12.symm).extBut hs₃.extBut D.TOi2.symm)
    (((hl2.extBut hs₁.extBut D.l2z).extBut hs₂.extBut D.l2i1).extBut hs₃.extBut D.l2TO) hy fun h₄ h2₄ hs₄ => wpAny_pure ?_))
  have hTO₄ : IsPair h₄ TO x b := hs₄.extBut _ _ D.TOi2 hTO₃
  refine wpAny_bind (wpAny_seqItems hTO₄ rfl ?_)
  refine wpAny_bind (wpAny_updateSeq_pair hTO₄ fun h₅ hTO₅ hs₅ => ?_)
  replace hTO₅ : IsPair h₅ TO x y := hTO₅
  refine wpAny_bind (wpAny_letGo (wpAny_pure (wpAny_pure ?_)))

  refine wpAny_bind (wpAny_seqItems hTO₅ rfl ?_)
  refine wpAny_bind (wpAny_newTuple ?_)
  have hsz : h₅.objs.size = s.heap.objs.size := by rw [hs₅.1, hs₄.1, hs₃.1, hs₂.1, hs₁.1]
  have hz₅ : IsZipS h₅ z TI TO .ellipsis := hs₅.extBut _ _ D.TOz.symm (hs₄.extBut _ _ D.i2z.symm (hs₃.extBut _ _ D.TOz.symm (hs₂.extBut _ _ D.i1z.symm hz₁)))
  have hk₅ : ∀ c o, c ≠ z → c ≠ TO → c ≠ i1 → c ≠ i2 → s.heap.get? c = some o → h₅.get? c = some o := fun c o c1 c2 c3 c4 e =>
    hs₅.extBut _ _ c2 (hs₄.extBut _ _ c4 (hs₃.extBut _ _ c2 (hs₂.extBut _ _ c3 (hs₁.extBut _ _ c1 e))))
  have h1₅ : h₅.IsTupleIter i1 l1 (k1 + 1) := ((h1₂.extBut hs₃.extBut D.TOi1.symm).extBut hs₄.extBut D.i12).extBut hs₅.extBut D.TOi1.symm
  have h2₅ : h₅.IsTupleIter i2 l2 (k2 + 1) := h2₄.extBut hs₅.extBut D.TOi2.symm
  have hzlt : z < h₅.objs.size := Heap.lt_size hz₅
  have hTOlt : TO < h₅.objs.size := Heap.lt_size hTO₅
  have hi1lt : i1 < h₅.objs.size := by obtain ⟨_, e, _⟩ := h1₅; exact Heap.lt_size e
  have hi2lt : i2 < h₅.objs.size := by obtain ⟨_, e, _⟩ := h2₅; exact Heap.lt_size e
  show wpAny _ _ (Builtin.SmallTypes.ownedTupleHandOut (.ref z) (.ref h₅.objs.size) >>= _) _ _ _
  refine wpAny_bind ?_
  unfold Builtin.SmallTypes.ownedTupleHandOut
  have hz₆ : IsZipS (h₅.push { cls := .type "tuple", data := .seq #[x, y] }) z TI TO .ellipsis := Heap.get?_push_of_some _ hz₅
  refine wpAny_bind (wpAny_setField_rec hz₆ (by simp) fun h₇ hz₇ hs₇ => ?_)
  replace hz₇ : IsZipS h₇ z TI TO (rawInt h₅.objs.size) := hz₇
  refine wpAny_setField_rec hz₇ (by simp) fun h₈ hz₈ hs₈ => ?_
  replace hz₈ : IsZipS h₈ z TI TO (rawInt h₅.objs.size) := hz₈
  have up : ∀ c o, c ≠ z → h₅.get? c = some o → h₈.get? c = some o := fun c o c1 e => hs₈.extBut _ _ c1 (hs₇.extBut _ _ c1 (Heap.get?_push_of_some _ e))
  have hT₈ : IsPair h₈ h₅.objs.size x y := hs₈.extBut _ _ (Nat.ne_of_gt hzlt) (hs₇.extBut _ _ (Nat.ne_of_gt hzlt) (Heap.get?_push_size _ rfl))
  have hz8 : h₈.objs.size = h₅.objs.size + 1 := by rw [hs₈.1, hs₇.1, Heap.size_push]
  rw [hsz] at hz₈ hT₈ hz8
  refine wpAny_pure ⟨_, rfl, ?_⟩
  show Q (.ref h₅.objs.size) _
  rw [hsz]
  exact hQ h₈ hz₈ (up _ _ D.TOz hTO₅) (h1₅.at fun o e => up _ o D.i1z e) (h2₅.at fun o e => up _ o D.i2z e) hT₈ hz8 fun c o c1 c2 c3 c4 e => up c o c1 (hk₅ c o c1 c2 c3 c4 e)


theorem zipS_next_end {z TI TO i1 i2 l1 l2 : Addr} {k1 k2 : Nat} {xs ys : Array Value} {a b : Value} {Q : Fin → Shared → Prop} (hh : A.handled = none) (D : ZipApart z TI TO i1 i2 l1 l2)
    (hz : IsZipS s.heap z TI TO .none) (hTI : IsPair s.heap TI (.ref i1) (.ref i2)) (hTO : IsPair s.heap TO a b)
    (h1 : s.heap.IsTupleIter i1 l1 k1) (h2 : s.heap.IsTupleIter i2 l2 k2) (hl1 : s.heap.IsTuple l1 xs) (hl2 : s.heap.IsTuple l2 ys) (hx : xs[k1]? = none) (hy : ys[k2]? = none)
    (hE : ∀ h' e, (∀ c o, c ≠ z → c ≠ TO → c ≠ i1 → c ≠ i2 → s.heap.get? c = some o → h'.get? c = some o) → (∃ o, h'.get? e = some o ∧ o.cls = .type "StopIteration") → E (.ref e) { s with heap := h' }) :
    wpAny (model prog w) A (Builtin.«zip.__next__» ⟨[.ref z], []⟩) Q E s := by
  show wpAny _ _ (field (.ref z) 2 >>= _) _ _ _
  refine wpAny_bind (wpAny_field hz rfl (x := .bool true) rfl ?_)
  show wpAny _ _ (field (.ref z) 3 >>= _) _ _ _
  refine wpAny_bind (wpAny_field hz rfl (x := .ref TI) rfl ?_)
  refine wpAny_bind (wpAny_seqItems hTI rfl ?_)
  show wpAny _ _ (Builtin.SmallTypes.ownedTupleIsFree (.ref z) >>= _) _ _ _
  refine wpAny_bind ?_
  unfold Builtin.SmallTypes.ownedTupleIsFree
  refine wpAny_bind (wpAny_field hz rfl (x := .none) rfl (wpAny_pure ?_))
  simp only [if_true]
  refine wpAny_bind (wpAny_rule ?_)
  refine wpAny_bind (wpAny_field hz rfl (x := .ref TO) rfl ?_)
  refine wpAny_bind (wpAny_setField_rec hz (by simp) fun h₁ hz₁ hs₁ => ?_)
  replace hz₁ : IsZipS h₁ z TI TO .ellipsis := hz₁
  refine wpAny_bind ?_
  simp only [List.zipIdx_cons, List.zipIdx_nil, List.forIn_cons, List.forIn_nil]
  refine wpAny_bind (wpAny_bind (wpAny_onRaise ?_))
  show wpAny _ _ (Builtin.SmallTypes.nextOrEnd (.ref i1)) _ _ _
  unfold Builtin.SmallTypes.nextOrEnd
  refine wpAny_bind (wpAny_attempt (wpAny_nextOf_tuple_end hh (h1.extBut hs₁.extBut D.i1z) (hl1.extBut hs₁.extBut D.l1z) hx fun h₂ e hs₂ he => ?_))
  obtain ⟨oe, hoe, hce⟩ := he
  refine wpAny_bind (wpAny_isInstance (T := "StopIteration") (b := true) ⟨oe, hoe, hce⟩ isSubtype_stop ?_)
  refine wpAny_pure ?_
  have hz₂ : IsZipS h₂ z TI TO .ellipsis := hs₂ _ _ D.i1z.symm hz₁
  refine wpAny_bind (wpAny_setField_rec hz₂ (by simp) fun h₃ _ hs₃ => ?_)
  have h2₃ : h₃.IsTupleIter i2 l2 k2 := (h2.at fun o q => hs₁.extBut _ _ D.i2z q).at fun o q => hs₃.extBut _ _ D.i2z (hs₂ _ _ D.i12.symm q)
  have hl2₃ : h₃.IsTuple l2 ys := (hl2.at fun o q => hs₁.extBut _ _ D.l2z q).at fun o q => hs₃.extBut _ _ D.l2z (hs₂ _ _ D.l2i1 q)
  refine wpAny_bind ?_
  refine wpAny_bind ?_
  simp only [List.drop_succ_cons, List.drop_zero, List.zipIdx_cons, List.zipIdx_nil, List.forIn_cons, List.forIn_nil]
  refine wpAny_bind (wpAny_bind ?_)
  unfold Builtin.SmallTypes.nextOrEnd
  refine wpAny_bind (wpAny_attempt (wpAny_nextOf_tuple_end hh h2₃ hl2₃ hy fun h₄ e' hs₄ he' => ?_))
  obtain ⟨oe', hoe', hce'⟩ := he'
  refine wpAny_bind (wpAny_isInstance (T := "StopIteration") (b := true) ⟨oe', hoe', hce'⟩ isSubtype_stop ?_)
  refine wpAny_pure (wpAny_pure (wpAny_pure (wpAny_bind (wpAny_rule ?_))))
  unfold Builtin.SmallTypes.stopIteration
  show wpAny _ _ (newExc (.type "StopIteration") [] >>= _) _ _ _
  refine wpAny_bind ?_
  simp only [newExc, newTuple]
  refine wpAny_bind (wpAny_newObj_type ?_ (by size_fits))
  refine wpAny_bind (m := firstArgMember _ _) (wpAny_of_eq (a := Value.none) (by first | rfl | (simp only [firstArgMember]; rfl)) ?_)
  refine wpAny_newObj_type ?_ (by size_fits)
  simp only [raiseNew]
  refine wpAny_bind (wpAny_handled ?_)
  first | rw [show A.in1.handled = none from hh] | rw [hh]
  refine wpAny_bind (wpAny_pure (wpAny_throw ?_))
  have up : ∀ c o, c ≠ z → c ≠ TO → c ≠ i1 → c ≠ i2 → s.heap.get? c = some o → h₄.get? c = some o := fun c o c1 c2 c3 c4 q => hs₄ _ _ c4 (hs₃.extBut _ _ c1 (hs₂ _ _ c3 (hs₁.extBut _ _ c1 q)))
  exact hE _ _ (fun c o c1 c2 c3 c4 q => Heap.get?_push_of_some _ (Heap.get?_push_of_some _ (up c o c1 c2 c3 c4 q))) ⟨_, Heap.get?_push_size _ rfl, rfl⟩

theorem wpAny_pyNext_zipS_item {z TI TO i1 i2 l1 l2 : Addr} {k1 k2 : Nat} {xs ys : Array Value} {x y a b : Value} {Q : Option Value → Shared → Prop} (D : ZipApart z TI TO i1 i2 l1 l2)
    (hz : IsZipS s.heap z TI TO .none) (hTI : IsPair s.heap TI (.ref i1) (.ref i2)) (hTO : IsPair s.heap TO a b)
    (h1 : s.heap.IsTupleIter i1 l1 k1) (h2 : s.heap.IsTupleIter i2 l2 k2) (hl1 : s.heap.IsTuple l1 xs) (hl2 : s.heap.IsTuple l2 ys) (hx : xs[k1]? = some x) (hy : ys[k2]? = some y)
    (hQ : ∀ h', IsZipS h' z TI TO (rawInt s.heap.objs.size) → IsPair h' TO x y → h'.IsTupleIter i1 l1 (k1 + 1) → h'.IsTupleIter i2 l2 (k2 + 1) → IsPair h' s.heap.objs.size x y → h'.objs.size = s.heap.objs.size + 1 →
      (∀ c o, c ≠ z → c ≠ TO → c ≠ i1 → c ≠ i2 → s.heap.get? c = some o → h'.get? c = some o) → Q (some (.ref s.heap.objs.size)) { s with heap := h' }) :
    wpAny (model prog w) A (pyNext (.ref z)) Q E s := by
  have hT : s.TypeIs (.ref z) "zip" := ⟨_, hz, rfl⟩
  unfold pyNext
  exact wpAny_bind (wpAny_attempt (wpAny_callSpecial?_slot (name := Str.ofString "__next__") hT F.slot_zip_next
    (wpAny_call_entry F.slot_zip_next hT F.entry_zip_next
      (zipS_next_item D hz hTI hTO h1 h2 hl1 hl2 hx hy fun h' a1 a2 a3 a4 a5 a6 a7 => wpAny_pure (hQ h' a1 a2 a3 a4 a5 a6 a7)) (F.args_zip_next_1 _))))
theorem wpAny_pyNext_zipS_end {z TI TO i1 i2 l1 l2 : Addr} {k1 k2 : Nat} {xs ys : Array Value} {a b : Value} {Q : Option Value → Shared → Prop} (hh : A.handled = none) (D : ZipApart z TI TO i1 i2 l1 l2)
    (hz : IsZipS s.heap z TI TO .none) (hTI : IsPair s.heap TI (.ref i1) (.ref i2)) (hTO : IsPair s.heap TO a b)
    (h1 : s.heap.IsTupleIter i1 l1 k1) (h2 : s.heap.IsTupleIter i2 l2 k2) (hl1 : s.heap.IsTuple l1 xs) (hl2 : s.heap.IsTuple l2 ys) (hx : xs[k1]? = none) (hy : ys[k2]? = none)
    (hQ : ∀ h', (∀ c o, c ≠ z → c ≠ TO → c ≠ i1 → c ≠ i2 → s.heap.get? c = some o → h'.get? c = some o) → Q none { s with heap := h' }) : wpAny (model prog w) A (pyNext (.ref z)) Q E s := by
  have hT : s.TypeIs (.ref z) "zip" := ⟨_, hz, rfl⟩
  unfold pyNext
  refine wpAny_bind (wpAny_attempt (wpAny_callSpecial?_slot (name := Str.ofString "__next__") hT F.slot_zip_next
    (wpAny_call_entry F.slot_zip_next hT F.entry_zip_next (zipS_next_end hh D hz hTI hTO h1 h2 hl1 hl2 hx hy fun h' e hk he => ?_) (F.args_zip_next_1 _))))
  obtain ⟨o, ho, hc⟩ := he
  refine wpAny_bind (wpAny_isInstance (T := "StopIteration") (b := true) ⟨o, ho, hc⟩ isSubtype_stop ?_)
  exact wpAny_pure (hQ _ hk)
theorem wpAny_letOwnedTupleGo_zipS {elts : List Expr} {x1} {pos : Pos} {z TI TO T : Addr} {Q : Unit → Shared → Prop} (hz : IsZipS s.heap z TI TO (rawInt T))
    (hQ : ∀ h', IsZipS h' z TI TO .none → Heap.SameBut z s.heap h' → Q () { s with heap := h' }) :
    wpAny (model prog w) A (letOwnedTupleGo (.Tuple elts x1 pos) (.ref z) (.ref T)) Q E s := by
  unfold letOwnedTupleGo
  refine wpAny_bind (wpAny_load hz ?_)
  show wpAny _ _ (if (["enumerate", "zip", "dict_itemiterator", "dict_reverseitemiterator", "odict_iterator", "itertools.zip_longest", "itertools.pairwise"].contains "zip" &&
      (#[rawInt T, .bool false, .bool true, .ref TI, .ref TO] : Array Value)[0]? == some (rawInt T)) = true then _ else _) Q E s
  rw [if_pos (by simp)]
  refine wpAny_bind (wpAny_rule ?_)
  show wpAny _ _ (setField (.ref z) 0 .none) Q E s
  exact wpAny_setField_rec hz (by simp) fun h' hz' hs' => hQ h' hz' hs'
theorem wpAny_pyIter_zipS {z TI TO : Addr} {f0 : Value} {Q : Value → Shared → Prop} (hz : IsZipS s.heap z TI TO f0) (h : Q (.ref z) s) : wpAny (model prog w) A (pyIter (.ref z)) Q E s := by
  have hT : s.TypeIs (.ref z) "zip" := ⟨_, hz, rfl⟩
  refine wpAny_pyIter_slot hT F.slot_zip_iter (wpAny_call_entry F.slot_zip_iter hT F.entry_zip_iter ?_ (F.args_zip_iter_1 _))
  show wpAny _ _ (ret (.ref z)) _ _ s
  exact wpAny_pure ⟨_, rfl, "zip", _, hT, F.slot_zip_next.lookup, h⟩
end
abbrev zipS1 (h : Heap) (l1 : Addr) : Heap := h.push { cls := .type "tuple_iterator", data := .fields #[.ref l1, .int 0 0] }
abbrev zipS2 (h : Heap) (l1 l2 : Addr) : Heap := (zipS1 h l1).push { cls := .type "tuple_iterator", data := .fields #[.ref l2, .int 0 0] }
abbrev zipS3 (h : Heap) (l1 l2 : Addr) : Heap := (zipS2 h l1 l2).push { cls := .type "tuple", data := .seq #[.ref h.objs.size, .ref (zipS1 h l1).objs.size] }
abbrev zipS4 (h : Heap) (l1 l2 : Addr) : Heap := (zipS3 h l1 l2).push { cls := .type "tuple", data := .seq #[.none, .none] }
abbrev zipS5 (h : Heap) (l1 l2 : Addr) : Heap := (zipS4 h l1 l2).push { cls := .type "zip", data := .fields #[.none, .bool false, .bool true, .ref (zipS2 h l1 l2).objs.size, .ref (zipS3 h l1 l2).objs.size] }
theorem meets_zipS_new (l1 l2 : Addr) (xs ys : Array Value) :
    Meets (Builtin.«zip.__new__» ⟨[.type "zip", .ref l1, .ref l2], [(Str.ofString "strict", .bool true)]⟩) (fun _ R s => s.heap.IsTuple l1 xs ∧ s.heap.IsTuple l2 ys ∧
      R (.ok (.ret (.ref (zipS4 s.heap l1 l2).objs.size))) { s with heap := zipS5 s.heap l1 l2 }) :=
  .of_wp fun prog w A R s h => by
    obtain ⟨hp, g, d, tk, os⟩ := s; obtain ⟨hl1, hl2, h⟩ := h
    have hsub := sub_zip
    have hL1 : Heap.IsTuple (Shared.heap ⟨hp, g, d, tk, os⟩) l1 xs := hl1
    have hL2 : Heap.IsTuple (Shared.heap ⟨hp.push { cls := .type "tuple_iterator", data := .fields #[.ref l1, .int 0 0] }, g, d, tk, os⟩) l2 ys := hl2.at fun o q => Heap.get?_push_of_some _ q
    have e1 : (Str.ofString "strict" == ("strict" : Str)) = true := by decide +kernel
    have e2 : (Str.ofString "strict" != ("strict" : Str)) = false := by decide +kernel
    wp_walk using wpAny_pyIter_tuple hL1, wpAny_pyIter_tuple hL2
    exact ⟨_, rfl, h⟩
section
variable {prog : Program} {w : World} {A : Around} {E : Value → Shared → Prop} {s : Shared}
theorem call_zipS_2 {l1 l2 : Addr} {xs ys : Array Value} {Q : Value → Shared → Prop} (hl1 : s.heap.IsTuple l1 xs) (hl2 : s.heap.IsTuple l2 ys)
    (h : ∀ h', IsZipS h' (s.heap.objs.size + 4) (s.heap.objs.size + 2) (s.heap.objs.size + 3) .none → IsPair h' (s.heap.objs.size + 2) (.ref s.heap.objs.size) (.ref (s.heap.objs.size + 1)) →
      IsPair h' (s.heap.objs.size + 3) .none .none → h'.IsTupleIter s.heap.objs.size l1 0 → h'.IsTupleIter (s.heap.objs.size + 1) l2 0 → h'.objs.size = s.heap.objs.size + 5 →
      (∀ c o, s.heap.get? c = some o → h'.get? c = some o) → Q (.ref (s.heap.objs.size + 4)) { s with heap := h' }) :
    wpAny (model prog w) A (call (.type "zip") [.ref l1, .ref l2] [(Str.ofString "strict", .bool true)]) Q E s := by
  refine callType_newKw F.called_zip (by decide) (F.typeCall_zip_strict _ _ _) (F.newCall_zip_strict _ _ _) (fun obj => F.args_object_init_strict obj _ _ _) F.entry_zip_new
    (meets_zipS_new l1 l2 xs ys) ⟨hl1, hl2, ?_⟩
  have z1 : (zipS1 s.heap l1).objs.size = s.heap.objs.size + 1 := Heap.size_push ..
  have z2 : (zipS2 s.heap l1 l2).objs.size = s.heap.objs.size + 2 := by rw [Heap.size_push, z1]
  have z3 : (zipS3 s.heap l1 l2).objs.size = s.heap.objs.size + 3 := by rw [Heap.size_push, z2]
  have z4 : (zipS4 s.heap l1 l2).objs.size = s.heap.objs.size + 4 := by rw [Heap.size_push, z3]
  have z5 : (zipS5 s.heap l1 l2).objs.size = s.heap.objs.size + 5 := by rw [Heap.size_push, z4]
  have g5 : (zipS5 s.heap l1 l2).get? (zipS4 s.heap l1 l2).objs.size = some _ := Heap.get?_push_size _ rfl
  have g4 : (zipS5 s.heap l1 l2).get? (zipS3 s.heap l1 l2).objs.size = some _ := Heap.get?_push_of_some _ (Heap.get?_push_size _ rfl)
  have g3 : (zipS5 s.heap l1 l2).get? (zipS2 s.heap l1 l2).objs.size = some _ := Heap.get?_push_of_some _ (Heap.get?_push_of_some _ (Heap.get?_push_size _ rfl))
  have g2 : (zipS5 s.heap l1 l2).get? (zipS1 s.heap l1).objs.size = some _ := Heap.get?_push_of_some _ (Heap.get?_push_of_some _ (Heap.get?_push_of_some _ (Heap.get?_push_size _ rfl)))
  have g1 : (zipS5 s.heap l1 l2).get? s.heap.objs.size = some _ := Heap.get?_push_of_some _ (Heap.get?_push_of_some _ (Heap.get?_push_of_some _ (Heap.get?_push_of_some _ (Heap.get?_push_size _ rfl))))
  show _ ∧ _
  rw [z2, z3, z4] at g5
  rw [z1, z2] at g3
  rw [z3] at g4
  rw [z1] at g2
  rw [z4]
  exact ⟨⟨_, g5, rfl⟩, h _ g5 g3 g4 ⟨_, g1, rfl, rfl⟩ ⟨_, g2, rfl, rfl⟩ z5 fun c o x =>
    Heap.get?_push_of_some _ (Heap.get?_push_of_some _ (Heap.get?_push_of_some _ (Heap.get?_push_of_some _ (Heap.get?_push_of_some _ x))))⟩
theorem callWith_typeKW {env : Env} {pos : Pos} {T : String} {e : Expr} {rest : List Expr} {kws : List Keyword} {Q : Value → Shared → Prop} {M : Model}
    (h : wpAny M A (spliced (backTo pos (starEach (e :: rest) env))) (fun vs s₁ => wpAny M A (evalAll ((backToKw pos (keywordEach kws env)).map (·.2)))
      (fun kvs s₂ => wpAny M A (call (.type T) vs (((backToKw pos (keywordEach kws env)).filterMap (·.1)).zip kvs)) Q E s₂) E s₁) E s)
    (he : backTo pos (starEach (e :: rest) env) = (false, eval e env) :: backTo pos (starEach rest env) := by rfl)
    (hplain : (backTo pos (starEach (e :: rest) env)).any (·.1) = false := by rfl)
    (hall : (backToKw pos (keywordEach kws env)).all (·.1.isSome) = true := by rfl)
    (hkw : (backToKw pos (keywordEach kws env)).any (·.1.isNone) = false := by rfl) :
    wpAny M A (callWith pos (.type T) [] (backTo pos (starEach (e :: rest) env)) (backToKw pos (keywordEach kws env))) Q E s := by
  have h' : wpAny M A (evalArgs (.type T) true (backTo pos (starEach (e :: rest) env)) (backToKw pos (keywordEach kws env))) (fun a s₁ => wpAny M A (call (.type T) ([] ++ a.pos) a.kw) Q E s₁) E s := by
    rw [he] at h ⊢
    exact PyProof.Rows.evalArgs_kwB hall h
  unfold callWith
  refine wpAny_bind (wpAny_holding (wpAny_mono h' (fun a s₁ h₁ => wpAny_bind (wpAny_standAt ?_)) fun _ _ x => x))
  simp only [hplain, hkw, Bool.or_false]
  refine wpAny_bind (wpAny_pure ?_)
  exact wpAny_bind (wpAny_mono h₁ (fun r s₂ hr => wpAny_bind (wpAny_holding (wpAny_point (wpAny_pure hr)))) fun _ _ x => x)
end
end PySem
namespace MS
open PySem PySem.Spec PyProof.Rows L2
/-- two tuples, the items in new pairs -/
def ItzT (K : PySem.W.Frag) (a b : Addr) : It :=
  ⟨fun i H => ∃ (xs ys : List V) (x y : V), SqT K H a xs ∧ SqT K H b ys ∧ xs[i]? = some x ∧ ys[i]? = some y,
    fun i H v H' => ∃ T x y, v = .ref T ∧ H T = none ∧ H' = upd H T (.tup [x, y]) ∧ (∀ xs, SqT K H a xs → xs[i]? = some x) ∧ ∀ ys, SqT K H b ys → ys[i]? = some y,
    fun i H => ∃ xs ys : List V, SqT K H a xs ∧ SqT K H b ys ∧ xs.length ≤ i ∧ ys.length ≤ i⟩
theorem turn_zipS {P : Program} {w : World} {K : PySem.W.Frag} {elts : List Expr} {kk : Nat} {tpos : Pos} {a b z TI TO i1 i2 : Addr} (D : ZipApart z TI TO i1 i2 a b) :
    Turn P w K (.Tuple elts kk tpos) (ItzT K a b) [z, TI, TO, i1, i2] z (fun i h => IsZipS h z TI TO .none ∧ IsPair h TI (.ref i1) (.ref i2) ∧ (∃ x y, IsPair h TO x y) ∧ h.IsTupleIter i1 a i ∧ h.IsTupleIter i2 b i) where
  mem := by simp
  obj := fun i h st c hc => by
    obtain ⟨hz, hTI, ⟨x, y, hTO⟩, ⟨o1, e1, _, d1⟩, ⟨o2, e2, _, d2⟩⟩ := st
    have e' : c = z ∨ c = TI ∨ c = TO ∨ c = i1 ∨ c = i2 := by simpa using hc
    rcases e' with q | q | q | q | q
    · rw [q]; exact ⟨_, hz, fun v q => nomatch q⟩
    · rw [q]; exact ⟨_, hTI, fun v q => nomatch q⟩
    · rw [q]; exact ⟨_, hTO, fun v q => nomatch q⟩
    · rw [q]; exact ⟨o1, e1, fun v q => by rw [d1] at q; cases q⟩
    · rw [q]; exact ⟨o2, e2, fun v q => by rw [d2] at q; cases q⟩
  keep := fun i h h' st k => by
    obtain ⟨hz, hTI, ⟨x, y, hTO⟩, h1, h2⟩ := st
    exact ⟨k z (by simp) _ hz, k TI (by simp) _ hTI, ⟨x, y, k TO (by simp) _ hTO⟩, h1.at fun o q => k i1 (by simp) o q, h2.at fun o q => k i2 (by simp) o q⟩
  item := by
    intro X hP hw hK hc i pins s σ H E I hf st hg
    subst hP hw hK
    obtain ⟨hz, hTI, ⟨x0, y0, hTO⟩, h1, h2⟩ := st
    obtain ⟨xs, ys, x, y, hqx, hqy, hx, hy⟩ := hg
    obtain ⟨its, rv, p, _⟩ := I.tuple hqx
    obtain ⟨its2, rv2, p2, _⟩ := I.tuple hqy
    obtain ⟨u, hu, ru⟩ := rv.get hx
    obtain ⟨u2, hu2, ru2⟩ := rv2.get hy
    have hzl : z < s.heap.objs.size := Heap.lt_size hz
    refine wpAny_pyNext_zipS_item D hz hTI hTO h1 h2 (show s.heap.IsTuple a its.toArray from p) (show s.heap.IsTuple b its2.toArray from p2) (x := u) (y := u2) (by simpa using hu) (by simpa using hu2) fun h' z' TO' h1' h2' hT hsz hk => ?_
    refine ⟨_, rfl, wpAny_letOwnedTupleGo_zipS (s := { s with heap := h' }) z' fun h'' z'' sb => ?_⟩
    have hT2 : h''.get? s.heap.objs.size = some { cls := .type "tuple", data := .seq #[u, u2] } := (sb.2 _ (Nat.ne_of_gt hzl)).trans hT
    have new : ObjOk X.prog X.w (upd H s.heap.objs.size (.tup [x, y])) h'' s.heap.objs.size (.tup [x, y]) :=
      ⟨by show 2 ≤ sizeLine; decide, [u, u2], .cons ru (.cons ru2 .nil), ⟨_, hT2, rfl, _, rfl⟩⟩
    have I1 : Inv X pins σ (upd H s.heap.objs.size (.tup [x, y])) { s with heap := h'' } :=
      I.turnedNew (t' := s.toks) (ch := [z, TI, TO, i1, i2]) (fun c o hb q => (sb.2 c (fun q' => hb (by simp [q']))).trans (hk c o (fun q' => hb (by simp [q'])) (fun q' => hb (by simp [q'])) (fun q' => hb (by simp [q'])) (fun q' => hb (by simp [q'])) q)) hf (Nat.le_refl _) new
    refine ⟨.ref s.heap.objs.size, _, I1, rfl, ⟨_, x, y, rfl, I.hok.fresh (Nat.le_refl _), rfl, fun l hl => by rw [I.tuple_inj hl hqx]; exact hx, fun l hl => by rw [I.tuple_inj hl hqy]; exact hy⟩, ⟨z'', ?_, ⟨u, u2, ?_⟩, ?_, ?_⟩, fun c hcm => ?_⟩
    · exact (sb.2 _ D.TIz).trans (hk _ _ D.TIz D.TITO D.TIi1 D.TIi2 hTI)
    · exact (sb.2 _ D.TOz).trans TO'
    · exact h1'.at fun o q => (sb.2 _ D.i1z).trans q
    · exact h2'.at fun o q => (sb.2 _ D.i2z).trans q
    · have hlt : c < s.heap.objs.size := by
        have e' : c = z ∨ c = TI ∨ c = TO ∨ c = i1 ∨ c = i2 := by simpa using hcm
        rcases e' with q | q | q | q | q
        · rw [q]; exact hzl
        · rw [q]; exact Heap.lt_size hTI
        · rw [q]; exact Heap.lt_size hTO
        · rw [q]; obtain ⟨_, e1, _⟩ := h1; exact Heap.lt_size e1
        · rw [q]; obtain ⟨_, e2, _⟩ := h2; exact Heap.lt_size e2
      rw [upd_ne (Nat.ne_of_lt hlt)]
      exact (hf c hcm).1
  done := by
    intro X hP hw hK hc i pins s σ H E I hf st hg
    subst hP hw hK
    obtain ⟨hz, hTI, ⟨x0, y0, hTO⟩, h1, h2⟩ := st
    obtain ⟨xs, ys, hqx, hqy, he1, he2⟩ := hg
    obtain ⟨its, rv, p, _⟩ := I.tuple hqx
    obtain ⟨its2, rv2, p2, _⟩ := I.tuple hqy
    have l1 := rv.length
    have l2 := rv2.length
    exact wpAny_pyNext_zipS_end (I.ok.hd hc) D hz hTI hTO h1 h2 (show s.heap.IsTuple a its.toArray from p) (show s.heap.IsTuple b its2.toArray from p2) (by simp; omega) (by simp; omega) fun h' hk => ⟨rfl, I.turnedL (t' := s.toks) (ch := [z, TI, TO, i1, i2]) (fun c o hb q =>
      hk c o (fun q' => hb (by simp [q'])) (fun q' => hb (by simp [q'])) (fun q' => hb (by simp [q'])) (fun q' => hb (by simp [q'])) q) hf⟩
  self := fun A i s Q E st h => wpAny_pyIter_zipS st.1 h
def iZipS (K : PySem.W.Frag) (ta : TA) : TI := fun σ H R => ta σ H fun vs H1 => ∃ a b xs ys, vs = [.ref a, .ref b] ∧ SqT K H1 a xs ∧ SqT K H1 b ys ∧ R (ItzT K a b) H1
theorem pi_zipS {X : Cx} {e e2 : Expr} {ta : TA} {p pos tpos kp cp : Pos} {cj : Nat} {elts : List Expr} {kk : Nat} (hg : Gl X "zip") (hm : X.mg "zip" = none) (ha : PA X [e, e2] ta)
    (he : backTo pos (starEach [e, e2] X.env) = (false, eval e X.env) :: backTo pos (starEach [e2] X.env) := by rfl) (hpl : (backTo pos (starEach [e, e2] X.env)).any (·.1) = false := by rfl) :
    PI X (.Tuple elts kk tpos) (.Call (.Name "zip" p) [e, e2] [⟨some "strict", .Constant (.bool true) cj cp, kp⟩] pos) (iZipS X.K ta) := by
  refine ⟨fun pins s σ H R I h => ?_⟩
  refine wpAny_Call_Name_kw (ld_blt I hg hm PyProof.Rows.boot_zip ?_)
  refine callWith_typeKW (thn (ha.run pos pins s σ H _ I h) fun us s1 ⟨vs, H1, I1, r1, q1⟩ => ?_) he hpl
  obtain ⟨a, b, xs, ys, ex, hqx, hqy, q⟩ := q1
  subst ex
  refine PyProof.Rows.kws_cons (PyProof.Rows.Constant_bool (PyProof.Rows.kws_nil ?_))
  cases r1 with
  | cons r rr =>
    cases rr with
    | cons r' rr =>
      cases rr
      cases r
      cases r'
      obtain ⟨its, rv, p1, _⟩ := I1.tuple hqx
      obtain ⟨its2, rv2, p2, _⟩ := I1.tuple hqy
      have la : a < s1.heap.objs.size := by obtain ⟨_, q, _⟩ := p1; exact Heap.lt_size q
      have lb : b < s1.heap.objs.size := by obtain ⟨_, q, _⟩ := p2; exact Heap.lt_size q
      refine call_zipS_2 (show s1.heap.IsTuple a its.toArray from p1) (show s1.heap.IsTuple b its2.toArray from p2) fun h' hz hTI hTO h1 h2 hsz hk => wpAny_pyIter_zipS hz ?_
      have I2 : Inv X pins σ H1 { s1 with heap := h' } := I1.kept (t' := s1.toks) hk
      refine ⟨s1.heap.objs.size + 4, [s1.heap.objs.size + 4, s1.heap.objs.size + 2, s1.heap.objs.size + 3, s1.heap.objs.size, s1.heap.objs.size + 1], _, _, H1, rfl, I2, turn_zipS (PySem.W.ktu_apart s1.heap.objs.size a b la lb), ⟨hz, hTI, ⟨_, _, hTO⟩, h1, h2⟩, fun c hcm => ?_, q⟩
      have e' : c = s1.heap.objs.size + 4 ∨ c = s1.heap.objs.size + 2 ∨ c = s1.heap.objs.size + 3 ∨ c = s1.heap.objs.size ∨ c = s1.heap.objs.size + 1 := by simpa using hcm
      have hle : s1.heap.objs.size ≤ c := by
        rcases e' with z | z | z | z | z
        · rw [z]; exact Nat.le_add_right _ _
        · rw [z]; exact Nat.le_add_right _ _
        · rw [z]; exact Nat.le_add_right _ _
        · rw [z]; exact Nat.le_refl _
        · rw [z]; exact Nat.le_add_right _ _
      exact I1.fpOk hle (I1.hok.fresh hle)
end MS

set_option Elab.async false
set_option linter.all false
set_option maxRecDepth 100000
set_option maxHeartbeats 4000000
/-! MS11: comprehensions, zip, a written dict's get. -/
namespace MS
open PySem PySem.Spec PyProof.Rows L2 MI

section
variable {X : Cx} {cl : Nat → Addr} {E : EX} {c : MI.Ctx} {a b e : Expr} {ga gb ge : SE} {pos p : Pos}
theorem zipD_get : ∀ (l m : List D) (i : Nat) (x y : D), l[i]? = some x → m[i]? = some y → (zipD l m)[i]? = some (.tup [x, y])
  | _ :: _, _ :: _, 0, _, _, h1, h2 => by simp at h1 h2; subst h1 h2; rfl
  | _ :: l, _ :: m, i + 1, x, y, h1, h2 => by
    simp only [zipD, List.getElem?_cons_succ] at h1 h2 ⊢
    exact zipD_get l m i x y h1 h2
  | [], _, _, _, _, h1, _ => by simp at h1
  | _ :: _, [], _, _, _, _, h2 => by simp at h2
theorem zipD_len : ∀ (l m : List D), (zipD l m).length = min l.length m.length
  | [], _ => by simp [zipD]
  | _ :: _, [] => by simp [zipD]
  | _ :: l, _ :: m => by simp [zipD, zipD_len l m]
theorem mi_zip {tpos kp cp : Pos} {cj : Nat} {elts : List Expr} {kk : Nat} (hg : Gl X "zip") (hm : X.mg "zip" = none) (ha : ME X cl E c a ga) (hb : ME X cl E c b gb)
    (he : starEach [a, b] X.env = (false, eval a X.env) :: starEach [b] X.env := by rfl) (he2 : starEach [b] X.env = (false, eval b X.env) :: starEach [] X.env := by rfl)
    (hb1 : backTo pos (starEach [a, b] X.env) = (false, eval a X.env) :: backTo pos (starEach [b] X.env) := by rfl) (hpl : (backTo pos (starEach [a, b] X.env)).any (·.1) = false := by rfl) :
    MI_ X cl E c (.Tuple elts kk tpos) (.Call (.Name "zip" p) [a, b] [⟨some "strict", .Constant (.bool true) cj cp, kp⟩] pos) (MI.iZip ga gb) :=
  piI (pi_zipS (ta := tCons (TM X.K cl E (rV X.K) (ga c)) (tCons (TM X.K cl E (rV X.K) (gb c)) tNil)) hg hm (pa_cons ha (pa_cons hb pa_nil he2) he) hb1 hpl) fun σ H R ⟨ρ, env, st, A, e, h⟩ => by
    refine (Rest.step (g := ga c) (rV X.K) A e h).imp fun v1 H1 ⟨ρ1, st1, d1, g1, A1, r1, h1⟩ => ?_
    refine (Rest.step (g := gb c) (rV X.K) A1 (e.grow A g1) h1).imp fun v2 H2 ⟨ρ2, st2, d2, g2, A2, r2, h2⟩ => ?_
    have r1' := r1.grow A1 g2
    cases r1' with
    | @tup p vs l hs r =>
      cases r2 with
      | @tup q ws m hs' r' =>
        by_cases hl : l.length = m.length
        · refine ⟨p, q, vs, ws, rfl, hs, hs', h2.ok (st' := st2) (d := .items (zipD l m)) (by simp [hl, MI.ret]) .refl A2 ⟨fun ρ H st i d g A h => ?_, fun ρ H st i g A h => ?_⟩⟩
          · have s1 := (A2.keep g).t _ _ hs
            have s2 := (A2.keep g).t _ _ hs'
            have h' := Option.some.inj h
            have hlt : i < (zipD l m).length := (List.getElem?_eq_some_iff.mp h').1
            rw [zipD_len] at hlt
            have hi1 : i < l.length := by omega
            have hi2 : i < m.length := by omega
            have z1 : l[i]? = some l[i] := List.getElem?_eq_getElem hi1
            have z2 : m[i]? = some m[i] := List.getElem?_eq_getElem hi2
            rw [zipD_get l m i _ _ z1 z2] at h'
            cases h'
            obtain ⟨v, hv, rv⟩ := (r.grow A2 g).get z1
            obtain ⟨w, hw, rw'⟩ := (r'.grow A2 g).get z2
            refine ⟨⟨vs, ws, v, w, s1, s2, hv, hw⟩, fun x H' z => ?_⟩
            obtain ⟨T, x1, y1, rfl, hn, rfl, z, z'⟩ := z
            have q1 := z vs s1
            have q2 := z' ws s2
            rw [hv] at q1; cases q1
            rw [hw] at q2; cases q2
            obtain ⟨A', g'⟩ := A.side (o := .tup [v, w]) hn
            exact ⟨ρ, g', A', .tup (SqT.of upd_same) (.cons (rv.grow A g') (.cons (rw'.grow A g') .nil))⟩
          · have h' := Option.some.inj h
            have hge := List.getElem?_eq_none_iff.mp h'
            rw [zipD_len] at hge
            exact ⟨vs, ws, (A2.keep g).t _ _ hs, (A2.keep g).t _ _ hs', by rw [r.length]; omega, by rw [r'.length]; omega⟩
        · exact h2.none (by simp [hl, MI.fail])
      | _ => exact h2.none rfl
    | _ => exact h2.none (by cases r2 <;> rfl)
end

/-! ### comprehensions -/
theorem wipe_idem (σ : L2.St) : ∀ vs : List Nat, L2.wipe (L2.wipe σ vs) vs = L2.wipe σ vs := by
  have key : ∀ (us vs : List Nat), (∀ v ∈ us, v ∈ vs) → L2.wipe (L2.wipe σ vs) us = L2.wipe σ vs := by
    intro us
    induction us with
    | nil => intro vs _; rfl
    | cons u us ih =>
      intro vs h
      show (L2.wipe (L2.wipe σ vs) us).set u none = _
      rw [ih vs fun v hv => h v (List.mem_cons_of_mem _ hv)]
      have hu := h u List.mem_cons_self
      clear ih h
      induction vs with
      | nil => cases hu
      | cons v vs ih =>
        show ((L2.wipe σ vs).set v none).set u none = (L2.wipe σ vs).set v none
        by_cases e : v = u
        · subst e; rw [List.set_set]
        · rcases List.mem_cons.mp hu with q | q
          · exact absurd q.symm e
          · rw [List.set_comm _ _ e, ih q]
  exact fun vs => key vs vs fun _ h => h
theorem wipe_set {σ : L2.St} {x : Option V} {i : Nat} : ∀ {vs : List Nat}, i ∈ vs → L2.wipe (σ.set i x) vs = L2.wipe σ vs
  | [], h => by cases h
  | v :: vs, h => by
    show (L2.wipe (σ.set i x) vs).set v none = (L2.wipe σ vs).set v none
    by_cases e : i ∈ vs
    · rw [wipe_set e]
    · have hv : i = v := by
        rcases List.mem_cons.mp h with q | q
        · exact q
        · exact absurd q e
      subst hv
      have out : ∀ (us : List Nat) (τ : L2.St), i ∉ us → L2.wipe (τ.set i x) us = (L2.wipe τ us).set i x := by
        intro us
        induction us with
        | nil => intro τ _; rfl
        | cons u us ih =>
          intro τ hn
          have hn1 : i ∉ us := fun q => hn (List.mem_cons_of_mem _ q)
          have hn2 : i ≠ u := fun q => hn (q ▸ List.mem_cons_self)
          show (L2.wipe (τ.set i x) us).set u none = ((L2.wipe τ us).set u none).set i x
          rw [ih τ hn1, List.set_comm _ _ hn2]
      rw [out vs σ e, List.set_set]
section
variable (K : PySem.W.Frag) (cl : Nat → Addr)
/-- a target of a comprehension's own names -/
def TGw (vs : List Nat) (g : D → MI.Env → Stt → Option (MI.Env × Stt)) : TG := fun v σ H Q => ∃ ρ env st d, At K cl ρ H st ∧ RvE K H ρ σ env ∧ Rv K H ρ v d ∧ RestG K cl (fun σ' H' => L2.wipe σ' vs = L2.wipe σ vs → Q σ' H') (g d env st) ρ H
def TGws (vs : List Nat) (g : List D → MI.Env → Stt → Option (MI.Env × Stt)) : TGs := fun us σ H Q => ∃ ρ env st ds, At K cl ρ H st ∧ RvE K H ρ σ env ∧ RvL K H ρ us ds ∧ RestG K cl (fun σ' H' => L2.wipe σ' vs = L2.wipe σ vs → Q σ' H') (g ds env st) ρ H
end
section
variable {X : Cx} {cl : Nat → Addr} {c : MI.Ctx} {vs : List Nat} {pos : Pos} {e : Expr} {es : List Expr} {g : SG} {gg : SGs}
theorem mw_name {i : Nat} {x : Str} (hN : X.N.Nodup) (hm : i ∈ vs := by decide) (hi : X.N[i]? = some x := by rfl) (hx : Loc X.env.scope x := by first | exact Or.inl rfl | exact Or.inr rfl) (hf : X.fn x = true ∨ X.env.scope.names.lookup x = some .local := by first | exact .inl rfl | exact .inr rfl | assumption) : PG X (.Name x pos) (TGw X.K cl vs (gVar i c)) :=
  pgI (pg_name hN hi hx hf) fun v σ H Q ⟨ρ, env, st, d, A, e, r, h⟩ => by
    unfold gVar at h
    by_cases hl : i < env.length
    · rw [if_pos hl] at h
      exact h ρ H _ .refl A (RvE.set r i e) (wipe_set hm)
    · rw [if_neg hl] at h; exact h.elim
theorem mws_nil : PGs X [] (TGws X.K cl vs (MI.gNil c)) := pgsI pgs_nil fun us σ H Q ⟨ρ, env, st, ds, A, e, r, h⟩ => by
  cases r with
  | nil => exact ⟨rfl, h ρ H σ .refl A e rfl⟩
  | cons _ _ => exact h.elim
theorem mws_cons (h1 : PG X e (TGw X.K cl vs (g c))) (h2 : PGs X es (TGws X.K cl vs (gg c))) (hs : (assignEach (e :: es) X.env).map (·.2) = assign e X.env :: (assignEach es X.env).map (·.2) := by rfl) : PGs X (e :: es) (TGws X.K cl vs (MI.gCons g gg c)) :=
  pgsI (pgs_cons h1 h2 hs) fun us σ H Q ⟨ρ, env, st, ds, A, e, r, h⟩ => by
    cases r with
    | nil => exact h.elim
    | @cons v us d ds r rr =>
      refine ⟨v, us, rfl, ρ, env, st, d, A, e, r, ?_⟩
      match q : g c d env st, h with
      | none, h => simp only [MI.gCons, q] at h; exact h.elim
      | some (env', st'), h =>
        simp only [MI.gCons, q] at h
        refine fun ρ' H' σ' g' A' e' hw => ⟨ρ', env', st', ds, A', e', rr.grow A g', ?_⟩
        revert h
        cases gg c ds env' st' with
        | none => exact fun h => h.elim
        | some p =>
          obtain ⟨env2, st2⟩ := p
          exact fun h ρ2 H2 σ2 g2 A2 e2 hw2 => h ρ2 H2 σ2 (g'.trans g2) A2 e2 (hw2.trans hw)
theorem mw_tup {k n : Nat} (hc : X.calm = true) (h : PGs X es (TGws X.K cl vs (gg c))) (hn : (assignEach es X.env).length = n := by rfl) (hst : (assignEach es X.env).findIdx? (·.1) = none := by rfl) : PG X (.Tuple es k pos) (TGw X.K cl vs (MI.gTup n gg c)) :=
  pgI (pg_tup hc h hn hst) fun v σ H Q ⟨ρ, env, st, d, A, e, r, h⟩ => by
    cases r with
    | @tup a us l hs r =>
      have h : RestG X.K cl (fun σ' H' => L2.wipe σ' vs = L2.wipe σ vs → Q σ' H') (if l.length = n then gg c l env st else none) ρ H := h
      by_cases hl : l.length = n
      · rw [if_pos hl] at h
        exact ⟨a, us, rfl, hs, by rw [r.length]; exact hl, ρ, env, st, l, A, e, r, h⟩
      · rw [if_neg hl] at h; exact h.elim
    | _ => exact h.elim
end
theorem takesF {X : Cx} : Takes X (fun _ _ _ _ => False) := fun _ _ x => by
  obtain ⟨_, _, _, _, _, _, _, _, _, _, _, _, _, _, _, _, z⟩ := x
  exact z.elim
theorem Good.blk {X : Cx} {W : WX} {cl : Nat → Addr} {c : MI.Ctx} {lv : Nat} (G : Good X W cl c lv) (s : Shared) (H : Hp) (scope : Scope) (ce : PySem.Env) (fp : List Addr) : Good (X.blk s H scope ce fp) (fun _ _ _ _ => False) cl c lv :=
  ⟨takesF, G.room, G.calm, G.gd, G.nd, G.flds, G.meth⟩
/-! ### the tests of a comprehension -/
section
variable {X : Cx} {cl : Nat → Addr} {E : EX} {c : MI.Ctx} {e : Expr} {t : MI.ST}
theorem ptsI {ifs : List Expr} {t t' : TT} (h : PTs X ifs t) (i : ∀ σ H Q, t' σ H Q → t σ H Q) : PTs X ifs t' := ⟨fun pins s σ H Q I q => h.run pins s σ H Q I (i σ H Q q)⟩
theorem mts_nil : PTs X [] (TM X.K cl E rB (cYes c)) := ptsI pts_nil fun σ H Q ⟨ρ, env, st, A, e, h⟩ => h.ok (st' := st) (d := true) rfl .refl A rfl
theorem mts_one (h : MT X cl E c e t) : PTs X [e] (TM X.K cl E rB (t c)) := pts_one h
end
theorem compL_noexc (s : Src) (T : D → MI.R (Option D)) : ∀ (m i : Nat) (acc : List D) (st : Stt) k fs st', compL s T m i acc st ≠ some (.exc k fs, st')
  | 0, _, _, _, _, _, _ => by simp [compL, MI.fail]
  | m + 1, i, acc, st, k, fs, st' => by
    intro h
    unfold compL at h
    split at h
    · cases h
    · cases h
    · split at h
      · split at h
        · exact compL_noexc s T m _ _ _ k fs st' h
        · cases h
      · exact compL_noexc s T m _ _ _ k fs st' h
      · cases h
theorem compL_step {s : Src} {T : D → MI.R (Option D)} {m i : Nat} {acc l : List D} {st st' : Stt} (h : compL s T (m + 1) i acc st = some (.ok l, st')) :
    (srcAt s i st = some none ∧ l = acc ∧ st' = st) ∨ ∃ d o st2, srcAt s i st = some (some d) ∧ T d st = some (.ok o, st2) ∧ (o = none → compL s T m (i + 1) acc st2 = some (.ok l, st')) ∧ ∀ x, o = some x → acc.length < lim - 1 ∧ compL s T m (i + 1) (acc ++ [x]) st2 = some (.ok l, st') := by
  unfold compL at h
  split at h
  · cases h
  · rename_i q
    cases h
    exact .inl ⟨q, rfl, rfl⟩
  · rename_i d q
    split at h
    · rename_i x st2 q2
      by_cases hl : acc.length < lim - 1
      · rw [if_pos hl] at h
        exact .inr ⟨d, some x, st2, q, q2, (fun z => nomatch z), (fun y z => by cases z; exact ⟨hl, h⟩)⟩
      · rw [if_neg hl] at h; cases h
    · rename_i st2 q2
      exact .inr ⟨d, none, st2, q, q2, (fun _ => h), (fun y z => nomatch z)⟩
    · cases h
theorem compT_step {g : SG} {t : MI.ST} {ge : SE} {c : MI.Ctx} {env : MI.Env} {d : D} {st st2 : Stt} {o : Option D} (h : compT g t ge c env d st = some (.ok o, st2)) :
    ∃ env' st3 b st4, g c d env st = some (env', st3) ∧ t c env' st3 = some (.ok b, st4) ∧ (b = false → o = none ∧ st2 = st4) ∧ (b = true → ∃ y, ge c env' st4 = some (.ok y, st2) ∧ o = some y) := by
  unfold compT at h
  split at h
  · rename_i env' st3 q
    unfold bnd at h
    split at h
    · rename_i b st4 q2
      refine ⟨env', st3, b, st4, q, q2, fun hb => ?_, fun hb => ?_⟩
      · subst hb
        simp only [Bool.false_eq_true, if_false, MI.ret] at h
        cases h; exact ⟨rfl, rfl⟩
      · subst hb
        simp only [if_true] at h
        split at h
        · rename_i y st5 q3
          cases h
          exact ⟨y, q3, rfl⟩
        · cases h
        · cases h
    · cases h
    · cases h
  · cases h
section
variable {K : PySem.W.Frag} {cl : Nat → Addr}
/-- a list laid beside ours becomes ours -/
theorem At.adopt {ρ : List Addr} {H : Hp} {st : Stt} {p : Addr} {vs : List V} {ds : List D} (A : At K cl ρ H st) (np : p ∉ ρ) (h : H p = some (.lst vs)) (r : RvL K H ρ vs ds) : At K cl (ρ ++ [p]) H (st ++ [.lst ds]) := by
  have k : Keep K H H := ⟨fun _ _ h => h, fun _ _ h => h, fun _ _ h => h⟩
  refine ⟨by simp [A.len], ?_, fun i a u h1 h2 => ?_⟩
  · rw [List.nodup_append]
    refine ⟨A.nd, by simp, fun a ha b hb => ?_⟩
    have : b = p := by simpa using hb
    subst this; exact fun e => np (e ▸ ha)
  · by_cases hi : i < ρ.length
    · rw [List.getElem?_append_left hi] at h1
      rw [List.getElem?_append_left (by rw [← A.len]; exact hi)] at h2
      exact (A.obj i a u h1 h2).keep k [p] rfl
    · have hi' : i = ρ.length := by
        have := (List.getElem?_eq_some_iff.mp h1).1
        simp at this; omega
      subst hi'
      simp at h1
      rw [A.len] at h2; simp at h2
      subst h1 h2; exact .lst h (r.keep k [p])
/-- a write beside ours -/
theorem At.beside {ρ : List Addr} {H : Hp} {st : Stt} {p : Addr} {vs ws : List V} (A : At K cl ρ H st) (np : p ∉ ρ) (h : H p = some (.lst vs)) : At K cl ρ (upd H p (.lst ws)) st ∧ Keep K H (upd H p (.lst ws)) := by
  have k : Keep K H (upd H p (.lst ws)) := ⟨fun b us h' => by
      rcases h' with (h' | ⟨o, h'⟩) | h'
      · exact .inl (.inl (by rw [upd_ne (fun e => by rw [e, h] at h'; cases h')]; exact h'))
      · exact .inl (.inr ⟨o, by rw [upd_ne (fun e => by rw [e, h] at h'; cases h')]; exact h'⟩)
      · exact .inr h', fun b us h' => by
      rcases h' with ⟨o, h'⟩ | h'
      · exact .inl ⟨o, by rw [upd_ne (fun e => by rw [e, h] at h'; cases h')]; exact h'⟩
      · exact .inr h', fun b us ⟨o, h', q⟩ => ⟨o, by rw [upd_ne (fun e => by rw [e, h] at h'; cases h')]; exact h', q⟩⟩
  refine ⟨⟨A.len, A.nd, fun i a u h1 h2 => ?_⟩, k⟩
  have := (A.obj i a u h1 h2).keep k [] (upd_ne fun e => np (e ▸ List.mem_of_getElem? h1))
  simpa using this
/-- a lock beside ours -/
theorem At.besideF {ρ : List Addr} {H : Hp} {st : Stt} {p : Addr} {vs : List V} {od : Obj} (A : At K cl ρ H st) (np : p ∉ ρ) (h : H p = some (.lst vs)) : At K cl ρ (upd H p (.frz od (.lst vs))) st ∧ Keep K H (upd H p (.frz od (.lst vs))) := by
  have k : Keep K H (upd H p (.frz od (.lst vs))) := ⟨fun b us h' => by
      rcases h' with (h' | ⟨o, h'⟩) | h'
      · exact .inl (.inl (by rw [upd_ne (fun e => by rw [e, h] at h'; cases h')]; exact h'))
      · exact .inl (.inr ⟨o, by rw [upd_ne (fun e => by rw [e, h] at h'; cases h')]; exact h'⟩)
      · exact .inr h', fun b us h' => by
      rcases h' with ⟨o, h'⟩ | h'
      · exact .inl ⟨o, by rw [upd_ne (fun e => by rw [e, h] at h'; cases h')]; exact h'⟩
      · exact .inr h', fun b us ⟨o, h', q⟩ => ⟨o, by rw [upd_ne (fun e => by rw [e, h] at h'; cases h')]; exact h', q⟩⟩
  refine ⟨⟨A.len, A.nd, fun i a u h1 h2 => ?_⟩, k⟩
  have := (A.obj i a u h1 h2).keep k [] (upd_ne fun e => np (e ▸ List.mem_of_getElem? h1))
  simpa using this
end
section
variable {X : Cx} {W : WX} {cl : Nat → Addr} {E : EX} {c : MI.Ctx} {lv : Nat} {pos : Pos} {elt tg iter : Expr} {ifs : List Expr} {scope : Scope} {own : List (Str × Nat)} {gi : SI} {g : SG} {t : MI.ST} {ge : SE}
theorem tm_comp {E' : EX} {vs : List Nat} {σ : L2.St} {H : Hp} {Q : VK} (h : TM X.K cl E (rV X.K) (eComp vs g gi t ge c) σ H Q) :
    tLc (TM X.K cl E (rS X.K cl) (gi c)) (TGw X.K cl vs (g c)) (TM X.K cl E' rB (t c)) (TM X.K cl E' (rV X.K) (ge c)) vs σ H Q := by
  obtain ⟨ρ, env, st, A, e, h⟩ := h
  refine (Rest.step (g := gi c) (rS X.K cl) A e h).imp fun J H1 ⟨ρ1, st1, s, g1, A1, S, h1⟩ => ?_
  have e1 := e.grow A g1
  have ew : RvE X.K H1 ρ1 (L2.wipe σ vs) (wipeE env vs) := RvE.wipe vs e1
  intro D hD
  have nD : D ∉ ρ1 := fun hm => A1.there hm hD
  obtain ⟨l, st', run, K1⟩ : ∃ l st', compL s (compT g t ge c (wipeE env vs)) c.fuel 0 [] st1 = some (.ok l, st') ∧ ∀ ρ' H' v, Grow ρ1 H1 ρ' H' → At X.K cl ρ' H' (st' ++ [.lst l]) → Rv X.K H' ρ' v (.loc st'.length) → Q v H' := by
    rcases h1 with ⟨d, st2, q, k⟩ | ⟨kc, fs, st2, q, k⟩
    · unfold bnd at q
      cases qq : compL s (compT g t ge c (wipeE env vs)) c.fuel 0 [] st1 with
      | none => rw [qq] at q; cases q
      | some pr =>
        obtain ⟨rs, st3⟩ := pr
        cases rs with
        | exc kc fs => exact absurd qq (compL_noexc _ _ _ _ _ _ _ _ _)
        | ok l =>
          rw [qq] at q
          cases q
          exact ⟨l, st3, rfl, k⟩
    · unfold bnd at q
      cases qq : compL s (compT g t ge c (wipeE env vs)) c.fuel 0 [] st1 with
      | none => rw [qq] at q; cases q
      | some pr =>
        obtain ⟨rs, st3⟩ := pr
        cases rs with
        | exc kc fs => exact absurd qq (compL_noexc _ _ _ _ _ _ _ _ _)
        | ok l => rw [qq] at q; cases q
  obtain ⟨A2, g2⟩ := A1.side (o := .lst []) hD
  refine ⟨fun i m H => ∃ ρ st acc us, Grow ρ1 H1 ρ H ∧ At X.K cl ρ H st ∧ RvE X.K H ρ (L2.wipe σ vs) (wipeE env vs) ∧ H D = some (.lst us) ∧ D ∉ ρ ∧ RvL X.K H ρ us acc ∧ compL s (compT g t ge c (wipeE env vs)) m i acc st = some (.ok l, st'),
    ⟨c.fuel, ρ1, st1, [], [], g2, A2, ew.grow A1 g2, upd_same, nD, .nil, run⟩, ?_⟩
  rintro i m H ⟨ρ, st, acc, us, gg, A, ee, hDu, nD, rl, run⟩
  cases m with
  | zero => cases run
  | succ m =>
    rcases compL_step run with ⟨q, z1, z2⟩ | ⟨d, o, stE, q, runT, runN, runS⟩
    · subst z1 z2
      refine .inl ⟨S.stop ρ H _ i gg A q, ?_⟩
      refine K1 (ρ ++ [D]) H (.ref D) ?_ (A.adopt nD hDu rl) (.loc (by rw [← A.len]; simp))
      refine ⟨?_, fun x hx => ?_, fun x o ho hn => gg.frame x o ho hn⟩
      · obtain ⟨z, rfl⟩ := gg.ext
        exact ⟨z ++ [D], by rw [List.append_assoc]⟩
      · rcases List.mem_append.mp hx with hx | hx
        · exact gg.new x hx
        · have : x = D := by simpa using hx
          subst this; exact .inr hD
    · obtain ⟨env', st3, b, st4, qg, qt, hf, ht⟩ := compT_step runT
      obtain ⟨go, yl⟩ := S.go ρ H st i d gg A q
      refine .inr ⟨go, fun H => ∃ ρ st acc us, Grow ρ1 H1 ρ H ∧ At X.K cl ρ H st ∧ RvE X.K H ρ (L2.wipe σ vs) (wipeE env vs) ∧ H D = some (.lst us) ∧ D ∉ ρ ∧ RvL X.K H ρ us acc ∧ compL s (compT g t ge c (wipeE env vs)) m (i + 1) acc st = some (.ok l, st'), fun H' w => ⟨m, Nat.lt_succ_self m, w⟩, fun x H' y => ?_⟩
      obtain ⟨ρ2, g2, A2, r2⟩ := yl x H' y
      have out : ∀ {ρ H ρ' H'}, Grow ρ H ρ' H' → H D ≠ none → D ∉ ρ → D ∉ ρ' := fun {ρ H ρ' H'} g h n m => by
        rcases g.new D m with z | z
        · exact n z
        · exact h z
      have e2 := ee.grow A g2
      have nD2 := out g2 (by rw [hDu]; simp) nD
      have hD2 := g2.frame D _ hDu nD
      refine ⟨ρ2, wipeE env vs, st, d, A2, e2, r2, ?_⟩
      rw [qg]
      refine fun ρ3 H3 σ3 g3 A3 e3 hw => ⟨by rw [hw, wipe_idem], ?_⟩
      have nD3 := out g3 (by rw [hD2]; simp) nD2
      have hD3 := g3.frame D _ hD2 nD2
      refine ⟨ρ3, env', st3, A3, e3, .inl ⟨b, st4, qt, fun ρ4 H4 b' g4 A4 rb => ?_⟩⟩
      have rb' : b' = b := rb
      subst rb'
      have nD4 := out g4 (by rw [hD3]; simp) nD3
      have hD4 := g4.frame D _ hD3 nD3
      have e4 := e3.grow A3 g4
      cases b' with
      | false =>
        obtain ⟨z1, z2⟩ := hf rfl
        subst z2
        exact iteF ⟨ρ4, stE, acc, us, gg.trans (g2.trans (g3.trans g4)), A4, (e2.grow A2 (g3.trans g4)), hD4, nD4, rl.grow A (g2.trans (g3.trans g4)), runN z1⟩
      | true =>
        obtain ⟨y, qe, z1⟩ := ht rfl
        obtain ⟨hl, run'⟩ := runS y z1
        refine iteT ⟨ρ4, env', st4, A4, e4, .inl ⟨y, stE, qe, fun ρ5 H5 v5 g5 A5 r5 => ?_⟩⟩
        have nD5 := out g5 (by rw [hD4]; simp) nD4
        have hD5 := g5.frame D _ hD4 nD4
        have g25 := g2.trans (g3.trans (g4.trans g5))
        refine ⟨us, hD5, by rw [rl.length]; have := sizeLine_eq; have e2 : lim = 16777216 := rfl; omega, ?_⟩
        obtain ⟨A6, k6⟩ := A5.beside (ws := us ++ [v5]) nD5 hD5
        have lift : ∀ {v : V} {d : MI.D}, Rv X.K H5 ρ5 v d → Rv X.K (upd H5 D (.lst (us ++ [v5]))) ρ5 v d := fun h => by
          have := h.keep k6 []; simpa using this
        have liftL : ∀ {v : List V} {d : List MI.D}, RvL X.K H5 ρ5 v d → RvL X.K (upd H5 D (.lst (us ++ [v5]))) ρ5 v d := fun h => by
          have := h.keep k6 []; simpa using this
        have liftE : ∀ {v : L2.St} {d : MI.Env}, RvE X.K H5 ρ5 v d → RvE X.K (upd H5 D (.lst (us ++ [v5]))) ρ5 v d := fun h => by
          have := h.keep k6 []; simpa using this
        have g15 := gg.trans g25
        refine ⟨ρ5, stE, acc ++ [y], us ++ [v5], ⟨g15.ext, g15.new, fun x o ho hn => ?_⟩, A6, liftE (ee.grow A g25), upd_same, nD5, (liftL (rl.grow A g25)).append (.cons (lift r5) .nil), run'⟩
        rw [upd_ne fun z => by rw [z, hD] at ho; cases ho]
        exact g15.frame x o ho hn
theorem me_comp {E' : EX} (vs : List Nat) (hv : own.map (·.2) = vs) (hc : X.calm = true) (hN : X.N.Nodup) (ok : BlkOk X.N X.env.scope scope own) (hi : MI_ X cl E c tg iter gi)
    (hg : ∀ (s : Shared) (H : Hp) (C : Addr) (cls : List (Str × Addr)) (fp : List Addr), PG (X.blk s H scope (compEnvC scope cls C X.env) fp) tg (TGw X.K cl vs (g c)))
    (ht : ∀ (s : Shared) (H : Hp) (C : Addr) (cls : List (Str × Addr)) (fp : List Addr), PTs (X.blk s H scope (compEnvC scope cls C X.env) fp) ifs (TM X.K cl E' rB (t c)))
    (he : ∀ (s : Shared) (H : Hp) (C : Addr) (cls : List (Str × Addr)) (fp : List Addr), PE (X.blk s H scope (compEnvC scope cls C X.env) fp) elt (TM X.K cl E' (rV X.K) (ge c)))
    (hs : ∀ x, foldedSetIterable iter X.env x = pure x := by intro _; rfl) : ME X cl E c (.ListComp elt [⟨tg, iter, ifs, 0⟩] scope pos) (eComp vs g gi t ge) :=
  peI (pe_lc hc hN hi ok hg ht he hs) fun σ H Q h => by
    subst hv
    exact tm_comp h
theorem tm_compF {E' : EX} {vs : List Nat} {σ : L2.St} {H : Hp} {Q : VK} (h : TM X.K cl E (rV X.K) (eCompF vs g gi t ge c) σ H Q) :
    tLc (TM X.K cl E (rS X.K cl) (gi c)) (TGw X.K cl vs (g c)) (TM X.K cl E' rB (t c)) (TM X.K cl E' (rV X.K) (ge c)) vs σ H (fz Q) := by
  obtain ⟨ρ, env, st, A, e, h⟩ := h
  refine (Rest.step (g := gi c) (rS X.K cl) A e h).imp fun J H1 ⟨ρ1, st1, s, g1, A1, S, h1⟩ => ?_
  have e1 := e.grow A g1
  have ew : RvE X.K H1 ρ1 (L2.wipe σ vs) (wipeE env vs) := RvE.wipe vs e1
  intro D hD
  have nD : D ∉ ρ1 := fun hm => A1.there hm hD
  obtain ⟨l, st', run, K1⟩ : ∃ l st', compL s (compT g t ge c (wipeE env vs)) c.fuel 0 [] st1 = some (.ok l, st') ∧ ∀ ρ' H' v, Grow ρ1 H1 ρ' H' → At X.K cl ρ' H' st' → Rv X.K H' ρ' v (.frz l) → Q v H' := by
    rcases h1 with ⟨d, st2, q, k⟩ | ⟨kc, fs, st2, q, k⟩
    · unfold bnd at q
      cases qq : compL s (compT g t ge c (wipeE env vs)) c.fuel 0 [] st1 with
      | none => rw [qq] at q; cases q
      | some pr =>
        obtain ⟨rs, st3⟩ := pr
        cases rs with
        | exc kc fs => exact absurd qq (compL_noexc _ _ _ _ _ _ _ _ _)
        | ok l =>
          rw [qq] at q
          cases q
          exact ⟨l, _, rfl, k⟩
    · unfold bnd at q
      cases qq : compL s (compT g t ge c (wipeE env vs)) c.fuel 0 [] st1 with
      | none => rw [qq] at q; cases q
      | some pr =>
        obtain ⟨rs, st3⟩ := pr
        cases rs with
        | exc kc fs => exact absurd qq (compL_noexc _ _ _ _ _ _ _ _ _)
        | ok l => rw [qq] at q; cases q
  obtain ⟨A2, g2⟩ := A1.side (o := .lst []) hD
  refine ⟨fun i m H => ∃ ρ st acc us, Grow ρ1 H1 ρ H ∧ At X.K cl ρ H st ∧ RvE X.K H ρ (L2.wipe σ vs) (wipeE env vs) ∧ H D = some (.lst us) ∧ D ∉ ρ ∧ RvL X.K H ρ us acc ∧ compL s (compT g t ge c (wipeE env vs)) m i acc st = some (.ok l, st'),
    ⟨c.fuel, ρ1, st1, [], [], g2, A2, ew.grow A1 g2, upd_same, nD, .nil, run⟩, ?_⟩
  rintro i m H ⟨ρ, st, acc, us, gg, A, ee, hDu, nD, rl, run⟩
  cases m with
  | zero => cases run
  | succ m =>
    rcases compL_step run with ⟨q, z1, z2⟩ | ⟨d, o, stE, q, runT, runN, runS⟩
    · subst z1 z2
      refine .inl ⟨S.stop ρ H _ i gg A q, ?_⟩
      refine .inr ⟨D, us, rfl, hDu, fun od => ?_⟩
      obtain ⟨A6, k6⟩ := A.besideF (od := od) nD hDu
      refine K1 ρ _ (.ref D) ⟨gg.ext, gg.new, fun x o ho hn => ?_⟩ A6 (.frz (.inl ⟨od, upd_same⟩) (by have := rl.keep k6 []; simpa using this))
      rw [upd_ne fun z => by rw [z, hD] at ho; cases ho]
      exact gg.frame x o ho hn
    · obtain ⟨env', st3, b, st4, qg, qt, hf, ht⟩ := compT_step runT
      obtain ⟨go, yl⟩ := S.go ρ H st i d gg A q
      refine .inr ⟨go, fun H => ∃ ρ st acc us, Grow ρ1 H1 ρ H ∧ At X.K cl ρ H st ∧ RvE X.K H ρ (L2.wipe σ vs) (wipeE env vs) ∧ H D = some (.lst us) ∧ D ∉ ρ ∧ RvL X.K H ρ us acc ∧ compL s (compT g t ge c (wipeE env vs)) m (i + 1) acc st = some (.ok l, st'), fun H' w => ⟨m, Nat.lt_succ_self m, w⟩, fun x H' y => ?_⟩
      obtain ⟨ρ2, g2, A2, r2⟩ := yl x H' y
      have out : ∀ {ρ H ρ' H'}, Grow ρ H ρ' H' → H D ≠ none → D ∉ ρ → D ∉ ρ' := fun {ρ H ρ' H'} g h n m => by
        rcases g.new D m with z | z
        · exact n z
        · exact h z
      have e2 := ee.grow A g2
      have nD2 := out g2 (by rw [hDu]; simp) nD
      have hD2 := g2.frame D _ hDu nD
      refine ⟨ρ2, wipeE env vs, st, d, A2, e2, r2, ?_⟩
      rw [qg]
      refine fun ρ3 H3 σ3 g3 A3 e3 hw => ⟨by rw [hw, wipe_idem], ?_⟩
      have nD3 := out g3 (by rw [hD2]; simp) nD2
      have hD3 := g3.frame D _ hD2 nD2
      refine ⟨ρ3, env', st3, A3, e3, .inl ⟨b, st4, qt, fun ρ4 H4 b' g4 A4 rb => ?_⟩⟩
      have rb' : b' = b := rb
      subst rb'
      have nD4 := out g4 (by rw [hD3]; simp) nD3
      have hD4 := g4.frame D _ hD3 nD3
      have e4 := e3.grow A3 g4
      cases b' with
      | false =>
        obtain ⟨z1, z2⟩ := hf rfl
        subst z2
        exact iteF ⟨ρ4, stE, acc, us, gg.trans (g2.trans (g3.trans g4)), A4, (e2.grow A2 (g3.trans g4)), hD4, nD4, rl.grow A (g2.trans (g3.trans g4)), runN z1⟩
      | true =>
        obtain ⟨y, qe, z1⟩ := ht rfl
        obtain ⟨hl, run'⟩ := runS y z1
        refine iteT ⟨ρ4, env', st4, A4, e4, .inl ⟨y, stE, qe, fun ρ5 H5 v5 g5 A5 r5 => ?_⟩⟩
        have nD5 := out g5 (by rw [hD4]; simp) nD4
        have hD5 := g5.frame D _ hD4 nD4
        have g25 := g2.trans (g3.trans (g4.trans g5))
        refine ⟨us, hD5, by rw [rl.length]; have := sizeLine_eq; have e2 : lim = 16777216 := rfl; omega, ?_⟩
        obtain ⟨A6, k6⟩ := A5.beside (ws := us ++ [v5]) nD5 hD5
        have lift : ∀ {v : V} {d : MI.D}, Rv X.K H5 ρ5 v d → Rv X.K (upd H5 D (.lst (us ++ [v5]))) ρ5 v d := fun h => by
          have := h.keep k6 []; simpa using this
        have liftL : ∀ {v : List V} {d : List MI.D}, RvL X.K H5 ρ5 v d → RvL X.K (upd H5 D (.lst (us ++ [v5]))) ρ5 v d := fun h => by
          have := h.keep k6 []; simpa using this
        have liftE : ∀ {v : L2.St} {d : MI.Env}, RvE X.K H5 ρ5 v d → RvE X.K (upd H5 D (.lst (us ++ [v5]))) ρ5 v d := fun h => by
          have := h.keep k6 []; simpa using this
        have g15 := gg.trans g25
        refine ⟨ρ5, stE, acc ++ [y], us ++ [v5], ⟨g15.ext, g15.new, fun x o ho hn => ?_⟩, A6, liftE (ee.grow A g25), upd_same, nD5, (liftL (rl.grow A g25)).append (.cons (lift r5) .nil), run'⟩
        rw [upd_ne fun z => by rw [z, hD] at ho; cases ho]
        exact g15.frame x o ho hn
theorem me_compF {E' : EX} (vs : List Nat) (hv : own.map (·.2) = vs) (hc : X.calm = true) (hN : X.N.Nodup) (ok : BlkOk X.N X.env.scope scope own) (hi : MI_ X cl E c tg iter gi)
    (hg : ∀ (s : Shared) (H : Hp) (C : Addr) (cls : List (Str × Addr)) (fp : List Addr), PG (X.blk s H scope (compEnvC scope cls C X.env) fp) tg (TGw X.K cl vs (g c)))
    (ht : ∀ (s : Shared) (H : Hp) (C : Addr) (cls : List (Str × Addr)) (fp : List Addr), PTs (X.blk s H scope (compEnvC scope cls C X.env) fp) ifs (TM X.K cl E' rB (t c)))
    (he : ∀ (s : Shared) (H : Hp) (C : Addr) (cls : List (Str × Addr)) (fp : List Addr), PE (X.blk s H scope (compEnvC scope cls C X.env) fp) elt (TM X.K cl E' (rV X.K) (ge c)))
    (hs : ∀ x, foldedSetIterable iter X.env x = pure x := by intro _; rfl) : ME X cl E c (.ListComp elt [⟨tg, iter, ifs, 0⟩] scope pos) (eCompF vs g gi t ge) :=
  peI (pe_fz (pe_lc hc hN hi ok hg ht he hs)) fun σ H Q h => by
    subst hv
    exact tm_compF h
theorem ps_fz {X : Cx} {s : Stmt} {t : TS} (h : PS X s t) : PS X s (fun D σ H => t { D with nx := fun σ' H' => D.nx σ' H' ∨ ∃ a vs, H' a = some (.lst vs) ∧ ∀ od, D.nx σ' (upd H' a (.frz od (.lst vs))) } σ H) := ⟨fun pins s σ H D I q => thn (h.run pins s σ H _ I q) fun f s1 z => by
  cases f with
  | next =>
    obtain ⟨σ', H', I', q | ⟨a, vs, hl, q⟩⟩ := z
    · exact ⟨σ', H', I', q⟩
    · obtain ⟨od, I2⟩ := I'.lock hl trivial
      exact ⟨σ', _, I2, q od⟩
  | ret v => exact z
  | brk => exact z
  | cont => exact z⟩
theorem tLc_imp {wi : TI} {g : TG} {tt : TT} {te : TE} {vs : List Nat} {σ : L2.St} {H : Hp} {Q Q' : VK} (h : tLc wi g tt te vs σ H Q) (mono : ∀ σ H (R R' : It → Hp → Prop), (∀ J H, R J H → R' J H) → wi σ H R → wi σ H R') (i : ∀ v H, Q v H → Q' v H) : tLc wi g tt te vs σ H Q' := by
  refine mono _ _ _ _ (fun J H1 q => ?_) h
  intro D hD
  obtain ⟨W, w0, turn⟩ := q D hD
  refine ⟨W, w0, fun k m H w => ?_⟩
  rcases turn k m H w with ⟨a, b⟩ | r
  · exact .inl ⟨a, i _ _ b⟩
  · exact .inr r
theorem ms_setLc {E' : EX} {i : Nat} {y : Str} {py spos : Pos} (vs : List Nat) (hv : own.map (·.2) = vs) (hc : X.calm = true) (hN : X.N.Nodup) (ok : BlkOk X.N X.env.scope scope own) (hi : MI_ X cl E c tg iter gi)
    (hg : ∀ (s : Shared) (H : Hp) (C : Addr) (cls : List (Str × Addr)) (fp : List Addr), PG (X.blk s H scope (compEnvC scope cls C X.env) fp) tg (TGw X.K cl vs (g c)))
    (ht : ∀ (s : Shared) (H : Hp) (C : Addr) (cls : List (Str × Addr)) (fp : List Addr), PTs (X.blk s H scope (compEnvC scope cls C X.env) fp) ifs (TM X.K cl E' rB (t c)))
    (he : ∀ (s : Shared) (H : Hp) (C : Addr) (cls : List (Str × Addr)) (fp : List Addr), PE (X.blk s H scope (compEnvC scope cls C X.env) fp) elt (TM X.K cl E' (rV X.K) (ge c)))
    (hsw : swapsWith (.ListComp elt [⟨tg, iter, ifs, 0⟩] scope pos) (some (.Name y py)) spos.line X.env = pure true) (hy : X.N[i]? = some y := by rfl) (hyl : X.env.scope.names.lookup y = some .local := by rfl)
    (hs : ∀ x, foldedSetIterable iter X.env x = pure x := by intro _; rfl) : MST X cl E c (.Assign [.Name y py] (.ListComp elt [⟨tg, iter, ifs, 0⟩] scope pos) spos) (sSet i (eComp vs g gi t ge)) :=
  psI (ps_setLc hc hN hy hyl hsw hi ok hg ht he hs) fun D σ H ⟨ρ, env, st, A, e, h⟩ => by
    subst hv
    refine tm_comp ((RestS.step (x := eComp (own.map (·.2)) g gi t ge c) (rV X.K) A e h).imp fun v1 H1 ⟨ρ1, st1, d1, g1, A1, r1, h1⟩ => ?_)
    by_cases hl : i < env.length
    · rw [if_pos hl] at h1
      exact h1 ρ1 H1 _ .refl A1 (RvE.set r1 i (e.grow A g1))
    · rw [if_neg hl] at h1; exact h1.elim
theorem ms_setLcF {E' : EX} {i : Nat} {y : Str} {py spos : Pos} (vs : List Nat) (hv : own.map (·.2) = vs) (hc : X.calm = true) (hN : X.N.Nodup) (ok : BlkOk X.N X.env.scope scope own) (hi : MI_ X cl E c tg iter gi)
    (hg : ∀ (s : Shared) (H : Hp) (C : Addr) (cls : List (Str × Addr)) (fp : List Addr), PG (X.blk s H scope (compEnvC scope cls C X.env) fp) tg (TGw X.K cl vs (g c)))
    (ht : ∀ (s : Shared) (H : Hp) (C : Addr) (cls : List (Str × Addr)) (fp : List Addr), PTs (X.blk s H scope (compEnvC scope cls C X.env) fp) ifs (TM X.K cl E' rB (t c)))
    (he : ∀ (s : Shared) (H : Hp) (C : Addr) (cls : List (Str × Addr)) (fp : List Addr), PE (X.blk s H scope (compEnvC scope cls C X.env) fp) elt (TM X.K cl E' (rV X.K) (ge c)))
    (hsw : swapsWith (.ListComp elt [⟨tg, iter, ifs, 0⟩] scope pos) (some (.Name y py)) spos.line X.env = pure true) (hy : X.N[i]? = some y := by rfl) (hyl : X.env.scope.names.lookup y = some .local := by rfl)
    (hs : ∀ x, foldedSetIterable iter X.env x = pure x := by intro _; rfl) : MST X cl E c (.Assign [.Name y py] (.ListComp elt [⟨tg, iter, ifs, 0⟩] scope pos) spos) (sSet i (eCompF vs g gi t ge)) :=
  psI (ps_fz (ps_setLc hc hN hy hyl hsw hi ok hg ht he hs)) fun D σ H ⟨ρ, env, st, A, e, h⟩ => by
    subst hv
    have h' : tLc _ _ _ _ (own.map (·.2)) σ H (fz fun v1 H1 => D.nx (σ.set i (some v1)) H1) := tm_compF (E' := E') ((RestS.step (x := eCompF (own.map (·.2)) g gi t ge c) (rV X.K) A e h).imp fun v1 H1 ⟨ρ1, st1, d1, g1, A1, r1, h1⟩ => by
      by_cases hl : i < env.length
      · rw [if_pos hl] at h1
        exact h1 ρ1 H1 _ .refl A1 (RvE.set r1 i (e.grow A g1))
      · rw [if_neg hl] at h1; exact h1.elim)
    refine tLc_imp h' (fun σ H R R' im w => w.imp im) fun v H1 q => ?_
    rcases q with q | ⟨a, us, rfl, hl, q⟩
    · exact .inl q
    · exact .inr ⟨a, us, hl, q⟩
end
end MS

set_option Elab.async false
set_option linter.all false
set_option maxRecDepth 100000
set_option maxHeartbeats 4000000
/-! MS12: a written dict's get; a def does what its text does. -/
namespace MS
open PySem PySem.Spec PyProof.Rows L2 MI

section
variable {X : Cx} {cl : Nat → Addr} {E : EX} {c : MI.Ctx} {a b e : Expr} {ga gb ge : SE} {pos dpos apos cpos : Pos}
/-! ### {'a': 1, ..}.get(x, y) -/
def kvT (kvs : List (List Nat × Int)) : List (TE × TE) := kvs.map fun p => (tC (.str (sD p.1)), tC (.int p.2))
def kvK (kvs : List (List Nat × Int)) : List (Key × V) := kvs.map fun p => (.inr (sD p.1), .int p.2)
theorem pairs_const (kvs : List (List Nat × Int)) : ∀ (σ : L2.St) (H : Hp) (Q : List (V × V) → Hp → Prop), Q (kvs.map fun p => (.str (sD p.1), .int p.2)) H → tPairs (kvT kvs) σ H Q := by
  induction kvs with
  | nil => exact fun _ _ _ q => q
  | cons p r ih => exact fun σ H Q q => ih σ H _ q
theorem valV_merge (k : Key) : ∀ (more acc : List (Key × V)), (more.map (·.1)).Nodup → valV (mergeK acc more) k = (valV more k).or (valV acc k)
  | [], acc, _ => by show valV acc k = _; rw [valV_nil]; rfl
  | p :: r, acc, h => by
    rw [List.map_cons, List.nodup_cons] at h
    show valV (mergeK (putK acc p.1 p.2) r) k = _
    rw [valV_merge k r _ h.2, valV_put]
    by_cases e : p.1 = k
    · have hn : valV r k = none := by
        unfold valV
        rw [Option.map_eq_none_iff, List.find?_eq_none]
        intro q hq hk
        have : q.1 = k := by simpa using hk
        exact h.1 (List.mem_map.mpr ⟨q, hq, this.trans e.symm⟩)
      rw [hn, valV_pos e, if_pos e.symm]; rfl
    · rw [valV_neg e, if_neg (fun z => e z.symm)]
theorem valV_kvK (s : List Nat) : ∀ kvs : List (List Nat × Int), valV (kvK kvs) (.inr (sD s)) = (lookI kvs s).map V.int
  | [] => rfl
  | p :: r => by
    show valV ((.inr (sD p.1), .int p.2) :: kvK r) (.inr (sD s)) = _
    by_cases e : p.1 = s
    · rw [valV_pos (by rw [e])]
      simp [lookI, e]
    · rw [valV_neg (fun z => e (sD_inj (Sum.inr.inj z))), valV_kvK s r]
      unfold lookI
      rw [List.find?_cons_of_neg (by simpa using e)]
theorem kvK_nodup {kvs : List (List Nat × Int)} (h : (kvs.map (·.1)).Nodup) : ((kvK kvs).map (·.1)).Nodup := by
  unfold kvK
  rw [List.map_map]
  have : (kvs.map ((fun p : Key × V => p.1) ∘ fun p : List Nat × Int => ((Sum.inr (sD p.1) : Key), V.int p.2))) = (kvs.map (·.1)).map fun s => (Sum.inr (sD s) : Key) := by
    rw [List.map_map]; rfl
  rw [this]
  exact List.Pairwise.map (fun s => (Sum.inr (sD s) : Key)) (fun x y n z => n (sD_inj (Sum.inr.inj z))) h
theorem tm_dget {kvs : List (List Nat × Int)} (nd : (kvs.map (·.1)).Nodup) (hl : kvs.length ≤ 15) {σ : L2.St} {H : Hp} {Q : VK} (h : TM X.K cl E (rV X.K) (eDGet kvs ga gb c) σ H Q) :
    tDGet2 (tDisp (kvT kvs)) (TM X.K cl E (rV X.K) (ga c)) (TM X.K cl E (rV X.K) (gb c)) σ H Q := by
  obtain ⟨ρ, env, st, A, e, h⟩ := h
  intro p hn
  refine pairs_const kvs σ _ _ ⟨upd_same, kvK kvs, ?_, by unfold kvK; rw [List.length_map]; exact hl, ?_⟩
  · unfold kvK; rw [List.map_map]; rfl
  rw [L2.upd_upd]
  obtain ⟨A', g'⟩ := A.side (o := .dK (mergeK [] (kvK kvs))) hn
  have np : p ∉ ρ := fun m => A.there m hn
  refine ⟨p, rfl, .inl ⟨_, .inl upd_same⟩, ?_⟩
  refine (Rest.step (g := ga c) (rV X.K) A' (e.grow A g') (h.base g')).imp fun v1 H1 ⟨ρ1, st1, d1, g1, A1, r1, h1⟩ => ?_
  refine (Rest.step (g := gb c) (rV X.K) A1 ((e.grow A g').grow A' g1) h1).imp fun v2 H2 ⟨ρ2, st2, d2, g2, A2, r2, h2⟩ => ?_
  have hp2 : H2 p = some (.dK (mergeK [] (kvK kvs))) := (g1.trans g2).frame p _ upd_same np
  have r1' := r1.grow A1 g2
  cases r1' with
  | str s =>
    refine ⟨(lookI kvs s).map V.int, .inl ⟨_, .inr (sD s), .inl hp2, rfl, ?_⟩, ?_⟩
    · rw [valV_merge _ _ _ (kvK_nodup nd), valV_kvK, valV_nil, Option.or_none]
    · cases q : lookI kvs s with
      | none => exact h2.ok (st' := st2) (d := d2) (by simp [q, MI.ret]) .refl A2 r2
      | some i => exact h2.ok (st' := st2) (d := .int i) (by simp [q, MI.ret]) .refl A2 (.int i)
  | _ => exact h2.none rfl
theorem me_dget (kvs : List (List Nat × Int)) {keys : List (Option Expr)} {values : List Expr} (hu : X.A.units + 1 < cLine) (hk : PPs X dpos keys values (kvT kvs)) (ha : ME X cl E c a ga) (hb : ME X cl E c b gb)
    (m : M2 X (.Dict keys values dpos) "get" apos a b cpos) (nd : (kvs.map (·.1)).Nodup := by decide +kernel) (hl : kvs.length ≤ 15 := by decide) (hall : keys.all (·.isSome) = true := by rfl) (hlen : keys.length = values.length := by rfl) (h0 : keys ≠ [] := by simp) (h15 : keys.length ≤ 15 := by decide) :
    ME X cl E c (.Call (.Attribute (.Dict keys values dpos) "get" apos) [a, b] [] cpos) (eDGet kvs ga gb) :=
  peI (pe_dget2 hu (pe_disp hk hall hlen h0 h15) ha hb m) fun σ H Q h => tm_dget nd hl h
theorem tm_dix {kvs : List (List Nat × Int)} (nd : (kvs.map (·.1)).Nodup) (hl : kvs.length ≤ 15) {σ : L2.St} {H : Hp} {Q : VK} (h : TM X.K cl E (rV X.K) (eDIx kvs ga c) σ H Q) :
    tDGet (tDisp (kvT kvs)) (TM X.K cl E (rV X.K) (ga c)) σ H Q := by
  obtain ⟨ρ, env, st, A, e, h⟩ := h
  intro p hn
  refine pairs_const kvs σ _ _ ⟨upd_same, kvK kvs, ?_, by unfold kvK; rw [List.length_map]; exact hl, ?_⟩
  · unfold kvK; rw [List.map_map]; rfl
  rw [L2.upd_upd]
  obtain ⟨A', g'⟩ := A.side (o := .dK (mergeK [] (kvK kvs))) hn
  have np : p ∉ ρ := fun m => A.there m hn
  refine (Rest.step (g := ga c) (rV X.K) A' (e.grow A g') (h.base g')).imp fun v1 H1 ⟨ρ1, st1, d1, g1, A1, r1, h1⟩ => ?_
  have hp2 : H1 p = some (.dK (mergeK [] (kvK kvs))) := g1.frame p _ upd_same np
  cases r1 with
  | str s =>
    cases q : lookI kvs s with
    | none => exact h1.none (by simp [q, MI.fail])
    | some i =>
      refine ⟨p, .int i, rfl, .inl ⟨_, .inr (sD s), .inl hp2, rfl, ?_⟩, h1.ok (st' := st1) (d := .int i) (by simp [q, MI.ret]) .refl A1 (.int i)⟩
      rw [valV_merge _ _ _ (kvK_nodup nd), valV_kvK, valV_nil, Option.or_none, q]; rfl
  | _ => exact h1.none rfl
theorem me_dix (kvs : List (List Nat × Int)) {keys : List (Option Expr)} {values : List Expr} (hu : X.A.units + 1 < cLine) (hk : PPs X dpos keys values (kvT kvs)) (ha : ME X cl E c a ga) (hs : NoSl a)
    (nd : (kvs.map (·.1)).Nodup := by decide +kernel) (hl : kvs.length ≤ 15 := by decide) (hall : keys.all (·.isSome) = true := by rfl) (hlen : keys.length = values.length := by rfl) (h0 : keys ≠ [] := by simp) (h15 : keys.length ≤ 15 := by decide) :
    ME X cl E c (.Subscript (.Dict keys values dpos) a pos) (eDIx kvs ga) :=
  peI (pe_dget hu (pe_disp hk hall hlen h0 h15) ha hs) fun σ H Q h => tm_dix nd hl h
end

/-! ### defs -/
section
variable {P : Program} {w : World} {K : PySem.W.Frag} {mg : Str → Option Value} {base : Heap} {cl : Nat → Addr}
/-- nothing is promised of the depth 0 -/
theorem fnT_fail {x qual : Str} {params : Arguments} {body : List Stmt} {scope : Scope} {f : Addr} {fd : FuncData} {ps N : List Str} (F : FunD K x qual params body scope [] [] f fd) (S : FnScope N ps scope) (hb : Binds K fd ps []) : FnT P w K mg base cl 0 f (fun _ => MI.fail) := by
  refine ⟨fd, ps, ⟨fun vs H Q E h => h.1, fun A outer s H args us vs Q E _ _ _ _ _ h => ?_⟩, hb, F.kp, fun ds st r h => by cases h⟩
  obtain ⟨_, ρ, ds, st, A, r, h⟩ := h
  exact h.none rfl
theorem rve_start {H : Hp} {ρ : List Addr} : ∀ {vs : List V} {ds : List D}, RvL K H ρ vs ds → ∀ n, RvE K H ρ (vs.map some ++ List.replicate n none) (ds.map some ++ List.replicate n none)
  | _, _, .nil, n => by
    simp only [List.map_nil, List.nil_append]
    induction n with
    | zero => exact .nil
    | succ n ih => exact .hole ih
  | _, _, .cons h r, n => .val h (rve_start r n)
theorem fnOk_body {x qual : Str} {params : Arguments} {body : List Stmt} {scope : Scope} {f : Addr} {fd : FuncData} {ps N : List Str} {lv : Nat} {c : MI.Ctx} (fn : MI.Fn) (F : FunD K x qual params body scope [] [] f fd) (S : FnScope N ps scope) (hb : Binds K fd ps []) (hp : fn.pars = ps.length) (hs : fn.slots = N.length)
    (flds : ∀ k f, c.flds k f = true → NoAttr K (cl k) (sD f) ∧ Cls K (cl k)) (meth : ∀ k m f, c.meth k m = some f → ∃ fA, Meth K (cl k) (sD m) fA ∧ FnT P w K mg base cl lv fA (c.call f))
    (hbody : ∀ (cdv : Value) (A : Around) (outer : List PySem.Env) (s : Shared) (H : Hp) (E : XK), Good (cxOf (L2.CX P w) P w K mg base N qual scope f cdv A outer s H E) (fun cls d _ H => E cls d H) cl c lv →
      PassesOwn (model P w) (cxOf (L2.CX P w) P w K mg base N qual scope f cdv A outer s H E).A (cxOf (L2.CX P w) P w K mg base N qual scope f cdv A outer s H E).env (cxOf (L2.CX P w) P w K mg base N qual scope f cdv A outer s H E).xe →
      MSS (cxOf (L2.CX P w) P w K mg base N qual scope f cdv A outer s H E) cl (EXW K cl fun cls d _ H => E cls d H) c body fn.body) : FnOk P w K mg base (L2.CX P w) (lv + 2) f fd ps (spOf K cl ps.length (fn.run c)) := by
  refine FunD.okG F S (fun vs H Q E h => h.1) (fun cdv A outer s H vs Q E hgd hr h => ?_)
  · have G : Good (cxOf (L2.CX P w) P w K mg base N qual scope f cdv A outer s H E) (fun cls d _ H => E cls d H) cl c lv := ⟨takes_of rfl rfl rfl rfl, hr, rfl, hgd, S.nd, flds, meth⟩
    refine ⟨_, hbody cdv A outer s H E G PassesOwn.leaving, ?_⟩
    obtain ⟨hl, ρ, ds, st, A0, r, h⟩ := h
    have hld : ds.length = fn.pars := by rw [hp, ← hl]; exact r.length.symm
    refine ⟨ρ, ds.map some ++ List.replicate (fn.slots - fn.pars) none, st, A0, ?_, ?_⟩
    · have := rve_start r (N.length - vs.length)
      rw [hs, hp, ← hl]
      exact this
    · have run : ∀ rr, fn.run c ds st = some rr → ∃ q, fn.body c (ds.map some ++ List.replicate (fn.slots - fn.pars) none) st = some q ∧ (match q with
          | (.rt d, _, st') => rr = (.ok d, st')
          | (.nx, _, st') => rr = (.ok .non, st')
          | (.ex k fs, _, st') => rr = (.exc k fs, st')
          | _ => False) := fun rr q => by
        unfold MI.Fn.run at q
        rw [if_pos hld] at q
        cases q2 : fn.body c (ds.map some ++ List.replicate (fn.slots - fn.pars) none) st with
        | none => rw [q2] at q; cases q
        | some p =>
          obtain ⟨fl, env', st'⟩ := p
          rw [q2] at q
          refine ⟨_, rfl, ?_⟩
          cases fl <;> first
            | (cases q; rfl)
            | (cases q)
      rcases h with ⟨d, st', q, k⟩ | ⟨kc, fs, st', q, k⟩
      · obtain ⟨q2, e2, m⟩ := run _ q
        rw [e2]
        obtain ⟨fl, env', st2⟩ := q2
        cases fl with
        | rt d' => cases m; exact fun ρ' H' v g A r => k ρ' H' v g A r
        | nx => cases m; exact fun ρ' H' σ' g A r => k ρ' H' .non g A .non
        | bk => exact m.elim
        | ct => exact m.elim
        | ex _ _ => cases m
      · obtain ⟨q2, e2, m⟩ := run _ q
        rw [e2]
        obtain ⟨fl, env', st2⟩ := q2
        cases fl with
        | rt d' => cases m
        | nx => cases m
        | bk => exact m.elim
        | ct => exact m.elim
        | ex k' fs' => cases m; exact fun ρ' H' σ' g A r => fun d x => k ρ' H' g A d x
theorem fnT_body {x qual : Str} {params : Arguments} {body : List Stmt} {scope : Scope} {f : Addr} {fd : FuncData} {ps N : List Str} {lv : Nat} {c : MI.Ctx} (fn : MI.Fn) (F : FunD K x qual params body scope [] [] f fd) (S : FnScope N ps scope) (hb : Binds K fd ps []) (hp : fn.pars = ps.length) (hs : fn.slots = N.length)
    (flds : ∀ k f, c.flds k f = true → NoAttr K (cl k) (sD f) ∧ Cls K (cl k)) (meth : ∀ k m f, c.meth k m = some f → ∃ fA, Meth K (cl k) (sD m) fA ∧ FnT P w K mg base cl lv fA (c.call f))
    (hbody : ∀ (cdv : Value) (A : Around) (outer : List PySem.Env) (s : Shared) (H : Hp) (E : XK), Good (cxOf (L2.CX P w) P w K mg base N qual scope f cdv A outer s H E) (fun cls d _ H => E cls d H) cl c lv →
      PassesOwn (model P w) (cxOf (L2.CX P w) P w K mg base N qual scope f cdv A outer s H E).A (cxOf (L2.CX P w) P w K mg base N qual scope f cdv A outer s H E).env (cxOf (L2.CX P w) P w K mg base N qual scope f cdv A outer s H E).xe →
      MSS (cxOf (L2.CX P w) P w K mg base N qual scope f cdv A outer s H E) cl (EXW K cl fun cls d _ H => E cls d H) c body fn.body) : FnT P w K mg base cl (lv + 2) f (fn.run c) :=
  ⟨fd, ps, fnOk_body fn F S hb hp hs flds meth hbody, hb, F.kp, fun ds st r h => by
    unfold MI.Fn.run at h
    by_cases e : ds.length = fn.pars
    · rw [← hp]; exact e
    · rw [if_neg e] at h; cases h⟩
end
/-! ### the module's names -/
/-- x stands for the value d -/
def ConM (K : PySem.W.Frag) (mg : Str → Option Value) (x : Str) (d : D) : Prop := ∃ u v, mg x = some u ∧ RelV v u ∧ ∀ H ρ, Rv K H ρ v d
structure Mod (P : Program) (w : World) (K : PySem.W.Frag) (mg : Str → Option Value) (base : Heap) (cl : Nat → Addr) (c : MI.Ctx) (lv : Nat) (fns : List (Str × Nat)) (clss : List (Str × Nat × Nat)) (frees : List Str) (cons : List (Str × D)) : Prop where
  fn : ∀ (i : Nat) x f, fns[i]? = some (x, f) → ∃ fA, mg x = some (.ref fA) ∧ FnT P w K mg base cl lv fA (c.call f)
  cl : ∀ (i : Nat) x k f, clss[i]? = some (x, k, f) → mg x = some (.ref (cl k)) ∧ Cls K (cl k) ∧ ∃ fA, Mk K (cl k) fA ∧ FnT P w K mg base cl lv fA (c.call f)
  fr : ∀ (i : Nat) x, frees[i]? = some x → mg x = none
  con : ∀ (i : Nat) x d, cons[i]? = some (x, d) → ConM K mg x d
theorem me_con {X : Cx} {cl : Nat → Addr} {E : EX} {c : MI.Ctx} {x : Str} {d : D} {pos : Pos} (h : ConM X.K X.mg x d) (hg : Gl X x) (hd : (x == ("__debug__" : Str)) = false := by decide +kernel) : ME X cl E c (.Name x pos) (eC d) := by
  obtain ⟨u, v, h1, h2, h3⟩ := h
  exact me_glob hg h1 h2 h3 hd
theorem call_sortedA {X : Cx} : CallR X (.builtin "sorted") (fun vs H Q => rSortedI X.K vs H Q ∨ ∃ (a : Addr) (ns : List Int), vs = [V.ref a] ∧ SqT X.K H a (ns.map V.int) ∧ ∀ (ns' : List Int) (p : Addr), ns'.Perm ns → ns'.Pairwise (· ≤ ·) → H p = none → Q (.ref p) (upd H p (.lst (ns'.map V.int)))) := by
  intro pins s σ H xs us Q I r h
  rcases h with h | h
  · exact cr_sortedI pins s σ H xs us Q I r h
  · exact cr_sortedIT pins s σ H xs us Q I r h
theorem call_sortedAF {X : Cx} : CallR X (.builtin "sorted") (fun vs H Q => rSortedI X.K vs H (fz Q) ∨ ∃ (a : Addr) (ns : List Int), vs = [V.ref a] ∧ SqT X.K H a (ns.map V.int) ∧ ∀ (ns' : List Int) (p : Addr), ns'.Perm ns → ns'.Pairwise (· ≤ ·) → H p = none → fz Q (.ref p) (upd H p (.lst (ns'.map V.int)))) := MS.CallR.fz call_sortedA
theorem call_list_ofF {X : Cx} : CallR X (.type "list") (fun xs H Q => ∃ p ys, xs = [.ref p] ∧ (SqL X.K H p ys ∨ SqT X.K H p ys) ∧ ∀ l, H l = none → fz Q (.ref l) (upd H l (.lst ys))) := MS.CallR.fz call_list_of
theorem B_len : bootBuiltins "len" = some (.builtin "len") := by decide +kernel
theorem B_int : bootBuiltins "int" = some (.type "int") := by decide +kernel
theorem B_abs : bootBuiltins "abs" = some (.builtin "abs") := by decide +kernel
theorem B_tuple : bootBuiltins "tuple" = some (.type "tuple") := by decide +kernel
theorem B_list : bootBuiltins "list" = some (.type "list") := by decide +kernel
theorem B_min : bootBuiltins "min" = some (.builtin "min") := by decide +kernel
theorem B_max : bootBuiltins "max" = some (.builtin "max") := by decide +kernel
theorem B_sum : bootBuiltins "sum" = some (.builtin "sum") := by decide +kernel
theorem B_all : bootBuiltins "all" = some (.builtin "all") := by decide +kernel
theorem B_any : bootBuiltins "any" = some (.builtin "any") := by decide +kernel
theorem B_sorted : bootBuiltins "sorted" = some (.builtin "sorted") := by decide +kernel
/-- the head's Hook: facts, defs, one more word of the written part -/
abbrev AlM : Type := He.AlD × Bool
def obsM (n : Nat) (fa : List He.Fa) (fn : List He.DefD) (ex : PySem.W.Frag → Bool) (g : Addr → Option Obj) : AlM := (He.obsD fa fn (He.frG g (He.asD g n)), ex (He.frG g (He.asD g n)))
def hookM (n : Nat) (fa : List He.Fa) (fn : List He.DefD) (ex : PySem.W.Frag → Bool) : PySem.W.Hook where
  α := AlM
  obs := fun s => obsM n fa fn ex s.heap.get?
  val := fun _ => (He.valD fn, true)
  says := fun _ h => ∃ K : PySem.W.Frag, K.In h ∧ He.SaysD fa fn K ∧ ex K = true
  of := fun _ _ e => ⟨_, He.frG_in, congrArg (fun z : AlM => z.1) e, congrArg (fun z : AlM => z.2) e⟩
  keeps := fun _ _ _ ⟨K, hK, c⟩ k => ⟨K, PySem.W.Frag.In.keeps hK k, c⟩
theorem obsM_eq {n : Nat} {fa : List He.Fa} {fn : List He.DefD} {ex : PySem.W.Frag → Bool} {g : Addr → Option Obj} {s : Shared} (h : ∀ a, g a = s.heap.get? a) : obsM n fa fn ex g = (hookM n fa fn ex).obs s := by
  have e : g = s.heap.get? := funext h
  rw [e] <;> rfl
/-- the script -/
theorem rv_script {K : PySem.W.Frag} {H : Hp} {a : Addr} {ns : List Int} (hO : Only H) (h : SqL K H a (ns.map V.int)) : RvL K H [] [V.ref a] [D.frz (ns.map D.int)] := by
  have hl : ∀ ns : List Int, RvL K H [] (ns.map V.int) (ns.map D.int) := fun ns => by
    induction ns with
    | nil => exact .nil
    | cons x xs ih => exact .cons (.int x) ih
  refine .cons (.frz ?_ (hl ns)) .nil
  rcases h with (h | h) | h
  · rcases hO a with z | ⟨o, xs, z⟩ <;> (rw [z] at h; cases h)
  · exact .inl h
  · exact .inr h
theorem at_none {K : PySem.W.Frag} {cl : Nat → Addr} {H : Hp} : At K cl [] H [] := ⟨rfl, List.nodup_nil, fun n a o h _ => by cases h⟩
/-- the law's promise, from its run -/
theorem sp_law {K : PySem.W.Frag} {cl : Nat → Addr} {g : List D → MI.R D} (pure : ∀ ns : List Int, ns.length ≤ 63 → ∃ st, g [.frz (ns.map D.int)] [] = some (.ok (.bl true), st)) {H : Hp} {a : Addr} {ns : List Int} (hl : ns.length ≤ 63) (hO : Only H) (h : SqL K H a (ns.map V.int)) :
    spOf K cl 1 g [.ref a] H (fun v _ => v = .bl true) fun _ _ _ => False := by
  obtain ⟨st, e⟩ := pure ns hl
  refine ⟨rfl, [], _, [], at_none, rv_script hO h, .inl ⟨_, st, e, fun ρ' H' v _ _ r => ?_⟩⟩
  cases r; rfl
theorem hu1 {X : Cx} {W : WX} {cl : Nat → Addr} {c : MI.Ctx} {lv : Nat} (G : Good X W cl c lv) : X.A.units + 1 < cLine := by
  have := G.hu
  omega
theorem pe_strW {X : Cx} {x : Str} {j : Nat} {pos : Pos} (s : List Nat) (hx : x = sD s := by decide +kernel) : PE X (.Constant (.str x) j pos) (tC (.str (sD s))) := by
  subst hx
  exact pe_str
theorem hu64 {X : Cx} {W : WX} {cl : Nat → Addr} {c : MI.Ctx} {lv : Nat} (G : Good X W cl c lv) : X.A.units + 64 < cLine := by
  have := G.hu
  omega

/-! ### calls that touch no store -/
section
variable {P : Program} {w : World} {K : PySem.W.Frag} {mg : Str → Option Value} {base : Heap} {cl : Nat → Addr}
mutual
theorem rv_lf {H : Hp} {ρ ρ' : List Addr} : ∀ {v : V} {d : D}, D.lf d = true → Rv K H ρ v d → Rv K H ρ' v d
  | _, _, _, .non => .non
  | _, _, _, .bl b => .bl b
  | _, _, _, .int i => .int i
  | _, _, _, .str s => .str s
  | _, _, h, .tup hs r => .tup hs (rvL_lf (by simpa [D.lf] using h) r)
  | _, _, h, .frz hs r => .frz hs (rvL_lf (by simpa [D.lf] using h) r)
  | _, _, h, .xtup hs r => .xtup hs (rvL_lf (by simpa [D.lf] using h) r)
  | _, _, h, .loc _ => by simp [D.lf] at h
theorem rvL_lf {H : Hp} {ρ ρ' : List Addr} : ∀ {vs : List V} {ds : List D}, D.lfL ds = true → RvL K H ρ vs ds → RvL K H ρ' vs ds
  | _, _, _, .nil => .nil
  | _, _, h, .cons r rr => by
    have h' := Bool.and_eq_true_iff.mp (by simpa [D.lfL] using h)
    exact .cons (rv_lf h'.1 r) (rvL_lf h'.2 rr)
end
theorem rvF_lf {H : Hp} {ρ ρ' : List Addr} : ∀ {vs : List (Str × V)} {fs : List (List Nat × D)}, D.lfL (fs.map (·.2)) = true → RvF K H ρ vs fs → RvF K H ρ' vs fs
  | _, _, _, .nil => .nil
  | _, _, h, .cons r rr => by
    have h' := Bool.and_eq_true_iff.mp (by simpa [D.lfL] using h)
    exact .cons (rv_lf h'.1 r) (rvF_lf h'.2 rr)
theorem rvF_nil {H : Hp} {ρ ρ' : List Addr} {fs : List (List Nat × D)} {d : Option Addr} (h : D.lfL (fs.map (·.2)) = true) (x : XD K d H ρ fs) : XD K d H ρ' fs := by
  cases d with
  | none => exact x
  | some a => obtain ⟨vfs, e, r⟩ := x; exact ⟨vfs, e, rvF_lf h r⟩
theorem At.still {ρ : List Addr} {H H' : Hp} {st : Stt} (A : At K cl ρ H st) (fr : ∀ a o, H a = some o → H' a = some o) : At K cl ρ H' st ∧ Grow ρ H ρ H' := by
  have k : Keep K H H' := ⟨fun b vs h => by
      rcases h with (h | ⟨o, h⟩) | h
      · exact .inl (.inl (fr _ _ h))
      · exact .inl (.inr ⟨o, fr _ _ h⟩)
      · exact .inr h, fun b vs h => by
      rcases h with ⟨o, h⟩ | h
      · exact .inl ⟨o, fr _ _ h⟩
      · exact .inr h, fun b vs ⟨o, h, q⟩ => ⟨o, fr _ _ h, q⟩⟩
  refine ⟨⟨A.len, A.nd, fun i a u h1 h2 => ?_⟩, ⟨⟨[], by simp⟩, fun _ h => .inl h, fun a o h _ => fr a o h⟩⟩
  have r := A.obj i a u h1 h2
  have e : H' a = H a := by
    rcases r.mut with ⟨vs, q⟩ | ⟨c, dx, vfs, q⟩ <;> rw [q, fr _ _ q]
  have := r.keep k [] e
  simpa using this
theorem keep_lock {H : Hp} {a : Addr} {vs : List V} {od : Obj} (h : H a = some (.lst vs)) : Keep K H (upd H a (.frz od (.lst vs))) := ⟨fun b us h' => by
    rcases h' with (h' | ⟨o, h'⟩) | h'
    · exact .inl (.inl (by rw [upd_ne (fun e => by rw [e, h] at h'; cases h')]; exact h'))
    · exact .inl (.inr ⟨o, by rw [upd_ne (fun e => by rw [e, h] at h'; cases h')]; exact h'⟩)
    · exact .inr h', fun b us h' => by
    rcases h' with ⟨o, h'⟩ | h'
    · exact .inl ⟨o, by rw [upd_ne (fun e => by rw [e, h] at h'; cases h')]; exact h'⟩
    · exact .inr h', fun b us ⟨o, h', q⟩ => ⟨o, by rw [upd_ne (fun e => by rw [e, h] at h'; cases h')]; exact h', q⟩⟩
theorem hok_lock {H : Hp} {h : Heap} {a : Addr} {vs : List V} (hok : HOk P w H h) (hl : H a = some (.lst vs)) : ∃ od, HOk P w (upd H a (.frz od (.lst vs))) h := by
  have x := hok a _ hl
  obtain ⟨z, its, n, r, e⟩ := id x
  refine ⟨{ cls := .type "list", data := .seq its.toArray n }, fun b o eb => ?_⟩
  by_cases hb : b = a
  · subst hb
    rw [upd_same] at eb
    cases eb
    refine ⟨e, x.stay (fun b v _ q => q) (fun c q => ?_) fun c xs q => ?_⟩
    · rw [upd_ne (fun z => by rw [z, hl] at q; cases q)]; exact q
    · rw [upd_ne (fun z => by rw [z, hl] at q; cases q)]; exact q
  · rw [upd_ne hb] at eb
    refine (hok b o eb).stay (fun b v _ q => q) (fun c q => ?_) fun c xs q => ?_
    · rw [upd_ne (fun z => by rw [z, hl] at q; cases q)]; exact q
    · rw [upd_ne (fun z => by rw [z, hl] at q; cases q)]; exact q
theorem un_lock {fs ex : List Addr} {H H' : Hp} {h h' : Heap} {a : Addr} {vs : List V} {od : Obj} (u : Un fs ex H H' h h') (hl : H' a = some (.lst vs)) : Un fs ex H (upd H' a (.frz od (.lst vs))) h h' where
  keep := u.keep
  slot := u.slot
  free := fun b o q n hx => by
    have z := u.free b o q n hx
    rw [upd_ne (fun e => by rw [e, hl] at z; cases z)]; exact z
  there := u.there
  tups := fun b xs q => by
    have z := u.tups b xs q
    rw [upd_ne (fun e => by rw [e, hl] at z; cases z)]; exact z
  frzs := fun b o v q => by
    have z := u.frzs b o v q
    rw [upd_ne (fun e => by rw [e, hl] at z; cases z)]; exact z
  tbls := fun b ps q => by
    obtain ⟨m, z⟩ := u.tbls b ps q
    exact ⟨m, by rw [upd_ne (fun e => by rw [e, hl] at z; cases z)]; exact z⟩
theorem fn_fz {CX : CXT} {k : Nat} {f : Addr} {fd : FuncData} {ps : List Str} {sp : Sp} (F : FnOk P w K mg base CX k f fd ps sp) : FnOk P w K mg base CX k f fd ps (fun vs H Q E => sp vs H (fz Q) E) :=
  ⟨fun vs H Q E h => F.len _ _ _ _ h, fun A outer s H args us vs Q E hg hr he hb hv h => codeAny_mono (F.run A outer s H args us vs _ E hg hr he hb hv h) fun r s' q => by
    cases r with
    | error e => exact q
    | ok fl =>
      cases fl with
      | ret u =>
        obtain ⟨v, H', e1, e2, un, hok, rv, q | ⟨a, us, rfl, hl, q⟩⟩ := q
        · exact ⟨v, H', e1, e2, un, hok, rv, q⟩
        · obtain ⟨od, hok'⟩ := hok_lock hok hl
          exact ⟨_, _, e1, e2, un_lock un hl, hok', rv, q od⟩
      | next => exact q
      | brk => exact q
      | cont => exact q⟩
theorem optC_pos {g : List D → MI.R D} {ds : List D} {st : Stt} (h : D.lfL ds = true) : optC g ds st = (match g ds [] with
  | some (.ok d, st0) => match d with
    | .loc n => match st0[n]? with
      | some (.lst l) => if D.lfL l = true then some (.ok (.frz l), st) else none
      | _ => none
    | d => if D.lf d = true then some (.ok d, st) else none
  | some (.exc k fs, _) => if D.lfL (fs.map (·.2)) = true then some (.exc k fs, st) else none
  | none => none) := by unfold optC; rw [if_pos h] <;> rfl
theorem optC_neg {g : List D → MI.R D} {ds : List D} {st : Stt} (h : ¬ D.lfL ds = true) : optC g ds st = g ds st := by unfold optC; rw [if_neg h]
theorem fnT_opt {lv : Nat} {f : Addr} {g : List D → MI.R D} (F : FnT P w K mg base cl lv f g) : FnT P w K mg base cl lv f (optC g) := by
  obtain ⟨fd, ps, F, hb, hk, ar⟩ := F
  refine ⟨fd, ps, (fn_fz F).imp fun vs H Q E h => ?_, hb, hk, fun ds st r h => ?_⟩
  · obtain ⟨hl, ρ, ds, st, A, r, h⟩ := h
    by_cases hd : D.lfL ds = true
    · refine ⟨hl, [], ds, [], ⟨rfl, List.nodup_nil, fun n a o h _ => by cases h⟩, rvL_lf hd r, ?_⟩
      have eo := optC_pos (g := g) (st := st) hd
      cases e : g ds [] with
      | none =>
        rw [e] at eo
        exact h.none eo
      | some p =>
        obtain ⟨rs, st0⟩ := p
        rw [e] at eo
        cases rs with
        | ok d =>
          refine .inl ⟨d, st0, e, fun ρ' H' v gr A' r' => ?_⟩
          have fr : ∀ a o, H a = some o → H' a = some o := fun a o h => gr.frame a o h (by simp)
          have plain : (∀ n, d ≠ .loc n) → optC g ds st = (if D.lf d = true then some (.ok d, st) else none) → fz Q v H' := fun _ eo => by
            by_cases hf : D.lf d = true
            · rw [if_pos hf] at eo
              obtain ⟨A2, g2⟩ := A.still fr
              exact .inl (h.ok eo g2 A2 (rv_lf hf r'))
            · rw [if_neg hf] at eo
              exact h.none eo
          cases r' with
          | @loc a n ha =>
            cases e1 : st0[n]? with
            | none => exact h.none (by simpa [e1] using eo)
            | some ob =>
              have q1 := A'.get ha e1
              cases q1 with
              | @lst us l hH rl =>
                by_cases hf : D.lfL l = true
                · have eo' : optC g ds st = some (.ok (.frz l), st) := by simpa [e1, hf] using eo
                  refine .inr ⟨a, us, rfl, hH, fun od => ?_⟩
                  have nH : H a = none := by
                    rcases gr.new a (List.mem_of_getElem? ha) with z | z
                    · simp at z
                    · exact z
                  obtain ⟨A2, g2⟩ := A.still (H' := upd H' a (.frz od (.lst us))) fun b o hb => by
                    rw [upd_ne (fun z => by rw [z, nH] at hb; cases hb)]; exact fr b o hb
                  have kk : Keep K H' (upd H' a (.frz od (.lst us))) := keep_lock hH
                  exact h.ok eo' g2 A2 (.frz (.inl ⟨od, upd_same⟩) (rvL_lf hf (by have := rl.keep kk []; exact this)))
                · exact h.none (by simpa [e1, hf] using eo)
              | _ => exact h.none (by simpa [e1] using eo)
          | non => exact plain (fun _ z => nomatch z) eo
          | bl _ => exact plain (fun _ z => nomatch z) eo
          | int _ => exact plain (fun _ z => nomatch z) eo
          | str _ => exact plain (fun _ z => nomatch z) eo
          | tup _ _ => exact plain (fun _ z => nomatch z) eo
          | frz _ _ => exact plain (fun _ z => nomatch z) eo
          | xtup _ _ => exact plain (fun _ z => nomatch z) eo
        | exc k fs =>
          refine .inr ⟨k, fs, st0, e, fun ρ' H' gr A' => ?_⟩
          have fr : ∀ a o, H a = some o → H' a = some o := fun a o h => gr.frame a o h (by simp)
          replace eo : optC g ds st = (if D.lfL (fs.map (·.2)) = true then some (.exc k fs, st) else none) := eo
          by_cases hf : D.lfL (fs.map (·.2)) = true
          · obtain ⟨A2, g2⟩ := A.still fr
            rw [if_pos hf] at eo
            rcases h with ⟨d, st', e2, _⟩ | ⟨k2, fs2, st', e2, kk⟩
            · rw [eo] at e2; cases e2
            · rw [eo] at e2
              cases e2
              exact fun d x => kk ρ H' g2 A2 d (rvF_nil hf x)
          · rw [if_neg hf] at eo
            exact h.none eo
    · exact ⟨hl, ρ, ds, st, A, r, (h.eq (optC_neg hd)).imp fun v H q => .inl q⟩
  · by_cases hd : D.lfL ds = true
    · rw [optC_pos hd] at h
      cases e : g ds [] with
      | none => rw [e] at h; cases h
      | some p => exact ar _ _ _ e
    · rw [optC_neg hd] at h; exact ar _ _ _ h
end
/-! ### lists of claims -/
def AllI {α : Type} (p : Nat → α → Prop) : Nat → List α → Prop
  | _, [] => True
  | k, x :: l => p k x ∧ AllI p (k + 1) l
theorem AllI.get {α : Type} {p : Nat → α → Prop} : ∀ {l : List α} {k i : Nat} {x : α}, AllI p k l → l[i]? = some x → p (k + i) x
  | [], _, _, _, _, h => by simp at h
  | y :: l, k, 0, x, h, e => by simp at e; subst e; exact h.1
  | y :: l, k, i + 1, x, h, e => by
    have := AllI.get (i := i) h.2 (by simpa using e)
    rw [show k + (i + 1) = k + 1 + i by omega]
    exact this
theorem AllI.mem {α : Type} {p : Nat → α → Prop} {l : List α} {k : Nat} (h : AllI p k l) {x : α} (m : x ∈ l) : ∃ i, p i x := by
  obtain ⟨i, hi, e⟩ := List.getElem_of_mem m
  exact ⟨k + i, h.get (i := i) (by rw [List.getElem?_eq_getElem hi, e])⟩
theorem meth_of {p : MI.Prog} {q : Nat → List Nat → Nat → Prop} (h : AllI (fun _ x => q x.1 x.2.1 x.2.2) 0 p.meths) (k : Nat) (m : List Nat) (f : Nat) (e : p.meth k m = some f) : q k m f := by
  unfold MI.Prog.meth at e
  obtain ⟨x, hx, e2⟩ := Option.map_eq_some_iff.mp e
  obtain ⟨i, hi⟩ := h.mem (List.mem_of_find?_eq_some hx)
  have h1 := List.find?_some hx
  simp only [Bool.and_eq_true, beq_iff_eq] at h1
  rw [← h1.1, ← h1.2, ← e2]; exact hi
theorem fld_of {p : MI.Prog} {q : Nat → List Nat → Prop} (h : AllI (fun _ x => q x.1 x.2) 0 p.flds) (k : Nat) (f : List Nat) (e : p.fld k f = true) : q k f := by
  unfold MI.Prog.fld at e
  obtain ⟨x, hx, e2⟩ := List.any_eq_true.mp e
  obtain ⟨i, hi⟩ := h.mem hx
  simp only [Bool.and_eq_true, beq_iff_eq] at e2
  rw [← e2.1, ← e2.2]; exact hi
theorem call_zero (p : MI.Prog) (fuel f : Nat) : p.call fuel 0 f = fun _ => MI.fail := by unfold MI.Prog.call; rfl
theorem call_some {p : MI.Prog} {fuel n f : Nat} {fn : MI.Fn} (h : p.fns[f]? = some fn) : p.call fuel (n + 1) f = (if p.pures.contains f = true then optC (fn.run ⟨p.call fuel n, p.meth, p.fld, fuel⟩) else fn.run ⟨p.call fuel n, p.meth, p.fld, fuel⟩) := by
  rw [MI.Prog.call, h]
section
variable {P : Program} {w : World} {K : PySem.W.Frag} {mg : Str → Option Value} {base : Heap} {cl : Nat → Addr}
theorem fnT_call {lv fuel n f : Nat} {p : MI.Prog} {fn : MI.Fn} {fA : Addr} (h : p.fns[f]? = some fn) (F : FnT P w K mg base cl lv fA (fn.run ⟨p.call fuel n, p.meth, p.fld, fuel⟩)) : FnT P w K mg base cl lv fA (p.call fuel (n + 1) f) := by
  rw [call_some h]
  by_cases e : p.pures.contains f = true
  · rw [if_pos e]; exact fnT_opt F
  · rw [if_neg e]; exact F
end
theorem cx_none {P : Program} {w : World} {outer : List PySem.Env} {H : Hp} {s : Shared} {e : Value} {s' : Shared} (h : L2.CX P w outer H s (fun _ _ _ => False) e s') : False := by
  obtain ⟨_, _, _, _, _, _, _, _, _, _, _, _, z⟩ := h
  exact z
theorem fnOk_none {P : Program} {w : World} {K : PySem.W.Frag} {mg : Str → Option Value} {base : Heap} {k : Nat} {f : Addr} {fd : FuncData} {ps : List Str} {sp : Sp} (F : FnOk P w K mg base (L2.CX P w) k f fd ps sp) : FnOk P w K mg base CX0 k f fd ps (fun vs H Q _ => sp vs H Q fun _ _ _ => False) :=
  ⟨fun vs H Q E h => F.len _ _ _ _ h, fun A outer s H args us vs Q E hg hr he hb hv h => codeAny_mono (F.run A outer s H args us vs Q _ hg hr he hb hv h) fun r s' q => by
    cases r with
    | error e => exact (cx_none q).elim
    | ok fl => cases fl <;> exact q⟩
end MS

set_option autoImplicit false
set_option maxRecDepth 100000
/-! PL: plain laws of MI. -/
namespace MI
theorem forL_inv {l : List D} {T : D → Env → Stt → Option (Fl × Env × Stt)} {P : Nat → Env → Stt → Prop} (step : ∀ i d env st, l[i]? = some d → P i env st → ∃ env' st', T d env st = some (.nx, env', st') ∧ P (i + 1) env' st') :
    ∀ (fuel i : Nat) (env : Env) (st : Stt), l.length < i + fuel → i ≤ l.length → P i env st → ∃ env' st', forL (.items l) T fuel i env st = some (.nx, env', st') ∧ P l.length env' st'
  | 0, i, env, st, h1, h2, _ => by omega
  | fuel + 1, i, env, st, h1, h2, p => by
    unfold forL
    by_cases hi : i < l.length
    · have e : l[i]? = some l[i] := List.getElem?_eq_getElem hi
      obtain ⟨env', st', q, p'⟩ := step i _ env st e p
      obtain ⟨env2, st2, q2, p2⟩ := forL_inv step fuel (i + 1) env' st' (by omega) (by omega) p'
      exact ⟨env2, st2, by simp only [srcAt, e, q]; exact q2, p2⟩
    · have e : l[i]? = none := List.getElem?_eq_none_iff.mpr (by omega)
      have hi' : i = l.length := by omega
      subst hi'
      exact ⟨env, st, by simp only [srcAt, e], p⟩
end MI

set_option autoImplicit false
set_option maxRecDepth 100000
/-! PL2: the laws' pen. -/
namespace MI
def q_pen : SS :=
  (sRet (eLst (lCons (eUn bListF (eSlc (eVar 0) oNone (oSome (eC (.int 63))))) (lCons (eC (.int 0)) (lCons (eC (.int 0)) lNil)))))
def fresh_body : SS := (sSeq (sSet 4 (eBin opMod (eUn bInt (eBin opAdd (eBin opAdd (eBin opMul (eVar 4) (eVar 4)) (eBin opMul (eBin opMul (eC (.int 69621)) (eBin opAdd (eVar 6) (eC (.int 1)))) (eBin opAdd (eVar 1) (eC (.int 1))))) (eVar 2))) (eVar 3)))
      (sSet 5 (eBin opAdd (eBin opMul (eVar 5) (eVar 3)) (eVar 4))))
def q_fresh : SS :=
  (sSeq (sSet 1 (eBin opIx (eVar 0) (eC (.int 1))))
  (sSeq (sAsg (gSub (eVar 0) (eC (.int 1))) (eBin opAdd (eVar 1) (eC (.int 1))))
  (sSeq (sSet 2 (eC (.int 0)))
  (sSeq (sIf (cB (eBin opNe (eBin opIx (eVar 0) (eC (.int 0))) (eLstF lNil)))
  (sSet 2 (eBin opIx (eBin opIx (eVar 0) (eC (.int 0))) (eBin opMod (eUn bInt (eVar 1)) (eUn bLen (eBin opIx (eVar 0) (eC (.int 0)))))))
  sPass)
  (sSeq (sIf (cAnd (cB (eBin opLt (eVar 1) (eUn bLen (eBin opIx (eVar 0) (eC (.int 0)))))) (cB (eBin opGe (eVar 2) (eBin opPow (eC (.int 10)) (eC (.int 18))))))
  (sRet (eBin opSub (eVar 2) (eBin opPow (eC (.int 10)) (eC (.int 18)))))
  sPass)
  (sSeq (sSet 3 (eC (.int 2305843009213693951)))
  (sSeq (sSet 4 (eBin opMod (eUn bInt (eBin opAdd (eBin opAdd (eBin opMul (eVar 2) (eC (.int 48271))) (eBin opMul (eC (.int 40692)) (eVar 1))) (eC (.int 31)))) (eVar 3)))
  (sSeq (sSet 5 (eVar 4))
  (sSeq (sFor (gVar 6) (iRange1 (eC (.int 6))) fresh_body)
  (sRet (eVar 5)))))))))))
def q_draw (F : Nat) : SS :=
  (sSeq (sIf (cB (eBin opLt (eBin opIx (eVar 0) (eC (.int 2))) (eVar 1)))
  (sAsg (gSub (eVar 0) (eC (.int 2))) (eCall F (lCons (eVar 0) lNil)))
  sPass)
  (sSeq (sSet 2 (eBin opMod (eUn bInt (eBin opIx (eVar 0) (eC (.int 2)))) (eVar 1)))
  (sSeq (sAsg (gSub (eVar 0) (eC (.int 2))) (eBin opDiv (eUn bInt (eBin opIx (eVar 0) (eC (.int 2)))) (eVar 1)))
  (sRet (eVar 2)))))
/-- the pen as it stands -/
def penO (xs : List Int) (a q : Int) : Ob := .lst [.frz (xs.map D.int), .int a, .int q]
theorem seq_nx {a b : SS} {c : Ctx} {env env' : Env} {st st' : Stt} (h : a c env st = some (.nx, env', st')) : sSeq a b c env st = b c env' st' := by unfold sSeq; rw [h]
theorem seq_rt {a b : SS} {c : Ctx} {env env' : Env} {st st' : Stt} {d : D} (h : a c env st = some (.rt d, env', st')) : sSeq a b c env st = some (.rt d, env', st') := by unfold sSeq; rw [h]
theorem okL_ints (n : Nat) : ∀ xs : List Int, D.okL n (xs.map D.int) = true
  | [] => by simp [D.okL]
  | x :: xs => by simp [D.okL, D.ok, okL_ints n xs]
theorem big_eq : big = 18446744073709551616 := rfl
theorem ixN_ofNat {n k : Nat} (h : k < n) : ixN n (k : Int) = some k := by
  unfold ixN
  rw [if_pos (by omega), if_pos (by omega)]; simp
theorem fresh_cell (c : Ctx) (xs : List Int) (hx : xs.length < lim) (a q : Int) (rest : Stt) : ∃ v, (sIf (cB (eBin opNe (eBin opIx (eVar 0) (eC (.int 0))) (eLstF lNil)))
      (sSet 2 (eBin opIx (eBin opIx (eVar 0) (eC (.int 0))) (eBin opMod (eUn bInt (eVar 1)) (eUn bLen (eBin opIx (eVar 0) (eC (.int 0)))))))
      sPass) c [some (.loc 0), some (.int a), some (.int 0), none, none, none, none] (penO xs (a + 1) q :: rest) = some (.nx, [some (.loc 0), some (.int a), some (.int v), none, none, none, none], penO xs (a + 1) q :: rest) := by
    cases xs with
    | nil => exact ⟨0, by simp [sIf, sBnd, bnd, cB, eBin, eVar, eC, ret, opIx, penO, ixN, eLstF, lNil, opNe, eqD, dat, D.ok, D.okL, D.eqv, D.eqvL, sPass]⟩
    | cons x xs =>
      have hl : 0 < ((x :: xs).length : Int) := by simp
      have hm := Int.emod_nonneg a (Int.ne_of_gt hl)
      have hm2 := Int.emod_lt_of_pos a hl
      obtain ⟨k, hk⟩ := Int.eq_ofNat_of_zero_le hm
      have hk2 : k < (x :: xs).length := by omega
      refine ⟨(x :: xs)[k], ?_⟩
      have e1 : ixN ((x :: xs).map D.int).length (a % ((x :: xs).length : Int)) = some k := by
        rw [hk, List.length_map]; exact ixN_ofNat hk2
      have e2 : ((x :: xs).map D.int)[k]? = some (.int (x :: xs)[k]) := by
        rw [List.getElem?_map, List.getElem?_eq_getElem hk2]; rfl
      have e3 : D.okL 39 ((x :: xs).map D.int) = true := okL_ints _ _
      have e4 : (x :: xs).length < lim := hx
      generalize hX : (x :: xs).map D.int = X at *
      have lX : X.length = (x :: xs).length := by rw [← hX, List.length_map]
      have hne : D.eqvL X [] = false := by rw [← hX]; rfl
      have hm0 : 0 < X.length := by rw [lX]; simp
      have hXl : X.length < lim := by rw [lX]; exact e4
      have hp : penO (x :: xs) (a + 1) q = .lst [.frz X, .int (a + 1), .int q] := by unfold penO; rw [hX]
      have e1' : ixN X.length (a % (X.length : Int)) = some k := by rw [lX]; rw [lX] at e1; exact e1
      have t1 : (cB (eBin opNe (eBin opIx (eVar 0) (eC (.int 0))) (eLstF lNil))) c [some (.loc 0), some (.int a), some (.int 0), none, none, none, none] (.lst [.frz X, .int (a + 1), .int q] :: rest) = some (.ok true, .lst [.frz X, .int (a + 1), .int q] :: rest) := by
        simp [bnd, cB, eBin, eVar, eC, ret, opIx, ixN, eLstF, lNil, opNe, eqD, dat, D.ok, e3, D.okL, D.eqv, hne, hXl]
      have t2 : (sSet 2 (eBin opIx (eBin opIx (eVar 0) (eC (.int 0))) (eBin opMod (eUn bInt (eVar 1)) (eUn bLen (eBin opIx (eVar 0) (eC (.int 0))))))) c [some (.loc 0), some (.int a), some (.int 0), none, none, none, none] (.lst [.frz X, .int (a + 1), .int q] :: rest) = some (.nx, [some (.loc 0), some (.int a), some (.int (x :: xs)[k]), none, none, none, none], .lst [.frz X, .int (a + 1), .int q] :: rest) := by
        have e0 : ixN 3 0 = some 0 := rfl
        simp [sSet, sBnd, bnd, eBin, eUn, eVar, eC, ret, opIx, bLen, bInt, opMod, hm0, e0, e1', e2]
      rw [hp]
      unfold sIf sBnd
      rw [t1]
      exact t2
theorem e18 : (10 : Int) ^ 18 = 1000000000000000000 := by decide
theorem pow18 (st : Stt) : opPow (.int 10) (.int 18) st = some (.ok (.int 1000000000000000000), st) := by
  show (if (0 : Int) ≤ 18 ∧ (18 : Int) ≤ 100 ∧ -big < (10 : Int) ∧ (10 : Int) < big then some (Rs.ok (D.int ((10 : Int) ^ (18 : Int).toNat)), st) else none) = _
  rw [if_pos (by decide)]
  show some (Rs.ok (D.int ((10 : Int) ^ 18)), st) = _
  rw [e18]
theorem pow18e (c : Ctx) (env : Env) (st : Stt) : eBin opPow (eC (.int 10)) (eC (.int 18)) c env st = some (.ok (.int 1000000000000000000), st) := pow18 st
theorem and_run {a b : ST} {c : Ctx} {env : Env} {st : Stt} {x y : Bool} (h1 : a c env st = some (.ok x, st)) (h2 : b c env st = some (.ok y, st)) : cAnd a b c env st = some (.ok (x && y), st) := by
  unfold cAnd bnd
  rw [h1]
  cases x with
  | false => rfl
  | true => exact h2
theorem fresh_tst (c : Ctx) (xs : List Int) (a q v : Int) (rest : Stt) : (cAnd (cB (eBin opLt (eVar 1) (eUn bLen (eBin opIx (eVar 0) (eC (.int 0)))))) (cB (eBin opGe (eVar 2) (eBin opPow (eC (.int 10)) (eC (.int 18)))))) c [some (.loc 0), some (.int a), some (.int v), none, none, none, none] (penO xs (a + 1) q :: rest) = some (.ok (decide (a < (xs.length : Int)) && decide ((1000000000000000000 : Int) ≤ v)), penO xs (a + 1) q :: rest) := by
  refine and_run ?_ ?_
  · simp [bnd, cB, eBin, eUn, eVar, eC, ret, opIx, penO, ixN, bLen, opLt]
  · show (bnd (bnd (eVar 2 c _) fun x => bnd (eBin opPow (eC (.int 10)) (eC (.int 18)) c _) fun y => opGe x y) fun x => match x with | .bl b => ret b | _ => fail) _ = _
    have e2 : eVar 2 c [some (.loc 0), some (.int a), some (.int v), none, none, none, none] (penO xs (a + 1) q :: rest) = some (.ok (.int v), penO xs (a + 1) q :: rest) := rfl
    unfold bnd
    rw [e2]
    simp only [pow18e]
    rfl
def fEnv (a v p s f : Int) (t : Option D) : Env := [some (.loc 0), some (.int a), some (.int v), some (.int p), some (.int s), some (.int f), t]
theorem mul_run {x y : Int} (st : Stt) (h : (-big < x ∧ x < big) ∨ (-big < y ∧ y < big)) : opMul (.int x) (.int y) st = some (.ok (.int (x * y)), st) := by
  show (if (-big < x ∧ x < big) ∨ (-big < y ∧ y < big) then _ else _) = _
  rw [if_pos h]
theorem mod_run {x y : Int} (st : Stt) (h : 0 < y) : opMod (.int x) (.int y) st = some (.ok (.int (x % y)), st) := by
  show (if 0 < y then _ else _) = _
  rw [if_pos h]
theorem bnd_ok {α β : Type} {x : R α} {f : α → R β} {st st1 : Stt} {a : α} (h : x st = some (.ok a, st1)) : bnd x f st = f a st1 := by unfold bnd; rw [h]
theorem bin_run {f : D → D → R D} {a b : SE} {c : Ctx} {env : Env} {st st1 st2 : Stt} {x y : D} {r : Option (Rs D × Stt)} (h1 : a c env st = some (.ok x, st1)) (h2 : b c env st1 = some (.ok y, st2)) (h3 : f x y st2 = r) : eBin f a b c env st = r := by
  unfold eBin
  rw [bnd_ok h1, bnd_ok h2]
  exact h3
theorem un_run {f : D → R D} {a : SE} {c : Ctx} {env : Env} {st st1 : Stt} {x : D} {r : Option (Rs D × Stt)} (h1 : a c env st = some (.ok x, st1)) (h3 : f x st1 = r) : eUn f a c env st = r := by
  unfold eUn bnd
  rw [h1]
  exact h3
theorem var_run {i : Nat} {c : Ctx} {env : Env} {st : Stt} {x : D} (h : env[i]? = some (some x)) : eVar i c env st = some (.ok x, st) := by
  unfold eVar
  rw [h]
theorem set_run {i : Nat} {e : SE} {c : Ctx} {env : Env} {st st' : Stt} {x : D} (h : e c env st = some (.ok x, st')) (hi : i < env.length) : sSet i e c env st = some (.nx, env.set i (some x), st') := by
  unfold sSet sBnd
  rw [h]
  show (if i < env.length then _ else _) = _
  rw [if_pos hi]
theorem fresh_turn (c : Ctx) (a v p s f : Int) (i : Nat) (hi : i < 6) (t : Option D) (p0 : 0 < p) (p1 : p < big) (h0 : 0 ≤ s) (h1 : s < p) (st : Stt) :
    turnOf (gVar 6) fresh_body c (.int i) (fEnv a v p s f t) st = some (.nx, fEnv a v p ((s * s + 69621 * ((i : Int) + 1) * (a + 1) + v) % p) (f * p + (s * s + 69621 * ((i : Int) + 1) * (a + 1) + v) % p) (some (.int i)), st) := by
  have hb : big = 18446744073709551616 := rfl
  show fresh_body c (fEnv a v p s f (some (.int i))) st = _
  unfold fresh_body
  refine (seq_nx (set_run (bin_run (un_run (bin_run (bin_run (bin_run (var_run rfl) (var_run rfl) (mul_run _ (.inl (by omega)))) (bin_run (bin_run (st2 := st) (x := .int 69621) rfl (bin_run (x := .int i) (y := .int 1) (var_run rfl) rfl rfl) (mul_run _ (.inl (by omega)))) (bin_run (x := .int a) (y := .int 1) (var_run rfl) rfl rfl) (mul_run _ (.inl (by omega)))) rfl) (var_run rfl) rfl) rfl) (var_run rfl) (mod_run _ p0)) (by show 4 < 7; decide))).trans ?_
  exact set_run (bin_run (bin_run (var_run rfl) (var_run rfl) (mul_run _ (.inr (by omega)))) (var_run rfl) rfl) (by show 5 < 7; decide)
theorem fresh_loop (c : Ctx) (hf : 6 < c.fuel) (a v p s0 f0 : Int) (p0 : 0 < p) (p1 : p < big) (b0 : 0 ≤ s0) (b1 : s0 < p) (t : Option D) (st : Stt) :
    ∃ s f t', sFor (gVar 6) (iRange1 (eC (.int 6))) fresh_body c (fEnv a v p s0 f0 t) st = some (.nx, fEnv a v p s f t', st) := by
  have hsrc : (iRange1 (eC (.int 6))) c (fEnv a v p s0 f0 t) st = some (.ok (.items (rangeL 0 6)), st) := by
    show (if -(lim : Int) < 6 ∧ (6 : Int) < lim then ret (Src.items (rangeL 0 6)) else fail) st = _
    rw [if_pos (by decide)]
    rfl
  unfold sFor sBnd
  rw [hsrc]
  obtain ⟨env', st', e, s, f, t, q1, q2, q3, q4⟩ := forL_inv (l := rangeL 0 6) (P := fun i env st' => ∃ s f t, 0 ≤ s ∧ s < p ∧ env = fEnv a v p s f t ∧ st' = st) (T := turnOf (gVar 6) fresh_body c) (fun i d env st' hd ⟨s, f, t, q1, q2, q3, q4⟩ => by
    subst q3 q4
    have hi : i < 6 := (List.getElem?_eq_some_iff.mp hd).1
    have hdv : d = .int (i : Int) := by
      have : (rangeL 0 6)[i]? = some (.int (i : Int)) := by
        unfold rangeL
        rw [List.getElem?_map]
        simp [hi]
      rw [this] at hd; cases hd; rfl
    subst hdv
    exact ⟨_, _, fresh_turn c a v p s f i hi t p0 p1 q1 q2 _, _, _, _, Int.emod_nonneg _ (by omega), Int.emod_lt_of_pos _ p0, rfl, rfl⟩) c.fuel 0 _ st (by show 6 < 0 + c.fuel; omega) (Nat.zero_le _) ⟨s0, f0, t, b0, b1, rfl, rfl⟩
  subst q3 q4
  exact ⟨s, f, t, e⟩
theorem fresh_run (c : Ctx) (hf : 6 < c.fuel) (xs : List Int) (hx : xs.length < lim) (a q : Int) (rest : Stt) :
    ∃ v env', q_fresh c [some (.loc 0), none, none, none, none, none, none] (penO xs a q :: rest) = some (.rt (.int v), env', penO xs (a + 1) q :: rest) := by
  unfold q_fresh
  rw [seq_nx (env' := [some (.loc 0), some (.int a), none, none, none, none, none]) (st' := penO xs a q :: rest) (by
    simp [sSet, sBnd, bnd, eBin, eVar, eC, ret, opIx, penO, ixN])]
  rw [seq_nx (env' := [some (.loc 0), some (.int a), none, none, none, none, none]) (st' := penO xs (a + 1) q :: rest) (by
    simp [sAsg, gSub, gBnd, putIx, setIx, sBnd, bnd, eBin, eVar, eC, ret, opAdd, penO, ixN])]
  rw [seq_nx (env' := [some (.loc 0), some (.int a), some (.int 0), none, none, none, none]) (st' := penO xs (a + 1) q :: rest) (by
    simp [sSet, sBnd, eC, ret])]
  obtain ⟨v, hv⟩ := fresh_cell c xs hx a q rest
  rw [seq_nx hv]
  have tst := fresh_tst c xs a q v rest
  by_cases hb : (decide (a < (xs.length : Int)) && decide ((1000000000000000000 : Int) ≤ v)) = true
  · refine ⟨v - 1000000000000000000, _, seq_rt (env' := [some (.loc 0), some (.int a), some (.int v), none, none, none, none]) ?_⟩
    unfold sIf sBnd
    rw [tst, hb]
    show sRet _ c _ _ = _
    unfold sRet sBnd eBin bnd
    have e2 : eVar 2 c [some (.loc 0), some (.int a), some (.int v), none, none, none, none] (penO xs (a + 1) q :: rest) = some (.ok (.int v), penO xs (a + 1) q :: rest) := rfl
    rw [e2]
    simp only [eC, ret, pow18]
    rfl
  · have hb' : (decide (a < (xs.length : Int)) && decide ((1000000000000000000 : Int) ≤ v)) = false := by simpa using hb
    rw [seq_nx (env' := [some (.loc 0), some (.int a), some (.int v), none, none, none, none]) (st' := penO xs (a + 1) q :: rest) (by
      unfold sIf sBnd
      rw [tst, hb']
      rfl)]
    rw [seq_nx (env' := [some (.loc 0), some (.int a), some (.int v), some (.int 2305843009213693951), none, none, none]) (st' := penO xs (a + 1) q :: rest) (by
      simp [sSet, sBnd, eC, ret])]
    have p0 : (0 : Int) < 2305843009213693951 := by decide
    have p1 : (2305843009213693951 : Int) < big := by decide
    have hb2 : -big < (48271 : Int) ∧ (48271 : Int) < big := by decide
    have hb3 : -big < (40692 : Int) ∧ (40692 : Int) < big := by decide
    generalize (2305843009213693951 : Int) = p at p0 p1 ⊢
    have b0 := Int.emod_nonneg (v * 48271 + 40692 * a + 31) (Int.ne_of_gt p0)
    have b1 := Int.emod_lt_of_pos (v * 48271 + 40692 * a + 31) p0
    generalize hs0 : (v * 48271 + 40692 * a + 31) % p = s0 at b0 b1
    rw [seq_nx (env' := [some (.loc 0), some (.int a), some (.int v), some (.int p), some (.int s0), none, none]) (st' := penO xs (a + 1) q :: rest) (by
      rw [← hs0]
      exact set_run (bin_run (un_run (bin_run (bin_run (bin_run (y := .int 48271) (var_run rfl) rfl (mul_run _ (.inr hb2))) (bin_run (x := .int 40692) rfl (var_run rfl) (mul_run _ (.inl hb3))) rfl) (y := .int 31) rfl rfl) rfl) (var_run rfl) (mod_run _ p0)) (by show 4 < 7; decide))]
    rw [seq_nx (env' := fEnv a v p s0 s0 none) (st' := penO xs (a + 1) q :: rest) (set_run (var_run rfl) (by show 5 < 7; decide))]
    obtain ⟨s, f, t, hl⟩ := fresh_loop c hf a v p s0 s0 p0 p1 b0 b1 none (penO xs (a + 1) q :: rest)
    rw [seq_nx hl]
    refine ⟨f, fEnv a v p s f t, ?_⟩
    unfold sRet sBnd
    rw [var_run (x := .int f) rfl]
/-- a call of a def: its body, run -/
theorem run_rt {fn : Fn} {c : Ctx} {ds : List D} {st st' : Stt} {d : D} {env' : Env} (hl : ds.length = fn.pars) (h : fn.body c (ds.map some ++ List.replicate (fn.slots - fn.pars) none) st = some (.rt d, env', st')) : fn.run c ds st = some (.ok d, st') := by
  unfold Fn.run
  rw [if_pos hl, h]
theorem draw_run (c : Ctx) (F : Nat) (xs : List Int) (many : Int) (h0 : 0 < many) (h1 : many < 1073741824) (a q : Int) (rest : Stt)
    (hF : ∃ v, c.call F [.loc 0] (penO xs a q :: rest) = some (.ok (.int v), penO xs (a + 1) q :: rest)) :
    ∃ m a' q' env', 0 ≤ m ∧ m < many ∧ q_draw F c [some (.loc 0), some (.int many), none] (penO xs a q :: rest) = some (.rt (.int m), env', penO xs a' q' :: rest) := by
  unfold q_draw
  have first : ∃ a' q', (sIf (cB (eBin opLt (eBin opIx (eVar 0) (eC (.int 2))) (eVar 1)))
      (sAsg (gSub (eVar 0) (eC (.int 2))) (eCall F (lCons (eVar 0) lNil))) sPass) c [some (.loc 0), some (.int many), none] (penO xs a q :: rest) = some (.nx, [some (.loc 0), some (.int many), none], penO xs a' q' :: rest) := by
    by_cases h : q < many
    · obtain ⟨v, hv⟩ := hF
      refine ⟨a + 1, v, ?_⟩
      have t1 : (cB (eBin opLt (eBin opIx (eVar 0) (eC (.int 2))) (eVar 1))) c [some (.loc 0), some (.int many), none] (penO xs a q :: rest) = some (.ok true, penO xs a q :: rest) := by
        simp [bnd, cB, eBin, eVar, eC, ret, opIx, penO, ixN, opLt, h]
      have t2 : (eCall F (lCons (eVar 0) lNil)) c [some (.loc 0), some (.int many), none] (penO xs a q :: rest) = some (.ok (.int v), penO xs (a + 1) q :: rest) := by
        simp [eCall, lCons, lNil, bnd, eVar, ret]
        exact hv
      unfold sIf sBnd
      rw [t1]
      show sAsg _ _ c _ _ = _
      unfold sAsg sBnd
      rw [t2]
      simp [gSub, gBnd, putIx, setIx, eVar, eC, ret, penO, ixN]
    · refine ⟨a, q, ?_⟩
      have t1 : (cB (eBin opLt (eBin opIx (eVar 0) (eC (.int 2))) (eVar 1))) c [some (.loc 0), some (.int many), none] (penO xs a q :: rest) = some (.ok false, penO xs a q :: rest) := by
        simp [bnd, cB, eBin, eVar, eC, ret, opIx, penO, ixN, opLt, h]
      unfold sIf sBnd
      rw [t1]
      rfl
  obtain ⟨a', q', hf⟩ := first
  rw [seq_nx hf]
  rw [seq_nx (env' := [some (.loc 0), some (.int many), some (.int (q' % many))]) (st' := penO xs a' q' :: rest) (by
    simp [sSet, sBnd, bnd, eBin, eUn, eVar, eC, ret, opIx, penO, ixN, bInt, opMod, h0])]
  rw [seq_nx (env' := [some (.loc 0), some (.int many), some (.int (q' % many))]) (st' := penO xs a' (q' / many) :: rest) (by
    simp [sAsg, gSub, gBnd, putIx, setIx, sBnd, bnd, eBin, eUn, eVar, eC, ret, opIx, opDiv, bInt, penO, ixN, h0, h1])]
  exact ⟨q' % many, a', q' / many, [some (.loc 0), some (.int many), some (.int (q' % many))], Int.emod_nonneg _ (by omega), Int.emod_lt_of_pos _ h0, by simp [sRet, sBnd, eVar]⟩
theorem pen_run (c : Ctx) (xs : List Int) (hx : xs.length ≤ 63) : q_pen c [some (.frz (xs.map D.int))] [] = some (.rt (.loc 0), [some (.frz (xs.map D.int))], [penO xs 0 0]) := by
  have e : cut (xs.map D.int) none (some 63) = xs.map D.int := by
    unfold cut clampI
    simp only [Option.map_none, Option.getD_none, Option.map_some, Option.getD_some, List.length_map, List.drop_zero]
    rw [if_neg (by decide)]
    exact List.take_of_length_le (by rw [List.length_map]; show xs.length ≤ min 63 xs.length; omega)
  have hl : xs.length < lim := by have : lim = 16777216 := rfl; omega
  have h3 : 3 < lim := by decide
  simp [q_pen, sRet, sBnd, eLst, lCons, lNil, bnd, eUn, bListF, eSlc, eVar, oNone, oSome, eC, ret, opSlc, e, seqOf, hl, h3, new, penO]
end MI

set_option autoImplicit false
/-! MI1: more of the pure interpreter. -/
namespace MI
def dedI : List Int → List Int
  | [] => []
  | x :: r => if x ∈ r then dedI r else x :: dedI r
/-- sorted(set(ints)), a list that nobody changes -/
def bSorS (x : D) : R D := bnd (seqOf x) fun l => match ints? l with
  | some r => if r.length < 64 then ret (.frz ((sortI (dedI r)).map D.int)) else fail
  | none => fail
theorem mem_dedI {k : Int} : ∀ {l : List Int}, k ∈ dedI l ↔ k ∈ l
  | [] => Iff.rfl
  | x :: r => by
    unfold dedI
    split
    · rename_i h
      rw [mem_dedI, List.mem_cons]
      exact ⟨.inr, fun h' => h'.elim (fun e => e ▸ h) id⟩
    · rw [List.mem_cons, List.mem_cons, mem_dedI]
theorem nodup_dedI : ∀ l : List Int, (dedI l).Nodup
  | [] => List.nodup_nil
  | x :: r => by
    unfold dedI
    split
    · exact nodup_dedI r
    · rename_i h
      exact List.nodup_cons.mpr ⟨fun z => h (mem_dedI.mp z), nodup_dedI r⟩
end MI

set_option autoImplicit false
/-! MI2: texts, kinds, f-strings; what is not covered. -/
namespace MI
/-- the digits of a number -/
def strI (i : Int) : List Nat := (toString i).toList.map Char.toNat
def isStr (x : D) : R Unit := fun st => match x with
  | .str _ => some (.ok (), st)
  | _ => none
def bStr (x : D) : R D := fun st => match x with
  | .int i => if i.natAbs.log2 < 1920 then some (.ok (.str (strI i)), st) else none
  | .str s => some (.ok (.str s), st)
  | _ => none
def strs? : List D → Option (List (List Nat))
  | [] => some []
  | .str s :: r => (strs? r).map (s :: ·)
  | _ => none
def joinN (a : List Nat) : List (List Nat) → List Nat
  | [] => []
  | [x] => x
  | x :: y :: r => x ++ a ++ joinN a (y :: r)
def mJoin (x y : D) : R D := bnd (seqOf y) fun l => match x with
  | .str a => match strs? l with
    | some ys => if (ys.map (·.length)).sum + ys.length * a.length < lim then ret (.str (joinN a ys)) else fail
    | none => fail
  | _ => fail
def splitC (c : Nat) : List Nat → List (List Nat)
  | [] => [[]]
  | x :: r => if x = c then [] :: splitC c r else match splitC c r with
    | p :: q => (x :: p) :: q
    | [] => [[x]]
/-- s.split(c), c one sign: a list that nobody changes -/
def mSplit (x y : D) : R D := fun st => match x, y with
  | .str a, .str [c] => if a.length + 2 < lim then some (.ok (.frz ((splitC c a).map D.str)), st) else none
  | _, _ => none
def mLstrip (x y : D) : R D := fun st => match x, y with
  | .str a, .str b => if a.length < lim then some (.ok (.str (a.dropWhile fun c => b.contains c)), st) else none
  | _, _ => none
/-- s.index(c), c one sign that stands there -/
def mIndexS (x y : D) : R D := fun st => match x, y with
  | .str a, .str [c] => if a.contains c = true then some (.ok (.int (a.idxOf c : Nat)), st) else none
  | _, _ => none
/-- list(text) -/
def bListS (x : D) : R D := fun st => match x with
  | .str a => if a.length < lim then some (.ok (.frz (a.map fun c => .str [c])), st) else none
  | _ => none
/-- the kinds that isinstance is asked for -/
inductive Kd where
  | int
  | bool
  | str
  | tup
def Kd.has (k : Kd) : D → Option Bool
  | .non => some false
  | .bl _ => some (match k with
    | .int => true
    | .bool => true
    | _ => false)
  | .int _ => some (match k with
    | .int => true
    | _ => false)
  | .str _ => some (match k with
    | .str => true
    | _ => false)
  | .tup _ => some (match k with
    | .tup => true
    | _ => false)
  | _ => none
def bIsI (k : Kd) (x : D) : R D := fun st => match k.has x with
  | some b => some (.ok (.bl b), st)
  | none => none
/-- a part of an f-string -/
def opFmt (x : D) : R D := fun st => match x with
  | .int i => if i.natAbs.log2 < 1920 then some (.ok (.str (strI i)), st) else none
  | .str s => if s.length < lim then some (.ok (.str s), st) else none
  | _ => none
/-- the parts one behind another -/
def eFsL : List SE → List Nat → SE
  | [], acc => fun _ _ => ret (.str acc)
  | g :: gs, acc => fun c env => bnd (g c env) fun x => match x with
    | .str y => if acc.length + y.length < lim then eFsL gs (acc ++ y) c env else fail
    | _ => fail
def eFs (gs : List SE) : SE := eFsL gs []
/-- what is not covered -/
def sNone : SS := fun _ _ _ => none
def eNone : SE := fun _ _ _ => none
/-- o.f as a target -/
def gFld (o : SE) (f : List Nat) : SG := fun c d env => gBnd (o c env) fun x st => match x with
  | .loc n => match setFld c n f d st with
    | some st' => some (env, st')
    | none => none
  | _ => none
end MI

set_option autoImplicit false
/-! MI3: repr of data. -/
namespace MI
open PySem
mutual
def toPyN : D → PyData
  | .non => .none
  | .bl b => .bool b
  | .int i => .int i
  | .str s => .str ⟨s.toArray⟩
  | .tup l => .tuple (toPyNs l)
  | .loc _ => .none
  | .frz l => .list (toPyNs l)
  | .xtup l => .tuple (toPyNs l)
def toPyNs : List D → List PyData
  | [] => []
  | x :: xs => toPyN x :: toPyNs xs
end
mutual
/-- no repr is longer than this -/
def D.cost : D → Nat
  | .non => 4
  | .bl _ => 5
  | .int i => i.natAbs.log2 + 2
  | .str s => 10 * s.length + 2
  | .tup l => D.costL l + 3
  | .loc _ => 0
  | .frz l => D.costL l + 3
  | .xtup l => D.costL l + 3
def D.costL : List D → Nat
  | [] => 0
  | x :: xs => D.cost x + 2 + D.costL xs
end
mutual
/-- no number is too great to be written -/
def D.shw : D → Bool
  | .int i => decide (i.natAbs.log2 < 1920)
  | .tup l => D.shwL l
  | .frz l => D.shwL l
  | .xtup l => D.shwL l
  | _ => true
def D.shwL : List D → Bool
  | [] => true
  | x :: xs => D.shw x && D.shwL xs
end
def reprN (d : D) : List Nat := (toPyN d).shown.cps.toList
def reprOk (d : D) : Bool := D.ok deep d && D.shw d && decide (D.cost d ≤ 16777216)
def bRepr (x : D) : R D := fun st => match dat x st with
  | some d => if reprOk d = true then some (.ok (.str (reprN d)), st) else none
  | none => none
end MI

set_option autoImplicit false
/-! MI4: exceptions. -/
namespace MI
/-- raise C(a), C's __init__ saying msg of the argument and keeping it as its field f -/
def sRaise (k : Nat) (f : List Nat) (msg : SE) (a : SE) : SS := fun c env => sBnd (a c env) env fun x st => match msg c [none, some x] st with
  | some (.ok (.str _), st') => some (.ex k [(f, x)], env, st')
  | _ => none
/-- try: b, except C as the name i: h, h being told the exception's fields; yes: the classes that the clause takes, no: those that it lets pass -/
def sTryAs (b : SS) (yes no : List Nat) (i : Nat) (h : List (List Nat × D) → SS) : SS := fun c env st => match b c env st with
  | some (.ex k fs, env', st') => if yes.contains k then (if i < env'.length then match h fs c (env'.set i none) st' with
    | some (.ex _ _, _, _) => none
    | some (fl, env'', st'') => some (fl, env''.set i none, st'')
    | none => none else none) else if no.contains k then some (.ex k fs, env', st') else none
  | r => r
/-- x = e.f, x = (.., e.f) in the clause -/
def hSet (x : Nat) (pre : List D) (f : List Nat) (one : Bool) (fs : List (List Nat × D)) : SS := fun _ env st => match getD fs f with
  | some d => if x < env.length then some (.nx, env.set x (some (if one then d else .tup (pre ++ [d]))), st) else none
  | none => none
end MI

set_option autoImplicit false
/-! MI5: sorted(set(texts of one sign)). -/
namespace MI
def ones? : List D → Option (List Nat)
  | [] => some []
  | .str [c] :: r => (ones? r).map (c :: ·)
  | _ => none
def srtC (cs : List Nat) : List Nat := (sortI (dedI (cs.map fun (c : Nat) => (c : Int)))).map Int.toNat
/-- sorted(set(x)) of ints, of texts of one sign: a list that nobody changes -/
def bSorU (x : D) : R D := bnd (seqOf x) fun l => match ints? l with
  | some r => if r.length < 64 then ret (.frz ((sortI (dedI r)).map D.int)) else fail
  | none => bnd (lstOf x) fun l => match ones? l with
    | some cs => if cs.length < 64 then ret (.frz ((srtC cs).map fun c => .str [c])) else fail
    | none => fail
end MI
namespace MI
/-- the keys of a dict, the first one of each kept -/
def addF (acc : List Int) (k : Int) : List Int := if k ∈ acc then acc else acc ++ [k]
def dedF (l : List Int) : List Int := l.foldl addF []
/-- list({k: True for ..}), the k being ints -/
def eKeysF (own : List Nat) (g : SG) (it : SI) (t : ST) (e : SE) : SE := fun c env => bnd (it c env) fun s => bnd (compL s (compT g t e c (wipeE env own)) c.fuel 0 []) fun l => match ints? l with
  | some ns => ret (.frz ((dedF ns).map D.int))
  | none => fail
theorem mem_addF {k x : Int} {acc : List Int} : x ∈ addF acc k ↔ x ∈ acc ∨ x = k := by
  unfold addF
  split
  · rename_i h
    exact ⟨.inl, fun z => z.elim id (fun e => e ▸ h)⟩
  · simp
end MI
namespace MI
/-- int(x): of a number, a bool, a text of one figure -/
def bIntU (x : D) : R D := fun st => match x with
  | .str [c] => if 48 ≤ c ∧ c ≤ 57 then some (.ok (.int ((c - 48 : Nat) : Int)), st) else none
  | x => bInt x st
/-- text * number -/
def opMulS (x y : D) : R D := fun st => match x, y with
  | .str s, .int n => if s.length = 1 ∧ 1 < n ∧ n < 1000000 then some (.ok (.str (List.replicate n.toNat s).flatten), st) else none
  | _, _ => none
end MI

set_option Elab.async false
set_option linter.all false
set_option maxRecDepth 100000
set_option maxHeartbeats 4000000
/-! MS13: three names at once. -/
namespace MS
open PySem PySem.Spec PyProof.Rows L2 MI

theorem sBnd_bnd {α β : Type} (x : MI.R α) (f : α → MI.R β) (env : MI.Env) (g : β → Stt → Option (Fl × MI.Env × Stt)) : sBnd (bnd x f) env g = sBnd x env fun a st => sBnd (f a) env g st := by
  funext st
  simp only [sBnd, bnd]
  cases x st with
  | none => rfl
  | some r => obtain ⟨r, st'⟩ := r; cases r <;> rfl
def tPar3 (i j k : Nat) (ta : TA) : TS := fun D σ H => ta σ H fun vs H1 => ∃ v w u, vs = [v, w, u] ∧ D.nx (((σ.set i (some v)).set j (some w)).set k (some u)) H1
theorem ps_par3 {X : Cx} {i j k : Nat} {x y z : Str} {a b d : Expr} {ta : TA} {pos px py pz pt : Pos} {kt k2 pt2} (hc : X.calm = true) (hN : X.N.Nodup) (hi : X.N[i]? = some x) (hj : X.N[j]? = some y) (hk : X.N[k]? = some z) (hij : i ≠ j) (hik : i ≠ k) (hjk : j ≠ k)
    (hx : X.env.scope.names.lookup x = some .local) (hy : X.env.scope.names.lookup y = some .local) (hz : X.env.scope.names.lookup z = some .local) (ha : PA X [a, b, d] ta)
    (hw : swappedStores [.Tuple [.Name x px, .Name y py, .Name z pz] kt pt] (.Tuple [a, b, d] k2 pt2) X.env = pure (some [x, y, z]))
    (hs : swapsWithSole [.Tuple [.Name x px, .Name y py, .Name z pz] kt pt] (.Tuple [a, b, d] k2 pt2) pos.line X.env = pure false := by rfl) :
    PS X (.Assign [.Tuple [.Name x px, .Name y py, .Name z pz] kt pt] (.Tuple [a, b, d] k2 pt2) pos) (tPar3 i j k ta) := by
  refine ⟨fun pins s σ H D I h => ?_⟩
  rw [exec_Assign_arm]
  refine wpAny_bind (wpAny_standAt ?_)
  rw [hs]
  refine wpAny_bind (wpAny_pure ?_)
  rw [if_neg (by decide)]
  refine wpAny_bind (Tuple_ (thn (ha.run _ pins s σ H _ I h) fun us s1 ⟨vs, H1, I1, r1, q1⟩ => ?_))
  obtain ⟨v, w, u, e1, q1⟩ := q1
  subst e1
  obtain ⟨u1, u2, u3, rfl, rv, rw', ru⟩ : ∃ u1 u2 u3, us = [u1, u2, u3] ∧ RelV v u1 ∧ RelV w u2 ∧ RelV u u3 := by
    cases r1 with
    | cons p q =>
      cases q with
      | cons p' q' =>
        cases q' with
        | cons p2 q2 =>
          cases q2
          exact ⟨_, _, _, rfl, p, p', p2⟩
  refine wpAny_newObj_type ?_ (by show 3 ≤ sizeLine; decide)
  have I2 : Inv X pins σ H1 { s1 with heap := s1.heap.push { cls := .type "tuple", data := .seq [u1, u2, u3].toArray } } := I1.kept (t' := s1.toks) fun b o e => Heap.get?_push_of_some _ e
  rw [hw]
  refine wpAny_bind (wpAny_pure ?_)
  show wpAny (model X.prog X.w) X.A (do rule "assign.swapped-stores"; let items ← unpackItems (.ref s1.heap.objs.size) 3 none; assignInOrder [fun v => bindName X.env z v, fun v => bindName X.env y v, fun v => bindName X.env x v] items.reverse; pure Flow.next) _ _ _
  refine wpAny_bind (wpAny_rule (wpAny_bind (unpackItems_tuple (items := #[u1, u2, u3]) (I.ok.hd hc) (IsTup.new s1.heap _) fun h' hx' => ?_)))
  have I3 := I2.kept (h' := h') (t' := s1.toks) fun b o e => hx' b o (Nat.ne_of_lt (Heap.lt_size e)) e
  show wpAny _ _ (assignInOrder [fun v => bindName X.env z v, fun v => bindName X.env y v, fun v => bindName X.env x v] [u3, u2, u1] >>= fun _ => pure Flow.next) _ _ _
  refine wpAny_bind (assignInOrder_cons (wpAny_bindName (store_ok I3 hN hk (.inl hz) ru (fun s2 I4 => ?_) (.inr hz))))
  refine assignInOrder_cons (wpAny_bindName (store_ok I4 hN hj (.inl hy) rw' (fun s3 I5 => ?_) (.inr hy)))
  refine assignInOrder_cons (wpAny_bindName (store_ok I5 hN hi (.inl hx) rv (fun s4 I6 => assignInOrder_nil (wpAny_pure ?_)) (.inr hx)))
  rw [List.set_comm _ _ (Ne.symm hjk), List.set_comm _ _ (Ne.symm hik), List.set_comm _ _ (Ne.symm hij)] at I6
  exact ⟨_, H1, I6, q1⟩

section
variable {X : Cx} {cl : Nat → Addr} {E : EX} {c : MI.Ctx} {a b d : Expr} {pos : Pos}
theorem ms_par3 {i j k : Nat} {x y z : Str} {gl : SL} {px py pz pt : Pos} {kt k2 pt2} (hc : X.calm = true) (hN : X.N.Nodup) (ha : MA X cl E c [a, b, d] gl)
    (hw : swappedStores [.Tuple [.Name x px, .Name y py, .Name z pz] kt pt] (.Tuple [a, b, d] k2 pt2) X.env = pure (some [x, y, z])) (hi : X.N[i]? = some x := by rfl) (hj : X.N[j]? = some y := by rfl) (hk : X.N[k]? = some z := by rfl) (hij : i ≠ j := by decide) (hik : i ≠ k := by decide) (hjk : j ≠ k := by decide)
    (hx : X.env.scope.names.lookup x = some .local := by rfl) (hy : X.env.scope.names.lookup y = some .local := by rfl) (hz : X.env.scope.names.lookup z = some .local := by rfl)
    (hs : swapsWithSole [.Tuple [.Name x px, .Name y py, .Name z pz] kt pt] (.Tuple [a, b, d] k2 pt2) pos.line X.env = pure false := by rfl) :
    MST X cl E c (.Assign [.Tuple [.Name x px, .Name y py, .Name z pz] kt pt] (.Tuple [a, b, d] k2 pt2) pos) (sAsg (gTup 3 (gCons (gVar i) (gCons (gVar j) (gCons (gVar k) gNil)))) (eTup gl)) := psI (ps_par3 hc hN hi hj hk hij hik hjk hx hy hz ha hw hs) fun D σ H ⟨ρ, env, st, A, e, h⟩ => by
  unfold sAsg eTup at h
  rw [sBnd_bnd] at h
  refine (RestS.step (x := gl c) (rL X.K) A e h).imp fun v1 H1 ⟨ρ1, st1, d1, g1, A1, r1, h1⟩ => ?_
  by_cases hl : d1.length < lim
  · rw [if_pos hl] at h1
    cases r1 with
    | nil => exact h1.elim
    | @cons v vs d ds ra rr =>
      cases rr with
      | nil => exact h1.elim
      | @cons w ws d' ds' rb rr =>
        cases rr with
        | nil => exact h1.elim
        | @cons u us d2 ds2 rc rr =>
          cases rr with
          | cons _ _ => exact h1.elim
          | nil =>
            refine ⟨v, w, u, rfl, ?_⟩
            simp only [MI.ret, sBnd, MI.gTup, MI.gCons, MI.gVar, MI.gNil, List.length_cons, List.length_nil, List.length_set, Nat.zero_add, Nat.reduceAdd, if_true] at h1
            by_cases h_i : i < env.length
            · by_cases h_j : j < env.length
              · by_cases h_k : k < env.length
                · simp only [h_i, h_j, h_k, List.length_set, if_true] at h1
                  exact h1 ρ1 H1 _ .refl A1 (RvE.set rc k (RvE.set rb j (RvE.set ra i (e.grow A g1))))
                · simp only [h_i, h_j, h_k, List.length_set, if_true, if_false] at h1; exact h1.elim
              · simp only [h_i, h_j, List.length_set, if_true, if_false] at h1; exact h1.elim
            · simp only [h_i, if_false] at h1; exact h1.elim
  · rw [if_neg hl] at h1; exact h1.elim
end
end MS

set_option Elab.async false
set_option linter.all false
set_option maxRecDepth 100000
set_option maxHeartbeats 4000000
/-! MSR8: set(a list of ints), then sorted of it. Turned from the library's rule for a tuple. -/
namespace MS
open PySem PySem.Spec PyProof.Rows L2 MI
section
variable {P : Program} {w : World} {A : Around} {E : Value → Shared → Prop} {s : Shared}
set_option maxRecDepth 100000 in
set_option maxHeartbeats 3200000 in
theorem call_set_lstI {l : Addr} {items : Array Value} (ns : List Int) {Q : Value → Shared → Prop} (hh : A.handled = none) (hl : s.heap.IsList l items) (hit : IntsAre items.toList ns) (hb : ns.length + 1 < scanBound)
    (h : ∀ (h' : Heap) (tk c : Nat), SetR w h' s.heap.objs.size (fun j => decide (j ∈ ns)) c → c ≤ ns.length → (∀ b o, s.heap.get? b = some o → h'.get? b = some o) → Q (.ref s.heap.objs.size) { s with heap := h', toks := tk }) :
    wpAny (model P w) A (call (.type "set") [.ref l]) Q E s := by
  have hisz : items.size = ns.length := by
    have q := IntsAre.length hit
    rw [Array.length_toList] at q
    exact q
  obtain ⟨c, tl, hmro⟩ := F.called_set.mro
  have hmade := F.called_set.made
  have hsub := F.called_set.sub
  refine wpAny_call (codeAny_of_tree ?_)
  show wpAny _ _ (callAny (.type "set") _) _ _ _
  refine wpAny_pure ⟨Code.quiet_builtin _ (by decide +kernel), codeAny_builtin F.entry_type_call ?_⟩
  rw [Around.under_plain (weight_type_call_type "set" [.ref l] []) rfl]
  have h1 := F.called_set.notType
  have h2 := F.called_set.canCreate
  have hct := F.typeCall_set_1 (.ref l)
  repeat (any_goals (first | assumption | wp_step))

  refine codeAny_mono (code_set_led1 (.ref l) (E := E) (Q₁ := fun obj s₁ => obj = .ref s.heap.objs.size ∧ s₁ = { s with heap := s.heap.push { cls := .type "set", dict := none, data := .set #[] 0 (.fresh 0 0 (!w.params.followText "set-order")) } }) ⟨rfl, rfl⟩) fun r s₁ hr => ?_
  cases r with
  | error e => exact hr
  | ok fl =>
    cases fl with
    | ret obj =>
      obtain ⟨rfl, rfl⟩ := hr
      have hS : (s.heap.push { cls := .type "set", dict := none, data := .set #[] 0 (.fresh 0 0 (!w.params.followText "set-order")) }).get? s.heap.objs.size = some { cls := .type "set", dict := none, data := .set #[] 0 (.fresh 0 0 (!w.params.followText "set-order")) } := Heap.get?_push_size _ rfl
      have hT : Shared.TypeIs { s with heap := s.heap.push { cls := .type "set", dict := none, data := .set #[] 0 (.fresh 0 0 (!w.params.followText "set-order")) } } (.ref s.heap.objs.size) "set" := ⟨_, hS, rfl⟩
      have hli := F.called_set.init.lookup
      have hbi := F.called_set.init.bind (.ref s.heap.objs.size)
      repeat (any_goals (first | assumption | wp_step))

      refine codeAny_mono (codeAny_call_builtin (R := wants (fun r s₂ => r = .none ∧ ∃ h' tk c, s₂ = { s with heap := h', toks := tk } ∧ SetR w h' s.heap.objs.size (fun j => decide (j ∈ ns)) c ∧ c ≤ ns.length ∧
          (∀ b o, s.heap.get? b = some o → h'.get? b = some o)) E) F.called_set.init.plain F.entry_set_init (check_set_init_1 hT ?_)) fun r₂ s₂ hr₂ => ?_
      · obtain ⟨ol, hol, hcl, nl, hdl⟩ := hl
        obtain ⟨ocls, odict, odata, oslots⟩ := ol
        simp only at hcl hdl
        subst hcl; subst hdl
        have hol' : (s.heap.push { cls := .type "set", dict := none, data := .set #[] 0 (.fresh 0 0 (!w.params.followText "set-order")) }).get? l = some { cls := .type "list", dict := odict, data := .seq items nl, slots := oslots } := Heap.get?_push_of_some _ hol
        have hsls := F.sub_list_set
        have hslf := F.sub_list_frozenset
        have hne : (Value.type "list" == Value.type "dict") = false := by decide
        have hl1 : (s.heap.push { cls := .type "set", dict := none, data := .set #[] 0 (.fresh 0 0 (!w.params.followText "set-order")) }).IsList l items := ⟨_, hol', rfl, nl, rfl⟩
        unfold Builtin.«set.__init__» noKeywords Builtin.Frozenset.updateFrom
        generalize hPI : pyIter = PI
        wp_walk
        subst hPI

        refine wpAny_pyIter_list hl1 ?_
        refine wpAny_bind (wpAny_runValue ?_)
        have hlS : l < s.heap.objs.size := Heap.lt_size hol
        have hh3 : A.in1.in1.in1.handled = none := by simp [hh]
        have hz1 : (s.heap.push { cls := .type "set", dict := none, data := .set #[] 0 (.fresh 0 0 (!w.params.followText "set-order")) }).objs.size = s.heap.objs.size + 1 := Heap.size_push ..
        have hneI : l ≠ (s.heap.push { cls := .type "set", dict := none, data := .set #[] 0 (.fresh 0 0 (!w.params.followText "set-order")) }).objs.size := by
          rw [Heap.size_push]; exact Nat.ne_of_lt (Nat.lt_succ_of_lt hlS)
        have hSf : s.heap.objs.size ∉ [(s.heap.push { cls := .type "set", dict := none, data := .set #[] 0 (.fresh 0 0 (!w.params.followText "set-order")) }).objs.size, l] := by
          rw [Heap.size_push]; simp only [List.mem_cons, List.mem_singleton, List.not_mem_nil, or_false, not_or]
          exact ⟨Nat.ne_of_lt (Nat.lt_succ_self _), Nat.ne_of_gt hlS⟩
        have hval : ∀ (i : Nat) (v : Value), items[i]? = some v → ∃ k t, ns[i]? = some k ∧ v = .int k t := fun i v hv => by
          have hi : i < ns.length := by rw [← hisz]; exact (Array.getElem?_eq_some_iff.mp hv).1
          obtain ⟨t, e⟩ := PyProof.Rows.IntsAre.int_at hit i v (by rw [Array.getElem?_toList]; exact hv)
          refine ⟨ns[i], t, List.getElem?_eq_getElem hi, ?_⟩
          rw [e, List.getD_eq_getElem?_getD, List.getElem?_eq_getElem hi] <;> rfl
        refine set_update_ints ((Walks.list hh3 _ l hneI items).toS) s.heap.objs.size
          hSf ns hisz hb hval (items.size - 0) 0 _ (by omega) (Nat.zero_le _)
          ⟨⟨_, Heap.get?_push_size _ rfl, rfl, rfl⟩, (hl1.push _)⟩ ?hS0 ?hR
        case hS0 =>
          have hget : ((s.heap.push { cls := .type "set", dict := none, data := .set #[] 0 (.fresh 0 0 (!w.params.followText "set-order")) }).push { cls := .type "list_iterator", data := .fields #[.ref l, .int 0 0] }).get? s.heap.objs.size
              = some { cls := .type "set", dict := none, data := .set #[] 0 (.fresh 0 0 (!w.params.followText "set-order")) } := Heap.get?_push_of_some _ hS
          exact ⟨0, Nat.le_refl 0, setR_new_at hget⟩
        case hR =>
          intro s' c' hm hc' hS'
          obtain ⟨h', g2, d', tk', os'⟩ := s'
          have eg : g2 = s.gens := hm.gens
          have ed : d' = s.drawn := hm.drawn
          have eo : os' = s.os := hm.os
          subst eg; subst ed; subst eo
          show wpAny _ _ _ _ _ _
          refine wpAny_pure ?_
          show wpAny _ _ (ret Value.none) _ _ _
          rw [hisz] at hc'
          refine wpAny_pure ⟨rfl, h', tk', c', rfl, hS', hc', fun b o e => ?_⟩
          have hb0 : b < s.heap.objs.size := Heap.lt_size e
          have hb1 : b ≠ s.heap.objs.size := Nat.ne_of_lt hb0
          have hb2 : b ≠ (s.heap.push { cls := .type "set", dict := none, data := .set #[] 0 (.fresh 0 0 (!w.params.followText "set-order")) }).objs.size := by
            rw [Heap.size_push]; exact Nat.ne_of_lt (Nat.lt_succ_of_lt hb0)
          exact hm.heap b o (by simp only [List.mem_cons, List.mem_singleton, List.not_mem_nil, or_false, not_or]; exact ⟨hb1, hb2⟩) (Heap.get?_push_of_some _ (Heap.get?_push_of_some _ e))

      · cases r₂ with
        | error e => exact hr₂
        | ok fl₂ =>
          cases fl₂ with
          | ret r =>
            obtain ⟨rfl, h', tk, c', rfl, hS', hc', hk'⟩ := hr₂
            repeat (any_goals (first | assumption | wp_step))
            exact h _ _ _ hS' hc' hk'
          | _ => exact hr₂.elim
    | _ => exact hr.elim
end
end MS

set_option Elab.async false
set_option linter.all false
set_option maxRecDepth 100000
set_option maxHeartbeats 4000000
/-! MS14: sorted(set(ints)). -/
namespace MS
open PySem PySem.Spec PyProof.Rows L2 MI
section
variable {X : Cx}
def rSetI (K : PySem.W.Frag) (w : World) : List V → Hp → VK → Prop := fun vs H Q => ∃ (a : Addr) (ns : List Int), vs = [V.ref a] ∧ (SqL K H a (ns.map V.int) ∨ SqT K H a (ns.map V.int)) ∧ ns.length < 64 ∧
  ∀ (p : Addr) (c : Nat), H p = none → c ≤ ns.length → Q (.ref p) (upd H p (SetO w p (fun j => decide (j ∈ ns)) c))
theorem cr_setI (hc : X.calm = true) : CallR X (.type "set") (rSetI X.K X.w) := by
  intro pins s σ H vs us Q I r h
  obtain ⟨a, ns, rfl, ha, hl, q⟩ := h
  rw [Vals.ref1 r]
  have fin : ∀ (h' : Heap) (tk c : Nat), SetR X.w h' s.heap.objs.size (fun j => decide (j ∈ ns)) c → c ≤ ns.length → (∀ b o, s.heap.get? b = some o → h'.get? b = some o) → EP X pins σ Q (.ref s.heap.objs.size) { s with heap := h', toks := tk } := fun h' tk c R hcn hk => by
    have hn : H s.heap.objs.size = none := I.hok.fresh (Nat.le_refl _)
    exact ⟨.ref _, _, I.laid (t' := tk) hk (Nat.le_refl _) (setO_new R), rfl, q _ c hn hcn⟩
  have hb : ns.length + 1 < scanBound := by unfold scanBound; omega
  rcases ha with ha | ha
  · obtain ⟨its, r, pl, hz⟩ := I.list ha
    exact call_set_lstI ns (I.ok.hd hc) pl.isList (by simpa using ints_of_vals r) hb fin
  · obtain ⟨its, r, pl, hz⟩ := I.tuple ha
    exact call_set_tupI ns (I.ok.hd hc) pl (by simpa using ints_of_vals r) hb fin
theorem rSortedSet_upd {w : World} {H1 : Hp} {p : Addr} {ns : List Int} {c : Nat} {Q : VK} (hp : H1 p = some (SetO w p (fun j => decide (j ∈ ns)) c)) (hc : c < 64)
    (h : ∀ q, H1 q = none → Q (.ref q) (upd H1 q (.lst ((sortI (dedI ns)).map V.int)))) : rSortedSet w [V.ref p] H1 Q :=
  ⟨p, _, c, rfl, hp, hc, fun ms q hlt hm _ hq => by
    have hnd : ms.Nodup := hlt.imp fun h => Int.ne_of_lt h
    have hp : ms.Perm (dedI ns) := (List.perm_ext_iff_of_nodup hnd (nodup_dedI ns)).mpr fun k => by
      rw [hm k, mem_dedI, decide_eq_true_eq]
    rw [sortI_unique hp (hlt.imp fun h => Int.le_of_lt h)]
    exact h q hq⟩
end
section
variable {K : PySem.W.Frag} {cl : Nat → Addr} {E : EX}
theorem s_sorS {w : World} : Ca1 K cl E bSorS (fun vs H Q => rSetI K w vs H fun u H2 => rSortedSet w [u] H2 (fz Q)) := by
  intro σ Q ρ H st v1 d1 A r1 h
  rcases seqOf_ok A r1 with q | ⟨a, vs, l, rfl, q, r, hs⟩
  · exact h.none (bnd_none q)
  · cases qi : ints? l with
    | none => exact h.none (by unfold bSorS; rw [bnd_inv q, qi]; rfl)
    | some ns =>
      have ev := ints_of qi r
      subst ev
      by_cases hl : ns.length < 64
      · have e : bSorS d1 st = some (.ok (.frz ((sortI (dedI ns)).map D.int)), st) := by unfold bSorS; rw [bnd_inv q, qi]; simp only [if_pos hl]; rfl
        refine ⟨a, ns, rfl, hs, hl, fun p c n hc => ?_⟩
        obtain ⟨A', g⟩ := A.side (o := SetO w p (fun j => decide (j ∈ ns)) c) n
        exact rSortedSet_upd upd_same (by omega) fun q' n' => rest_frz A' (ints_map _) (h.base g) e q' n'
      · exact h.none (by unfold bSorS; rw [bnd_inv q, qi]; simp only [if_neg hl]; rfl)
end
theorem B_set : bootBuiltins "set" = some (.type "set") := by decide +kernel
section
variable {X : Cx} {cl : Nat → Addr} {E : EX} {c : MI.Ctx} {e : Expr} {ga : SE} {p q pos qos : Pos}
theorem me_sorS (hc : X.calm = true) (hg : Gl X "sorted") (hm : X.mg "sorted" = none) (hg' : Gl X "set") (hm' : X.mg "set" = none) (ha : ME X cl E c e ga)
    (he : starEach [e] X.env = (false, eval e X.env) :: starEach [] X.env := by rfl)
    (he2 : starEach [Expr.Call (.Name "set" q) [e] [] qos] X.env = (false, eval (Expr.Call (.Name "set" q) [e] [] qos) X.env) :: starEach [] X.env := by rfl) :
    ME X cl E c (.Call (.Name "sorted" p) [.Call (.Name "set" q) [e] [] qos] [] pos) (eUn bSorS ga) :=
  peI (pe_callB (MS.CallR.fz (cr_sortedSet hc)) hg hm B_sorted (pa_cons (pe_callTy (cr_setI hc) hg' hm' B_set (pa_cons ha pa_nil he) (by decide +kernel) (by decide +kernel) he (by rfl)) pa_nil he2) (by decide +kernel) (by decide +kernel) he2 (by rfl))
    fun σ H Q h => tm_un (f := bSorS) (r := fun v H Q => rSetI X.K X.w [v] H fun u H2 => rSortedSet X.w [u] H2 (fz Q)) s_sorS h
end
end MS

set_option Elab.async false
set_option linter.all false
set_option maxRecDepth 100000
set_option maxHeartbeats 4000000
/-! MS15: texts, isinstance, f-strings, what is not covered. -/
namespace MS
open PySem PySem.Spec PyProof.Rows L2 MI
abbrev tlS (z : Str) : List Nat := z.cps.toList
theorem sD_tl (z : Str) : sD (tlS z) = z := by
  obtain ⟨c⟩ := z
  show (⟨c.toList.toArray⟩ : Str) = ⟨c⟩
  simp
theorem tl_sD (l : List Nat) : tlS (sD l) = l := by show l.toArray.toList = l; simp
theorem strI_eq (i : Int) : sD (strI i) = Str.ofString (toString i) := by
  rw [Str.ofString_eq_toList]; rfl
theorem sD_joinN (a : List Nat) : ∀ ys : List (List Nat), sD (joinN a ys) = Str.join (sD a) (ys.map sD)
  | [] => rfl
  | [x] => rfl
  | x :: y :: r => by
    rw [joinN, ← sD_app, ← sD_app, sD_joinN a (y :: r)]; rfl
/-! ### split -/
theorem splitC_ne (c : Nat) : ∀ l, splitC c l ≠ []
  | [] => by simp [splitC]
  | x :: r => by
    unfold splitC
    split
    · simp
    · split <;> simp
theorem splitC_free {c : Nat} : ∀ {p : List Nat}, c ∉ p → splitC c p = [p]
  | [], _ => rfl
  | x :: r, h => by
    have hx : ¬ x = c := fun e => h (by simp [e])
    have hr : c ∉ r := fun e => h (by simp [e])
    unfold splitC
    rw [if_neg hx, splitC_free hr]
theorem splitC_app {c : Nat} : ∀ {p : List Nat} (r : List Nat), c ∉ p → splitC c (p ++ c :: r) = p :: splitC c r
  | [], r, _ => by
    show splitC c (c :: r) = _
    rw [splitC, if_pos rfl]
  | x :: p, r, h => by
    have hx : ¬ x = c := fun e => h (by simp [e])
    have hr : c ∉ p := fun e => h (by simp [e])
    rw [List.cons_append, splitC, if_neg hx, splitC_app r hr]
theorem splitC_join (c : Nat) : ∀ {ps : List (List Nat)}, ps ≠ [] → (∀ p ∈ ps, c ∉ p) → splitC c (joinN [c] ps) = ps
  | [], h, _ => absurd rfl h
  | [p], _, h => splitC_free (h p (by simp))
  | p :: q :: r, _, h => by
    rw [joinN, List.append_assoc, List.singleton_append, splitC_app _ (h p (by simp)), splitC_join c (ps := q :: r) (by simp) fun z hz => h z (by simp [List.mem_cons.mp hz])]
theorem split_eq (l : List Nat) (c : Nat) : Txt.split (sD l) (sD [c]) = (splitC c l).map sD := by
  have hj := StrLaws.join_split (sD l) (sD [c])
  have hf := StrLaws.split_free (sD l) c
  have e1 : (Txt.split (sD l) (sD [c])) = ((Txt.split (sD l) (sD [c])).map tlS).map sD := by
    rw [List.map_map]
    exact ((List.map_congr_left fun z _ => sD_tl z).trans (List.map_id _)).symm
  have hne : (Txt.split (sD l) (sD [c])).map tlS ≠ [] := fun e => by
    have e' := List.map_eq_nil_iff.mp e
    unfold Txt.split at e'
    split at e'
    · cases e'
    · split at e'
      · cases e'
      · have := StrLaws.partsBetween_eq (sD l) (Builtin.Str.occurrences (sD l) (sD [c]) 0 (sD l).length ((sD l).length + 1)) (sD [c]).length
        rw [this] at e'
        obtain ⟨p, r, q⟩ := StrLaws.partsFrom_ne (sD l) (sD [c]).length 0 (Builtin.Str.occurrences (sD l) (sD [c]) 0 (sD l).length ((sD l).length + 1))
        rw [q] at e'
        cases e'
  have hl : joinN [c] ((Txt.split (sD l) (sD [c])).map tlS) = l := by
    apply sD_inj
    rw [sD_joinN, ← e1, hj]
  have := splitC_join c hne fun p hp => by
    obtain ⟨z, hz, rfl⟩ := List.mem_map.mp hp
    exact hf z hz
  rw [hl] at this
  rw [this, ← e1]
/-! ### values -/
section
variable {K : PySem.W.Frag} {cl : Nat → Addr} {E : EX}
theorem s_str : Ca1 K cl E bStr (fun xs H Q => (∃ i, xs = [.int i] ∧ i.natAbs.log2 < 1920 ∧ Q (.str (toString i)) H) ∨ ∃ a, xs = [.str a] ∧ Q (.str a) H) := by
  intro σ Q ρ H st v1 d1 A r1 h
  cases r1 with
  | int i =>
    by_cases hi : i.natAbs.log2 < 1920
    · refine .inl ⟨i, rfl, hi, ?_⟩
      have := h.ok (st' := st) (d := .str (strI i)) (v := .str (sD (strI i))) (by simp only [bStr, if_pos hi]) .refl A (.str _)
      rw [strI_eq] at this
      exact this
    · exact h.none (by simp only [bStr, if_neg hi])
  | str s => exact .inr ⟨sD s, rfl, h.ok (st' := st) rfl .refl A (.str _)⟩
  | _ => exact h.none rfl
theorem call_strA {X : Cx} : CallR X (.type "str") (fun xs H Q => (∃ i, xs = [.int i] ∧ i.natAbs.log2 < 1920 ∧ Q (.str (toString i)) H) ∨ ∃ a, xs = [.str a] ∧ Q (.str a) H) := fun pins s σ H xs us Q I r h => by
  rcases h with h | h
  · exact call_str_int pins s σ H xs us Q I r h
  · exact SkE.call_str_str pins s σ H xs us Q I r h
theorem strs_of {ρ : List Addr} {H : Hp} : ∀ {l : List D} {vs : List V} {ys : List (List Nat)}, MI.strs? l = some ys → RvL K H ρ vs l → vs = (ys.map sD).map V.str
  | [], _, _, h, r => by cases r; cases h; rfl
  | .str s :: l, _, ys, h, r => by
    cases r with
    | cons a b =>
      cases a
      simp only [MI.strs?, Option.map_eq_some_iff] at h
      obtain ⟨zs, hz, rfl⟩ := h
      rw [strs_of hz b]; rfl
  | .non :: _, _, _, h, _ => by cases h
  | .bl _ :: _, _, _, h, _ => by cases h
  | .int _ :: _, _, _, h, _ => by cases h
  | .tup _ :: _, _, _, h, _ => by cases h
  | .xtup _ :: _, _, _, h, _ => by cases h
  | .frz _ :: _, _, _, h, _ => by cases h
  | .loc _ :: _, _, _, h, _ => by cases h
theorem rvl_strs {ρ : List Addr} {H : Hp} : ∀ ys : List (List Nat), RvL K H ρ ((ys.map sD).map V.str) (ys.map D.str)
  | [] => .nil
  | y :: r => .cons (.str y) (rvl_strs r)
theorem sD_size (l : List Nat) : (sD l).length = l.length := by show l.toArray.size = l.length; simp
end
section
variable {X : Cx} {cl : Nat → Addr} {E : EX} {c : MI.Ctx}
theorem ty_str {a : List Nat} {H : Hp} : TyOk X "str" (.str (sD a)) H := .of rfl
theorem MtR.fz {id : String} {r : V → List V → Hp → VK → Prop} (h : MtR X id r) : MtR X id (fun x xs H Q => r x xs H (MS.fz Q)) := fun pins s σ H x xs v us Q I rx rs q => thn (h pins s σ H x xs v us _ I rx rs q) fun _ _ z => ep_fz z
theorem m_join : Mt1 X cl E "join" isStr mJoin := fun {ρ H st v d} A r => by
  cases r with
  | str a =>
    refine .inr ⟨rfl, "str", "str.join", _, ⟨PySem.F.plainAttrs_str, PySem.F.slot_str_join, PySem.F.type_str_join, mt_join⟩, ty_str, fun {σ Q ρ1 H1 st1 y z} A1 r1 r2 h => ?_⟩
    rcases seqOf_ok A1 r2 with q | ⟨p, vs, l, rfl, q, rl, hs⟩
    · exact h.none (by unfold mJoin; exact bnd_none q)
    · cases qs : MI.strs? l with
      | none => exact h.none (by unfold mJoin; rw [bnd_inv q]; simp only [qs]; rfl)
      | some ys =>
        have ev := strs_of qs rl
        subst ev
        by_cases hl : (ys.map (·.length)).sum + ys.length * a.length < lim
        · refine ⟨sD a, p, ys.map sD, rfl, rfl, hs, ?_, ?_⟩
          · rw [List.map_map, List.length_map, sD_size]
            have e : (ys.map ((·.length) ∘ sD)) = ys.map (·.length) := List.map_congr_left fun y _ => sD_size y
            rw [e]
            exact Nat.le_of_lt hl
          · have := h.ok (st' := st1) (d := .str (joinN a ys)) (v := .str (sD (joinN a ys))) (by unfold mJoin; rw [bnd_inv q]; simp only [qs, if_pos hl]; rfl) .refl A1 (.str _)
            rw [sD_joinN, ← StrLaws.glued_eq_join] at this
            exact this
        · exact h.none (by unfold mJoin; rw [bnd_inv q]; simp only [qs, if_neg hl]; rfl)
  | _ => exact .inl rfl
theorem m_split : Mt1 X cl E "split" isStr mSplit := fun {ρ H st v d} A r => by
  cases r with
  | str a =>
    refine .inr ⟨rfl, "str", "str.split", _, ⟨PySem.F.plainAttrs_str, PySem.F.slot_str_split, PySem.F.type_str_split, MtR.fz mt_split⟩, ty_str, fun {σ Q ρ1 H1 st1 y z} A1 r1 r2 h => ?_⟩
    cases r2 with
    | str b =>
      match b with
      | [c] =>
        by_cases hl : a.length + 2 < lim
        · refine ⟨sD a, sD [c], rfl, rfl, rfl, by rw [sD_size, sizeLine_eq]; have : (lim : Nat) = 16777216 := rfl; omega, fun p hp => ?_⟩
          rw [split_eq]
          exact rest_frz A1 (rvl_strs _) h (by simp only [mSplit, if_pos hl]) p hp
        · exact h.none (by simp only [mSplit, if_neg hl])
      | [] => exact h.none rfl
      | _ :: _ :: _ => exact h.none rfl
    | _ => exact h.none rfl
  | _ => exact .inl rfl
theorem lstrip_eq (a b : List Nat) : Txt.lstripChars (sD a) (sD b) = sD (a.dropWhile fun c => b.contains c) := by
  have e0 : ∀ c, (sD b).cps.contains c = b.contains c := fun c => by
    show b.toArray.contains c = b.contains c
    simp
  show Txt.stripBy (sD b).cps.contains true false (sD a) = _
  rw [PyProof.Rows.stripBy_eq]
  have hi : ∀ lo, PySem.stripHi (sD b).cps.contains false (sD a) lo = (sD a).length := fun lo => rfl
  rw [hi]
  obtain ⟨h1, h2, h3⟩ := PyProof.Rows.lo_facts (sD b).cps.contains (sD a)
  generalize PySem.stripLo (sD b).cps.contains true (sD a) = lo at h1 h2 h3
  rw [sD_size] at h1 h3 ⊢
  have gd : ∀ k, (sD a).cps.getD k 0 = a.getD k 0 := fun k => by rw [← PyProof.Rows.getD_list]
  have drop : ∀ (a : List Nat) (lo : Nat), lo ≤ a.length → (∀ k, k < lo → b.contains (a.getD k 0) = true) → (lo = a.length ∨ b.contains (a.getD lo 0) = false) → a.drop lo = a.dropWhile fun c => b.contains c := by
    intro a
    induction a with
    | nil => intro lo h _ _; simp at h; subst h; rfl
    | cons x r ih =>
      intro lo h1 h2 h3
      cases lo with
      | zero =>
        rcases h3 with h3 | h3
        · simp at h3
        · have : b.contains x = false := by simpa using h3
          rw [List.dropWhile_cons, if_neg (by rw [this]; decide)]; rfl
      | succ lo =>
        have hx : b.contains x = true := by simpa using h2 0 (by omega)
        rw [List.drop_succ_cons, List.dropWhile_cons, if_pos hx]
        exact ih lo (by simpa using h1) (fun k hk => by simpa using h2 (k + 1) (by omega)) (by simpa using h3)
  have := drop a lo h1 (fun k hk => by have := h2 k hk; rw [e0, gd] at this; exact this) (by
    rcases h3 with h3 | h3
    · exact .inl h3
    · right; rw [e0, gd] at h3; exact h3)
  rw [← this]
  apply Str.ext'
  apply Array.toList_inj.mp
  rw [StrLaws.strSub_toList]
  show ((tlS (sD a)).drop lo).take (a.length - lo) = tlS (sD (a.drop lo))
  rw [tl_sD, tl_sD, List.take_of_length_le (by simp)]
theorem m_lstrip : Mt1 X cl E "lstrip" isStr mLstrip := fun {ρ H st v d} A r => by
  cases r with
  | str a =>
    refine .inr ⟨rfl, "str", "str.lstrip", _, ⟨PySem.F.plainAttrs_str, PySem.F.slot_str_lstrip, PySem.F.type_str_lstrip, mt_lstripChars⟩, ty_str, fun {σ Q ρ1 H1 st1 y z} A1 r1 r2 h => ?_⟩
    cases r2 with
    | str b =>
      by_cases hl : a.length < lim
      · refine ⟨sD a, sD b, rfl, rfl, by rw [sD_size]; exact lim_size hl, ?_⟩
        rw [lstrip_eq]
        exact h.ok (st' := st1) (by simp only [mLstrip, if_pos hl]) .refl A1 (.str _)
      · exact h.none (by simp only [mLstrip, if_neg hl])
    | _ => exact h.none rfl
  | _ => exact .inl rfl
theorem index0_eq {a : List Nat} {c : Nat} (h : a.contains c = true) : Txt.index0 (sD a) (sD [c]) = some (a.idxOf c) := by
  have hm : c ∈ a := by simpa using h
  have one : ∀ i, StrLaws.At (sD a) ⟨#[c]⟩ (sD a).length i ↔ a[i]? = some c := fun i => by
    have := StrLaws.subAt_one (sD a) c i
    show (i + (⟨#[c]⟩ : Str).length ≤ (sD a).length ∧ Builtin.Str.subAt (sD a) ⟨#[c]⟩ i = true) ↔ _
    rw [this]
  rcases StrLaws.occ_head (sD a) ⟨#[c]⟩ 1 (Nat.le_refl 1) with ⟨_, hn⟩ | ⟨i, r, e, hi, hk⟩
  · obtain ⟨i, hi⟩ := List.getElem?_of_mem hm
    exact absurd ((one i).mpr hi) (hn i)
  · have e2 : Txt.index0 (sD a) (sD [c]) = some i := by
      show (Builtin.Str.occurrences (sD a) ⟨#[c]⟩ 0 (sD a).length 1).head? = some i
      rw [e]; rfl
    rw [e2]
    congr 1
    have hi' := (one i).mp hi
    obtain ⟨hl, he⟩ := List.getElem?_eq_some_iff.mp hi'
    symm
    show a.findIdx (· == c) = i
    rw [List.findIdx_eq hl]
    refine ⟨by simp [he], fun j hj => ?_⟩
    have := fun q => hk j hj ((one j).mpr q)
    have hjl : j < a.length := by omega
    rw [List.getElem?_eq_getElem hjl] at this
    simp only [Option.some.injEq] at this
    simpa using this
theorem mt_index1 : MtR X "str.index" (fun x xs H Q => ∃ a b, x = V.str a ∧ xs = [V.str b] ∧ ∃ k, Txt.index0 a b = some k ∧ Q (.int (k : Nat)) H) := fun pins s σ H x xs v us Q I rx rs h => by
  obtain ⟨a, b, rfl, rfl, k, e, w⟩ := h
  obtain ⟨t, rfl⟩ := rx
  cases rs with
  | cons r1 rs =>
    cases rs
    obtain ⟨u, rfl⟩ := r1
    unfold Txt.index0 at e
    cases q : Builtin.Str.occurrences a b 0 a.length 1 with
    | nil => rw [q] at e; cases e
    | cons j rest =>
      rw [q] at e
      cases e
      exact PySem.SC.index q ⟨.int (k : Nat), H, I.tok _, ⟨_, rfl⟩, w⟩
theorem m_indexS : Mt1 X cl E "index" isStr mIndexS := fun {ρ H st v d} A r => by
  cases r with
  | str a =>
    refine .inr ⟨rfl, "str", "str.index", _, ⟨PySem.F.plainAttrs_str, PySem.F.slot_str_index, PySem.F.type_str_index, mt_index1⟩, ty_str, fun {σ Q ρ1 H1 st1 y z} A1 r1 r2 h => ?_⟩
    cases r2 with
    | str b =>
      match b with
      | [k] =>
        by_cases hl : a.contains k = true
        · exact ⟨sD a, sD [k], rfl, rfl, _, index0_eq hl, h.ok (st' := st1) (by simp only [mIndexS, if_pos hl]) .refl A1 (.int _)⟩
        · exact h.none (by simp only [mIndexS, if_neg hl])
      | [] => exact h.none rfl
      | _ :: _ :: _ => exact h.none rfl
    | _ => exact h.none rfl
  | _ => exact .inl rfl
/-! ### isinstance -/
def kdT : Kd → String
  | .int => "int"
  | .bool => "bool"
  | .str => "str"
  | .tup => "tuple"
theorem tyx_of {H : Hp} {ρ : List Addr} {v : V} {d : D} {k : Kd} {b : Bool} (r : Rv X.K H ρ v d) (e : k.has d = some b) : ∃ t, TyX X.K H v t ∧ PySem.W.kitOne X.K t (.type (kdT k)) = some b := by
  cases r with
  | non => exact ⟨_, .base .non, by cases k <;> cases e <;> exact kit_ty (by decide +kernel)⟩
  | bl x => exact ⟨_, .base (.bl x), by cases k <;> cases e <;> exact kit_ty (by decide +kernel)⟩
  | int x => exact ⟨_, .base (.int x), by cases k <;> cases e <;> exact kit_ty (by decide +kernel)⟩
  | str x => exact ⟨_, .base (.str _), by cases k <;> cases e <;> exact kit_ty (by decide +kernel)⟩
  | @tup a vs l hs rl =>
    have : TyX X.K H (.ref a) (.type "tuple") := by
      rcases hs with (h | ⟨o, h⟩) | ⟨o, _, _, e1, e2, _⟩
      · exact .base (.tup h)
      · exact .fTuple h
      · exact .kTuple e1 e2
    exact ⟨_, this, by cases k <;> cases e <;> exact kit_ty (by decide +kernel)⟩
  | _ => cases e
theorem me_isI {e : Expr} {ga : SE} {x : Str} {p q pos : Pos} (k : Kd) (hk : x = Str.ofString (kdT k)) (hg : Gl X "isinstance") (hm : X.mg "isinstance" = none) (hg2 : Gl X x) (hm2 : X.mg x = none) (ha : ME X cl E c e ga)
    (he : starEach [e, .Name x q] X.env = (false, eval e X.env) :: starEach [.Name x q] X.env := by rfl) (he2 : starEach [Expr.Name x q] X.env = (false, eval (.Name x q) X.env) :: starEach [] X.env := by rfl) (hpl : (backTo pos (starEach [Expr.Name x q] X.env)).any (·.1) = false := by rfl) :
    ME X cl E c (.Call (.Name "isinstance" p) [e, .Name x q] [] pos) (eUn (bIsI k) ga) := by
  have hb : bootBuiltins x = some (.type (kdT k)) := by subst hk; cases k <;> decide +kernel
  have hn : x ≠ "__name__" := by subst hk; cases k <;> decide +kernel
  have hd : (x == ("__debug__" : Str)) = false := by subst hk; cases k <;> decide +kernel
  refine peI (pe_callB call_isi hg hm (by decide +kernel) (pa_cons ha (pa_cons (pe_bltn hg2 hm2 hb (v := .ty (kdT k)) rfl hn hd) pa_nil he2) he) (by decide +kernel) (by decide +kernel) he hpl) fun σ H Q h => ?_
  have hs : UnS X.K cl E (bIsI k) (fun v H Q => rIsi X.K [v, .ty (kdT k)] H Q) := by
    intro σ Q ρ H st v1 d1 A r1 h
    cases qk : k.has d1 with
    | none => exact h.none (by simp only [bIsI, qk])
    | some b =>
      obtain ⟨t, ty, kit⟩ := tyx_of r1 qk
      exact ⟨v1, .ty (kdT k), t, _, b, rfl, .ty _, ty, kit, h.ok (st' := st) (d := .bl b) (by simp only [bIsI, qk]) .refl A (.bl b)⟩
  exact tm_un hs h
/-! ### what is not covered -/
theorem ms_none {s : Stmt} : MST X cl E c s sNone := ⟨fun pins s σ H D I ⟨ρ, env, st, A, e, h⟩ => h.elim⟩
theorem me_none {e : Expr} : ME X cl E c e eNone := ⟨fun pins s σ H Q I ⟨ρ, env, st, A, e, h⟩ => h.none rfl⟩
/-! ### f-strings -/
theorem me_fmt {e : Expr} {ga : SE} {pos : Pos} (ha : ME X cl E c e ga) : ME X cl E c (.FormattedValue e (-1) none pos) (eUn opFmt ga) := peI (pe_fmt ha) fun σ H Q h => by
  obtain ⟨ρ, env, st, A, e, h⟩ := h
  refine (Rest.step (g := ga c) (rV X.K) A e h).imp fun v1 H1 ⟨ρ1, st1, d1, g1, A1, r1, h1⟩ => ?_
  cases r1 with
  | int i =>
    by_cases hi : i.natAbs.log2 < 1920
    · refine .inr ⟨i, rfl, hi, ?_⟩
      have := h1.ok (st' := st1) (d := .str (strI i)) (v := .str (sD (strI i))) (by simp only [opFmt, if_pos hi]) .refl A1 (.str _)
      rw [strI_eq] at this
      exact this
    · exact h1.none (by simp only [opFmt, if_neg hi])
  | str s =>
    by_cases hl : s.length < lim
    · exact .inl ⟨sD s, rfl, by rw [sD_size]; exact lim_size hl, h1.ok (st' := st1) (by simp only [opFmt, if_pos hl]) .refl A1 (.str _)⟩
    · exact h1.none (by simp only [opFmt, if_neg hl])
  | _ => exact h1.none rfl
/-- the parts, one behind another -/
inductive MJ (X : Cx) (cl : Nat → Addr) (E : EX) (c : MI.Ctx) : List Expr → List SE → Prop where
  | nil : MJ X cl E c [] []
  | cons {e : Expr} {ga : SE} {es : List Expr} {gs : List SE} (h : ME X cl E c e ga) (r : MJ X cl E c es gs) : MJ X cl E c (e :: es) (ga :: gs)
theorem mj_pj {es : List Expr} {gs : List SE} (h : MJ X cl E c es gs) : PJ X es (gs.map fun g => TM X.K cl E (rV X.K) (g c)) := by
  induction h with
  | nil => exact .nil
  | cons h _ ih => exact .cons h ih
theorem mj_run {σ : L2.St} {Q : VK} : ∀ (gs : List SE) (acc : List Nat) {H : Hp}, TM X.K cl E (rV X.K) (eFsL gs acc c) σ H Q → tJs (gs.map fun g => TM X.K cl E (rV X.K) (g c)) (sD acc) σ H fun out H1 => Q (.str out) H1
  | [], acc, H, ⟨ρ, env, st, A, e, h⟩ => h.ok (st' := st) rfl .refl A (.str acc)
  | g :: gs, acc, H, ⟨ρ, env, st, A, e, h⟩ => (Rest.step (g := g c) (rV X.K) A e h).imp fun v1 H1 ⟨ρ1, st1, d1, g1, A1, r1, h1⟩ => by
    cases r1 with
    | str y =>
      by_cases hl : acc.length + y.length < lim
      · simp only [if_pos hl] at h1
        refine ⟨sD y, rfl, ?_, ?_⟩
        · rw [sD_app, sD_size, List.length_append]; exact lim_size hl
        · rw [sD_app]
          exact mj_run gs (acc ++ y) ⟨ρ1, env, st1, A1, e.grow A g1, h1⟩
      · simp only [if_neg hl] at h1
        exact h1.none rfl
    | _ => exact h1.none rfl
theorem me_fs {e e' : Expr} {es : List Expr} {ga gb : SE} {gs : List SE} {pos : Pos} (h : MJ X cl E c (e :: e' :: es) (ga :: gb :: gs)) : ME X cl E c (.JoinedStr (e :: e' :: es) pos) (eFs (ga :: gb :: gs)) :=
  peI (pe_joined (mj_pj h)) fun σ H Q h => mj_run (ga :: gb :: gs) [] h
/-! ### o.f as a target -/
theorem pg_fld {o : Expr} {to : TE} {f : Str} {pos : Pos} (ho : PE X o to) : PG X (.Attribute o f pos) (fun v σ H Q => to σ H fun x H1 => ∃ a C dx fs, x = .ref a ∧ H1 a = some (.ins C dx fs) ∧ Cls X.K C ∧ NoAttr X.K C f ∧ fs.length < 1000 ∧ Q σ (upd H1 a (.ins C dx (L2.putF f v fs)))) := by
  refine ⟨fun pins s σ H v u Q I r h => ?_⟩
  rw [assign_Attribute]
  refine wpAny_bind (wpAny_holding (thn (ho.run pins s σ H _ I h) fun ov s1 ⟨x, H1, I1, r1, a, C, dx, fs, ex, ea, hc, n, l, q⟩ => ?_))
  subst ex
  obtain rfl : ov = Value.ref a := r1
  refine wpAny_bind (wpAny_standAt (wpAny_bind (wpAny_holding (setattr_ok I1 ea hc n l r fun s3 I3 => ?_))))
  exact wpAny_release ⟨σ, _, I3, q⟩
theorem mg_fld {W : WX} {lv : Nat} {o : Expr} {ga : SE} {f : Str} {pos : Pos} (G : Good X W cl c lv) (n : List Nat) (hn : f = sD n) (ha : ME X cl (fun _ _ _ _ _ _ => False) c o ga) : MG X cl c (.Attribute o f pos) (MI.gFld ga n) :=
  pgI (pg_fld ha) fun v σ H Q ⟨ρ, env, st, d, A, e, r, h⟩ => by
    subst hn
    refine (RestG.step (x := ga c) (rV X.K) A e h).imp fun v1 H1 ⟨ρ1, st1, d1, g1, A1, r1, h1⟩ => ?_
    cases r1 with
    | @loc p i hp =>
      cases q : setFld c i n d st1 with
      | none => simp only [q] at h1; exact h1.elim
      | some st3 =>
        simp only [q] at h1
        obtain ⟨C, dx, fs, q1, q2, q3, q4, A3, g3⟩ := setFld_at G A1 hp (r.grow A g1) q
        exact ⟨p, C, dx, fs, rfl, q1, q2, q3, q4, h1 _ _ σ g3 A3 ((e.grow A g1).grow A1 g3)⟩
    | _ => exact h1.elim
end
end MS

set_option Elab.async false
set_option linter.all false
set_option maxRecDepth 100000
set_option maxHeartbeats 4000000
/-! MS16: repr. -/
namespace MS
open PySem PySem.Spec PyProof.Rows L2 MI
mutual
theorem toPyN_eq : ∀ d : D, toPyN d = toPy d
  | .non => rfl
  | .bl _ => rfl
  | .int _ => rfl
  | .str _ => rfl
  | .loc _ => rfl
  | .tup l => by simp only [toPyN, toPy, toPyNs_eq l]
  | .frz l => by simp only [toPyN, toPy, toPyNs_eq l]
  | .xtup l => by simp only [toPyN, toPy, toPyNs_eq l]
theorem toPyNs_eq : ∀ l : List D, toPyNs l = toPys l
  | [] => rfl
  | x :: xs => by simp only [toPyNs, toPys, toPyN_eq x, toPyNs_eq xs]
end
mutual
theorem cost_ok : ∀ (n : Nat) (d : D), D.ok n d = true → (toPy d).shown.length ≤ D.cost d
  | _, .non, _ => by show ("None" : Str).length ≤ 4; decide +kernel
  | _, .bl b, _ => by cases b <;> (show Str.length _ ≤ 5; decide +kernel)
  | _, .int i, _ => by
    show (Str.ofString (toString i)).length ≤ i.natAbs.log2 + 2
    rw [PySem.ofString_length]
    exact int_text_length_le (k := i.natAbs.log2 + 1) (by omega) (by omega)
  | _, .str s, h => by
    have hc : ∀ c ∈ (sD s).cps.toList, c < 16 ^ 8 := fun c hc => by
      have e : c ∈ s := by
        have := tl_sD s
        show c ∈ s
        rw [← this]; exact hc
      simp only [D.ok, List.all_eq_true, decide_eq_true_eq] at h
      have := h c e
      omega
    have := StrLaws.reprText_len (sD s) hc
    rw [sD_size] at this
    exact this
  | 0, .tup _, h => by simp [D.ok] at h
  | n + 1, .tup l, h => by
    simp only [D.ok, Bool.and_eq_true] at h
    show (tupleText (PyData.shownAll (toPys l))).length ≤ D.costL l + 3
    have := PySem.tupleText_len_le (PyData.shownAll (toPys l))
    have := costL_ok n l h.2
    omega
  | 0, .xtup _, h => by simp [D.ok] at h
  | n + 1, .xtup l, h => by
    simp only [D.ok, Bool.and_eq_true] at h
    show (tupleText (PyData.shownAll (toPys l))).length ≤ D.costL l + 3
    have := PySem.tupleText_len_le (PyData.shownAll (toPys l))
    have := costL_ok n l h.2
    omega
  | 0, .frz _, h => by simp [D.ok] at h
  | n + 1, .frz l, h => by
    simp only [D.ok, Bool.and_eq_true] at h
    show (listText (PyData.shownAll (toPys l))).length ≤ D.costL l + 3
    have := PySem.listText_len_le (PyData.shownAll (toPys l))
    have := costL_ok n l h.2
    omega
  | _, .loc _, h => by simp [D.ok] at h
theorem costL_ok : ∀ (n : Nat) (l : List D), D.okL n l = true → ((PyData.shownAll (toPys l)).map (·.length)).sum + 2 * (PyData.shownAll (toPys l)).length ≤ D.costL l
  | _, [], _ => by simp [toPys, PyData.shownAll, D.costL]
  | n, x :: xs, h => by
    simp only [D.okL, Bool.and_eq_true] at h
    have h1 := cost_ok n x h.1
    have h2 := costL_ok n xs h.2
    simp only [toPys, PyData.shownAll, List.map_cons, List.sum_cons, List.length_cons, D.costL]
    omega
end
mutual
theorem shw_ok : ∀ d : D, D.shw d = true → (toPy d).showable = true ∧ (toPy d).hasDict = false
  | .non, _ => by simp [toPy, PyData.showable, PyData.hasDict]
  | .bl _, _ => by simp [toPy, PyData.showable, PyData.hasDict]
  | .int i, h => by
    simp only [D.shw] at h
    simp [toPy, PyData.showable, PyData.hasDict]
    simpa using h
  | .str _, _ => by simp [toPy, PyData.showable, PyData.hasDict]
  | .loc _, _ => by simp [toPy, PyData.showable, PyData.hasDict]
  | .tup l, h => by
    simp only [D.shw] at h
    have := shwL_ok l h
    simp [toPy, PyData.showable, PyData.hasDict, this]
  | .xtup l, h => by
    simp only [D.shw] at h
    have := shwL_ok l h
    simp [toPy, PyData.showable, PyData.hasDict, this]
  | .frz l, h => by
    simp only [D.shw] at h
    have := shwL_ok l h
    simp [toPy, PyData.showable, PyData.hasDict, this]
theorem shwL_ok : ∀ l : List D, D.shwL l = true → PyData.showableAll (toPys l) = true ∧ PyData.hasDictAll (toPys l) = false
  | [], _ => by simp [toPys, PyData.showableAll, PyData.hasDictAll]
  | x :: xs, h => by
    simp only [D.shwL, Bool.and_eq_true] at h
    have h1 := shw_ok x h.1
    have h2 := shwL_ok xs h.2
    simp [toPys, PyData.showableAll, PyData.hasDictAll, h1, h2]
end
def rRepr (K : PySem.W.Frag) : List V → Hp → VK → Prop := fun xs H Q => ∃ v d, xs = [v] ∧ Dp K H v d ∧ d.showable = true ∧ d.hasDict = false ∧ d.depth ≤ 60 ∧ d.shown.length ≤ sizeLine ∧ Q (.str d.shown) H
theorem call_reprD {X : Cx} (hg : X.A.guards = some []) (hu : X.A.units + 65 < cLine) : CallR X (.builtin "repr") (rRepr X.K) := by
  intro pins s σ H xs us Q I r h
  obtain ⟨v, d, rfl, hd, h1, h2, h3, h4, q⟩ := h
  obtain ⟨u, rfl, ru⟩ := Vals.one r
  obtain ⟨as, rd⟩ := Dp.reads I d v u hd ru
  have fin : ∀ (h' : Heap) (t tk : Nat), (∀ b o, s.heap.get? b = some o → h'.get? b = some o) → EP X pins σ Q (.str d.shown t) { s with heap := h', toks := tk } := fun h' t tk k => ⟨.str d.shown, H, I.kept k, ⟨t, rfl⟩, q⟩
  have fin0 : ∀ (t tk : Nat), EP X pins σ Q (.str d.shown t) { s with toks := tk } := fun t tk => ⟨.str d.shown, H, I.kept (h' := s.heap) fun _ _ e => e, ⟨t, rfl⟩, q⟩
  cases hd with
  | non =>
    obtain rfl : u = .none := ru
    exact PySem.P.repr_of_none (fin0 _ _)
  | bl b =>
    obtain rfl : u = .bool b := ru
    have := @PySem.P.repr_of_bool
    exact PySem.P.repr_of_bool (fin0 _ _)
  | int i =>
    obtain ⟨t, rfl⟩ := ru
    exact PySem.P.repr_of_int (by simpa [PyData.showable] using h1) (fin0 _ _)
  | str x =>
    obtain ⟨t, rfl⟩ := ru
    exact PySem.P.repr_of_str (fin0 _ _) h4
  | lst _ _ =>
    cases ru
    exact repr_of_reads' rd h1 (fun z => by rw [h2] at z; cases z) hg (by omega) (fun _ _ e => e) (fun h' u tk k => fin h' u tk k) h4
  | tup _ _ =>
    cases ru
    exact repr_of_reads' rd h1 (fun z => by rw [h2] at z; cases z) hg (by omega) (fun _ _ e => e) (fun h' u tk k => fin h' u tk k) h4
theorem B_repr : bootBuiltins "repr" = some (.builtin "repr") := by decide +kernel
theorem B_str : bootBuiltins "str" = some (.type "str") := by decide +kernel
section
variable {K : PySem.W.Frag} {cl : Nat → Addr} {E : EX}
theorem s_repr : Ca1 K cl E bRepr (rRepr K) := by
  intro σ Q ρ H st v1 d1 A r1 h
  rcases dat_ok A r1 with qd | ⟨e, qd, hdp⟩
  · exact h.none (by simp only [bRepr, qd])
  · by_cases ho : reprOk e = true
    · have e1 : bRepr d1 st = some (.ok (.str (reprN e)), st) := by simp only [bRepr, qd, if_pos ho]
      unfold reprOk at ho
      simp only [Bool.and_eq_true, decide_eq_true_eq] at ho
      obtain ⟨⟨o1, o2⟩, o3⟩ := ho
      have hl := lay_of _ _ o1
      have hs := shw_ok _ o2
      have hc := cost_ok _ _ o1
      refine ⟨v1, toPy e, rfl, hdp o1, hs.1, hs.2, Nat.le_trans hl.2 (by decide), by rw [sizeLine_eq]; omega, ?_⟩
      have := h.ok (st' := st) (v := .str (sD (reprN e))) e1 .refl A (.str _)
      unfold reprN at this
      rw [toPyN_eq] at this
      rw [show sD ((toPy e).shown.cps.toList) = (toPy e).shown from sD_tl _] at this
      exact this
    · exact h.none (by simp only [bRepr, qd, if_neg ho])
end
end MS

set_option Elab.async false
set_option linter.all false
set_option maxRecDepth 100000
set_option maxHeartbeats 4000000
/-! MS17: C() without arguments. -/
namespace MS
open PySem PySem.Spec PyProof.Rows L2 MI

section
variable {X : Cx} {W : WX} {cl : Nat → Addr} {c : MI.Ctx} {lv : Nat} {x m : Str} {p pos apos : Pos} {e o : Expr} {es : List Expr} {gl : SL} {ga : SE}
theorem me_make0 {k f : Nat} (G : Good X W cl c lv) (F : ClG X cl c lv x k f) (hg : Gl X x) (hdb : (x == ("__debug__" : Str)) = false := by decide +kernel) :
    ME X cl (EXW X.K cl W) c (.Call (.Name x p) [] [] pos) (eMake k f lNil) := by
  obtain ⟨hm, hC, fA, M, fd, ps, F, hb, hk, ar⟩ := F
  refine ⟨fun pins s σ H Q I h => ?_⟩
  obtain ⟨ρ, env, st, A, e', h⟩ := h
  refine wpAny_Call_Name_kw (ld_glob I hg hm ?_ hdb)
  refine PySem.W.callWith_K0 I.kIn M.kp ?_
  have h1 : Rest X.K cl (EXW X.K cl W) (rV X.K) σ Q (bnd (new (.ins k [])) fun o => bnd (c.call f (o :: [])) (mkEnd o)) ρ H st := h.eq rfl
  have A1 := A
  have r : Vals ([] : List V) ([] : List Value) := .nil
  have r1 : RvL X.K H ρ [] [] := .nil
  refine run_makeS G.gd G.tk M F G.room hb I r fun x dx nx ndx nex => ?_
  obtain ⟨A2, g2⟩ := A1.side (o := .own x) ndx
  have nx2 : upd H dx (.own x) x = none := by rw [upd_ne (fun q => nex q.symm)]; exact nx
  obtain ⟨A3, g3⟩ := A2.push (o := .ins (cl k) dx []) (ob := .ins k []) nx2 (.ins upd_same .nil hC (fun p hp => by cases hp))
  have g23 := g2.trans g3
  have r3 : RvL X.K (upd (upd H dx (.own x)) x (.ins (cl k) dx [])) (ρ ++ [x]) (.ref x :: []) (.loc st.length :: []) := .cons (.loc (by rw [← A1.len]; simp)) (r1.grow A1 g23)
  have h2 : Rest X.K cl (EXW X.K cl W) (rV X.K) σ Q (bnd (c.call f (.loc st.length :: [])) (mkEnd (D.loc st.length))) (ρ ++ [x]) (upd (upd H dx (.own x)) x (.ins (cl k) dx [])) (st ++ [.ins k []]) := by
    rcases h1 with ⟨d, st', q, kk⟩ | ⟨kc, fs, st', q, kk⟩
    · exact .inl ⟨d, st', q, fun ρ' H' v g' A' r' => kk ρ' H' v (g23.trans g') A' r'⟩
    · exact .inr ⟨kc, fs, st', q, fun ρ' H' g' A' => kk ρ' H' (g23.trans g') A'⟩
  -- the def's own promise, and what is wanted behind it
  have hlen : (.ref x :: [] : List V).length = ps.length := by
    rw [r3.length]
    rcases h2 with ⟨d, st', q, _⟩ | ⟨kc, fs, st', q, _⟩
    all_goals
      unfold bnd at q
      cases qq : c.call f (.loc st.length :: []) (st ++ [.ins k []]) with
      | none => rw [qq] at q; cases q
      | some rr => exact ar _ _ _ qq
  refine ⟨hlen, ρ ++ [x], _, st ++ [.ins k []], A3, r3, ?_⟩
  have step : ∀ rr, bnd (c.call f (.loc st.length :: [])) (mkEnd (D.loc st.length)) (st ++ [.ins k []]) = some rr →
      (∃ s3, c.call f (.loc st.length :: []) (st ++ [.ins k []]) = some (.ok .non, s3) ∧ rr = (.ok (.loc st.length), s3)) ∨ (∃ kc fs s3, c.call f (.loc st.length :: []) (st ++ [.ins k []]) = some (.exc kc fs, s3) ∧ rr = (.exc kc fs, s3)) := fun rr q => by
    unfold bnd at q
    cases qq : c.call f (.loc st.length :: []) (st ++ [.ins k []]) with
    | none => rw [qq] at q; cases q
    | some pr =>
      obtain ⟨rs, s3⟩ := pr
      rw [qq] at q
      cases rs with
      | exc kc fs => exact .inr ⟨kc, fs, s3, rfl, (Option.some.inj q).symm⟩
      | ok z =>
        cases z with
        | non => exact .inl ⟨s3, rfl, (Option.some.inj q).symm⟩
        | _ => cases q
  rcases h2 with ⟨d, st', q, kk⟩ | ⟨kc, fs, st', q, kk⟩
  · rcases step _ q with ⟨s3, q1, q2⟩ | ⟨kc, fs, s3, q1, q2⟩
    · cases q2
      refine .inl ⟨.non, st', q1, fun ρ' H' v g' A' r' => ?_⟩
      cases r'
      refine ⟨rfl, kk ρ' H' _ g' A' ?_⟩
      obtain ⟨ee, rfl⟩ := g'.ext
      exact .loc (by rw [← A1.len]; simp)
    · cases q2
  · rcases step _ q with ⟨s3, q1, q2⟩ | ⟨kc', fs', s3, q1, q2⟩
    · cases q2
    · cases q2
      exact .inr ⟨_, _, _, q1, kk⟩
end
end MS

set_option Elab.async false
set_option linter.all false
set_option maxRecDepth 100000
set_option maxHeartbeats 4000000
/-! MS18: exceptions that are raised. -/
namespace MS
open PySem PySem.Spec PyProof.Rows L2 MI
section
variable {K : PySem.W.Frag} {cl : Nat → Addr} {H H' : Hp} {ρ : List Addr} {st : Stt}
theorem At.kept (A : At K cl ρ H st) (k : Keep K H H') (q : ∀ b ∈ ρ, H' b = H b) : At K cl ρ H' st :=
  ⟨A.len, A.nd, fun n a o h1 h2 => by simpa using (A.obj n a o h1 h2).keep k [] (q a (List.mem_of_getElem? h1))⟩
theorem Keep.of {H H' : Hp} (h : ∀ b (o : HO), H b = some o → ((∃ xs, o = .tup xs) ∨ ∃ ob u, o = .frz ob u) → H' b = some o) : Keep K H H' where
  t := fun b vs z => by
    rcases z with (z | ⟨o, z⟩) | z
    · exact .inl (.inl (h b _ z (.inl ⟨_, rfl⟩)))
    · exact .inl (.inr ⟨o, h b _ z (.inr ⟨_, _, rfl⟩)⟩)
    · exact .inr z
  f := fun b vs z => by
    rcases z with ⟨o, z⟩ | z
    · exact .inl ⟨o, h b _ z (.inr ⟨_, _, rfl⟩)⟩
    · exact .inr z
  x := fun b vs ⟨o, z, q⟩ => ⟨o, h b _ z (.inr ⟨_, _, rfl⟩), q⟩
end
/-- what __init__ of the class at C does: it says msg of its argument, and keeps it as f -/
def spX (K : PySem.W.Frag) (cl : Nat → Addr) (C : Addr) (f : List Nat) (msg : SE) (c : MI.Ctx) : Sp := fun vs H Q _ =>
  ∃ (e : Addr) (v : V) (ρ : List Addr) (d : D) (st : Stt) (m : List Nat) (st' : Stt), vs = [.ref e, v] ∧ H e = some (exo e C none) ∧ e ∉ ρ ∧ At K cl ρ H st ∧ Rv K H ρ v d ∧ msg c [none, some d] st = some (.ok (.str m), st') ∧
    ∀ (ρ' : List Addr) (H' : Hp) (dx : Addr), Grow ρ H ρ' H' → At K cl ρ' H' st' → H' e = some (exo e C none) → H' dx = none → dx ≠ e → Q .non (upd (upd H' dx (exd dx [(sD f, v)])) e (exo e C (some dx)))
section
variable {X : Cx} {W : WX} {cl : Nat → Addr} {c : MI.Ctx} {lv : Nat} {x : Str} {p pos pos2 : Pos} {a : Expr} {ga : SE}
/-- the module's x is the exception class number k, whose __init__ says msg and keeps f -/
def XcG (X : Cx) (cl : Nat → Addr) (c : MI.Ctx) (lv : Nat) (x : Str) (k : Nat) (f : List Nat) (msg : SE) : Prop :=
  X.mg x = some (.ref (cl k)) ∧ OexC X.K (cl k) ∧ ∃ (fI : Addr) (fd : FuncData) (ps : List Str), PySem.W.findIn X.K (.ref (cl k)) "__init__" = some (some (.ref fI)) ∧ PySem.W.typeIn X.K (.ref fI) = some (.type "function") ∧
    FnOk X.prog X.w X.K X.mg X.base (L2.CX X.prog X.w) lv fI fd ps (spX X.K cl (cl k) f msg c) ∧ Binds X.K fd ps []
/-- C(e, ..): the exception, where the surroundings know of no repr under way -/
theorem pmk_oexG {C fI : Addr} {k : Nat} {fd : FuncData} {ps : List Str} {sp : Sp} {e : Expr} {es : List Expr} {ta : TA} (hgd : X.A.guards = some []) (T : OexC X.K C) (iC : PySem.W.findIn X.K (.ref C) "__init__" = some (some (.ref fI))) (tI : PySem.W.typeIn X.K (.ref fI) = some (.type "function"))
    (F1 : FnOk X.prog X.w X.K X.mg X.base (L2.CX X.prog X.w) k fI fd ps sp) (hr : Room (k + 1) X.A) (hb : Binds X.K fd ps []) (hx : Passes (L2.CX X.prog X.w) X (fun _ _ _ => False)) (hg : Gl X x) (hm : X.mg x = some (.ref C)) (ha : PA X (e :: es) ta)
    (hdb : (x == ("__debug__" : Str)) = false := by decide) (he : starEach (e :: es) X.env = (false, eval e X.env) :: starEach es X.env := by rfl) (hpl : (backTo pos (starEach es X.env)).any (·.1) = false := by rfl) :
    PMk X (.Call (.Name x p) (e :: es) [] pos) (tMkO C sp [] ta) := by
  intro pins s σ H Q I h
  have hcls := T.cls
  obtain ⟨nm, q, N, bs, bm, sn, sub, ab, col, dd, k0, k1, k2, k3, k5, hC, hbm⟩ := hcls
  refine wpAny_Call_Name_kw (ld_glob I hg hm ?_ hdb)
  refine PySem.W.callWith_K (h₀ := X.base) I.ok.mod.kin T.kC (thn (ha.run pos pins s σ H _ I h) fun us s1 hh => ⟨hh.choose_spec.choose_spec.1.kIn, ?_⟩) he hpl
  obtain ⟨vs, H1, I1, r1, hz, q1⟩ := hh
  show wpAny _ _ (call (.ref C) us) _ _ _
  obtain ⟨hp, g, dr, tk, os⟩ := s1
  have hle : hp.objs.size ≤ hp.objs.size + 1 := Nat.le_succ _
  have hspc := q1 (hp.objs.size + 1) (I1.hok.fresh hle)
  rw [List.append_nil] at hspc
  have keep : ∀ b o, hp.get? b = some o → ((hp.push (PySem.W.kdv_tup us)).push (PySem.HandSPX.excO C hp.objs.size)).get? b = some o := fun b o z => Heap.get?_push_of_some _ (Heap.get?_push_of_some _ z)
  have there : ((hp.push (PySem.W.kdv_tup us)).push (PySem.HandSPX.excO C hp.objs.size)).get? (hp.objs.size + 1) = some (PySem.HandSPX.excO C hp.objs.size) := by heap_get
  have I2 := I1.laid (t' := tk) (a := hp.objs.size + 1) (o := exo (hp.objs.size + 1) C none) (h' := (hp.push (PySem.W.kdv_tup us)).push (PySem.HandSPX.excO C hp.objs.size)) keep hle (exo_ok there)
  have r2 : Vals (V.ref (hp.objs.size + 1) :: vs) (Value.ref (hp.objs.size + 1) :: us) := .cons rfl r1
  have hlen : (Value.ref (hp.objs.size + 1) :: us).length = ps.length := r2.length.symm.trans (F1.len _ _ _ _ hspc)
  have hus : us.length ≤ sizeLine := by
    have := Paired.length r1
    rw [sizeLine_eq]; omega
  have b := hb _ (Value.ref (hp.objs.size + 1) :: us) I2.kIn (by rw [List.append_nil]; exact hlen)
  rw [List.append_nil] at b
  refine wpAny_call (PySem.HandSPX.call_own F.excBase_ValueError (fun Y => PySem.HandSPX.refsVE_contains Y bm hbm) (I1.kIn _ _ hC) (PySem.W.looks_findIn I1.kIn iC) (fun self => PySem.W.bind_fn I1.kIn self tI) hus
    (codeAny_mono (F1.run _ X.stack _ _ ⟨Value.ref (hp.objs.size + 1) :: us, []⟩ _ _ _ (fun _ _ _ => False) (make_guards hgd) (hr.make C us []) (I2.env0.make C us []) b r2 hspc) fun r s' hq => ?_))
  match r, hq with
  | .error er, hq => exact hx pins σ _ _ er s' I2 hq
  | .ok (.ret u), ⟨v, H2, os2, bare2, un2, hok2, rv, ev, d, fs, ea, ed, hd1, q2⟩ =>
    subst ev
    obtain ⟨h2, g2, d2, t2, os'⟩ := s'
    exact ⟨rv, mk_end (raises_own T.exC T.tyC) I1 hle keep un2 hok2 os2 bare2 ea ed hd1 q2⟩
  | .ok .next, hq => exact hq.elim
  | .ok .brk, hq => exact hq.elim
  | .ok .cont, hq => exact hq.elim
end
section
variable {X : Cx} {W : WX} {cl : Nat → Addr} {c : MI.Ctx} {lv : Nat} {x : Str} {p pos pos2 : Pos} {a : Expr} {ga msg : SE} {k : Nat} {f : List Nat}
theorem ms_raise (G : Good X W cl c lv) (F : XcG X cl c lv x k f msg) (hg : Gl X x) (ha : ME X cl (EXW X.K cl W) c a ga) (hdb : (x == ("__debug__" : Str)) = false := by decide +kernel)
    (he : starEach [a] X.env = (false, eval a X.env) :: starEach [] X.env := by rfl) (hpl : (backTo pos (starEach [] X.env)).any (·.1) = false := by rfl) :
    MST X cl (EXW X.K cl W) c (.Raise (some (.Call (.Name x p) [a] [] pos)) none pos2) (sRaise k f msg ga) := by
  obtain ⟨hm, T, fI, fd, ps, iC, tI, F1, hb⟩ := F
  refine psI (ps_raise G.calm G.tk (pmk_oexG G.gd T iC tI F1 G.room hb (fun pins σ H s e s' I cx => by
    obtain ⟨_, _, _, _, _, _, _, _, _, _, _, _, z⟩ := cx
    exact z.elim) hg hm (pa_cons ha pa_nil he) hdb he hpl)) fun D σ H ⟨ρ, env, st, A, e, h⟩ => ?_
  refine (RestS.step (x := ga c) (rV X.K) A e h).imp fun v1 H1 ⟨ρ1, st1, d1, g1, A1, r1, h1⟩ => ?_
  have e1 := e.grow A g1
  -- what the message came to
  obtain ⟨m, st2, qm, h2⟩ : ∃ m st2, msg c [none, some d1] st1 = some (.ok (.str m), st2) ∧ ∀ ρ' H' σ', Grow ρ1 H1 ρ' H' → At X.K cl ρ' H' st2 → RvE X.K H' ρ' σ' env → EXW X.K cl W k [(f, d1)] σ' ρ' H' st2 := by
    match q : msg c [none, some d1] st1, h1 with
    | some (.ok (.str m), st2), h1 =>
      simp only [q] at h1
      exact ⟨m, st2, rfl, h1⟩
    | some (.ok .non, _), h1 => simp only [q] at h1; exact h1.elim
    | some (.ok (.bl _), _), h1 => simp only [q] at h1; exact h1.elim
    | some (.ok (.int _), _), h1 => simp only [q] at h1; exact h1.elim
    | some (.ok (.tup _), _), h1 => simp only [q] at h1; exact h1.elim
    | some (.ok (.loc _), _), h1 => simp only [q] at h1; exact h1.elim
    | some (.ok (.frz _), _), h1 => simp only [q] at h1; exact h1.elim
    | some (.ok (.xtup _), _), h1 => simp only [q] at h1; exact h1.elim
    | some (.exc _ _, _), h1 => simp only [q] at h1; exact h1.elim
    | none, h1 => simp only [q] at h1; exact h1.elim
  refine ⟨by show 1 ≤ 1000; decide, fun ea na => ?_⟩
  obtain ⟨A2, g2⟩ := A1.side (o := exo ea (cl k) none) na
  have nin : ea ∉ ρ1 := fun z => A1.there z na
  refine ⟨ea, v1, ρ1, d1, st1, m, st2, rfl, upd_same, nin, A2, r1.grow A1 g2, qm, fun ρ' H' dx g3 A3 q1 q2 q3 => ⟨rfl, dx, [(sD f, v1)], upd_same, by rw [upd_ne q3, upd_same], ?_, ?_⟩⟩
  · -- dx was free ahead of it
    cases z : H1 dx with
    | none => rfl
    | some o =>
      exfalso
      have z2 : upd H1 ea (exo ea (cl k) none) dx = some o := by rw [upd_ne q3]; exact z
      by_cases hd : dx ∈ ρ1
      · obtain ⟨ex, rfl⟩ := g3.ext
        exact A3.there (List.mem_append_left _ hd) q2
      · rw [g3.frame dx o z2 hd] at q2; cases q2
  · -- behind it
    generalize hHf : upd (del (upd (upd H' dx (exd dx [(sD f, v1)])) ea (exo ea (cl k) (some dx))) ea) dx (.xd [(sD f, v1)]) = Hf
    have fa : ∀ b, b ≠ dx → b ≠ ea → Hf b = H' b := fun b h1 h2 => by rw [← hHf, upd_ne h1, del_ne h2, upd_ne h2, upd_ne h1]
    have ndx : dx ∉ ρ' := fun z => A3.there z q2
    have nea : ea ∉ ρ' := fun z => by
      obtain ⟨_, _, _, _, ro⟩ := A3.mem z
      rcases ro.mut with ⟨vs, w⟩ | ⟨_, _, _, w⟩ <;> (rw [q1] at w; have w' : HO.ext _ = _ := Option.some.inj w; cases w')
    have kp : Keep X.K H' Hf := Keep.of fun b o z1 z2 => by
      have h1 : b ≠ dx := fun e => by rw [e, q2] at z1; cases z1
      have h2 : b ≠ ea := fun e => by
        rw [e, q1] at z1
        have z1' := Option.some.inj z1
        rcases z2 with ⟨xs, rfl⟩ | ⟨ob, u, rfl⟩
        · exact exo_tup z1'
        · exact exo_frz z1'
      rw [fa b h1 h2]; exact z1
    have Af : At X.K cl ρ' Hf st2 := A3.kept kp fun b hb => fa b (fun e => ndx (e ▸ hb)) (fun e => nea (e ▸ hb))
    have gf : Grow ρ1 H1 ρ' Hf := ⟨g3.ext, fun b hb => by
      rcases g3.new b hb with z | z
      · exact .inl z
      · by_cases hbe : b = ea
        · exact absurd (hbe ▸ hb) nea
        · rw [upd_ne hbe] at z; exact .inr z, fun b o z hb => by
      have h2 : b ≠ ea := fun e => by rw [e, na] at z; cases z
      have z2 : upd H1 ea (exo ea (cl k) none) b = some o := by rw [upd_ne h2]; exact z
      have z3 := g3.frame b o z2 hb
      have h1 : b ≠ dx := fun e => by rw [e, q2] at z3; cases z3
      rw [fa b h1 h2]; exact z3⟩
    refine h2 ρ' Hf σ gf Af (e1.grow A1 gf) (some dx) ⟨[(sD f, v1)], by rw [← hHf, upd_same], .cons (r1.grow A1 gf) .nil⟩
end
/-! ### the class's own __init__ -/
/-- what is looked at in the written part -/
def oexB (K : PySem.W.Frag) (C fI : Addr) (f : Str) : Bool := (match K.lookup C with
  | some ⟨.type "type", _, .cls cd, sl⟩ => (match cd.mro, sl.toList with
    | .ref C' :: bm, [_, _, _, _, some (.builtin n), _] => decide (C' = C) && (decide (n = "ValueError.__new__") && (!cd.hasDel && (cd.hasDict && PySem.HandSPX.refsVE bm)))
    | _, _ => false)
  | _ => false) && (decide (PySem.W.findIn K (.ref C) "__setattr__" = some (some (.builtin "object.__setattr__"))) && (decide (PySem.W.subIn K (.ref C) (.type "BaseException") = some true) && (decide (PySem.W.typeIn K (.ref C) = some (.type "type")) && (PySem.W.keepIn K (.ref C) &&
    (decide (PySem.W.findIn K (.ref C) "__init__" = some (some (.ref fI))) && (decide (PySem.W.typeIn K (.ref fI) = some (.type "function")) && decide (PySem.W.findIn K (.ref C) f = some none)))))))
theorem oexB_ok {K : PySem.W.Frag} {C fI : Addr} {f : Str} (h : oexB K C fI f = true) : OexC K C ∧ PySem.W.findIn K (.ref C) "__init__" = some (some (.ref fI)) ∧ PySem.W.typeIn K (.ref fI) = some (.type "function") ∧ PySem.W.findIn K (.ref C) f = some none := by
  unfold oexB at h
  simp only [Bool.and_eq_true, decide_eq_true_eq] at h
  obtain ⟨h0, h1, h2, h3, h4, h5, h6, h7⟩ := h
  refine ⟨⟨?_, h1, h2, h3, h4⟩, h5, h6, h7⟩
  split at h0
  · rename_i dd cd sl ho
    split at h0
    · rename_i C' bm k0 k1 k2 k3 n k5 hm hs
      simp only [Bool.and_eq_true, decide_eq_true_eq, Bool.not_eq_true'] at h0
      obtain ⟨rfl, rfl, hdel, hdct, hv⟩ := h0
      obtain ⟨nm, bs, mro, ns, qn, hd, sn, sub, ab, col, del⟩ := cd
      dsimp only at hm hdel hdct
      subst hm hdel hdct
      obtain ⟨l⟩ := sl
      simp only at hs
      subst hs
      exact ⟨nm, qn, ns, bs, bm, sn, sub, ab, col, dd, k0, k1, k2, k3, k5, ho, hv⟩
    · cases h0
  · cases h0
def EF : EX := fun _ _ _ _ _ _ => False
/-- Base.__init__(self, msg); self.f = the argument -/
def tXi (K : PySem.W.Frag) (cl : Nat → Addr) (f : Str) (msg : SE) (c : MI.Ctx) : TS := tSeq (tDrop (tVeI K (tCons (tVar 0) (tCons (TM K cl EF (rV K) (msg c)) tNil)))) (tOst K f (tVar 0) (tVar 1))
section
variable {P : Program} {w : World} {K : PySem.W.Frag} {mg : Str → Option Value} {base : Heap} {cl : Nat → Addr}
theorem spx_fn {x qual : Str} {params : Arguments} {body : List Stmt} {scope : Scope} {fI C : Addr} {fd : FuncData} {ps N : List Str} {lv : Nat} {c : MI.Ctx} {f : List Nat} {fS : Str} {msg : SE} (F : FunD K x qual params body scope [] [] fI fd) (S : FnScope N ps scope) (hp : ps.length = 2) (hN : N.length = 2) (hfS : fS = sD f) (T : OexC K C) (hno : PySem.W.findIn K (.ref C) (sD f) = some none)
    (hbody : ∀ (cdv : Value) (A : Around) (outer : List PySem.Env) (s : Shared) (H : Hp) (E : XK), PSs (cxOf (L2.CX P w) P w K mg base N qual scope fI cdv A outer s H E) body (tXi K cl fS msg c)) : FnOk P w K mg base (L2.CX P w) (lv + 1) fI fd ps (spX K cl C f msg c) := by
  subst hfS
  refine FunD.okG F S (fun vs H Q E h => by
    obtain ⟨e, v, _, _, _, _, _, rfl, _⟩ := h
    exact hp.symm) (fun cdv A outer s H vs Q E hgd hr h => ⟨_, hbody cdv A outer s H E, ?_⟩)
  obtain ⟨e, v, ρ, d, st, m, st', rfl, he, nin, A0, r, qm, fin⟩ := h
  have es : L2.start N [V.ref e, v] = [some (.ref e), some v] := by
    unfold L2.start
    rw [hN]; rfl
  rw [es]
  refine ⟨.ref e, rfl, ⟨ρ, [none, some d], st, A0, .hole (.val r .nil), .inl ⟨.str m, st', qm, fun ρ' H' v' g A' r' => ?_⟩⟩⟩
  cases r'
  have he' : H' e = some (exo e C none) := g.frame _ _ he nin
  refine ⟨e, C, [_], rfl, by show 1 ≤ 1000; decide, T, he', ?_⟩
  exact ⟨v, rfl, .ref e, rfl, e, C, rfl, T, hno, .inl ⟨he', fun dx n ne => fin ρ' H' dx g A' he' n ne⟩⟩
end
end MS

set_option Elab.async false
set_option linter.all false
set_option maxRecDepth 100000
set_option maxHeartbeats 4000000
/-! MS19: try: .. except C as e: .. -/
namespace MS
open PySem PySem.Spec PyProof.Rows L2 MI
theorem RvE.hide {K : PySem.W.Frag} {H : Hp} {ρ : List Addr} (o : Option V) : ∀ (i : Nat) {σ : L2.St} {env : MI.Env}, RvE K H ρ σ env → RvE K H ρ (σ.set i o) (env.set i none)
  | _, _, _, .nil => .nil
  | 0, _, _, .hole r => .hole r
  | 0, _, _, .val _ r => .hole r
  | i + 1, _, _, .hole r => .hole (RvE.hide o i r)
  | i + 1, _, _, .val q r => .val q (RvE.hide o i r)
theorem XD.grow {K : PySem.W.Frag} {cl : Nat → Addr} {d : Option Addr} {H H' : Hp} {ρ ρ' : List Addr} {st : Stt} {fs : List (List Nat × D)} (A : At K cl ρ H st) (g : Grow ρ H ρ' H') (h : XD K d H ρ fs) : XD K d H' ρ' fs := by
  cases d with
  | none => exact h
  | some dx =>
    obtain ⟨vfs, h1, h2⟩ := h
    refine ⟨vfs, g.frame dx _ h1 fun z => ?_, h2.grow A g⟩
    obtain ⟨_, _, _, _, ro⟩ := A.mem z
    rcases ro.mut with ⟨vs, w⟩ | ⟨_, _, _, w⟩ <;> (rw [h1] at w; cases w)
/-- what a clause finds: the exception at a under the name i, its fields fs -/
def THm (K : PySem.W.Frag) (cl : Nat → Addr) (a : Addr) (d : Option Addr) (i : Nat) (g : List (List Nat × D) → MI.Env → Stt → Option (Fl × MI.Env × Stt)) : TS := fun D σ H =>
  ∃ ρ env st fs, At K cl ρ H st ∧ RvE K H ρ σ env ∧ σ[i]? = some (some (.ref a)) ∧ XD K d H ρ fs ∧ RestS K cl EF D (g fs env st) ρ H
theorem Good.tr {X : Cx} {W W' : WX} {cl : Nat → Addr} {c : MI.Ctx} {lv : Nat} (G : Good X W cl c lv) {pn : List (Addr × Obj)} {xe : Value → Shared → Prop} (tk : Takes (X.tr pn xe) W') : Good (X.tr pn xe) W' cl c lv := ⟨tk, G.room, G.calm, G.gd, G.nd, G.flds, G.meth⟩
section
variable {X : Cx} {W : WX} {cl : Nat → Addr} {c : MI.Ctx} {lv : Nat} {x n : Str} {i : Nat} {cv : Value} {yes no : List Nat} {body suite : List Stmt} {b₀ : Stmt} {np pos pos' : Pos} {gb : SS} {gh : List (List Nat × D) → SS}
theorem ms_try (G : Good X W cl c lv) (hs : X.stack = X.env :: X.outer) (hf : X.env.frame = some X.env.locals) (hi : X.N[i]? = some n) (hln : X.env.kindOf n = some .local) (hc : Names X x cv)
    (hy : ∀ k ∈ yes, PySem.W.exmOne X.K (.ref (cl k)) cv = some true) (hno : ∀ k ∈ no, PySem.W.exmOne X.K (.ref (cl k)) cv = some false)
    (hb : ∀ (W' : WX) (pn : List (Addr × Obj)) (xe : Value → Shared → Prop), Good (X.tr pn xe) W' cl c lv → PassesOwn (model X.prog X.w) X.A X.env xe → MSS (X.tr pn xe) cl (EXW X.K cl W') c body gb)
    (hsu : ∀ (k : Nat) (a : Addr) (oe : Obj) (d : Option Addr) (pn : List (Addr × Obj)), k ∈ yes → Zc (.ref (cl k)) d oe → (∃ vs, oe.data = .fields vs) → PSs (X.suite a ((a, oe) :: pn)) (b₀ :: suite) (THm X.K cl a d i fun fs => gh fs c)) :
    MST X cl (EXW X.K cl W) c (.Try body [.ExceptHandler (some (.Name x np)) (some n) (b₀ :: suite) pos'] [] [] pos) (sTryAs gb yes no i gh) := by
  refine psI (ps_try_as (tb := fun W' => TSm X.K cl (EXW X.K cl W') (gb c)) (ts := fun a cls d D σ H => ∃ k ∈ yes, cls = .ref (cl k) ∧ THm X.K cl a d i (fun fs => gh fs c) D σ H) hs hf G.nd hi hln hc G.tk (fun W' pn xe tk po => hb W' pn xe (G.tr tk) po) (fun a oe cls d pn z1 z2 => ?_)) fun D σ H ⟨ρ, env, st, A, e, h⟩ => ?_
  · refine ⟨fun pins s σ H D I ⟨k, hk, hcl, h⟩ => ?_⟩
    subst hcl
    exact (hsu k a oe d pn hk z1 z2).run pins s σ H D I h
  · refine ⟨ρ, env, st, A, e, ?_⟩
    unfold sTryAs at h
    match q : gb c env st, h with
    | none, h => simp only [q] at h; exact h.elim
    | some (.nx, env', st'), h => simp only [q] at h; exact h
    | some (.bk, env', st'), h => simp only [q] at h; exact h
    | some (.ct, env', st'), h => simp only [q] at h; exact h
    | some (.rt d, env', st'), h => simp only [q] at h; exact h
    | some (.ex k fs, env', st'), h =>
      simp only [q] at h
      intro ρ' H' σ' g A' e' d xd
      by_cases hky : yes.contains k = true
      · have hmem : k ∈ yes := List.contains_iff_mem.mp hky
        rw [if_pos hky] at h
        refine ⟨true, hy k hmem, fun _ a na => ?_, fun z => by cases z⟩
        by_cases hlt : i < env'.length
        · rw [if_pos hlt] at h
          have hlt' : i < σ'.length := by rw [e'.length]; exact hlt
          refine ⟨k, hmem, rfl, ρ', env'.set i none, st', fs, A', RvE.hide _ i e', List.getElem?_set_self hlt', xd, ?_⟩
          show RestS X.K cl EF _ (gh fs c (env'.set i none) st') ρ' H'
          match q2 : gh fs c (env'.set i none) st', h with
          | none, h => simp only [q2] at h; exact h.elim
          | some (.ex _ _, _, _), h => simp only [q2] at h; exact h.elim
          | some (.nx, env'', st''), h =>
            simp only [q2] at h
            exact fun ρ2 H2 σ2 g2 A2 e2 => h ρ2 H2 (σ2.set i none) (g.trans g2) A2 (e2.unset i)
          | some (.bk, env'', st''), h =>
            simp only [q2] at h
            exact fun ρ2 H2 σ2 g2 A2 e2 => h ρ2 H2 (σ2.set i none) (g.trans g2) A2 (e2.unset i)
          | some (.ct, env'', st''), h =>
            simp only [q2] at h
            exact fun ρ2 H2 σ2 g2 A2 e2 => h ρ2 H2 (σ2.set i none) (g.trans g2) A2 (e2.unset i)
          | some (.rt d', env'', st''), h =>
            simp only [q2] at h
            exact fun ρ2 H2 v g2 A2 r2 => h ρ2 H2 v (g.trans g2) A2 r2
        · rw [if_neg hlt] at h; exact h.elim
      · rw [if_neg hky] at h
        by_cases hkn : no.contains k = true
        · rw [if_pos hkn] at h
          exact ⟨false, hno k (List.contains_iff_mem.mp hkn), (fun z => by cases z), fun _ => h ρ' H' σ' g A' e' d xd⟩
        · rw [if_neg hkn] at h; exact h.elim
end
/-! ### what a clause does: x = e.f, x = (.., e.f) -/
section
variable {X : Cx} {cl : Nat → Addr} {c : MI.Ctx} {i j : Nat} {x n : Str} {f : List Nat} {a C : Addr} {oe : Obj} {d : Option Addr} {pn : List (Addr × Obj)} {p1 p2 p3 pos : Pos}
theorem xd_get {K : PySem.W.Frag} {H : Hp} {ρ : List Addr} {fs : List (List Nat × D)} {dd : D} (h : XD K d H ρ fs) (q : MI.getD fs f = some dd) : ∃ dx vfs v, d = some dx ∧ H dx = some (.xd vfs) ∧ vfs.lookup (sD f) = some v ∧ Rv K H ρ v dd := by
  cases d with
  | none =>
    have : fs = [] := h
    subst this
    cases q
  | some dx =>
    obtain ⟨vfs, h1, h2⟩ := h
    rcases h2.look (f := f) with ⟨z, _⟩ | ⟨d2, v, z1, z2, z3⟩
    · rw [z] at q; cases q
    · rw [q] at z1
      cases z1
      exact ⟨dx, vfs, v, rfl, h1, z2, z3⟩
/-- x = e.f -/
theorem mh_fld (f : List Nat) {m : Str} (T : XfC X.K C) (hno : PySem.W.findIn X.K (.ref C) (sD f) = some none) (hz : Zc (.ref C) d oe) (hf : ∃ vs, oe.data = .fields vs) (hN : X.N.Nodup) (hv : X.N[i]? = some n) (hvis : Vis X.env.scope n)
    (hj : X.N[j]? = some x) (hx : Loc X.env.scope x) (hfn : X.fn x = true ∨ X.env.scope.names.lookup x = some .local) (hm : m = sD f := by decide +kernel) (hd : (n == ("__debug__" : Str)) = false := by decide +kernel) (hcd : (n == ("__classdict__" : Str)) = false := by decide +kernel)
    (hbase : attributeBase (.Name n p1) m X.env (eval (.Name n p1) X.env) = eval (.Name n p1) X.env := by rfl) (hsw : swapsWith (.Attribute (.Name n p1) m p2) (some (.Name x p3)) pos.line X.env = pure false := by rfl) :
    PSs (X.suite a ((a, oe) :: pn)) [.Assign [.Name x p3] (.Attribute (.Name n p1) m p2) pos] (THm X.K cl a d i fun fs => hSet j [] f true fs c) := by
  subst hm
  refine pss_one (psI (ps_set (X := X.suite a ((a, oe) :: pn)) hN hj hx (pe_xf T hno hz hf (pe_var (X := X.suite a ((a, oe) :: pn)) hv hvis hd hcd) hbase) hsw hfn) fun D σ H ⟨ρ, env, st, fs, A, e, hs, xd, h⟩ => ?_)
  unfold hSet at h
  cases q : MI.getD fs f with
  | none => simp only [q] at h; exact h.elim
  | some dd =>
    simp only [q] at h
    by_cases hl : j < env.length
    · rw [if_pos hl] at h
      obtain ⟨dx, vfs, v, rfl, h1, h2, h3⟩ := xd_get xd q
      exact ⟨.ref a, hs, rfl, rfl, dx, vfs, v, rfl, h1, h2, h ρ H _ .refl A (RvE.set h3 j e)⟩
    · rw [if_neg hl] at h; exact h.elim
/-- x = ('..', e.f) -/
theorem mh_tup (w f : List Nat) {m wS : Str} {j0 : Nat} {x1} {p4 p5 : Pos} (T : XfC X.K C) (hno : PySem.W.findIn X.K (.ref C) (sD f) = some none) (hz : Zc (.ref C) d oe) (hf : ∃ vs, oe.data = .fields vs) (hN : X.N.Nodup) (hv : X.N[i]? = some n) (hvis : Vis X.env.scope n)
    (hj : X.N[j]? = some x) (hx : Loc X.env.scope x) (hfn : X.fn x = true ∨ X.env.scope.names.lookup x = some .local) (hw : wS = sD w := by decide +kernel) (hm : m = sD f := by decide +kernel) (hd : (n == ("__debug__" : Str)) = false := by decide +kernel) (hcd : (n == ("__classdict__" : Str)) = false := by decide +kernel)
    (hbase : attributeBase (.Name n p1) m X.env (eval (.Name n p1) X.env) = eval (.Name n p1) X.env := by rfl) (hsw : swapsWith (.Tuple [.Constant (.str wS) j0 p4, .Attribute (.Name n p1) m p2] x1 p5) (some (.Name x p3)) pos.line X.env = pure false := by rfl)
    (he1 : starEach [.Constant (.str wS) j0 p4, .Attribute (.Name n p1) m p2] X.env = (false, eval (.Constant (.str wS) j0 p4) X.env) :: starEach [.Attribute (.Name n p1) m p2] X.env := by rfl)
    (he2 : starEach [.Attribute (.Name n p1) m p2] X.env = (false, eval (.Attribute (.Name n p1) m p2) X.env) :: starEach [] X.env := by rfl) :
    PSs (X.suite a ((a, oe) :: pn)) [.Assign [.Name x p3] (.Tuple [.Constant (.str wS) j0 p4, .Attribute (.Name n p1) m p2] x1 p5) pos] (THm X.K cl a d i fun fs => hSet j [.str w] f false fs c) := by
  subst hm
  subst hw
  refine pss_one (psI (ps_set (X := X.suite a ((a, oe) :: pn)) hN hj hx (pe_tup (pa_cons (X := X.suite a ((a, oe) :: pn)) pe_str (pa_cons (pe_xf T hno hz hf (pe_var (X := X.suite a ((a, oe) :: pn)) hv hvis hd hcd) hbase) pa_nil he2) he1)) hsw hfn) fun D σ H ⟨ρ, env, st, fs, A, e, hs, xd, h⟩ => ?_)
  unfold hSet at h
  cases q : MI.getD fs f with
  | none => simp only [q] at h; exact h.elim
  | some dd =>
    simp only [q] at h
    by_cases hl : j < env.length
    · rw [if_pos hl] at h
      obtain ⟨dx, vfs, v, rfl, h1, h2, h3⟩ := xd_get xd q
      refine ⟨.ref a, hs, rfl, rfl, dx, vfs, v, rfl, h1, h2, by show 2 ≤ sizeLine; rw [sizeLine_eq]; decide, fun p np => ?_⟩
      obtain ⟨A', g'⟩ := A.side (o := .tup [.str (sD w), v]) np
      have r2 : RvL X.K H ρ [.str (sD w), v] [.str w, dd] := .cons (.str w) (.cons h3 .nil)
      exact h ρ _ _ g' A' (RvE.set (.tup (SqT.of upd_same) (r2.grow A g')) j (e.grow A g'))
    · rw [if_neg hl] at h; exact h.elim
end
end MS

set_option Elab.async false
set_option linter.all false
set_option maxRecDepth 100000
set_option maxHeartbeats 4000000
/-! MS20: a module's exception classes. -/
namespace MS
open PySem PySem.Spec PyProof.Rows L2 MI
def XcP (P : Program) (w : World) (K : PySem.W.Frag) (mg : Str → Option Value) (base : Heap) (cl : Nat → Addr) (c : MI.Ctx) (lv : Nat) (x : Str) (k : Nat) (f : List Nat) (msg : SE) : Prop :=
  mg x = some (.ref (cl k)) ∧ OexC K (cl k) ∧ ∃ (fI : Addr) (fd : FuncData) (ps : List Str), PySem.W.findIn K (.ref (cl k)) "__init__" = some (some (.ref fI)) ∧ PySem.W.typeIn K (.ref fI) = some (.type "function") ∧
    FnOk P w K mg base (L2.CX P w) lv fI fd ps (spX K cl (cl k) f msg c) ∧ Binds K fd ps []
/-- what is known of the classes that are raised, caught, read -/
structure XM (P : Program) (w : World) (K : PySem.W.Frag) (mg : Str → Option Value) (base : Heap) (cl : Nat → Addr) (c : MI.Ctx) (lv : Nat) (xcs : List (Str × Nat × List Nat × SE)) (xfs : List (Nat × List Nat)) (exms : List (Nat × Nat × Bool)) : Prop where
  xc : ∀ (i : Nat) x k f msg, xcs[i]? = some (x, k, f, msg) → XcP P w K mg base cl c lv x k f msg
  xf : ∀ (i : Nat) k f, xfs[i]? = some (k, f) → XfC K (cl k) ∧ PySem.W.findIn K (.ref (cl k)) (sD f) = some none
  exm : ∀ (i : Nat) a b v, exms[i]? = some (a, b, v) → PySem.W.exmOne K (.ref (cl a)) (.ref (cl b)) = some v
theorem all_nil {p : Nat → Prop} : ∀ k ∈ ([] : List Nat), p k := fun _ h => nomatch h
theorem all_cons {p : Nat → Prop} {k : Nat} {l : List Nat} (h : p k) (r : ∀ j ∈ l, p j) : ∀ j ∈ k :: l, p j := fun j hj => by
  rcases List.mem_cons.mp hj with rfl | hj
  · exact h
  · exact r j hj
theorem ve_init (K : PySem.W.Frag) : PySem.W.findCls K (.type "ValueError") (.type "type") "__init__" = some (.val (.builtin "ValueError.__init__")) := by kernel_rfl
/-- nothing is promised of the depth 0, at whatever room -/
theorem fnT_failAt {P : Program} {w : World} {K : PySem.W.Frag} {mg : Str → Option Value} {base : Heap} {cl : Nat → Addr} {lv : Nat} {x qual : Str} {params : Arguments} {body : List Stmt} {scope : Scope} {f : Addr} {fd : FuncData} {ps N : List Str} (F : FunD K x qual params body scope [] [] f fd) (S : FnScope N ps scope) (hb : Binds K fd ps []) : FnT P w K mg base cl lv f (fun _ => MI.fail) := by
  obtain ⟨fd', ps', h1, h2, h3, h4⟩ := fnT_fail (P := P) (w := w) (mg := mg) (base := base) (cl := cl) F S hb
  exact ⟨fd', ps', h1.mono (Nat.zero_le _), h2, h3, h4⟩
end MS

set_option Elab.async false
set_option linter.all false
set_option maxRecDepth 100000
set_option maxHeartbeats 4000000
/-! MSR9: sets of texts, sorted. Turned from the library's sets of ints. -/
namespace MS
open PySem PySem.Spec PyProof.Rows L2 MI
def keyT (e : Int × Value) : Str := match e.2 with | .str k _ => k | _ => Str.empty
def GoodT (w : World) (e : Int × Value) : Prop := ∃ k tk, e.2 = Value.str k tk ∧ e.1 = hashStr w k

/-- the set of texts at a: S its members, n their number; its table rises and can be walked -/
def SetT1 (w : World) (h : Heap) (a : Addr) (S : Str → Bool) (n : Nat) : Prop :=
  ∃ o es ep t, h.get? a = some o ∧ o.ExactSet ∧ o.data = .set es ep t ∧ (∀ e ∈ es.toList, GoodT w e) ∧ (es.toList.map keyT).Nodup ∧ (∀ k, S k = true ↔ k ∈ es.toList.map keyT) ∧
    es.size < scanBound ∧ t.fits es.size = true ∧ es.size = n ∧ Ris t.place.toList ∧ (w.params.followText "set-order" = true ∨ t.led = true)

section
variable {P : Program} {w : World} {h h' : Heap} {a : Addr} {S : Str → Bool} {n : Nat}

theorem SetT1.at (R : SetT1 w h a S n) (k : ∀ o, h.get? a = some o → h'.get? a = some o) : SetT1 w h' a S n := by
  obtain ⟨o, es, ep, t, ho, r⟩ := R
  exact ⟨o, es, ep, t, k o ho, r⟩
theorem SetT1.lt (R : SetT1 w h a S n) : a < h.objs.size := by
  obtain ⟨o, es, ep, t, ho, r⟩ := R
  exact Heap.lt_size ho
theorem SetT1.congr {S' : Str → Bool} (R : SetT1 w h a S n) (e : ∀ k, S' k = S k) : SetT1 w h a S' n := by
  have q : S' = S := funext e
  rw [q]; exact R
theorem goodT_elems {l : List (Int × Value)} (g : ∀ e ∈ l, GoodT w e) : ElemsOf (strKind P w) l := fun e he => by
  obtain ⟨k, tk, h1, h2⟩ := g e he
  exact ⟨⟨k, by rw [h1]; exact PySem.Froz.is_str (w := w) (P := P) k tk, h2⟩, by rw [h1] <;> rfl⟩
theorem goodT_is {e : Int × Value} (g : GoodT w e) (k : Str) : (strKind P w).is k e.2 = true ↔ keyT e = k := by
  obtain ⟨k0, tk, h1, _⟩ := g
  unfold keyT
  rw [h1]
  show ((k0 == k) = true) ↔ k0 = k
  exact beq_iff_eq
theorem goodT_mem {l : List (Int × Value)} (g : ∀ e ∈ l, GoodT w e) (k : Str) : k ∈ l.map keyT ↔ ∃ e ∈ l, (strKind P w).is k e.2 = true := by
  rw [List.mem_map]
  constructor
  · rintro ⟨e, he, q⟩
    exact ⟨e, he, (goodT_is (g e he) k).2 q⟩
  · rintro ⟨e, he, q⟩
    exact ⟨e, he, (goodT_is (g e he) k).1 q⟩
theorem SetT1.setOf (R : SetT1 w h a S n) : h.SetOf (strKind P w) a S n := by
  obtain ⟨o, es, ep, t, ho, hx, hd, g, nd, hm, hb, hf, hn, _⟩ := R
  exact ⟨o, es, ep, t, ho, hx, hd, goodT_elems g, fun k => (hm k).trans (goodT_mem g k), hb, hf, hn⟩
end

section
variable {P : Program} {w : World} {A : Around} {E : Value → Shared → Prop} {s : Shared} {a : Addr} {S : Str → Bool} {n : Nat}

/-! ### add -/
theorem storeT_at {h : Heap} {a : Addr} {o : Obj} {es es' : Array (Int × Value)} {ep : Nat} {t t' : SetTable} (ho : h.get? a = some o) (hd : o.data = .set es ep t) :
    (h.update a (Obj.putSet es' t')).get? a = some { o with data := .set es' (ep + 1) t' } := by
  have q := Heap.get?_update_self (Obj.putSet es' t') ho (by rw [putSet_of es' t' hd]; rfl)
  rw [putSet_of es' t' hd] at q
  exact q

theorem setT1_tail {g : Bool → Sem Unit} (hg : ∀ (b : Bool) (s₁ : Shared) (Q' : Unit → Shared → Prop), Q' () s₁ → wpAny (model P w) A (g b) Q' E s₁)
    {o : Obj} {es : Array (Int × Value)} {ep : Nat} {t : SetTable} (ho : s.heap.get? a = some o) (hex : o.ExactSet) (hd : o.data = .set es ep t)
    {es1 : Array (Int × Value)} {t2 : SetTable} {S' : Str → Bool} (g1 : ∀ e ∈ es1.toList, GoodT w e) (nd1 : (es1.toList.map keyT).Nodup) (m1 : ∀ k, S' k = true ↔ k ∈ es1.toList.map keyT)
    (hb1 : es1.size < scanBound) (hf2 : t2.fits es1.size = true) (hr : Ris t2.place.toList) (hl : w.params.followText "set-order" = true ∨ t2.led = true) {wasDummy : Bool} {R : Option Bool → Shared → Prop}
    (hR : ∀ h', Heap.SameBut a s.heap h' → SetT1 w h' a S' es1.size → R (some true) { s with heap := h' }) :
    wpAny (model P w) A (do
        storeSet a es1 t2
        if (!wasDummy && t2.tooFull) = true then do
            g (relayAll t2 es1 (SetTable.grown es1.size)).2.2
            storeSet a (relayAll t2 es1 (SetTable.grown es1.size)).1 (relayAll t2 es1 (SetTable.grown es1.size)).2.1
            pure (some true)
          else pure (some true)) R E s := by
  refine wpAny_bind (wpAny_storeSet_of ho hd ?_ (fits_of_scanBound hb1))
  have ho1 := storeT_at (es' := es1) (t' := t2) ho hd
  have sb1 := Heap.SameBut.update s.heap a (Obj.putSet es1 t2)
  split
  · have pm := relayAll_perm t2 es1 (SetTable.grown es1.size)
    have hf3 := relayAll_fits t2 es1 (SetTable.grown es1.size)
    have hr3 := relayAll_ris t2 es1 (SetTable.grown es1.size)
    have hl3 := relayAll_led t2 es1 (SetTable.grown es1.size)
    generalize relayAll t2 es1 (SetTable.grown es1.size) = Z at pm hf3 hr3 hl3 ⊢
    obtain ⟨es2, t3, gave⟩ := Z
    dsimp only at pm hf3 hr3 hl3 ⊢
    have hsz : es2.size = es1.size := by rw [← Array.length_toList, pm.length_eq, Array.length_toList]
    have hb2 : es2.size < scanBound := by rw [hsz]; exact hb1
    refine wpAny_bind (hg _ _ _ ?_)
    refine wpAny_bind (wpAny_storeSet_of ho1 rfl ?_ (fits_of_scanBound hb2))
    have ho2 := storeT_at (es' := es2) (t' := t3) ho1 rfl
    refine wpAny_pure (hR _ (sb1.trans (Heap.SameBut.update _ a _)) ?_)
    exact ⟨_, es2, _, t3, ho2, hex, rfl, fun e he => g1 e (pm.mem_iff.mp he), (pm.map keyT).nodup_iff.mpr nd1, fun k => (m1 k).trans (pm.map keyT).mem_iff.symm, hb2, hf3, hsz, hr3,
      hl.imp id fun z => by rw [hl3]; exact z⟩
  · exact wpAny_pure (hR _ sb1 ⟨_, es1, _, t2, ho1, hex, rfl, g1, nd1, m1, hb1, hf2, rfl, hr, hl⟩)

theorem setT1_add {k : Str} {tk : Tok} {Q : Bool → Shared → Prop} (R : SetT1 w s.heap a S n) (room : n + 1 < scanBound)
    (hQ : ∀ h', Heap.SameBut a s.heap h' → SetT1 w h' a (fun j => S j || decide (j = k)) (if S k = true then n else n + 1) → Q (!S k) { s with heap := h' }) :
    wpAny (model P w) A (setAddHashed a (.str k tk) ((strKind P w).hash k)) Q E s := by
  obtain ⟨o, es, ep, t, ho, hex, hd, g, nd, hm, hb, hf, hn, hr, hl⟩ := R
  have hkey : (strKind P w).is k (.str k tk) = true := PySem.Froz.is_str (w := w) (P := P) k tk
  have hsc : (Value.str k tk).scannable = true := rfl
  have hel : ElemsOf (strKind P w) es.toList := goodT_elems g
  unfold setAddHashed setAddHashedIn
  refine wpAny_holding (wpAny_bind (wpAny_setState_of ho hd hf ?_))
  dsimp only
  rw [byScan_of hsc hb hel]
  simp only [↓reduceIte]
  unfold setAddByScan
  refine wpAny_bind ?_
  refine wpAny_bind (wpAny_rule ?_)
  refine wpAny_bind (wpAny_setScan_of hkey ho hd hf hel ?_)
  cases hfi : List.findIdx? (fun e => (strKind P w).is k e.2) es.toList with
  | some j =>
    dsimp only
    obtain ⟨hj, pj, _⟩ := List.findIdx?_eq_some_iff_getElem.mp hfi
    have hSk : S k = true := (hm k).2 ((goodT_mem (P := P) (w := w) g k).2 ⟨es.toList[j], List.getElem_mem hj, pj⟩)
    refine wpAny_pure (wpAny_pure ?_)
    have q := hQ s.heap (Heap.SameBut.refl a s.heap) ⟨o, es, ep, t, ho, hex, hd, g, nd, fun i => by
      rw [Bool.or_eq_true, decide_eq_true_eq, ← hm i]
      exact ⟨fun z => z.elim id (fun e => e ▸ hSk), .inl⟩, hb, hf, by rw [if_pos hSk]; exact hn, hr, hl⟩
    rw [hSk] at q
    exact q
  | none =>
    dsimp only
    have hnk : k ∉ es.toList.map keyT := fun z => by
      obtain ⟨e, he, q⟩ := (goodT_mem (P := P) (w := w) g k).1 z
      have c := List.findIdx?_eq_none_iff.mp hfi e he
      rw [q] at c
      cases c
    have hSk : S k = false := by
      cases q : S k with
      | false => rfl
      | true => exact absurd ((hm k).1 q) hnk
    have hgw : ∀ (b : Bool) {s₁ : Shared} {Q' : Unit → Shared → Prop}, Q' () s₁ → wpAny (model P w) A (match b with | true => rule "set.scan.the-table-gave-way" | false => pure ()) Q' E s₁ :=
      fun b s₁ Q' q => by cases b <;> first | exact wpAny_pure q | exact wpAny_rule q
    have pm := layNew_perm t es ((strKind P w).hash k) (.str k tk)
    have hf1 := layNew_fits t es ((strKind P w).hash k) (.str k tk)
    have hr1 := layNew_ris t es ((strKind P w).hash k) (.str k tk) hr
    have hl1 := layNew_led t es ((strKind P w).hash k) (.str k tk)
    generalize layNew t es ((strKind P w).hash k) (.str k tk) = Z at pm hf1 hr1 hl1 ⊢
    obtain ⟨es1, t1, wasDummy, gave⟩ := Z
    dsimp only at pm hf1 hr1 hl1 ⊢
    rw [Array.toList_push] at pm
    have pc : es1.toList.Perm (((strKind P w).hash k, Value.str k tk) :: es.toList) := pm.trans (List.perm_append_singleton _ _)
    have pk : (es1.toList.map keyT).Perm (k :: es.toList.map keyT) := pc.map keyT
    have g1 : ∀ e ∈ es1.toList, GoodT w e := fun e he => by
      rcases List.mem_cons.mp (pc.mem_iff.mp he) with z | z
      · rw [z]; exact ⟨k, tk, rfl, rfl⟩
      · exact g e z
    have nd1 : (es1.toList.map keyT).Nodup := pk.nodup_iff.mpr (List.nodup_cons.mpr ⟨hnk, nd⟩)
    have m1 : ∀ i, (S i || decide (i = k)) = true ↔ i ∈ es1.toList.map keyT := fun i => by
      rw [Bool.or_eq_true, decide_eq_true_eq, hm i, pk.mem_iff, List.mem_cons]
      exact Or.comm
    have hsz : es1.size = n + 1 := by rw [← Array.length_toList, pc.length_eq, List.length_cons, Array.length_toList, hn]
    have hb1 : es1.size < scanBound := by rw [hsz]; exact room
    have hled : w.params.followText "set-order" = true ∨ t1.led = true := hl.imp id fun z => by rw [hl1]; exact z
    have fin : ∀ h', Heap.SameBut a s.heap h' → SetT1 w h' a (fun j => S j || decide (j = k)) es1.size → Q true { s with heap := h' } := fun h' sb r => by
      have q := hQ h' sb
      rw [hSk] at q
      rw [hsz] at r
      exact q r
    refine wpAny_bind (hgw _ ?_)
    split
    · refine wpAny_bind ?_
      rw [hashByValue_scannable 8 hsc]
      refine wpAny_pure ?_
      refine setT1_tail ?_ ho hex hd g1 nd1 m1 hb1 ?_ ?_ ?_ ?_
      · intro b s₁ Q' q; cases b <;> first | exact wpAny_pure q | exact wpAny_rule q
      · first | (split <;> first | exact hf1 | exact SetTable.fits_plain_off hf1) | exact hf1
      · first | (split <;> exact hr1) | exact hr1
      · first | (split <;> exact hled) | exact hled
      · intro h' sb r; dsimp only; exact wpAny_pure (fin h' sb r)
    · refine wpAny_bind (wpAny_pure ?_)
      simp only [↓reduceIte]
      refine setT1_tail ?_ ho hex hd g1 nd1 m1 hb1 hf1 hr1 hled ?_
      · intro b s₁ Q' q; cases b <;> first | exact wpAny_pure q | exact wpAny_rule q
      · intro h' sb r; dsimp only; exact wpAny_pure (fin h' sb r)

end
theorem setT1_new_at {w : World} {h : Heap} {a : Addr} {ns : List Str} (ho : h.get? a = some { cls := .type "set", dict := none, data := .set #[] 0 (.fresh 0 0 (!w.params.followText "set-order")) }) : SetT1 w h a (fun j => decide (j ∈ ns.take 0)) 0 :=
  ⟨_, #[], 0, _, ho, ⟨rfl, rfl, rfl⟩, rfl, (fun e he => by simp at he), (by simp), (fun k => by simp), (by decide), (by rfl), rfl, List.Pairwise.nil, by
    show _ ∨ (!w.params.followText "set-order") = true
    cases w.params.followText "set-order"
    · exact .inr rfl
    · exact .inl rfl⟩
def rawT (v : Value) : Str := match v with
  | .str k _ => k
  | _ => Str.empty
theorem strsT_of : ∀ vs : List Value, (∀ v ∈ vs, ∃ k tk, v = .str k tk) → StrsAre vs (vs.map rawT)
  | [], _ => .nil
  | v :: vs, h => by
    obtain ⟨k, tk, rfl⟩ := h v List.mem_cons_self
    exact .cons k tk (strsT_of vs fun u hu => h u (List.mem_cons_of_mem _ hu))
section
variable {P : Program} {w : World} {A : Around} {E : Value → Shared → Prop} {s : Shared}
theorem set_update_txt {I : Addr} {fp wr : List Addr} {G : Array GenState → Array GenState → Prop} {n : Nat} {Pv : Nat → Value → Prop} {St : Nat → Shared → Prop} {R : Result → Shared → Prop}
    (W : WalksS P w A.in1 I fp wr G n Pv St) (S : Addr) (hSf : S ∉ fp) (ns : List Str) (hn : n = ns.length) (hb : ns.length + 1 < scanBound) (hval : ∀ i v, Pv i v → ∃ k t, ns[i]? = some k ∧ v = .str k t) :
    ∀ (k i : Nat) (s : Shared), n - i = k → i ≤ n → St i s → (∃ c, c ≤ i ∧ SetT1 w s.heap S (fun j => decide (j ∈ ns.take i)) c) →
      (∀ s' c, Moved (S :: wr) G s s' → c ≤ n → SetT1 w s'.heap S (fun j => decide (j ∈ ns)) c → R (.ok (.ret .none)) s') →
      codeAny (model P w) A (.builtin "set.update.loop" ⟨[.ref S, .ref I], []⟩) R s := by
  have hSw : S ∉ wr := fun h => hSf (W.sub _ h)
  have hsub : ∀ b ∈ wr, b ∈ S :: wr := fun b hb => List.mem_cons_of_mem _ hb
  intro k
  induction k with
  | zero =>
    intro i s hk' hi hst ⟨c, hc, hS⟩ hR
    have hin : i = n := by omega
    subst hin
    refine codeAny_builtin F.entry_set_update_loop ?_
    rw [Around.under_plainId F.plain_set_update_loop _]
    show wpAny _ A.in1 (pyNext (.ref I) >>= _) _ _ s
    refine wpAny_bind (W.done s _ _ hst fun s' hm => ?_)
    show wpAny _ A.in1 (ret Value.none) _ _ s'
    have e : ns.take i = ns := List.take_of_length_le (by omega)
    rw [e] at hS
    exact wpAny_pure (hR s' c (hm.mono hsub) hc (hS.at fun o e => hm.heap S o hSw e))
  | succ k ih =>
    intro i s hk' hi hst ⟨c, hc, hS⟩ hR
    have hlt : i < n := by omega
    refine codeAny_builtin F.entry_set_update_loop ?_
    rw [Around.under_plainId F.plain_set_update_loop _]
    show wpAny _ A.in1 (pyNext (.ref I) >>= _) _ _ s
    refine wpAny_bind (W.item i s _ _ hlt hst fun v s' hP hst' hm => ?_)
    obtain ⟨z, t, hz, rfl⟩ := hval i v hP
    have hS' : SetT1 w s'.heap S (fun j => decide (j ∈ ns.take i)) c := hS.at fun o e => hm.heap S o hSw e
    show wpAny _ A.in1 (holding [Value.str z t] (setAdd S (.str z t)) >>= _) _ _ s'
    refine wpAny_bind (wpAny_holding ?_)
    unfold setAdd
    refine wpAny_holding ?_
    refine wpAny_bind ((strKind P w).pyHash (k := z) (PySem.Froz.is_str (P := P) (w := w) _ _) ?_)
    refine setT1_add (s := { s' with toks := s'.toks + 1 }) hS' (by omega) fun h' hsb hS2 => ?_
    have hS3 : SetT1 w h' S (fun j => decide (j ∈ ns.take (i + 1))) (if decide (z ∈ ns.take i) = true then c else c + 1) := hS2.congr fun j => by
      rw [List.take_add_one, hz]
      simp [List.mem_append]
    have hc3 : (if decide (z ∈ ns.take i) = true then c else c + 1) ≤ i + 1 := by
      split <;> omega
    refine wpAny_pure ⟨plainId_quiet F.plain_set_update_loop _, ih (i + 1) _ (by omega) hlt (W.frame _ s' _ _ hst' (Nat.le_succ _) fun b hb o e => ?_) ⟨_, hc3, hS3⟩ fun s'' c2 hm'' hc'' hS'' => ?_⟩
    · rw [hsb.2 b (fun h : b = S => hSf (by rw [← h]; exact hb))]; exact e
    · refine hR s'' c2 (Moved.trans W.gtrans ((hm.mono hsub).then_heap (Nat.le_succ _) fun b o hb e => ?_) hm'') hc'' hS''
      rw [hsb.2 b (fun h : b = S => hb (by rw [h]; exact List.mem_cons_self))]; exact e


set_option maxRecDepth 100000 in
set_option maxHeartbeats 3200000 in
theorem call_set_lstT {l : Addr} {items : Array Value} (ns : List Str) {Q : Value → Shared → Prop} (hh : A.handled = none) (hl : s.heap.IsList l items) (hit : StrsAre items.toList ns) (hb : ns.length + 1 < scanBound)
    (h : ∀ (h' : Heap) (tk c : Nat), SetT1 w h' s.heap.objs.size (fun j => decide (j ∈ ns)) c → c ≤ ns.length → (∀ b o, s.heap.get? b = some o → h'.get? b = some o) → Q (.ref s.heap.objs.size) { s with heap := h', toks := tk }) :
    wpAny (model P w) A (call (.type "set") [.ref l]) Q E s := by
  have hisz : items.size = ns.length := by
    have q := StrsAre.length hit
    rw [Array.length_toList] at q
    exact q
  obtain ⟨c, tl, hmro⟩ := F.called_set.mro
  have hmade := F.called_set.made
  have hsub := F.called_set.sub
  refine wpAny_call (codeAny_of_tree ?_)
  show wpAny _ _ (callAny (.type "set") _) _ _ _
  refine wpAny_pure ⟨Code.quiet_builtin _ (by decide +kernel), codeAny_builtin F.entry_type_call ?_⟩
  rw [Around.under_plain (weight_type_call_type "set" [.ref l] []) rfl]
  have h1 := F.called_set.notType
  have h2 := F.called_set.canCreate
  have hct := F.typeCall_set_1 (.ref l)
  repeat (any_goals (first | assumption | wp_step))

  refine codeAny_mono (code_set_led1 (.ref l) (E := E) (Q₁ := fun obj s₁ => obj = .ref s.heap.objs.size ∧ s₁ = { s with heap := s.heap.push { cls := .type "set", dict := none, data := .set #[] 0 (.fresh 0 0 (!w.params.followText "set-order")) } }) ⟨rfl, rfl⟩) fun r s₁ hr => ?_
  cases r with
  | error e => exact hr
  | ok fl =>
    cases fl with
    | ret obj =>
      obtain ⟨rfl, rfl⟩ := hr
      have hS : (s.heap.push { cls := .type "set", dict := none, data := .set #[] 0 (.fresh 0 0 (!w.params.followText "set-order")) }).get? s.heap.objs.size = some { cls := .type "set", dict := none, data := .set #[] 0 (.fresh 0 0 (!w.params.followText "set-order")) } := Heap.get?_push_size _ rfl
      have hT : Shared.TypeIs { s with heap := s.heap.push { cls := .type "set", dict := none, data := .set #[] 0 (.fresh 0 0 (!w.params.followText "set-order")) } } (.ref s.heap.objs.size) "set" := ⟨_, hS, rfl⟩
      have hli := F.called_set.init.lookup
      have hbi := F.called_set.init.bind (.ref s.heap.objs.size)
      repeat (any_goals (first | assumption | wp_step))

      refine codeAny_mono (codeAny_call_builtin (R := wants (fun r s₂ => r = .none ∧ ∃ h' tk c, s₂ = { s with heap := h', toks := tk } ∧ SetT1 w h' s.heap.objs.size (fun j => decide (j ∈ ns)) c ∧ c ≤ ns.length ∧
          (∀ b o, s.heap.get? b = some o → h'.get? b = some o)) E) F.called_set.init.plain F.entry_set_init (check_set_init_1 hT ?_)) fun r₂ s₂ hr₂ => ?_
      · obtain ⟨ol, hol, hcl, nl, hdl⟩ := hl
        obtain ⟨ocls, odict, odata, oslots⟩ := ol
        simp only at hcl hdl
        subst hcl; subst hdl
        have hol' : (s.heap.push { cls := .type "set", dict := none, data := .set #[] 0 (.fresh 0 0 (!w.params.followText "set-order")) }).get? l = some { cls := .type "list", dict := odict, data := .seq items nl, slots := oslots } := Heap.get?_push_of_some _ hol
        have hsls := F.sub_list_set
        have hslf := F.sub_list_frozenset
        have hne : (Value.type "list" == Value.type "dict") = false := by decide
        have hl1 : (s.heap.push { cls := .type "set", dict := none, data := .set #[] 0 (.fresh 0 0 (!w.params.followText "set-order")) }).IsList l items := ⟨_, hol', rfl, nl, rfl⟩
        unfold Builtin.«set.__init__» noKeywords Builtin.Frozenset.updateFrom
        generalize hPI : pyIter = PI
        wp_walk
        subst hPI

        refine wpAny_pyIter_list hl1 ?_
        refine wpAny_bind (wpAny_runValue ?_)
        have hlS : l < s.heap.objs.size := Heap.lt_size hol
        have hh3 : A.in1.in1.in1.handled = none := by simp [hh]
        have hz1 : (s.heap.push { cls := .type "set", dict := none, data := .set #[] 0 (.fresh 0 0 (!w.params.followText "set-order")) }).objs.size = s.heap.objs.size + 1 := Heap.size_push ..
        have hneI : l ≠ (s.heap.push { cls := .type "set", dict := none, data := .set #[] 0 (.fresh 0 0 (!w.params.followText "set-order")) }).objs.size := by
          rw [Heap.size_push]; exact Nat.ne_of_lt (Nat.lt_succ_of_lt hlS)
        have hSf : s.heap.objs.size ∉ [(s.heap.push { cls := .type "set", dict := none, data := .set #[] 0 (.fresh 0 0 (!w.params.followText "set-order")) }).objs.size, l] := by
          rw [Heap.size_push]; simp only [List.mem_cons, List.mem_singleton, List.not_mem_nil, or_false, not_or]
          exact ⟨Nat.ne_of_lt (Nat.lt_succ_self _), Nat.ne_of_gt hlS⟩
        have hval : ∀ (i : Nat) (v : Value), items[i]? = some v → ∃ k t, ns[i]? = some k ∧ v = .str k t := fun i v hv => by
          have hi : i < ns.length := by rw [← hisz]; exact (Array.getElem?_eq_some_iff.mp hv).1
          obtain ⟨y, t, e, q⟩ := PyProof.Rows.StrsAre.item hit i v (by rw [Array.getElem?_toList]; exact hv)
          exact ⟨y, t, q, e⟩
        refine set_update_txt ((Walks.list hh3 _ l hneI items).toS) s.heap.objs.size
          hSf ns hisz hb hval (items.size - 0) 0 _ (by omega) (Nat.zero_le _)
          ⟨⟨_, Heap.get?_push_size _ rfl, rfl, rfl⟩, (hl1.push _)⟩ ?hS0 ?hR
        case hS0 =>
          have hget : ((s.heap.push { cls := .type "set", dict := none, data := .set #[] 0 (.fresh 0 0 (!w.params.followText "set-order")) }).push { cls := .type "list_iterator", data := .fields #[.ref l, .int 0 0] }).get? s.heap.objs.size
              = some { cls := .type "set", dict := none, data := .set #[] 0 (.fresh 0 0 (!w.params.followText "set-order")) } := Heap.get?_push_of_some _ hS
          exact ⟨0, Nat.le_refl 0, setT1_new_at hget⟩
        case hR =>
          intro s' c' hm hc' hS'
          obtain ⟨h', g2, d', tk', os'⟩ := s'
          have eg : g2 = s.gens := hm.gens
          have ed : d' = s.drawn := hm.drawn
          have eo : os' = s.os := hm.os
          subst eg; subst ed; subst eo
          show wpAny _ _ _ _ _ _
          refine wpAny_pure ?_
          show wpAny _ _ (ret Value.none) _ _ _
          rw [hisz] at hc'
          refine wpAny_pure ⟨rfl, h', tk', c', rfl, hS', hc', fun b o e => ?_⟩
          have hb0 : b < s.heap.objs.size := Heap.lt_size e
          have hb1 : b ≠ s.heap.objs.size := Nat.ne_of_lt hb0
          have hb2 : b ≠ (s.heap.push { cls := .type "set", dict := none, data := .set #[] 0 (.fresh 0 0 (!w.params.followText "set-order")) }).objs.size := by
            rw [Heap.size_push]; exact Nat.ne_of_lt (Nat.lt_succ_of_lt hb0)
          exact hm.heap b o (by simp only [List.mem_cons, List.mem_singleton, List.not_mem_nil, or_false, not_or]; exact ⟨hb1, hb2⟩) (Heap.get?_push_of_some _ (Heap.get?_push_of_some _ e))

      · cases r₂ with
        | error e => exact hr₂
        | ok fl₂ =>
          cases fl₂ with
          | ret r =>
            obtain ⟨rfl, h', tk, c', rfl, hS', hc', hk'⟩ := hr₂
            repeat (any_goals (first | assumption | wp_step))
            exact h _ _ _ hS' hc' hk'
          | _ => exact hr₂.elim
    | _ => exact hr.elim

end
section
variable {P : Program} {w : World} {A : Around} {E : Value → Shared → Prop} {s : Shared} {a : Addr}
theorem sorted_setT1 {S : Str → Bool} {n : Nat} {Q : Value → Shared → Prop} (R : SetT1 w s.heap a S n) (hh : A.handled = none) (h64 : n < 64)
    (hQ : ∀ s' p (out : Array Value) (c : Nat) (ns : List Str), (∀ b o, s.heap.get? b = some o → s'.heap.get? b = some o) → s'.gens = s.gens → s'.os = s.os → s.heap.objs.size ≤ p →
      s'.heap.get? p = some (seqObj "list" out c) → StrsAre out.toList ns → ns.Nodup → sortedS ns = true → (∀ k, k ∈ ns ↔ S k = true) → ns.length = n → Q (.ref p) s') :
    wpAny (model P w) A (call (.builtin "sorted") [.ref a]) Q E s := by
  obtain ⟨o, es, ep, t, ho, hex, hd, g, nd, hm, hb, hf, hn, hr, hl⟩ := R
  refine Calls.call_function_entry kind_sorted plain_sorted entry_sorted (args_sorted1 _) ?_
  unfold Builtin.«sorted»
  refine wpAny_bind (m := checkCount "sorted" 1 1 _) (wpAny_pure ?_)
  refine wpAny_bind (collect_set (A := A.in1) hh ⟨o, ho, hex.1, hd⟩ hf hb hr hl fun s1 vs k1 hz g1 o1 pm => ?_)
  have hvl : vs.length = n := by rw [pm.length_eq, List.length_map, Array.length_toList]; exact hn
  have hI : StrsAre vs (vs.map rawT) := strsT_of vs fun v hv => by
    obtain ⟨e, he, q⟩ := List.mem_map.mp (pm.mem_iff.mp hv)
    obtain ⟨k, tk, h1, _⟩ := g e he
    exact ⟨k, tk, by rw [← q]; exact h1⟩
  have pk : (vs.map rawT).Perm (es.toList.map keyT) := by
    have q := pm.map rawT
    rw [List.map_map] at q
    exact q
  refine wpAny_bind (wpAny_newList ?_ (by rw [hvl, sizeLine_eq]; omega))
  have hoL : (s1.heap.push (seqObj "list" vs.toArray 0)).get? s1.heap.objs.size = some (seqObj "list" vs.toArray 0) := Heap.get?_push_size _ rfl
  refine wpAny_bind (wpAny_holding (wpAny_call_entry slot_list_sort ⟨_, hoL, rfl⟩ entry_list_sort (list_sort_treeK strKind_oneLt hoL hI.keysOf (fun v₁ v₂ rest e => keyKind_strs (by rw [← e]; exact hI)) (by rw [hvl]; exact h64) fun st' hp hs => ⟨_, rfl, ?_⟩) (args_list_sort _)))
  obtain ⟨ns', a1, a2, a3⟩ := sorted_out_str hI hp hs
  obtain ⟨c, hc⟩ := sortedHeap_at (vs := vs) (out := (arrOf st').map (·.2)) hoL
  have pn : ns'.Perm (es.toList.map keyT) := a2.trans pk
  refine wpAny_pure ⟨_, rfl, hQ _ s1.heap.objs.size _ c ns' (fun b u e => ?_) g1 o1 hz hc a1 (pn.nodup_iff.mpr nd) a3 (fun k => by rw [pn.mem_iff, ← hm k]) ?_⟩
  · have q := k1 b u e
    have hlt := Heap.lt_size q
    show (sortedHeap (s1.heap.push (seqObj "list" vs.toArray 0)) s1.heap.objs.size vs ((arrOf st').map (·.2))).get? b = some u
    rw [sortedHeap_old (Nat.ne_of_lt hlt) (by rw [size_push']; exact Nat.lt_succ_of_lt hlt)]
    exact Heap.get?_push_of_some _ q
  · rw [pn.length_eq, List.length_map, Array.length_toList]; exact hn
end
end MS

set_option Elab.async false
set_option linter.all false
set_option maxRecDepth 100000
set_option maxHeartbeats 4000000
/-! MS21: sorted(set(texts of one sign)). -/
namespace MS
open PySem PySem.Spec PyProof.Rows L2 MI
/-- the set of texts at a -/
def TxtO (w : World) (a : Addr) (S : Str → Bool) (n : Nat) : HO := .ext fun h => SetT1 w h a S n
theorem txtO_new {w : World} {P : Program} {H : Hp} {h : Heap} {a : Addr} {S : Str → Bool} {n : Nat} (R : SetT1 w h a S n) : ObjOk P w H h a (TxtO w a S n) := by
  have ⟨o, _, _, _, ho, _⟩ := R
  exact ⟨R, ⟨o, ho⟩, fun h1 h2 p k => SetT1.at p k⟩
section
variable {X : Cx}
def rSetT (K : PySem.W.Frag) (w : World) : List V → Hp → VK → Prop := fun vs H Q => ∃ (a : Addr) (ns : List Str), vs = [V.ref a] ∧ SqL K H a (ns.map V.str) ∧ ns.length < 64 ∧
  ∀ (p : Addr) (c : Nat), H p = none → c ≤ ns.length → Q (.ref p) (upd H p (TxtO w p (fun j => decide (j ∈ ns)) c))
theorem cr_setT (hc : X.calm = true) : CallR X (.type "set") (rSetT X.K X.w) := by
  intro pins s σ H vs us Q I r h
  obtain ⟨a, ns, rfl, ha, hl, q⟩ := h
  rw [Vals.ref1 r]
  have hb : ns.length + 1 < scanBound := by unfold scanBound; omega
  obtain ⟨its, r, pl, hz⟩ := I.list ha
  refine call_set_lstT ns (I.ok.hd hc) pl.isList (by simpa using r.strs) hb fun h' tk c R hcn hk => ?_
  have hn : H s.heap.objs.size = none := I.hok.fresh (Nat.le_refl _)
  exact ⟨.ref _, _, I.laid (t' := tk) hk (Nat.le_refl _) (txtO_new R), rfl, q _ c hn hcn⟩
def rSortedTx (w : World) : List V → Hp → VK → Prop := fun vs H Q => ∃ (a : Addr) (S : Str → Bool) (n : Nat), vs = [V.ref a] ∧ H a = some (TxtO w a S n) ∧ n < 64 ∧
  ∀ (ns : List Str) (p : Addr), ns.Nodup → sortedS ns = true → (∀ k : Str, k ∈ ns ↔ S k = true) → H p = none → Q (.ref p) (upd H p (.lst (ns.map V.str)))
theorem cr_sortedTx (hc : X.calm = true) : CallR X (.builtin "sorted") (rSortedTx X.w) := by
  intro pins s σ H vs us Q I r h
  obtain ⟨a, S, n, rfl, ha, h64, q⟩ := h
  have R : SetT1 X.w s.heap a S n := (I.hok a _ ha).1
  rw [Vals.ref1 r]
  refine sorted_setT1 R (I.ok.hd hc) h64 fun s' p out c ns k g o hp hg hi hnd hs hm hl => ?_
  have hlen : (ns.map V.str).length ≤ sizeLine := by rw [List.length_map, hl, sizeLine_eq]; omega
  have hn : H p = none := I.hok.fresh hp
  have J : Inv X pins σ (upd H p (.lst (ns.map V.str))) { s with heap := s'.heap, gens := s'.gens, drawn := s'.drawn, toks := s'.toks } :=
    I.call (ch := []) (Un.laid k hp hn) (I.hok.laid k hp ⟨hlen, out.toList, c, vals_of_strs hi, hg⟩) (by rw [g]; exact I.bare) (fun _ z => nomatch z)
  have e : s' = { s with heap := s'.heap, gens := s'.gens, drawn := s'.drawn, toks := s'.toks } := by
    cases s'
    cases s
    cases o
    rfl
  rw [e]
  exact ⟨.ref p, _, J, rfl, q ns p hnd hs hm hn⟩
/-! ### texts of one sign -/
theorem ones_of {K : PySem.W.Frag} {ρ : List Addr} {H : Hp} : ∀ {l : List D} {vs : List V} {cs : List Nat}, ones? l = some cs → RvL K H ρ vs l → vs = (cs.map fun c => sD [c]).map V.str
  | [], _, cs, h, r => by
    cases r
    cases h
    rfl
  | d :: l, _, cs, h, .cons (v := v) (vs := vs) r1 r2 => by
    match d, h, r1 with
    | .str [c], h, r1 =>
      obtain ⟨cs', h1, rfl⟩ := Option.map_eq_some_iff.mp h
      cases r1
      rw [ones_of h1 r2]; rfl
    | .str [], h, _ => cases h
    | .str (_ :: _ :: _), h, _ => cases h
    | .non, h, _ => cases h
    | .bl _, h, _ => cases h
    | .int _, h, _ => cases h
    | .tup _, h, _ => cases h
    | .loc _, h, _ => cases h
    | .frz _, h, _ => cases h
    | .xtup _, h, _ => cases h
theorem strL_of {K : PySem.W.Frag} {ρ : List Addr} {H : Hp} : ∀ cs : List Nat, RvL K H ρ ((cs.map fun c => sD [c]).map V.str) (cs.map fun c => .str [c])
  | [] => .nil
  | c :: cs => .cons (.str [c]) (strL_of cs)
theorem rising_ones : ∀ (cs : List Nat) (p : Nat), risingS (sD [p]) (cs.map fun c => sD [c]) = true → (p :: cs).Pairwise (· ≤ ·)
  | [], p, _ => by simp
  | c :: cs, p, h => by
    simp only [List.map_cons, risingS, Bool.and_eq_true, Bool.not_eq_true'] at h
    have ih := rising_ones cs c h.2
    have h1 : p ≤ c := by
      have e : ltCps [c] [p] = false := h.1
      simp only [ltCps, Bool.and_false, Bool.or_false, decide_eq_false_iff_not] at e
      omega
    refine List.pairwise_cons.mpr ⟨fun x hx => ?_, ih⟩
    rcases List.mem_cons.mp hx with rfl | hx
    · exact h1
    · exact Nat.le_trans h1 ((List.pairwise_cons.mp ih).1 x hx)
theorem sorted_ones {cs : List Nat} (h : sortedS (cs.map fun c => sD [c]) = true) : cs.Pairwise (· ≤ ·) := by
  cases cs with
  | nil => exact .nil
  | cons c cs => exact rising_ones cs c h
theorem are_ones : ∀ (ms : List Str) (cs : List Nat), (∀ k ∈ ms, k ∈ cs.map fun c => sD [c]) → ∃ ds : List Nat, ms = ds.map fun c => sD [c]
  | [], _, _ => ⟨[], rfl⟩
  | m :: ms, cs, h => by
    obtain ⟨ds, rfl⟩ := are_ones ms cs fun k hk => h k (List.mem_cons_of_mem _ hk)
    obtain ⟨c, _, rfl⟩ := List.mem_map.mp (h m List.mem_cons_self)
    exact ⟨c :: ds, rfl⟩
theorem srt_unique {ms : List Str} {cs : List Nat} (hnd : ms.Nodup) (hs : sortedS ms = true) (hm : ∀ k : Str, k ∈ ms ↔ k ∈ cs.map fun c => sD [c]) : ms = (srtC cs).map fun c => sD [c] := by
  obtain ⟨ds, rfl⟩ := are_ones ms cs fun k hk => (hm k).mp hk
  have inj : ∀ {x y : Nat}, sD [x] = sD [y] → x = y := fun h => by
    have := sD_inj h
    simpa using this
  have mem : ∀ {c : Nat} {l : List Nat}, sD [c] ∈ (l.map fun c => sD [c]) ↔ c ∈ l := fun {c l} => ⟨fun h => by
    obtain ⟨x, hx, e⟩ := List.mem_map.mp h
    rw [← inj e]; exact hx, fun h => List.mem_map.mpr ⟨c, h, rfl⟩⟩
  have dn : ds.Nodup := List.Pairwise.of_map (S := (· ≠ ·)) (fun c => sD [c]) (fun a b h e => h (by rw [e])) hnd
  have dl := sorted_ones hs
  have h1 : (ds.map fun (c : Nat) => (c : Int)).Perm (dedI (cs.map fun (c : Nat) => (c : Int))) := by
    refine (List.perm_ext_iff_of_nodup ?_ (nodup_dedI _)).mpr fun k => ?_
    · exact List.Pairwise.map _ (fun a b h e => h (Int.ofNat.inj e)) dn
    · rw [mem_dedI]
      constructor
      · intro h
        obtain ⟨c, hc, rfl⟩ := List.mem_map.mp h
        exact List.mem_map.mpr ⟨c, mem.mp ((hm (sD [c])).mp (mem.mpr hc)), rfl⟩
      · intro h
        obtain ⟨c, hc, rfl⟩ := List.mem_map.mp h
        exact List.mem_map.mpr ⟨c, mem.mp ((hm (sD [c])).mpr (mem.mpr hc)), rfl⟩
  have h2 : (ds.map fun (c : Nat) => (c : Int)).Pairwise (· ≤ ·) := List.Pairwise.map _ (fun a b h => Int.ofNat_le.mpr h) dl
  have h3 := sortI_unique h1 h2
  unfold srtC
  have t : ∀ l : List Nat, (l.map fun (c : Nat) => (c : Int)).map Int.toNat = l := fun l => by
    induction l with
    | nil => rfl
    | cons x l ih => rw [List.map_cons, List.map_cons, ih]; rfl
  rw [← h3, t]
end
section
variable {K : PySem.W.Frag} {cl : Nat → Addr} {E : EX}
theorem s_sorU {w : World} : Ca1 K cl E bSorU (fun vs H Q => (rSetI K w vs H fun u H2 => rSortedSet w [u] H2 (fz Q) ∨ rSortedTx w [u] H2 (fz Q)) ∨ rSetT K w vs H fun u H2 => rSortedSet w [u] H2 (fz Q) ∨ rSortedTx w [u] H2 (fz Q)) := by
  intro σ Q ρ H st v1 d1 A r1 h
  rcases seqOf_ok A r1 with q | ⟨a, vs, l, rfl, q, r, hs⟩
  · exact h.none (bnd_none q)
  · cases qi : ints? l with
    | none =>
      rcases lstOf_ok A r1 with q2 | ⟨a2, vs2, l2, ea, q2, r2, hs2⟩
      · exact h.none (by unfold bSorU; rw [bnd_inv q, qi]; exact bnd_none q2)
      · cases ea
        cases qo : ones? l2 with
        | none => exact h.none (by unfold bSorU; rw [bnd_inv q, qi]; simp only; rw [bnd_inv q2, qo]; rfl)
        | some cs =>
          have ev := ones_of qo r2
          subst ev
          by_cases hl : cs.length < 64
          · have e : bSorU d1 st = some (.ok (.frz ((srtC cs).map fun c => .str [c])), st) := by unfold bSorU; rw [bnd_inv q, qi]; simp only; rw [bnd_inv q2, qo]; simp only [if_pos hl]; rfl
            refine .inr ⟨a, _, rfl, hs2, by rw [List.length_map]; exact hl, fun p c n hc => ?_⟩
            obtain ⟨A', g⟩ := A.side (o := TxtO w p (fun j => decide (j ∈ cs.map fun c => sD [c])) c) n
            refine .inr ⟨p, _, c, rfl, upd_same, by rw [List.length_map] at hc; omega, fun ms q' hnd hsrt hm n' => ?_⟩
            have e2 := srt_unique hnd hsrt fun k => by rw [hm k, decide_eq_true_eq]
            rw [e2]
            exact rest_frz A' (strL_of _) (h.base g) e q' n'
          · exact h.none (by unfold bSorU; rw [bnd_inv q, qi]; simp only; rw [bnd_inv q2, qo]; simp only [if_neg hl]; rfl)
    | some ns =>
      have ev := ints_of qi r
      subst ev
      by_cases hl : ns.length < 64
      · have e : bSorU d1 st = some (.ok (.frz ((sortI (dedI ns)).map D.int)), st) := by unfold bSorU; rw [bnd_inv q, qi]; simp only [if_pos hl]; rfl
        refine .inl ⟨a, ns, rfl, hs, hl, fun p c n hc => ?_⟩
        obtain ⟨A', g⟩ := A.side (o := SetO w p (fun j => decide (j ∈ ns)) c) n
        exact .inl (rSortedSet_upd upd_same (by omega) fun q' n' => rest_frz A' (ints_map _) (h.base g) e q' n')
      · exact h.none (by unfold bSorU; rw [bnd_inv q, qi]; simp only [if_neg hl]; rfl)
end
section
variable {X : Cx} {cl : Nat → Addr} {E : EX} {c : MI.Ctx} {e : Expr} {ga : SE} {p q pos qos : Pos}
theorem callR_or {f : Value} {r1 r2 : List V → Hp → VK → Prop} (h1 : CallR X f r1) (h2 : CallR X f r2) : CallR X f (fun vs H Q => r1 vs H Q ∨ r2 vs H Q) := by
  intro pins s σ H vs us Q I r h
  rcases h with h | h
  · exact h1 pins s σ H vs us Q I r h
  · exact h2 pins s σ H vs us Q I r h
theorem me_sorU (hc : X.calm = true) (hg : Gl X "sorted") (hm : X.mg "sorted" = none) (hg' : Gl X "set") (hm' : X.mg "set" = none) (ha : ME X cl E c e ga)
    (he : starEach [e] X.env = (false, eval e X.env) :: starEach [] X.env := by rfl)
    (he2 : starEach [Expr.Call (.Name "set" q) [e] [] qos] X.env = (false, eval (Expr.Call (.Name "set" q) [e] [] qos) X.env) :: starEach [] X.env := by rfl) :
    ME X cl E c (.Call (.Name "sorted" p) [.Call (.Name "set" q) [e] [] qos] [] pos) (eUn bSorU ga) :=
  peI (pe_callB (MS.CallR.fz (callR_or (cr_sortedSet hc) (cr_sortedTx hc))) hg hm B_sorted (pa_cons (pe_callTy (callR_or (cr_setI hc) (cr_setT hc)) hg' hm' B_set (pa_cons ha pa_nil he) (by decide +kernel) (by decide +kernel) he (by rfl)) pa_nil he2) (by decide +kernel) (by decide +kernel) he2 (by rfl))
    fun σ H Q h => tm_un (f := bSorU) (r := fun v H Q => (rSetI X.K X.w [v] H fun u H2 => rSortedSet X.w [u] H2 (fz Q) ∨ rSortedTx X.w [u] H2 (fz Q)) ∨ rSetT X.K X.w [v] H fun u H2 => rSortedSet X.w [u] H2 (fz Q) ∨ rSortedTx X.w [u] H2 (fz Q)) s_sorU h
end
end MS

set_option Elab.async false
set_option linter.all false
set_option maxRecDepth 100000
set_option maxHeartbeats 4000000
/-! MS22: list({k: True for ..}) of ints. -/
namespace MS
open PySem PySem.Spec PyProof.Rows L2 MI
theorem compL_pre {s : Src} {T : D → MI.R (Option D)} : ∀ {m i : Nat} {acc l : List D} {st st' : Stt}, compL s T m i acc st = some (.ok l, st') → ∃ r, l = acc ++ r
  | 0, _, _, _, _, _, h => by simp [compL, MI.fail] at h
  | m + 1, i, acc, l, st, st', h => by
    rcases compL_step h with ⟨_, rfl, _⟩ | ⟨d, o, st2, _, _, hn, hs⟩
    · exact ⟨[], by simp⟩
    · cases o with
      | none => exact compL_pre (hn rfl)
      | some x =>
        obtain ⟨r, rfl⟩ := compL_pre (hs x rfl).2
        exact ⟨x :: r, by simp⟩
theorem ints_pre : ∀ {a r : List D} {ns : List Int}, ints? (a ++ r) = some ns → ∃ ms ks, ints? a = some ms ∧ ints? r = some ks ∧ ns = ms ++ ks
  | [], r, ns, h => ⟨[], ns, rfl, h, rfl⟩
  | d :: a, r, ns, h => by
    match d, h with
    | .int i, h =>
      obtain ⟨ns', h1, rfl⟩ := Option.map_eq_some_iff.mp h
      obtain ⟨ms, ks, e1, e2, rfl⟩ := ints_pre h1
      exact ⟨i :: ms, ks, by simp [ints?, e1], e2, rfl⟩
    | .non, h => cases h
    | .bl _, h => cases h
    | .str _, h => cases h
    | .tup _, h => cases h
    | .loc _, h => cases h
    | .frz _, h => cases h
    | .xtup _, h => cases h
theorem keys_put {kvs : List (Key × V)} {ns : List Int} {k : Int} {v : V} (h : kvs.map (·.1) = ns.map Sum.inl) : (putK kvs (Sum.inl k) v).map (·.1) = (addF ns k).map Sum.inl := by
  have hany : (kvs.any fun kv => decide (kv.1 = (Sum.inl k : Key))) = decide (k ∈ ns) := by
    have e : (kvs.any fun kv => decide (kv.1 = (Sum.inl k : Key))) = (kvs.map (·.1)).any fun x => decide (x = (Sum.inl k : Key)) := by rw [List.any_map]; rfl
    rw [e, h, List.any_map, Bool.eq_iff_iff, List.any_eq_true, decide_eq_true_eq]
    constructor
    · rintro ⟨x, hx, e⟩
      have : x = k := by simpa using e
      exact this ▸ hx
    · intro hk
      exact ⟨k, hk, by simp⟩
  unfold putK addF
  rw [hany]
  by_cases hk : k ∈ ns
  · simp only [hk, decide_true, if_true]
    rw [← h, List.map_map]
    refine List.map_congr_left fun kv _ => ?_
    show (if kv.1 = Sum.inl k then (kv.1, v) else kv).1 = kv.1
    split <;> rfl
  · simp only [hk, decide_false, Bool.false_eq_true, if_false]
    rw [List.map_append, List.map_append, h]; rfl
section
variable {X : Cx} {cl : Nat → Addr} {E : EX} {c : MI.Ctx} {pos p : Pos} {kx tg iter : Expr} {ifs : List Expr} {scope : Scope} {own : List (Str × Nat)} {g : SG} {gi : MI.SI} {t : MI.ST} {ge : SE}
theorem tm_keysF {E' : EX} {vs : List Nat} {σ : L2.St} {H : Hp} {Q : VK} (h : TM X.K cl E (rV X.K) (eKeysF vs g gi t ge c) σ H Q) :
    tDc (TM X.K cl E (rS X.K cl) (gi c)) (TGw X.K cl vs (g c)) (TM X.K cl E' rB (t c)) (TM X.K cl E' (rV X.K) (ge c)) (TM X.K cl E' (rV X.K) (eC (.bl true) c)) vs σ H fun v H2 => rListD [v] H2 (fz Q) := by
  obtain ⟨ρ, env, st, A, e, h⟩ := h
  refine (Rest.step (g := gi c) (rS X.K cl) A e h).imp fun J H1 ⟨ρ1, st1, s, g1, A1, S, h1⟩ => ?_
  have e1 := e.grow A g1
  have ew : RvE X.K H1 ρ1 (L2.wipe σ vs) (wipeE env vs) := RvE.wipe vs e1
  intro D hD
  have nD : D ∉ ρ1 := fun hm => A1.there hm hD
  obtain ⟨l, ns, st', run, hin, K1⟩ : ∃ l ns st', compL s (compT g t ge c (wipeE env vs)) c.fuel 0 [] st1 = some (.ok l, st') ∧ ints? l = some ns ∧ ∀ ρ' H' v, Grow ρ1 H1 ρ' H' → At X.K cl ρ' H' st' → Rv X.K H' ρ' v (.frz ((dedF ns).map MI.D.int)) → Q v H' := by
    have inv : ∀ (rr : Rs MI.D × Stt), bnd (compL s (compT g t ge c (wipeE env vs)) c.fuel 0 []) (fun l => match ints? l with
        | some ns => ret (.frz ((dedF ns).map MI.D.int))
        | none => MI.fail) st1 = some rr → ∃ l ns st', compL s (compT g t ge c (wipeE env vs)) c.fuel 0 [] st1 = some (.ok l, st') ∧ ints? l = some ns ∧ rr = (.ok (.frz ((dedF ns).map MI.D.int)), st') := fun rr q => by
      unfold bnd at q
      cases qq : compL s (compT g t ge c (wipeE env vs)) c.fuel 0 [] st1 with
      | none => rw [qq] at q; cases q
      | some pr =>
        obtain ⟨rs, st3⟩ := pr
        cases rs with
        | exc kc fs => exact absurd qq (compL_noexc _ _ _ _ _ _ _ _ _)
        | ok l =>
          rw [qq] at q
          cases qi : ints? l with
          | none => simp only [qi] at q; cases q
          | some ns =>
            simp only [qi] at q
            exact ⟨l, ns, st3, rfl, qi, (Option.some.inj q).symm⟩
    rcases h1 with ⟨d, st2, q, k⟩ | ⟨kc, fs, st2, q, k⟩
    · obtain ⟨l, ns, st', a1, a2, a3⟩ := inv _ q
      cases a3
      exact ⟨l, ns, _, a1, a2, k⟩
    · obtain ⟨l, ns, st', a1, a2, a3⟩ := inv _ q
      cases a3
  obtain ⟨A2, g2⟩ := A1.side (o := .dK []) hD
  refine ⟨fun i m H => ∃ ρ st acc kvs ms, Grow ρ1 H1 ρ H ∧ At X.K cl ρ H st ∧ RvE X.K H ρ (L2.wipe σ vs) (wipeE env vs) ∧ H D = some (.dK kvs) ∧ D ∉ ρ ∧ ints? acc = some ms ∧ kvs.map (·.1) = (dedF ms).map Sum.inl ∧ kvs.length ≤ acc.length ∧ compL s (compT g t ge c (wipeE env vs)) m i acc st = some (.ok l, st'),
    ⟨c.fuel, ρ1, st1, [], [], [], g2, A2, ew.grow A1 g2, upd_same, nD, rfl, rfl, Nat.le_refl _, run⟩, ?_⟩
  rintro i m H ⟨ρ, st, acc, kvs, ms, gg, A, ee, hDu, nD, hms, hkv, hle, run⟩
  cases m with
  | zero => cases run
  | succ m =>
    rcases compL_step run with ⟨q, z1, z2⟩ | ⟨d, o, stE, q, runT, runN, runS⟩
    · subst z1 z2
      rw [hin] at hms
      cases hms
      refine .inl ⟨S.stop ρ H _ i gg A q, D, kvs, rfl, hDu, fun q' n' => ?_⟩
      have ek : (kvs.map fun kv => kV kv.1) = (dedF ns).map V.int := by
        have : (kvs.map fun kv => kV kv.1) = (kvs.map (·.1)).map kV := by rw [List.map_map]; rfl
        rw [this, hkv, List.map_map]; rfl
      rw [ek]
      refine .inr ⟨q', _, rfl, upd_same, fun od => ?_⟩
      have hne : q' ≠ D := fun z => by rw [z, hDu] at n'; cases n'
      have e2 : upd (upd H q' (.lst ((dedF ns).map V.int))) q' (.frz od (.lst ((dedF ns).map V.int))) = upd H q' (.frz od (.lst ((dedF ns).map V.int))) := by
        funext b
        by_cases hb : b = q'
        · rw [hb, upd_same, upd_same]
        · rw [upd_ne hb, upd_ne hb, upd_ne hb]
      rw [e2]
      obtain ⟨A6, g6⟩ := A.side (o := .frz od (.lst ((dedF ns).map V.int))) n'
      exact K1 ρ _ (.ref q') (gg.trans g6) A6 (.frz (.inl ⟨od, upd_same⟩) (ints_map _))
    · obtain ⟨env', st3, b, st4, qg, qt, hf, ht⟩ := compT_step runT
      obtain ⟨go, yl⟩ := S.go ρ H st i d gg A q
      refine .inr ⟨go, fun H => ∃ ρ st acc kvs ms, Grow ρ1 H1 ρ H ∧ At X.K cl ρ H st ∧ RvE X.K H ρ (L2.wipe σ vs) (wipeE env vs) ∧ H D = some (.dK kvs) ∧ D ∉ ρ ∧ ints? acc = some ms ∧ kvs.map (·.1) = (dedF ms).map Sum.inl ∧ kvs.length ≤ acc.length ∧ compL s (compT g t ge c (wipeE env vs)) m (i + 1) acc st = some (.ok l, st'), fun H' w => ⟨m, Nat.lt_succ_self m, w⟩, fun x H' y => ?_⟩
      obtain ⟨ρ2, g2, A2, r2⟩ := yl x H' y
      have out : ∀ {ρ H ρ' H'}, Grow ρ H ρ' H' → H D ≠ none → D ∉ ρ → D ∉ ρ' := fun {ρ H ρ' H'} g h n m => by
        rcases g.new D m with z | z
        · exact n z
        · exact h z
      have e2 := ee.grow A g2
      have nD2 := out g2 (by rw [hDu]; simp) nD
      have hD2 := g2.frame D _ hDu nD
      refine ⟨ρ2, wipeE env vs, st, d, A2, e2, r2, ?_⟩
      rw [qg]
      refine fun ρ3 H3 σ3 g3 A3 e3 hw => ⟨by rw [hw, wipe_idem], ?_⟩
      have nD3 := out g3 (by rw [hD2]; simp) nD2
      have hD3 := g3.frame D _ hD2 nD2
      refine ⟨ρ3, env', st3, A3, e3, .inl ⟨b, st4, qt, fun ρ4 H4 b' g4 A4 rb => ?_⟩⟩
      have rb' : b' = b := rb
      subst rb'
      have nD4 := out g4 (by rw [hD3]; simp) nD3
      have hD4 := g4.frame D _ hD3 nD3
      have e4 := e3.grow A3 g4
      cases b' with
      | false =>
        obtain ⟨z1, z2⟩ := hf rfl
        subst z2
        exact iteF ⟨ρ4, stE, acc, kvs, ms, gg.trans (g2.trans (g3.trans g4)), A4, (e2.grow A2 (g3.trans g4)), hD4, nD4, hms, hkv, hle, runN z1⟩
      | true =>
        obtain ⟨y, qe, z1⟩ := ht rfl
        obtain ⟨hl, run'⟩ := runS y z1
        -- the key is a number
        obtain ⟨r, el⟩ := compL_pre run'
        obtain ⟨ms2, ks2, i1, i2, i3⟩ := ints_pre (a := acc ++ [y]) (r := r) (by rw [← el]; exact hin)
        obtain ⟨ms3, ks3, j1, j2, j3⟩ := ints_pre i1
        rw [hms] at j1
        cases j1
        obtain ⟨k, ey, ek⟩ : ∃ k, y = .int k ∧ ks3 = [k] := by
          match y, j2 with
          | .int k, j2 => exact ⟨k, rfl, (Option.some.inj j2).symm⟩
          | .non, j2 => cases j2
          | .bl _, j2 => cases j2
          | .str _, j2 => cases j2
          | .tup _, j2 => cases j2
          | .loc _, j2 => cases j2
          | .frz _, j2 => cases j2
          | .xtup _, j2 => cases j2
        subst ey
        subst ek
        refine iteT ⟨ρ4, env', st4, A4, e4, .inl ⟨.int k, stE, qe, fun ρ5 H5 v5 g5 A5 r5 => ?_⟩⟩
        cases r5
        have nD5 := out g5 (by rw [hD4]; simp) nD4
        have hD5 := g5.frame D _ hD4 nD4
        have g25 := g2.trans (g3.trans (g4.trans g5))
        refine ⟨ρ5, env', stE, A5, e4.grow A4 g5, .inl ⟨.bl true, stE, rfl, fun ρ6 H6 v6 g6 A6 r6 => ?_⟩⟩
        have nD6 := out g6 (by rw [hD5]; simp) nD5
        have hD6 := g6.frame D _ hD5 nD5
        have g26 := g25.trans g6
        refine ⟨kvs, Sum.inl k, rfl, hD6, by have := sizeLine_eq; have e2 : lim = 16777216 := rfl; omega, ?_⟩
        have kp : Keep X.K H6 (upd H6 D (.dK (putK kvs (Sum.inl k) v6))) := Keep.of fun b o z1 z2 => by
          have hb : b ≠ D := fun z => by
            rw [z, hD6] at z1
            have z1' := Option.some.inj z1
            rcases z2 with ⟨xs, rfl⟩ | ⟨ob, u, rfl⟩ <;> cases z1'
          rw [upd_ne hb]; exact z1
        have A7 := A6.kept kp fun b hb => upd_ne fun z => nD6 (z ▸ hb)
        have g16 := gg.trans g26
        refine ⟨ρ6, stE, acc ++ [.int k], putK kvs (Sum.inl k) v6, ms ++ [k], ⟨g16.ext, g16.new, fun x o ho hn => ?_⟩, A7, by simpa using (ee.grow A g26).keep kp [], upd_same, nD6, ?_, ?_, ?_, run'⟩
        · rw [upd_ne fun z => by rw [z, hD] at ho; cases ho]
          exact g16.frame x o ho hn
        · rw [j3] at i1; exact i1
        · rw [keys_put hkv]
          unfold dedF
          rw [List.foldl_append]; rfl
        · have : (putK kvs (Sum.inl k) v6).length ≤ kvs.length + 1 := by
            unfold putK
            split <;> simp
          rw [List.length_append]; simp only [List.length_cons, List.length_nil]; omega
end
end MS

set_option Elab.async false
set_option linter.all false
set_option maxRecDepth 100000
set_option maxHeartbeats 4000000
/-! MS23: list({..}), list(text), int(text), text * number. -/
namespace MS
open PySem PySem.Spec PyProof.Rows L2 MI
section
variable {X : Cx} {cl : Nat → Addr} {E : EX} {c : MI.Ctx} {pos pos' p jp : Pos} {j : Nat} {kx tg iter : Expr} {ifs : List Expr} {scope : Scope} {own : List (Str × Nat)} {g : SG} {gi : MI.SI} {t : MI.ST} {ge : SE}
theorem me_keysF {E' : EX} (vs : List Nat) (hv : own.map (·.2) = vs) (hc : X.calm = true) (hN : X.N.Nodup) (ok : BlkOk X.N X.env.scope scope own) (hi : MI_ X cl E c tg iter gi)
    (hg : ∀ (s : Shared) (H : Hp) (C : Addr) (cls : List (Str × Addr)) (fp : List Addr), PG (X.blk s H scope (compEnvC scope cls C X.env) fp) tg (TGw X.K cl vs (g c)))
    (ht : ∀ (s : Shared) (H : Hp) (C : Addr) (cls : List (Str × Addr)) (fp : List Addr), PTs (X.blk s H scope (compEnvC scope cls C X.env) fp) ifs (TM X.K cl E' rB (t c)))
    (he : ∀ (s : Shared) (H : Hp) (C : Addr) (cls : List (Str × Addr)) (fp : List Addr), PE (X.blk s H scope (compEnvC scope cls C X.env) fp) kx (TM X.K cl E' (rV X.K) (ge c)))
    (hgl : Gl X "list") (hml : X.mg "list" = none)
    (hs : ∀ x, foldedSetIterable iter X.env x = pure x := by intro _; rfl)
    (hst : starEach [Expr.DictComp kx (.Constant (.bool true) j jp) [⟨tg, iter, ifs, 0⟩] scope pos'] X.env = (false, eval (Expr.DictComp kx (.Constant (.bool true) j jp) [⟨tg, iter, ifs, 0⟩] scope pos') X.env) :: starEach [] X.env := by rfl) :
    ME X cl E c (.Call (.Name "list" p) [.DictComp kx (.Constant (.bool true) j jp) [⟨tg, iter, ifs, 0⟩] scope pos'] [] pos) (eKeysF vs g gi t ge) :=
  peI (pe_callTy (MS.CallR.fz (call_list_dK hc)) hgl hml B_list (pa_cons (pe_dc (tv := TM X.K cl E' (rV X.K) (eC (.bl true) c)) hc hN hi ok hg ht he (fun s H C cls fp => me_bl) hs) pa_nil hst) (by decide +kernel) (by decide +kernel) hst (by rfl)) fun σ H Q h => by
    subst hv
    exact tm_keysF h
end
/-! ### list(text) -/
def signsV (a : Str) : List V := a.cps.toList.map fun c => V.str ⟨#[c]⟩
theorem signs_vals {a : Str} {acc : Array Value} (h : ItemsOf (SignAt a) acc a.cps.size) : Vals (signsV a) acc.toList := by
  have key : ∀ (l : List Nat) (us : List Value), us.length = l.length → (∀ (j : Nat) (v : Value), us[j]? = some v → ∃ (c : Nat) (u : Tok), l[j]? = some c ∧ v = Value.str ⟨#[c]⟩ u) → Vals (l.map fun c => V.str ⟨#[c]⟩) us := by
    intro l
    induction l with
    | nil =>
      intro us hl _
      have : us = [] := List.length_eq_zero_iff.mp hl
      subst this
      exact .nil
    | cons x l ih =>
      intro us hl hu
      cases us with
      | nil => cases hl
      | cons v us =>
        obtain ⟨c, u, h1, h2⟩ := hu 0 v rfl
        have hx : x = c := by simpa using h1
        subst hx
        subst h2
        exact .cons ⟨u, rfl⟩ (ih us (by simpa using hl) fun j v hv => by
          obtain ⟨c, u, h1, h2⟩ := hu (j + 1) v (by simpa using hv)
          exact ⟨c, u, by simpa using h1, h2⟩)
  refine key a.cps.toList acc.toList (by rw [Array.length_toList, Array.length_toList, h.1]) fun j v hv => ?_
  rw [Array.getElem?_toList] at hv
  obtain ⟨c, u, h1, h2⟩ := h.2 j v hv
  exact ⟨c, u, by rw [Array.getElem?_toList]; exact h1, h2⟩
section
variable {X : Cx}
theorem cr_listT (hc : X.calm = true) : CallR X (.type "list") (fun vs H Q => ∃ a : Str, vs = [.str a] ∧ a.cps.size ≤ sizeLine ∧ ∀ p, H p = none → Q (.ref p) (upd H p (.lst (signsV a)))) := by
  intro pins s σ H vs us Q I r h
  obtain ⟨a, rfl, hl, q⟩ := h
  obtain ⟨u, rfl, rx⟩ := vals1 r
  obtain ⟨tk, rfl⟩ := rx
  refine call_list_str (hn := hl) (I.ok.hd hc) a tk fun h' t' acc c' k e it => ?_
  have rv := signs_vals it
  exact ⟨.ref s.heap.objs.size, _, I.laid (t' := t') k (Nat.le_refl _) (show ObjOk X.prog X.w _ h' _ (.lst (signsV a)) from ⟨by unfold signsV; rw [List.length_map, Array.length_toList]; exact hl, acc.toList, c', rv, e⟩), rfl, q _ (I.hok.fresh (Nat.le_refl _))⟩
end
section
variable {K : PySem.W.Frag} {cl : Nat → Addr} {E : EX}
theorem strL1 {ρ : List Addr} {H : Hp} : ∀ cs : List Nat, RvL K H ρ (cs.map fun c => V.str ⟨#[c]⟩) (cs.map fun c => .str [c])
  | [] => .nil
  | c :: cs => .cons (.str [c]) (strL1 cs)
theorem s_listT : Ca1 K cl E bListS (fun vs H Q => ∃ a : Str, vs = [.str a] ∧ a.cps.size ≤ sizeLine ∧ ∀ p, H p = none → fz Q (.ref p) (upd H p (.lst (signsV a)))) := by
  intro σ Q ρ H st v1 d1 A r1 h
  cases r1 with
  | str s =>
    by_cases hl : s.length < lim
    · refine ⟨_, rfl, by show s.toArray.size ≤ sizeLine; have := sizeLine_eq; have e2 : lim = 16777216 := rfl; simp only [List.size_toArray]; omega, fun p n => ?_⟩
      exact rest_frz A (ds := s.map fun c => .str [c]) (by show RvL K H ρ (s.toArray.toList.map _) _; rw [List.toList_toArray]; exact strL1 s) h (by simp [bListS, hl]) p n
    · exact h.none (by simp [bListS, hl])
  | _ => exact h.none rfl
/-! ### int(text) -/
theorem intText_dg : ∀ k : Fin 10, PySem.intText? (sD [48 + k.val]) = some ((k.val : Nat) : Int) := by decide +kernel
theorem s_intU : Ca1 K cl E bIntU (fun xs H Q => ((∃ i, xs = [.int i] ∧ Q (.int i) H) ∨ ∃ k, xs = [.bl k] ∧ Q (.int (if k then 1 else 0)) H) ∨ ∃ a n, xs = [.str a] ∧ PySem.intText? a = some n ∧ a.length ≤ 640 ∧ Q (.int n) H) := by
  intro σ Q ρ H st v1 d1 A r1 h
  cases r1 with
  | int i => exact .inl (.inl ⟨i, rfl, h.ok (st' := st) rfl .refl A (.int _)⟩)
  | bl k => exact .inl (.inr ⟨k, rfl, h.ok (st' := st) (d := .int (if k then 1 else 0)) rfl .refl A (.int _)⟩)
  | str s =>
    match s, h with
    | [c], h =>
      by_cases hc : 48 ≤ c ∧ c ≤ 57
      · have hk := intText_dg ⟨c - 48, by omega⟩
        have e : 48 + (c - 48) = c := by omega
        simp only [e] at hk
        exact .inr ⟨_, _, rfl, hk, by show 1 ≤ 640; decide, h.ok (st' := st) (d := .int ((c - 48 : Nat) : Int)) (by simp [bIntU, hc]) .refl A (.int _)⟩
      · exact h.none (by simp [bIntU, hc])
    | [], h => exact h.none rfl
    | _ :: _ :: _, h => exact h.none rfl
  | _ => exact h.none rfl
/-! ### text * number -/
def rMulS : R2 := fun x y H Q => ∃ (a : Str) (n : Int), x = .str a ∧ y = .int n ∧ PySem.MulOk a n ∧ Q (.str (PySem.Txt.mul a n)) H
theorem op_mulS {X : Cx} : OpR X (binaryOp .Mult) rMulS := by
  intro pins s σ H x y v u Q I rx ry h
  obtain ⟨a, n, rfl, rfl, ok, q⟩ := h
  obtain ⟨t1, rfl⟩ := rx
  obtain ⟨t2, rfl⟩ := ry
  exact PySem.SB.mul ok fun t' k => ⟨V.str _, H, I.tok k, ⟨t', rfl⟩, q⟩
theorem fold_reps (s : List Nat) : ∀ (m : Nat) (acc : List Nat), (List.replicate m s.toArray).foldl (· ++ ·) acc.toArray = (acc ++ (List.replicate m s).flatten).toArray
  | 0, acc => by simp
  | m + 1, acc => by
    rw [List.replicate_succ, List.foldl_cons, List.replicate_succ, List.flatten_cons, List.append_toArray, fold_reps s m, List.append_assoc]
theorem s_mulS : OpS K cl E opMulS rMulS := by
  intro σ Q ρ H st v1 v2 d1 d2 A r1 r2 h
  cases r1 with
  | str s =>
    cases r2 with
    | int n =>
      by_cases hl : s.length = 1 ∧ 1 < n ∧ n < 1000000
      · obtain ⟨h1, h2, h3⟩ := hl
        have hs1 : (sD s).length = 1 := by rw [sD_len]; exact h1
        have e1 : ¬ n < 1 := by omega
        have e2 : (n == 1 || (sD s).length == 0) = false := by rw [hs1]; simp; omega
        have ok : PySem.MulOk (sD s) n := by
          refine ⟨by simp; omega, fun _ _ => ?_, fun _ _ => ?_⟩
          · rw [hs1]
            have : (1 : Int) ≤ (2 ^ 63 - 1) / n := by
              rw [Int.le_ediv_iff_mul_le (by omega)]; omega
            omega
          · rw [hs1]
            show decide (1 * n.toNat > sizeLine) = false
            rw [sizeLine_eq]
            exact decide_eq_false (by omega)
        refine ⟨_, n, rfl, rfl, ok, ?_⟩
        have em : PySem.Txt.mul (sD s) n = sD (List.replicate n.toNat s).flatten := by
          unfold PySem.Txt.mul
          rw [if_neg e1, e2]
          have := fold_reps s n.toNat []
          simp only [List.nil_append] at this
          show (⟨(List.replicate n.toNat s.toArray).foldl (· ++ ·) #[]⟩ : Str) = _
          rw [this]
        rw [em]
        exact h.ok (st' := st) (d := .str (List.replicate n.toNat s).flatten) (by simp [opMulS, h1, h2, h3]) .refl A (.str _)
      · exact h.none (by simp only [opMulS, hl, if_false])
    | _ => exact h.none rfl
  | _ => exact h.none rfl
end
end MS

set_option Elab.async false
set_option linter.all false
set_option maxRecDepth 100000
set_option maxHeartbeats 0
namespace MI
abbrev F_ParseError____init__ : Nat := 0
abbrev F_number_in : Nat := 1
abbrev F_format_copying : Nat := 2
abbrev F_parse_copying : Nat := 3
abbrev F__law_pen : Nat := 4
abbrev F__law_fresh : Nat := 5
abbrev F__law_draw : Nat := 6
abbrev F__law_copying : Nat := 7
abbrev F__law_good : Nat := 8
abbrev F__law_raised : Nat := 9
abbrev F_law : Nat := 10
abbrev C_ParseError : Nat := 0
abbrev w_ : List Nat := []
abbrev w_00 : List Nat := [48, 48]
abbrev w_01234567 : List Nat := [48, 49, 50, 51, 52, 53, 54, 55]
abbrev w_0123456789 : List Nat := [48, 49, 50, 51, 52, 53, 54, 55, 56, 57]
abbrev w_0_10_ : List Nat := [48, 10]
abbrev w_0_32_ : List Nat := [48, 32]
abbrev w_0_32_0 : List Nat := [48, 32, 48]
abbrev w_0_32__32_1 : List Nat := [48, 32, 32, 49]
abbrev w_0_32_none : List Nat := [48, 32, 110, 111, 110, 101]
abbrev w_1 : List Nat := [49]
abbrev w_1_32_0 : List Nat := [49, 32, 48]
abbrev w_8 : List Nat := [56]
abbrev w_None : List Nat := [78, 111, 110, 101]
abbrev w__32_ : List Nat := [32]
abbrev w__32_0123456789n_45__10__9__43__95_N : List Nat := [32, 48, 49, 50, 51, 52, 53, 54, 55, 56, 57, 110, 45, 10, 9, 43, 95, 78]
abbrev w__32_does_32_not_32_fit_32_the_32_lines_32_before_32_it : List Nat := [32, 100, 111, 101, 115, 32, 110, 111, 116, 32, 102, 105, 116, 32, 116, 104, 101, 32, 108, 105, 110, 101, 115, 32, 98, 101, 102, 111, 114, 101, 32, 105, 116]
abbrev w__43_1 : List Nat := [43, 49]
abbrev w__45_1 : List Nat := [45, 49]
abbrev w_error : List Nat := [101, 114, 114, 111, 114]
abbrev w_line : List Nat := [108, 105, 110, 101]
abbrev w_line_32_ : List Nat := [108, 105, 110, 101, 32]
abbrev w_none : List Nat := [110, 111, 110, 101]
abbrev w_none_32_ : List Nat := [110, 111, 110, 101, 32]
def m_ParseError : SE := (eFs [(eC (.str w_line_32_)), (eUn opFmt (eVar 1)), (eC (.str w__32_does_32_not_32_fit_32_the_32_lines_32_before_32_it))])
def b_ParseError____init___0 : SS :=
  sNone
def b_ParseError____init___1 : SS :=
  (sFld (eVar 0) w_line (eVar 1))
def b_ParseError____init__ : SS := (sSeq b_ParseError____init___0 b_ParseError____init___1)
def b_number_in_0 : SS :=
  (sRet (eIf (cAnd (cB (eBin opEq (eUn bLen (eVar 0)) (eC (.int 1)))) (cB (eBin opIn (eVar 0) (eC (.str w_0123456789))))) (eMt1 isStr mIndexS (eC (.str w_0123456789)) (eVar 0)) (eC .non)))
def b_number_in : SS := b_number_in_0
def b_format_copying_0 : SS :=
  (sRet (eIf (cB (eBin opNe (eVar 0) (eTup lNil))) (eMt1 isStr mJoin (eC (.str w__32_)) (eCompF [1] (gVar 1) (iSeq (eVar 0)) cYes (eUn bStr (eVar 1)))) (eC (.str w_none))))
def b_format_copying : SS := b_format_copying_0
def b_parse_copying_0 : SS :=
  (sIf (cB (eBin opEq (eVar 0) (eC (.str w_none))))
  (sRet (eTup lNil))
  sPass)
def b_parse_copying_1 : SS :=
  (sSet 1 (eCompF [2] (gVar 2) (iSeq (eMt1 isStr mSplit (eVar 0) (eC (.str w__32_)))) cYes (eCall F_number_in (lCons (eVar 2) lNil))))
def b_parse_copying_2 : SS :=
  (sIf (cOr (cB (eBin opIn (eC .non) (eVar 1))) (cOr (cB (eBin opGt (eUn bMax (eVar 1)) (eC (.int 7)))) (cB (eBin opNe (eVar 1) (eUn bSortedF (eKeysF [3] (gVar 3) (iSeq (eVar 1)) cYes (eVar 3)))))))
  (sRaise C_ParseError w_line m_ParseError (eC (.int 0)))
  sPass)
def b_parse_copying_3 : SS :=
  (sRet (eUn bTuple (eVar 1)))
def b_parse_copying : SS := (sSeq b_parse_copying_0 (sSeq b_parse_copying_1 (sSeq b_parse_copying_2 b_parse_copying_3)))
def b__law_pen_0 : SS :=
  (sRet (eLst (lCons (eUn bListF (eSlc (eVar 0) oNone (oSome (eC (.int 63))))) (lCons (eC (.int 0)) (lCons (eC (.int 0)) lNil)))))
def b__law_pen : SS := b__law_pen_0
def b__law_fresh_0 : SS :=
  (sSet 1 (eBin opIx (eVar 0) (eC (.int 1))))
def b__law_fresh_1 : SS :=
  (sAsg (gSub (eVar 0) (eC (.int 1))) (eBin opAdd (eVar 1) (eC (.int 1))))
def b__law_fresh_2 : SS :=
  (sSet 2 (eC (.int 0)))
def b__law_fresh_3 : SS :=
  (sIf (cB (eBin opNe (eBin opIx (eVar 0) (eC (.int 0))) (eLstF lNil)))
  (sSet 2 (eBin opIx (eBin opIx (eVar 0) (eC (.int 0))) (eBin opMod (eUn bInt (eVar 1)) (eUn bLen (eBin opIx (eVar 0) (eC (.int 0)))))))
  sPass)
def b__law_fresh_4 : SS :=
  (sIf (cAnd (cB (eBin opLt (eVar 1) (eUn bLen (eBin opIx (eVar 0) (eC (.int 0)))))) (cB (eBin opGe (eVar 2) (eBin opPow (eC (.int 10)) (eC (.int 18))))))
  (sRet (eBin opSub (eVar 2) (eBin opPow (eC (.int 10)) (eC (.int 18)))))
  sPass)
def b__law_fresh_5 : SS :=
  (sSet 3 (eC (.int 2305843009213693951)))
def b__law_fresh_6 : SS :=
  (sSet 4 (eBin opMod (eUn bInt (eBin opAdd (eBin opAdd (eBin opMul (eVar 2) (eC (.int 48271))) (eBin opMul (eC (.int 40692)) (eVar 1))) (eC (.int 31)))) (eVar 3)))
def b__law_fresh_7 : SS :=
  (sSet 5 (eVar 4))
def b__law_fresh_8 : SS :=
  (sFor (gVar 6) (iRange1 (eC (.int 6)))
  (sSeq (sSet 4 (eBin opMod (eUn bInt (eBin opAdd (eBin opAdd (eBin opMul (eVar 4) (eVar 4)) (eBin opMul (eBin opMul (eC (.int 69621)) (eBin opAdd (eVar 6) (eC (.int 1)))) (eBin opAdd (eVar 1) (eC (.int 1))))) (eVar 2))) (eVar 3)))
  (sSet 5 (eBin opAdd (eBin opMul (eVar 5) (eVar 3)) (eVar 4)))))
def b__law_fresh_9 : SS :=
  (sRet (eVar 5))
def b__law_fresh : SS := (sSeq b__law_fresh_0 (sSeq b__law_fresh_1 (sSeq b__law_fresh_2 (sSeq b__law_fresh_3 (sSeq b__law_fresh_4 (sSeq b__law_fresh_5 (sSeq b__law_fresh_6 (sSeq b__law_fresh_7 (sSeq b__law_fresh_8 b__law_fresh_9)))))))))
def b__law_draw_0 : SS :=
  (sIf (cB (eBin opLt (eBin opIx (eVar 0) (eC (.int 2))) (eVar 1)))
  (sAsg (gSub (eVar 0) (eC (.int 2))) (eCall F__law_fresh (lCons (eVar 0) lNil)))
  sPass)
def b__law_draw_1 : SS :=
  (sSet 2 (eBin opMod (eUn bInt (eBin opIx (eVar 0) (eC (.int 2)))) (eVar 1)))
def b__law_draw_2 : SS :=
  (sAsg (gSub (eVar 0) (eC (.int 2))) (eBin opDiv (eUn bInt (eBin opIx (eVar 0) (eC (.int 2)))) (eVar 1)))
def b__law_draw_3 : SS :=
  (sRet (eVar 2))
def b__law_draw : SS := (sSeq b__law_draw_0 (sSeq b__law_draw_1 (sSeq b__law_draw_2 b__law_draw_3)))
def b__law_copying_0 : SS :=
  (sRet (eUn bTuple (eCompF [2] (gVar 2) (iRange1 (eVar 1)) (cB (eBin opEq (eCall F__law_draw (lCons (eVar 0) (lCons (eC (.int 2)) lNil))) (eC (.int 0)))) (eVar 2))))
def b__law_copying : SS := b__law_copying_0
def b__law_good_0 : SS :=
  (sSet 1 (eMt1 isStr mSplit (eVar 0) (eC (.str w__32_))))
def b__law_good_1 : SS :=
  (sIf (cB (eBin opEq (eVar 0) (eC (.str w_none))))
  (sRet (eC (.bl true)))
  sPass)
def b__law_good_2 : SS :=
  (sRet (eAnd (eBin opEq (eCompF [2] (gVar 2) (iSeq (eVar 1)) (cB (eBin opNotIn (eVar 2) (eUn bListS (eC (.str w_01234567))))) (eVar 2)) (eLstF lNil)) (eBin opEq (eVar 1) (eUn bSorU (eVar 1)))))
def b__law_good : SS := (sSeq b__law_good_0 (sSeq b__law_good_1 b__law_good_2))
def b__law_raised_0 : SS :=
  (sSet 1 (eC .non))
def b__law_raised_1 : SS :=
  (sTryAs (sSet 1 (eCall F_parse_copying (lCons (eVar 0) lNil)))
  [C_ParseError] [] 2 (hSet 1 [(.str w_error)] w_line false))
def b__law_raised_2 : SS :=
  (sRet (eVar 1))
def b__law_raised : SS := (sSeq b__law_raised_0 (sSeq b__law_raised_1 b__law_raised_2))
def b_law_0 : SS :=
  (sSet 1 (eCall F__law_pen (lCons (eVar 0) lNil)))
def b_law_1 : SS :=
  (sFor (gVar 2) (iRange1 (eC (.int 10)))
  (sSeq (sSet 3 (eCall F__law_copying (lCons (eVar 1) (lCons (eC (.int 8)) lNil))))
  (sSeq (sSet 4 (eIf (cB (eBin opNe (eVar 3) (eTup lNil))) (eMt1 isStr mJoin (eC (.str w__32_)) (eCompF [9] (gVar 9) (iSeq (eVar 3)) cYes (eUn bStr (eVar 9)))) (eC (.str w_none))))
  (sSeq (sIf (cOr (cB (eBin opNe (eCall F_format_copying (lCons (eVar 3) lNil)) (eVar 4))) (cB (eBin opNe (eUn bRepr (eCall F_parse_copying (lCons (eVar 4) lNil))) (eUn bRepr (eVar 3)))))
  (sRet (eC (.bl false)))
  sPass)
  (sSeq (sPar 5 6 (lCons (eCall F__law_draw (lCons (eVar 1) (lCons (eBin opAdd (eUn bLen (eVar 4)) (eC (.int 1))) lNil))) (lCons (eBin opIx (eC (.str w__32_0123456789n_45__10__9__43__95_N)) (eCall F__law_draw (lCons (eVar 1) (lCons (eC (.int 18)) lNil)))) lNil)))
  (sSeq (sSet 6 (eIf (cB (eBin opEq (eCall F__law_draw (lCons (eVar 1) (lCons (eC (.int 5)) lNil))) (eC (.int 0)))) (eC (.str w_)) (eVar 6)))
  (sSeq (sSet 4 (eBin opAdd (eBin opAdd (eSlc (eVar 4) oNone (oSome (eVar 5))) (eVar 6)) (eSlc (eVar 4) (oSome (eBin opAdd (eVar 5) (eCall F__law_draw (lCons (eVar 1) (lCons (eC (.int 2)) lNil))))) oNone)))
  (sSeq (sSet 7 (eTup (lCons (eC (.str w_error)) (lCons (eC (.int 0)) lNil))))
  (sSeq (sIf (cB (eCall F__law_good (lCons (eVar 4) lNil)))
  (sSet 7 (eIf (cB (eBin opNe (eVar 4) (eC (.str w_none)))) (eUn bTuple (eCompF [10] (gVar 10) (iSeq (eMt1 isStr mSplit (eVar 4) (eC (.str w__32_)))) cYes (eUn bIntU (eVar 10)))) (eTup lNil)))
  sPass)
  (sIf (cB (eBin opNe (eCall F__law_raised (lCons (eVar 4) lNil)) (eVar 7)))
  (sRet (eC (.bl false)))
  sPass))))))))))
def b_law_2 : SS :=
  (sSet 8 (eLstF (lCons (eC (.str w_)) (lCons (eC (.str w__32_)) (lCons (eC (.str w_8)) (lCons (eC (.str w_0_32_0)) (lCons (eC (.str w_1_32_0)) (lCons (eC (.str w_00)) (lCons (eC (.str w_0_32__32_1)) (lCons (eC (.str w_0_32_)) (lCons (eC (.str w_none_32_)) (lCons (eC (.str w_None)) (lCons (eC (.str w_0_10_)) (lCons (eC (.str w__45_1)) (lCons (eC (.str w__43_1)) (lCons (eBin opMulS (eC (.str w_1)) (eC (.int 4400))) (lCons (eC (.str w_0_32_none)) lNil)))))))))))))))))
def b_law_3 : SS :=
  (sRet (eBin opEq (eCompF [4] (gVar 4) (iSeq (eVar 8)) cYes (eCall F__law_raised (lCons (eVar 4) lNil))) (eBin opMul (eLst (lCons (eTup (lCons (eC (.str w_error)) (lCons (eC (.int 0)) lNil))) lNil)) (eC (.int 15)))))
def b_law : SS := (sSeq b_law_0 (sSeq b_law_1 (sSeq b_law_2 b_law_3)))
def prog : Prog := ⟨[⟨2, 2, b_ParseError____init__⟩,
  ⟨1, 1, b_number_in⟩,
  ⟨1, 2, b_format_copying⟩,
  ⟨1, 4, b_parse_copying⟩,
  ⟨1, 1, b__law_pen⟩,
  ⟨1, 7, b__law_fresh⟩,
  ⟨2, 3, b__law_draw⟩,
  ⟨2, 3, b__law_copying⟩,
  ⟨1, 3, b__law_good⟩,
  ⟨1, 3, b__law_raised⟩,
  ⟨1, 11, b_law⟩],
  [], [], [F_number_in, F_format_copying]⟩
end MI
namespace Dv
open PySem PySem.Spec PyProof.Rows L2 MI MS
def top (i : Nat) : Stmt := PySem.Challenge.pw_copyplaces_k79_copyings_written_and_read.main.body.getD i (.Pass ⟨0, 0, 0, 0⟩)
abbrev s0 : Stmt := (inClass (top 1) 0)
def N0 : List Str := ["self", "line"]
def P0 : List Str := ["self", "line"]
abbrev s1 : Stmt := (top 5)
def N1 : List Str := ["word"]
def P1 : List Str := ["word"]
abbrev s2 : Stmt := (top 6)
def N2 : List Str := ["copying", "label"]
def P2 : List Str := ["copying"]
abbrev s3 : Stmt := (top 7)
def N3 : List Str := ["text", "labels", "word", "label"]
def P3 : List Str := ["text"]
abbrev s4 : Stmt := (top 9)
def N4 : List Str := ["script"]
def P4 : List Str := ["script"]
abbrev s5 : Stmt := (top 10)
def N5 : List Str := ["pen", "at", "cell", "p", "state", "found", "turn"]
def P5 : List Str := ["pen"]
abbrev s6 : Stmt := (top 11)
def N6 : List Str := ["pen", "many", "digit"]
def P6 : List Str := ["pen", "many"]
abbrev s7 : Stmt := (top 12)
def N7 : List Str := ["pen", "many", "label"]
def P7 : List Str := ["pen", "many"]
abbrev s8 : Stmt := (top 13)
def N8 : List Str := ["text", "words", "word"]
def P8 : List Str := ["text"]
abbrev s9 : Stmt := (top 14)
def N9 : List Str := ["text", "found", "e"]
def P9 : List Str := ["text"]
abbrev s10 : Stmt := (top 15)
def N10 : List Str := ["script", "pen", "turn", "copying", "text", "place", "sign", "due", "odd", "label", "word"]
def P10 : List Str := ["script"]
def fns : List (Str × Nat) := [(("number_in" : Str), F_number_in), (("_law_fresh" : Str), F__law_fresh), (("_law_draw" : Str), F__law_draw), (("parse_copying" : Str), F_parse_copying), (("_law_pen" : Str), F__law_pen), (("_law_copying" : Str), F__law_copying), (("format_copying" : Str), F_format_copying), (("_law_good" : Str), F__law_good), (("_law_raised" : Str), F__law_raised)]
def clss : List (Str × Nat × Nat) := []
def frees : List Str := [("len" : Str), ("str" : Str), ("sorted" : Str), ("list" : Str), ("max" : Str), ("tuple" : Str), ("int" : Str), ("range" : Str), ("set" : Str), ("repr" : Str)]
def cons : List (Str × D) := [(("DIGITS" : Str), (.str w_0123456789)), (("MAX_LABEL" : Str), (.int 7))]
def xcs : List (Str × Nat × List Nat × SE) := [(("ParseError" : Str), C_ParseError, w_line, m_ParseError)]
def xfs : List (Nat × List Nat) := [(C_ParseError, w_line)]
def exms : List (Nat × Nat × Bool) := [(C_ParseError, C_ParseError, true)]
abbrev MX (P : Program) (w : World) (K : PySem.W.Frag) (mg : Str → Option Value) (base : Heap) (cl : Nat → Addr) (c : MI.Ctx) (lv : Nat) : Prop := XM P w K mg base cl c lv xcs xfs exms
abbrev MD (P : Program) (w : World) (K : PySem.W.Frag) (mg : Str → Option Value) (base : Heap) (cl : Nat → Addr) (c : MI.Ctx) (lv : Nat) : Prop := Mod P w K mg base cl c lv fns clss frees cons
abbrev XX (N : List Str) (q : Str) (st : Stmt) (P : Program) (w : World) (K : PySem.W.Frag) (mg : Str → Option Value) (base : Heap) (f : Addr) (cdv : Value) (A : Around) (outer : List PySem.Env) (s : Shared) (H : Hp) (E : XK) : Cx := cxOf (L2.CX P w) P w K mg base N q (defScope st) f cdv A outer s H E
section
variable {P : Program} {w : World} {K : PySem.W.Frag} {mg : Str → Option Value} {base : Heap} {cl : Nat → Addr} {c : MI.Ctx} {lv : Nat} (M : MD P w K mg base cl c lv) (Mx : MX P w K mg base cl c lv) (f : Addr) (cdv : Value) (A : Around) (outer : List PySem.Env) (s : Shared) (H : Hp) (E : XK)
include M Mx
theorem der0 (G : Good (XX N0 "ParseError.__init__" s0 P w K mg base f cdv A outer s H E) (fun cls d _ H => E cls d H) cl c lv) (po : PassesOwn (model P w) (XX N0 "ParseError.__init__" s0 P w K mg base f cdv A outer s H E).A (XX N0 "ParseError.__init__" s0 P w K mg base f cdv A outer s H E).env (XX N0 "ParseError.__init__" s0 P w K mg base f cdv A outer s H E).xe) :
    MSS (XX N0 "ParseError.__init__" s0 P w K mg base f cdv A outer s H E) cl (EXW K cl fun cls d _ H => E cls d H) c (defBody s0) b_ParseError____init__ :=
  (mss_cons ms_none
  (mss_one (ms_fld G w_line (by decide +kernel) (me_var 0) (me_var 1))))
theorem der1 (G : Good (XX N1 "number_in" s1 P w K mg base f cdv A outer s H E) (fun cls d _ H => E cls d H) cl c lv) (po : PassesOwn (model P w) (XX N1 "number_in" s1 P w K mg base f cdv A outer s H E).A (XX N1 "number_in" s1 P w K mg base f cdv A outer s H E).env (XX N1 "number_in" s1 P w K mg base f cdv A outer s H E).xe) :
    MSS (XX N1 "number_in" s1 P w K mg base f cdv A outer s H E) cl (EXW K cl fun cls d _ H => E cls d H) c (defBody s1) b_number_in :=
  (mss_one (ms_ret (me_if (mt_bool (mw_and (mt_cmp (op_eqD (hu64 G)) s_eq (me_b1 call_len s_len rfl (M.fr 0 _ rfl) B_len (me_var 0)) me_int (nomark _)) (mw_and1 (mt_cmp (op_inA G.hu) s_in (me_var 0) (me_con (M.con 0 _ _ rfl) rfl) rfl)))) (me_mt1 m_indexS (me_con (M.con 0 _ _ rfl) rfl) (me_var 0)) me_non)))
theorem der2 (G : Good (XX N2 "format_copying" s2 P w K mg base f cdv A outer s H E) (fun cls d _ H => E cls d H) cl c lv) (po : PassesOwn (model P w) (XX N2 "format_copying" s2 P w K mg base f cdv A outer s H E).A (XX N2 "format_copying" s2 P w K mg base f cdv A outer s H E).env (XX N2 "format_copying" s2 P w K mg base f cdv A outer s H E).xe) :
    MSS (XX N2 "format_copying" s2 P w K mg base f cdv A outer s H E) cl (EXW K cl fun cls d _ H => E cls d H) c (defBody s2) b_format_copying :=
  (mss_one (ms_ret (me_if (mt_cmp (op_neD (hu64 G)) s_ne (me_var 0) (me_tup ma_nil) (nomark _)) (me_mt1 m_join (me_str w__32_) (me_compF (E' := EXW K cl fun _ _ _ _ => False) (own := [("label", 1)]) [1] rfl G.calm G.nd (blkOk_by (N := N2) (sc := defScope s2) (by first | decide +kernel | rfl))
    (mi_seq (me_var 0)) (fun s0 H0 C0 z0 f0 => (mw_name (i := 1) (G.blk s0 H0 _ _ f0).nd))
    (fun s0 H0 C0 z0 f0 => mts_nil)
    (fun s0 H0 C0 z0 f0 => (me_t1 call_strA s_str rfl (M.fr 1 _ rfl) B_str (me_var 1))))) (me_str w_none))))
theorem der3 (G : Good (XX N3 "parse_copying" s3 P w K mg base f cdv A outer s H E) (fun cls d _ H => E cls d H) cl c lv) (po : PassesOwn (model P w) (XX N3 "parse_copying" s3 P w K mg base f cdv A outer s H E).A (XX N3 "parse_copying" s3 P w K mg base f cdv A outer s H E).env (XX N3 "parse_copying" s3 P w K mg base f cdv A outer s H E).xe) :
    MSS (XX N3 "parse_copying" s3 P w K mg base f cdv A outer s H E) cl (EXW K cl fun cls d _ H => E cls d H) c (defBody s3) b_parse_copying :=
  (mss_cons (ms_if (mt_cmp (op_eqD (hu64 G)) s_eq (me_var 0) (me_str w_none) (nomark _))
  (mss_one (ms_ret (me_tup ma_nil)))
  mss_nil)
  (mss_cons (ms_setLcF (i := 1) (E' := EXW K cl fun _ _ _ _ => False) (own := [("word", 2)]) [2] rfl G.calm G.nd (blkOk_by (N := N3) (sc := defScope s3) (by first | decide +kernel | rfl))
    (mi_seq (me_mt1 m_split (me_var 0) (me_str w__32_))) (fun s0 H0 C0 z0 f0 => (mw_name (i := 2) (G.blk s0 H0 _ _ f0).nd))
    (fun s0 H0 C0 z0 f0 => mts_nil)
    (fun s0 H0 C0 z0 f0 => (me_call (G.blk s0 H0 _ _ f0) (M.fn 0 _ _ rfl) rfl (ma_cons (me_var 2) ma_nil))) (by rfl))
  (mss_cons (ms_if (mt_bool (mw_or (mt_cmp (op_inA G.hu) s_in me_non (me_var 1) rfl) (mw_or (mt_cmp op_gt s_gt (me_b1 (call_maxA G.calm) s_max rfl (M.fr 4 _ rfl) B_max (me_var 1)) (me_con (M.con 1 _ _ rfl) rfl) (nomark _)) (mw_or1 (mt_cmp (op_neD (hu64 G)) s_ne (me_var 1) (me_b1 call_sortedAF s_sortedF rfl (M.fr 2 _ rfl) B_sorted (me_keysF (E' := EXW K cl fun _ _ _ _ => False) (own := [("label", 3)]) [3] rfl G.calm G.nd (blkOk_by (N := N3) (sc := defScope s3) (by first | decide +kernel | rfl))
    (mi_seq (me_var 1)) (fun s0 H0 C0 z0 f0 => (mw_name (i := 3) (G.blk s0 H0 _ _ f0).nd))
    (fun s0 H0 C0 z0 f0 => mts_nil)
    (fun s0 H0 C0 z0 f0 => (me_var 3)) rfl (M.fr 3 _ rfl))) (nomark _))))))
  (mss_one (ms_raise G (Mx.xc 0 _ _ _ _ rfl) rfl me_int))
  mss_nil)
  (mss_one (ms_ret (me_t1 call_tuple_of s_tuple rfl (M.fr 5 _ rfl) B_tuple (me_var 1)))))))
theorem der4 (G : Good (XX N4 "_law_pen" s4 P w K mg base f cdv A outer s H E) (fun cls d _ H => E cls d H) cl c lv) (po : PassesOwn (model P w) (XX N4 "_law_pen" s4 P w K mg base f cdv A outer s H E).A (XX N4 "_law_pen" s4 P w K mg base f cdv A outer s H E).env (XX N4 "_law_pen" s4 P w K mg base f cdv A outer s H E).xe) :
    MSS (XX N4 "_law_pen" s4 P w K mg base f cdv A outer s H E) cl (EXW K cl fun cls d _ H => E cls d H) c (defBody s4) b__law_pen :=
  (mss_one (ms_ret (me_lst (ma_cons (me_t1 call_list_ofF s_listF rfl (M.fr 3 _ rfl) B_list (me_slc (me_var 0) mo_none (mo_some me_int))) (ma_cons me_int (ma_cons me_int ma_nil))))))
theorem der5 (G : Good (XX N5 "_law_fresh" s5 P w K mg base f cdv A outer s H E) (fun cls d _ H => E cls d H) cl c lv) (po : PassesOwn (model P w) (XX N5 "_law_fresh" s5 P w K mg base f cdv A outer s H E).A (XX N5 "_law_fresh" s5 P w K mg base f cdv A outer s H E).env (XX N5 "_law_fresh" s5 P w K mg base f cdv A outer s H E).xe) :
    MSS (XX N5 "_law_fresh" s5 P w K mg base f cdv A outer s H E) cl (EXW K cl fun cls d _ H => E cls d H) c (defBody s5) b__law_fresh :=
  (mss_cons (ms_set (i := 1) G.nd (me_ix (me_var 0) me_int (fun _ _ => rfl)))
  (mss_cons (ms_asg (me_bin op_addA s_add (me_var 1) me_int) (mg_sub (me_var 0) me_int))
  (mss_cons (ms_set (i := 2) G.nd me_int)
  (mss_cons (ms_if (mt_cmp (op_neD (hu64 G)) s_ne (me_ix (me_var 0) me_int (fun _ _ => rfl)) (me_lstF ma_nil) (nomark _))
  (mss_one (ms_set (i := 2) G.nd (me_ix (me_ix (me_var 0) me_int (fun _ _ => rfl)) (me_bin op_mod s_mod (me_t1 call_int1 s_int rfl (M.fr 6 _ rfl) B_int (me_var 1)) (me_b1 call_len s_len rfl (M.fr 0 _ rfl) B_len (me_ix (me_var 0) me_int (fun _ _ => rfl)))) (fun _ _ => rfl))))
  mss_nil)
  (mss_cons (ms_if (mt_bool (mw_and (mt_cmp op_lt s_lt (me_var 1) (me_b1 call_len s_len rfl (M.fr 0 _ rfl) B_len (me_ix (me_var 0) me_int (fun _ _ => rfl))) (nomark _)) (mw_and1 (mt_cmp op_ge s_ge (me_var 2) (me_bin op_pow s_pow me_int me_int) (nomark _)))))
  (mss_one (ms_ret (me_bin op_sub s_sub (me_var 2) (me_bin op_pow s_pow me_int me_int))))
  mss_nil)
  (mss_cons (ms_set (i := 3) G.nd me_int)
  (mss_cons (ms_set (i := 4) G.nd (me_bin op_mod s_mod (me_t1 call_int1 s_int rfl (M.fr 6 _ rfl) B_int (me_bin op_addA s_add (me_bin op_addA s_add (me_bin op_mulA s_mul (me_var 2) me_int) (me_bin op_mulA s_mul me_int (me_var 1))) me_int)) (me_var 3)))
  (mss_cons (ms_set (i := 5) G.nd (me_var 4))
  (mss_cons (ms_for po G.calm (mi_range1 rfl (M.fr 7 _ rfl) me_int) (mg_name (i := 6) G.nd)
  (mss_cons (ms_set (i := 4) G.nd (me_bin op_mod s_mod (me_t1 call_int1 s_int rfl (M.fr 6 _ rfl) B_int (me_bin op_addA s_add (me_bin op_addA s_add (me_bin op_mulA s_mul (me_var 4) (me_var 4)) (me_bin op_mulA s_mul (me_bin op_mulA s_mul me_int (me_bin op_addA s_add (me_var 6) me_int)) (me_bin op_addA s_add (me_var 1) me_int))) (me_var 2))) (me_var 3)))
  (mss_one (ms_set (i := 5) G.nd (me_bin op_addA s_add (me_bin op_mulA s_mul (me_var 5) (me_var 3)) (me_var 4))))))
  (mss_one (ms_ret (me_var 5))))))))))))
theorem der6 (G : Good (XX N6 "_law_draw" s6 P w K mg base f cdv A outer s H E) (fun cls d _ H => E cls d H) cl c lv) (po : PassesOwn (model P w) (XX N6 "_law_draw" s6 P w K mg base f cdv A outer s H E).A (XX N6 "_law_draw" s6 P w K mg base f cdv A outer s H E).env (XX N6 "_law_draw" s6 P w K mg base f cdv A outer s H E).xe) :
    MSS (XX N6 "_law_draw" s6 P w K mg base f cdv A outer s H E) cl (EXW K cl fun cls d _ H => E cls d H) c (defBody s6) b__law_draw :=
  (mss_cons (ms_if (mt_cmp op_lt s_lt (me_ix (me_var 0) me_int (fun _ _ => rfl)) (me_var 1) (nomark _))
  (mss_one (ms_asg (me_call G (M.fn 1 _ _ rfl) rfl (ma_cons (me_var 0) ma_nil)) (mg_sub (me_var 0) me_int)))
  mss_nil)
  (mss_cons (ms_set (i := 2) G.nd (me_bin op_mod s_mod (me_t1 call_int1 s_int rfl (M.fr 6 _ rfl) B_int (me_ix (me_var 0) me_int (fun _ _ => rfl))) (me_var 1)))
  (mss_cons (ms_asg (me_bin op_fdiv s_div (me_t1 call_int1 s_int rfl (M.fr 6 _ rfl) B_int (me_ix (me_var 0) me_int (fun _ _ => rfl))) (me_var 1)) (mg_sub (me_var 0) me_int))
  (mss_one (ms_ret (me_var 2))))))
theorem der7 (G : Good (XX N7 "_law_copying" s7 P w K mg base f cdv A outer s H E) (fun cls d _ H => E cls d H) cl c lv) (po : PassesOwn (model P w) (XX N7 "_law_copying" s7 P w K mg base f cdv A outer s H E).A (XX N7 "_law_copying" s7 P w K mg base f cdv A outer s H E).env (XX N7 "_law_copying" s7 P w K mg base f cdv A outer s H E).xe) :
    MSS (XX N7 "_law_copying" s7 P w K mg base f cdv A outer s H E) cl (EXW K cl fun cls d _ H => E cls d H) c (defBody s7) b__law_copying :=
  (mss_one (ms_ret (me_t1 call_tuple_of s_tuple rfl (M.fr 5 _ rfl) B_tuple (me_compF (E' := EXW K cl fun _ _ _ _ => False) (own := [("label", 2)]) [2] rfl G.calm G.nd (blkOk_by (N := N7) (sc := defScope s7) (by first | decide +kernel | rfl))
    (mi_range1 rfl (M.fr 7 _ rfl) (me_var 1)) (fun s0 H0 C0 z0 f0 => (mw_name (i := 2) (G.blk s0 H0 _ _ f0).nd))
    (fun s0 H0 C0 z0 f0 => (mts_one (mt_cmp (op_eqD (hu64 (G.blk s0 H0 _ _ f0))) s_eq (me_call (G.blk s0 H0 _ _ f0) (M.fn 2 _ _ rfl) rfl (ma_cons (me_var 0) (ma_cons me_int ma_nil))) me_int (nomark _))))
    (fun s0 H0 C0 z0 f0 => (me_var 2))))))
theorem der8 (G : Good (XX N8 "_law_good" s8 P w K mg base f cdv A outer s H E) (fun cls d _ H => E cls d H) cl c lv) (po : PassesOwn (model P w) (XX N8 "_law_good" s8 P w K mg base f cdv A outer s H E).A (XX N8 "_law_good" s8 P w K mg base f cdv A outer s H E).env (XX N8 "_law_good" s8 P w K mg base f cdv A outer s H E).xe) :
    MSS (XX N8 "_law_good" s8 P w K mg base f cdv A outer s H E) cl (EXW K cl fun cls d _ H => E cls d H) c (defBody s8) b__law_good :=
  (mss_cons (ms_set (i := 1) G.nd (me_mt1 m_split (me_var 0) (me_str w__32_)))
  (mss_cons (ms_if (mt_cmp (op_eqD (hu64 G)) s_eq (me_var 0) (me_str w_none) (nomark _))
  (mss_one (ms_ret me_bl))
  mss_nil)
  (mss_one (ms_ret (me_and (me_cmp (op_eqD (hu64 G)) s_eq (me_compF (E' := EXW K cl fun _ _ _ _ => False) (own := [("word", 2)]) [2] rfl G.calm G.nd (blkOk_by (N := N8) (sc := defScope s8) (by first | decide +kernel | rfl))
    (mi_seq (me_var 1)) (fun s0 H0 C0 z0 f0 => (mw_name (i := 2) (G.blk s0 H0 _ _ f0).nd))
    (fun s0 H0 C0 z0 f0 => (mts_one (mt_cmp (op_notInA (G.blk s0 H0 _ _ f0).hu) s_notIn (me_var 2) (me_t1 (MS.CallR.fz (cr_listT (G.blk s0 H0 _ _ f0).calm)) s_listT rfl (M.fr 3 _ rfl) B_list (me_str w_01234567)) rfl)))
    (fun s0 H0 C0 z0 f0 => (me_var 2))) (me_lstF ma_nil) (nomark _)) (me_one (me_cmp (op_eqD (hu64 G)) s_eq (me_var 1) (me_sorU G.calm rfl (M.fr 2 _ rfl) rfl (M.fr 8 _ rfl) (me_var 1)) (nomark _))))))))
theorem der9 (G : Good (XX N9 "_law_raised" s9 P w K mg base f cdv A outer s H E) (fun cls d _ H => E cls d H) cl c lv) (po : PassesOwn (model P w) (XX N9 "_law_raised" s9 P w K mg base f cdv A outer s H E).A (XX N9 "_law_raised" s9 P w K mg base f cdv A outer s H E).env (XX N9 "_law_raised" s9 P w K mg base f cdv A outer s H E).xe) :
    MSS (XX N9 "_law_raised" s9 P w K mg base f cdv A outer s H E) cl (EXW K cl fun cls d _ H => E cls d H) c (defBody s9) b__law_raised :=
  (mss_cons (ms_set (i := 1) G.nd me_non)
  (mss_cons (ms_try G rfl rfl rfl rfl ⟨rfl, by decide +kernel, .inl (Mx.xc 0 _ _ _ _ rfl).1⟩ (all_cons (Mx.exm 0 _ _ _ rfl) all_nil) all_nil
  (fun _ _ _ G po => (mss_one (ms_set (i := 1) G.nd (me_call G (M.fn 3 _ _ rfl) rfl (ma_cons (me_var 0) ma_nil)))))
  (fun _ _ _ _ _ hk z1 z2 => by
    obtain rfl := List.mem_singleton.mp hk
    exact (mh_tup w_error w_line (Mx.xf 0 _ _ rfl).1 (Mx.xf 0 _ _ rfl).2 z1 z2 G.nd rfl (Or.inl rfl) rfl (Or.inl rfl) (.inl rfl))))
  (mss_one (ms_ret (me_var 1)))))
theorem der10 (G : Good (XX N10 "law" s10 P w K mg base f cdv A outer s H E) (fun cls d _ H => E cls d H) cl c lv) (po : PassesOwn (model P w) (XX N10 "law" s10 P w K mg base f cdv A outer s H E).A (XX N10 "law" s10 P w K mg base f cdv A outer s H E).env (XX N10 "law" s10 P w K mg base f cdv A outer s H E).xe) :
    MSS (XX N10 "law" s10 P w K mg base f cdv A outer s H E) cl (EXW K cl fun cls d _ H => E cls d H) c (defBody s10) b_law :=
  (mss_cons (ms_set (i := 1) G.nd (me_call G (M.fn 4 _ _ rfl) rfl (ma_cons (me_var 0) ma_nil)))
  (mss_cons (ms_for po G.calm (mi_range1 rfl (M.fr 7 _ rfl) me_int) (mg_name (i := 2) G.nd)
  (mss_cons (ms_set (i := 3) G.nd (me_call G (M.fn 5 _ _ rfl) rfl (ma_cons (me_var 1) (ma_cons me_int ma_nil))))
  (mss_cons (ms_set (i := 4) G.nd (me_if (mt_cmp (op_neD (hu64 G)) s_ne (me_var 3) (me_tup ma_nil) (nomark _)) (me_mt1 m_join (me_str w__32_) (me_compF (E' := EXW K cl fun _ _ _ _ => False) (own := [("label", 9)]) [9] rfl G.calm G.nd (blkOk_by (N := N10) (sc := defScope s10) (by first | decide +kernel | rfl))
    (mi_seq (me_var 3)) (fun s0 H0 C0 z0 f0 => (mw_name (i := 9) (G.blk s0 H0 _ _ f0).nd))
    (fun s0 H0 C0 z0 f0 => mts_nil)
    (fun s0 H0 C0 z0 f0 => (me_t1 call_strA s_str rfl (M.fr 1 _ rfl) B_str (me_var 9))))) (me_str w_none)))
  (mss_cons (ms_if (mt_bool (mw_or (mt_cmp (op_neD (hu64 G)) s_ne (me_call G (M.fn 6 _ _ rfl) rfl (ma_cons (me_var 3) ma_nil)) (me_var 4) (nomark _)) (mw_or1 (mt_cmp (op_neD (hu64 G)) s_ne (me_b1 (call_reprD G.gd G.hu) s_repr rfl (M.fr 9 _ rfl) B_repr (me_call G (M.fn 3 _ _ rfl) rfl (ma_cons (me_var 4) ma_nil))) (me_b1 (call_reprD G.gd G.hu) s_repr rfl (M.fr 9 _ rfl) B_repr (me_var 3)) (nomark _)))))
  (mss_one (ms_ret me_bl))
  mss_nil)
  (mss_cons (ms_par (i := 5) (j := 6) G.calm G.nd (ma_cons (me_call G (M.fn 2 _ _ rfl) rfl (ma_cons (me_var 1) (ma_cons (me_bin op_addA s_add (me_b1 call_len s_len rfl (M.fr 0 _ rfl) B_len (me_var 4)) me_int) ma_nil))) (ma_cons (me_ix (me_str w__32_0123456789n_45__10__9__43__95_N) (me_call G (M.fn 2 _ _ rfl) rfl (ma_cons (me_var 1) (ma_cons me_int ma_nil))) (fun _ _ => rfl)) ma_nil)) (by rfl))
  (mss_cons (ms_set (i := 6) G.nd (me_if (mt_cmp (op_eqD (hu64 G)) s_eq (me_call G (M.fn 2 _ _ rfl) rfl (ma_cons (me_var 1) (ma_cons me_int ma_nil))) me_int (nomark _)) (me_str w_) (me_var 6)))
  (mss_cons (ms_set (i := 4) G.nd (me_bin op_addA s_add (me_bin op_addA s_add (me_slc (me_var 4) mo_none (mo_some (me_var 5))) (me_var 6)) (me_slc (me_var 4) (mo_some (me_bin op_addA s_add (me_var 5) (me_call G (M.fn 2 _ _ rfl) rfl (ma_cons (me_var 1) (ma_cons me_int ma_nil))))) mo_none)))
  (mss_cons (ms_set (i := 7) G.nd (me_tup (ma_cons (me_str w_error) (ma_cons me_int ma_nil))))
  (mss_cons (ms_if (mt_val (me_call G (M.fn 7 _ _ rfl) rfl (ma_cons (me_var 4) ma_nil)))
  (mss_one (ms_set (i := 7) G.nd (me_if (mt_cmp (op_neD (hu64 G)) s_ne (me_var 4) (me_str w_none) (nomark _)) (me_t1 call_tuple_of s_tuple rfl (M.fr 5 _ rfl) B_tuple (me_compF (E' := EXW K cl fun _ _ _ _ => False) (own := [("word", 10)]) [10] rfl G.calm G.nd (blkOk_by (N := N10) (sc := defScope s10) (by first | decide +kernel | rfl))
    (mi_seq (me_mt1 m_split (me_var 4) (me_str w__32_))) (fun s0 H0 C0 z0 f0 => (mw_name (i := 10) (G.blk s0 H0 _ _ f0).nd))
    (fun s0 H0 C0 z0 f0 => mts_nil)
    (fun s0 H0 C0 z0 f0 => (me_t1 (callR_or call_int1 call_int_str) s_intU rfl (M.fr 6 _ rfl) B_int (me_var 10))))) (me_tup ma_nil))))
  mss_nil)
  (mss_one (ms_if (mt_cmp (op_neD (hu64 G)) s_ne (me_call G (M.fn 8 _ _ rfl) rfl (ma_cons (me_var 4) ma_nil)) (me_var 7) (nomark _))
  (mss_one (ms_ret me_bl))
  mss_nil)))))))))))
  (mss_cons (ms_set (i := 8) G.nd (me_lstF (ma_cons (me_str w_) (ma_cons (me_str w__32_) (ma_cons (me_str w_8) (ma_cons (me_str w_0_32_0) (ma_cons (me_str w_1_32_0) (ma_cons (me_str w_00) (ma_cons (me_str w_0_32__32_1) (ma_cons (me_str w_0_32_) (ma_cons (me_str w_none_32_) (ma_cons (me_str w_None) (ma_cons (me_str w_0_10_) (ma_cons (me_str w__45_1) (ma_cons (me_str w__43_1) (ma_cons (me_bin op_mulS s_mulS (me_str w_1) me_int) (ma_cons (me_str w_0_32_none) ma_nil)))))))))))))))))
  (mss_one (ms_ret (me_cmp (op_eqD (hu64 G)) s_eq (me_compF (E' := EXW K cl fun _ _ _ _ => False) (own := [("text", 4)]) [4] rfl G.calm G.nd (blkOk_by (N := N10) (sc := defScope s10) (by first | decide +kernel | rfl))
    (mi_seq (me_var 8)) (fun s0 H0 C0 z0 f0 => (mw_name (i := 4) (G.blk s0 H0 _ _ f0).nd))
    (fun s0 H0 C0 z0 f0 => mts_nil)
    (fun s0 H0 C0 z0 f0 => (me_call (G.blk s0 H0 _ _ f0) (M.fn 8 _ _ rfl) rfl (ma_cons (me_var 4) ma_nil)))) (me_bin op_mulA s_mul (me_lst (ma_cons (me_tup (ma_cons (me_str w_error) (ma_cons me_int ma_nil))) ma_nil)) me_int) (nomark _)))))))
end
def nm : Nat → Str
  | 0 => "ParseError"
  | _ => ""
def clA (K : PySem.W.Frag) (k : Nat) : Addr := He.ga K (nm k)
def dd0 : He.DefD := ⟨("ParseError", some "__init__"), "__init__", "ParseError.__init__", defArgs s0, defBody s0, defScope s0, [], []⟩
def dd1 : He.DefD := ⟨("number_in", none), "number_in", "number_in", defArgs s1, defBody s1, defScope s1, [], []⟩
def dd2 : He.DefD := ⟨("format_copying", none), "format_copying", "format_copying", defArgs s2, defBody s2, defScope s2, [], []⟩
def dd3 : He.DefD := ⟨("parse_copying", none), "parse_copying", "parse_copying", defArgs s3, defBody s3, defScope s3, [], []⟩
def dd4 : He.DefD := ⟨("_law_pen", none), "_law_pen", "_law_pen", defArgs s4, defBody s4, defScope s4, [], []⟩
def dd5 : He.DefD := ⟨("_law_fresh", none), "_law_fresh", "_law_fresh", defArgs s5, defBody s5, defScope s5, [], []⟩
def dd6 : He.DefD := ⟨("_law_draw", none), "_law_draw", "_law_draw", defArgs s6, defBody s6, defScope s6, [], []⟩
def dd7 : He.DefD := ⟨("_law_copying", none), "_law_copying", "_law_copying", defArgs s7, defBody s7, defScope s7, [], []⟩
def dd8 : He.DefD := ⟨("_law_good", none), "_law_good", "_law_good", defArgs s8, defBody s8, defScope s8, [], []⟩
def dd9 : He.DefD := ⟨("_law_raised", none), "_law_raised", "_law_raised", defArgs s9, defBody s9, defScope s9, [], []⟩
def dd10 : He.DefD := ⟨("law", none), "law", "law", defArgs s10, defBody s10, defScope s10, [], []⟩
def fnl_0 : List He.DefD := [dd0, dd1, dd2, dd3, dd4, dd5, dd6, dd7, dd8, dd9, dd10]
def fnl : List He.DefD := fnl_0
def fal_0 : List He.Fa := [.glo "number_in", .glo "_law_fresh", .glo "_law_draw", .glo "parse_copying", .glo "_law_pen", .glo "_law_copying", .glo "format_copying", .glo "_law_good", .glo "_law_raised", .free "len", .free "str", .free "sorted", .free "list", .free "max", .free "tuple", .free "int", .free "range", .free "set", .free "repr", .str "DIGITS" (sD w_0123456789)]
def fal_1 : List He.Fa := [.int "MAX_LABEL" 7, .glo "ParseError", .free "ValueError", .glo "law"]
def fal : List He.Fa := fal_0 ++ fal_1
def loose_0 : List PySem.Str := ["__name__", "ParseError", "MAX_LABEL", "DIGITS", "number_in", "format_copying", "parse_copying", "_law_pen", "_law_fresh", "_law_draw", "_law_copying", "_law_good", "_law_raised"]
def loose : List PySem.Str := loose_0
def exB (K : PySem.W.Frag) : Bool := oexB K (clA K C_ParseError) (He.fAd K dd0.at_) (sD w_line) && (xfB K (clA K C_ParseError) && (decide (PySem.W.exmOne K (.ref (clA K C_ParseError)) (.ref (clA K C_ParseError)) = some true)))
theorem exK0 {K : PySem.W.Frag} (h : exB K = true) : oexB K (clA K C_ParseError) (He.fAd K dd0.at_) (sD w_line) = true := (Bool.and_eq_true_iff.mp h).1
theorem exK1 {K : PySem.W.Frag} (h : exB K = true) : xfB K (clA K C_ParseError) = true := (Bool.and_eq_true_iff.mp (Bool.and_eq_true_iff.mp h).2).1
theorem exK2 {K : PySem.W.Frag} (h : exB K = true) : decide (PySem.W.exmOne K (.ref (clA K C_ParseError)) (.ref (clA K C_ParseError)) = some true) = true := (Bool.and_eq_true_iff.mp (Bool.and_eq_true_iff.mp h).2).2
abbrev R : PySem.W.OpenRow := PySem.W.OpenLaw.row PySem.Challenge.rw_copyplaces_k79_copyings_written_and_read
abbrev hk : PySem.W.Hook := hookM 5 fal fnl exB
def ob (s : PySem.W.SharedT) : AlM := obsM 5 fal fnl exB (HandSHeadRun.getT s)
theorem ob_eq (s : PySem.W.SharedT) : ob s = hk.obs s.abs := obsM_eq (HandSHeadRun.getT_eq s)
theorem run (w : World) : HandSHeadRun.RunEq R (PySem.W.view R.prog [15]) hk ob 4000 loose w := by
  intro os
  kernel_rfl
theorem sc0 : FnScope N0 P0 (defScope s0) := ⟨rfl, rfl, rfl, by decide +kernel, rfl, by decide +kernel, by decide +kernel⟩
theorem bn0 {K : PySem.W.Frag} {f : Addr} {fd : FuncData} (F : FunD K "__init__" "ParseError.__init__" (defArgs s0) (defBody s0) (defScope s0) [] [] f fd) : Binds K fd P0 [] := F.bindsN fun _ _ _ _ _ _ us hl => match us, hl with | [_, _], _ => rfl
theorem sc1 : FnScope N1 P1 (defScope s1) := ⟨rfl, rfl, rfl, by decide +kernel, rfl, by decide +kernel, by decide +kernel⟩
theorem bn1 {K : PySem.W.Frag} {f : Addr} {fd : FuncData} (F : FunD K "number_in" "number_in" (defArgs s1) (defBody s1) (defScope s1) [] [] f fd) : Binds K fd P1 [] := F.bindsN fun _ _ _ _ _ _ us hl => match us, hl with | [_], _ => rfl
theorem sc2 : FnScope N2 P2 (defScope s2) := ⟨rfl, rfl, rfl, by decide +kernel, rfl, by decide +kernel, by decide +kernel⟩
theorem bn2 {K : PySem.W.Frag} {f : Addr} {fd : FuncData} (F : FunD K "format_copying" "format_copying" (defArgs s2) (defBody s2) (defScope s2) [] [] f fd) : Binds K fd P2 [] := F.bindsN fun _ _ _ _ _ _ us hl => match us, hl with | [_], _ => rfl
theorem sc3 : FnScope N3 P3 (defScope s3) := ⟨rfl, rfl, rfl, by decide +kernel, rfl, by decide +kernel, by decide +kernel⟩
theorem bn3 {K : PySem.W.Frag} {f : Addr} {fd : FuncData} (F : FunD K "parse_copying" "parse_copying" (defArgs s3) (defBody s3) (defScope s3) [] [] f fd) : Binds K fd P3 [] := F.bindsN fun _ _ _ _ _ _ us hl => match us, hl with | [_], _ => rfl
theorem sc4 : FnScope N4 P4 (defScope s4) := ⟨rfl, rfl, rfl, by decide +kernel, rfl, by decide +kernel, by decide +kernel⟩
theorem bn4 {K : PySem.W.Frag} {f : Addr} {fd : FuncData} (F : FunD K "_law_pen" "_law_pen" (defArgs s4) (defBody s4) (defScope s4) [] [] f fd) : Binds K fd P4 [] := F.bindsN fun _ _ _ _ _ _ us hl => match us, hl with | [_], _ => rfl
theorem sc5 : FnScope N5 P5 (defScope s5) := ⟨rfl, rfl, rfl, by decide +kernel, rfl, by decide +kernel, by decide +kernel⟩
theorem bn5 {K : PySem.W.Frag} {f : Addr} {fd : FuncData} (F : FunD K "_law_fresh" "_law_fresh" (defArgs s5) (defBody s5) (defScope s5) [] [] f fd) : Binds K fd P5 [] := F.bindsN fun _ _ _ _ _ _ us hl => match us, hl with | [_], _ => rfl
theorem sc6 : FnScope N6 P6 (defScope s6) := ⟨rfl, rfl, rfl, by decide +kernel, rfl, by decide +kernel, by decide +kernel⟩
theorem bn6 {K : PySem.W.Frag} {f : Addr} {fd : FuncData} (F : FunD K "_law_draw" "_law_draw" (defArgs s6) (defBody s6) (defScope s6) [] [] f fd) : Binds K fd P6 [] := F.bindsN fun _ _ _ _ _ _ us hl => match us, hl with | [_, _], _ => rfl
theorem sc7 : FnScope N7 P7 (defScope s7) := ⟨rfl, rfl, rfl, by decide +kernel, rfl, by decide +kernel, by decide +kernel⟩
theorem bn7 {K : PySem.W.Frag} {f : Addr} {fd : FuncData} (F : FunD K "_law_copying" "_law_copying" (defArgs s7) (defBody s7) (defScope s7) [] [] f fd) : Binds K fd P7 [] := F.bindsN fun _ _ _ _ _ _ us hl => match us, hl with | [_, _], _ => rfl
theorem sc8 : FnScope N8 P8 (defScope s8) := ⟨rfl, rfl, rfl, by decide +kernel, rfl, by decide +kernel, by decide +kernel⟩
theorem bn8 {K : PySem.W.Frag} {f : Addr} {fd : FuncData} (F : FunD K "_law_good" "_law_good" (defArgs s8) (defBody s8) (defScope s8) [] [] f fd) : Binds K fd P8 [] := F.bindsN fun _ _ _ _ _ _ us hl => match us, hl with | [_], _ => rfl
theorem sc9 : FnScope N9 P9 (defScope s9) := ⟨rfl, rfl, rfl, by decide +kernel, rfl, by decide +kernel, by decide +kernel⟩
theorem bn9 {K : PySem.W.Frag} {f : Addr} {fd : FuncData} (F : FunD K "_law_raised" "_law_raised" (defArgs s9) (defBody s9) (defScope s9) [] [] f fd) : Binds K fd P9 [] := F.bindsN fun _ _ _ _ _ _ us hl => match us, hl with | [_], _ => rfl
theorem sc10 : FnScope N10 P10 (defScope s10) := ⟨rfl, rfl, rfl, by decide +kernel, rfl, by decide +kernel, by decide +kernel⟩
theorem bn10 {K : PySem.W.Frag} {f : Addr} {fd : FuncData} (F : FunD K "law" "law" (defArgs s10) (defBody s10) (defScope s10) [] [] f fd) : Binds K fd P10 [] := F.bindsN fun _ _ _ _ _ _ us hl => match us, hl with | [_], _ => rfl
abbrev cx (n : Nat) : MI.Ctx := ⟨prog.call 3000 n, prog.meth, prog.fld, 3000⟩
section
variable {P : Program} {w : World} {K : PySem.W.Frag} {mg : Str → Option Value} {base h : Heap} (KX : K.In h) (Gn : h.Ns mainGlobals mg) (SD : He.SaysD fal fnl K) (EX : exB K = true)
include SD in
theorem zero0 : FnT P w K mg base (clA K) 2 (He.fAd K dd0.at_) (prog.call 3000 0 0) := by
  obtain ⟨fd, F⟩ := SD.def_ 0 rfl
  rw [call_zero]
  exact fnT_failAt F sc0 (bn0 F)
include SD in
theorem zero1 : FnT P w K mg base (clA K) 2 (He.fAd K dd1.at_) (prog.call 3000 0 1) := by
  obtain ⟨fd, F⟩ := SD.def_ 1 rfl
  rw [call_zero]
  exact fnT_failAt F sc1 (bn1 F)
include SD in
theorem zero2 : FnT P w K mg base (clA K) 2 (He.fAd K dd2.at_) (prog.call 3000 0 2) := by
  obtain ⟨fd, F⟩ := SD.def_ 2 rfl
  rw [call_zero]
  exact fnT_failAt F sc2 (bn2 F)
include SD in
theorem zero3 : FnT P w K mg base (clA K) 2 (He.fAd K dd3.at_) (prog.call 3000 0 3) := by
  obtain ⟨fd, F⟩ := SD.def_ 3 rfl
  rw [call_zero]
  exact fnT_failAt F sc3 (bn3 F)
include SD in
theorem zero4 : FnT P w K mg base (clA K) 2 (He.fAd K dd4.at_) (prog.call 3000 0 4) := by
  obtain ⟨fd, F⟩ := SD.def_ 4 rfl
  rw [call_zero]
  exact fnT_failAt F sc4 (bn4 F)
include SD in
theorem zero5 : FnT P w K mg base (clA K) 2 (He.fAd K dd5.at_) (prog.call 3000 0 5) := by
  obtain ⟨fd, F⟩ := SD.def_ 5 rfl
  rw [call_zero]
  exact fnT_failAt F sc5 (bn5 F)
include SD in
theorem zero6 : FnT P w K mg base (clA K) 2 (He.fAd K dd6.at_) (prog.call 3000 0 6) := by
  obtain ⟨fd, F⟩ := SD.def_ 6 rfl
  rw [call_zero]
  exact fnT_failAt F sc6 (bn6 F)
include SD in
theorem zero7 : FnT P w K mg base (clA K) 2 (He.fAd K dd7.at_) (prog.call 3000 0 7) := by
  obtain ⟨fd, F⟩ := SD.def_ 7 rfl
  rw [call_zero]
  exact fnT_failAt F sc7 (bn7 F)
include SD in
theorem zero8 : FnT P w K mg base (clA K) 2 (He.fAd K dd8.at_) (prog.call 3000 0 8) := by
  obtain ⟨fd, F⟩ := SD.def_ 8 rfl
  rw [call_zero]
  exact fnT_failAt F sc8 (bn8 F)
include SD in
theorem zero9 : FnT P w K mg base (clA K) 2 (He.fAd K dd9.at_) (prog.call 3000 0 9) := by
  obtain ⟨fd, F⟩ := SD.def_ 9 rfl
  rw [call_zero]
  exact fnT_failAt F sc9 (bn9 F)
include SD in
theorem zero10 : FnT P w K mg base (clA K) 2 (He.fAd K dd10.at_) (prog.call 3000 0 10) := by
  obtain ⟨fd, F⟩ := SD.def_ 10 rfl
  rw [call_zero]
  exact fnT_failAt F sc10 (bn10 F)
include KX Gn SD EX in
theorem mod_of {n : Nat} (ih : AllI (fun i (d : He.DefD) => FnT P w K mg base (clA K) (2 * n + 2) (He.fAd K d.at_) (prog.call 3000 n i)) 0 fnl) : MD P w K mg base (clA K) (cx n) (2 * n + 2) where
  fn := fun i x f e => AllI.get (p := fun _ (q : Str × Nat) => ∃ fA, mg q.1 = some (.ref fA) ∧ FnT P w K mg base (clA K) (2 * n + 2) fA (prog.call 3000 n q.2)) (l := fns) (k := 0) ⟨⟨He.ga K "number_in", He.glo_ok KX Gn (SD.fact 0 rfl), ih.get (i := 1) rfl⟩, ⟨He.ga K "_law_fresh", He.glo_ok KX Gn (SD.fact 1 rfl), ih.get (i := 5) rfl⟩, ⟨He.ga K "_law_draw", He.glo_ok KX Gn (SD.fact 2 rfl), ih.get (i := 6) rfl⟩, ⟨He.ga K "parse_copying", He.glo_ok KX Gn (SD.fact 3 rfl), ih.get (i := 3) rfl⟩, ⟨He.ga K "_law_pen", He.glo_ok KX Gn (SD.fact 4 rfl), ih.get (i := 4) rfl⟩, ⟨He.ga K "_law_copying", He.glo_ok KX Gn (SD.fact 5 rfl), ih.get (i := 7) rfl⟩, ⟨He.ga K "format_copying", He.glo_ok KX Gn (SD.fact 6 rfl), ih.get (i := 2) rfl⟩, ⟨He.ga K "_law_good", He.glo_ok KX Gn (SD.fact 7 rfl), ih.get (i := 8) rfl⟩, ⟨He.ga K "_law_raised", He.glo_ok KX Gn (SD.fact 8 rfl), ih.get (i := 9) rfl⟩, trivial⟩ e
  cl := fun i x k f e => AllI.get (p := fun _ (q : Str × Nat × Nat) => mg q.1 = some (.ref (clA K q.2.1)) ∧ Cls K (clA K q.2.1) ∧ ∃ fA, Mk K (clA K q.2.1) fA ∧ FnT P w K mg base (clA K) (2 * n + 2) fA (prog.call 3000 n q.2.2)) (l := clss) (k := 0) trivial e
  fr := fun i x e => AllI.get (p := fun _ (q : Str) => mg q = none) (l := frees) (k := 0) ⟨He.free_ok KX Gn (SD.fact 9 rfl), He.free_ok KX Gn (SD.fact 10 rfl), He.free_ok KX Gn (SD.fact 11 rfl), He.free_ok KX Gn (SD.fact 12 rfl), He.free_ok KX Gn (SD.fact 13 rfl), He.free_ok KX Gn (SD.fact 14 rfl), He.free_ok KX Gn (SD.fact 15 rfl), He.free_ok KX Gn (SD.fact 16 rfl), He.free_ok KX Gn (SD.fact 17 rfl), He.free_ok KX Gn (SD.fact 18 rfl), trivial⟩ e
  con := fun i x d e => AllI.get (p := fun _ (q : Str × D) => ConM K mg q.1 q.2) (l := cons) (k := 0) ⟨(by obtain ⟨t, e⟩ := He.str_ok KX Gn (SD.fact 19 rfl); exact ⟨_, .str (sD w_0123456789), e, ⟨t, rfl⟩, fun H ρ => .str _⟩), (by obtain ⟨t, e⟩ := He.int_ok KX Gn (SD.fact 20 rfl); exact ⟨_, .int 7, e, ⟨t, rfl⟩, fun H ρ => .int _⟩), trivial⟩ e
include KX Gn SD EX in
theorem xcp_ParseError {c : MI.Ctx} {lv : Nat} (hlv : 1 ≤ lv) : XcP P w K mg base (clA K) c lv "ParseError" C_ParseError w_line m_ParseError := by
  obtain ⟨fd, F⟩ := SD.def_ 0 rfl
  obtain ⟨T, h1, h2, h3⟩ := oexB_ok (exK0 EX)
  exact ⟨He.glo_ok KX Gn (SD.fact 21 rfl), T, _, fd, _, h1, h2, (spx_fn F sc0 rfl rfl (by decide +kernel) T h3 fun cdv A outer s H E => pss_cons (ps_expr (pe_veinit rfl (He.free_ok KX Gn (SD.fact 22 rfl)) (ve_init K) (pa_cons (pe_var (i := 0) rfl (Or.inl rfl)) (pa_cons (me_fs (.cons (me_str w_line_32_) (.cons (me_fmt (me_var 1)) (.cons (me_str w__32_does_32_not_32_fit_32_the_32_lines_32_before_32_it) .nil)))) pa_nil)))) (pss_one (ps_ost (pe_var (i := 0) rfl (Or.inl rfl)) (pe_var (i := 1) rfl (Or.inl rfl))))).mono hlv, bn0 F⟩
include KX Gn SD EX in
theorem xm_of {n : Nat} : MX P w K mg base (clA K) (cx n) (2 * n + 2) where
  xc := fun i x k f msg e => AllI.get (p := fun _ (q : Str × Nat × List Nat × SE) => XcP P w K mg base (clA K) (cx n) (2 * n + 2) q.1 q.2.1 q.2.2.1 q.2.2.2) (l := xcs) (k := 0) ⟨xcp_ParseError KX Gn SD EX (by omega), trivial⟩ e
  xf := fun i k f e => AllI.get (p := fun _ (q : Nat × List Nat) => XfC K (clA K q.1) ∧ PySem.W.findIn K (.ref (clA K q.1)) (sD q.2) = some none) (l := xfs) (k := 0) ⟨⟨xfB_ok (exK1 EX), (oexB_ok (exK0 EX)).2.2.2⟩, trivial⟩ e
  exm := fun i a b v e => AllI.get (p := fun _ (q : Nat × Nat × Bool) => PySem.W.exmOne K (.ref (clA K q.1)) (.ref (clA K q.2.1)) = some q.2.2) (l := exms) (k := 0) ⟨of_decide_eq_true (exK2 EX), trivial⟩ e
include SD in
theorem meths_of {n : Nat} (ih : AllI (fun i (d : He.DefD) => FnT P w K mg base (clA K) (2 * n + 2) (He.fAd K d.at_) (prog.call 3000 n i)) 0 fnl) : AllI (fun _ (x : Nat × List Nat × Nat) => ∃ fA, Meth K (clA K x.1) (sD x.2.1) fA ∧ FnT P w K mg base (clA K) (2 * n + 2) fA (prog.call 3000 n x.2.2)) 0 prog.meths := trivial
include SD in
theorem flds_of : AllI (fun _ (x : Nat × List Nat) => NoAttr K (clA K x.1) (sD x.2) ∧ Cls K (clA K x.1)) 0 prog.flds := trivial
include KX Gn SD EX in
theorem step0 {n : Nat} (ih : AllI (fun i (d : He.DefD) => FnT P w K mg base (clA K) (2 * n + 2) (He.fAd K d.at_) (prog.call 3000 n i)) 0 fnl) : FnT P w K mg base (clA K) (2 * (n + 1) + 2) (He.fAd K dd0.at_) (prog.call 3000 (n + 1) 0) := by
  obtain ⟨fd, F⟩ := SD.def_ 0 rfl
  exact fnT_call rfl (fnT_body (lv := 2 * n + 2) ⟨2, 2, b_ParseError____init__⟩ F sc0 (bn0 F) rfl rfl (fld_of (p := prog) (flds_of SD)) (meth_of (p := prog) (meths_of SD ih)) fun cdv A outer s H E G po => der0 (mod_of KX Gn SD EX ih) (xm_of KX Gn SD EX) _ cdv A outer s H E G po)
include KX Gn SD EX in
theorem step1 {n : Nat} (ih : AllI (fun i (d : He.DefD) => FnT P w K mg base (clA K) (2 * n + 2) (He.fAd K d.at_) (prog.call 3000 n i)) 0 fnl) : FnT P w K mg base (clA K) (2 * (n + 1) + 2) (He.fAd K dd1.at_) (prog.call 3000 (n + 1) 1) := by
  obtain ⟨fd, F⟩ := SD.def_ 1 rfl
  exact fnT_call rfl (fnT_body (lv := 2 * n + 2) ⟨1, 1, b_number_in⟩ F sc1 (bn1 F) rfl rfl (fld_of (p := prog) (flds_of SD)) (meth_of (p := prog) (meths_of SD ih)) fun cdv A outer s H E G po => der1 (mod_of KX Gn SD EX ih) (xm_of KX Gn SD EX) _ cdv A outer s H E G po)
include KX Gn SD EX in
theorem step2 {n : Nat} (ih : AllI (fun i (d : He.DefD) => FnT P w K mg base (clA K) (2 * n + 2) (He.fAd K d.at_) (prog.call 3000 n i)) 0 fnl) : FnT P w K mg base (clA K) (2 * (n + 1) + 2) (He.fAd K dd2.at_) (prog.call 3000 (n + 1) 2) := by
  obtain ⟨fd, F⟩ := SD.def_ 2 rfl
  exact fnT_call rfl (fnT_body (lv := 2 * n + 2) ⟨1, 2, b_format_copying⟩ F sc2 (bn2 F) rfl rfl (fld_of (p := prog) (flds_of SD)) (meth_of (p := prog) (meths_of SD ih)) fun cdv A outer s H E G po => der2 (mod_of KX Gn SD EX ih) (xm_of KX Gn SD EX) _ cdv A outer s H E G po)
include KX Gn SD EX in
theorem step3 {n : Nat} (ih : AllI (fun i (d : He.DefD) => FnT P w K mg base (clA K) (2 * n + 2) (He.fAd K d.at_) (prog.call 3000 n i)) 0 fnl) : FnT P w K mg base (clA K) (2 * (n + 1) + 2) (He.fAd K dd3.at_) (prog.call 3000 (n + 1) 3) := by
  obtain ⟨fd, F⟩ := SD.def_ 3 rfl
  exact fnT_call rfl (fnT_body (lv := 2 * n + 2) ⟨1, 4, b_parse_copying⟩ F sc3 (bn3 F) rfl rfl (fld_of (p := prog) (flds_of SD)) (meth_of (p := prog) (meths_of SD ih)) fun cdv A outer s H E G po => der3 (mod_of KX Gn SD EX ih) (xm_of KX Gn SD EX) _ cdv A outer s H E G po)
include KX Gn SD EX in
theorem step4 {n : Nat} (ih : AllI (fun i (d : He.DefD) => FnT P w K mg base (clA K) (2 * n + 2) (He.fAd K d.at_) (prog.call 3000 n i)) 0 fnl) : FnT P w K mg base (clA K) (2 * (n + 1) + 2) (He.fAd K dd4.at_) (prog.call 3000 (n + 1) 4) := by
  obtain ⟨fd, F⟩ := SD.def_ 4 rfl
  exact fnT_call rfl (fnT_body (lv := 2 * n + 2) ⟨1, 1, b__law_pen⟩ F sc4 (bn4 F) rfl rfl (fld_of (p := prog) (flds_of SD)) (meth_of (p := prog) (meths_of SD ih)) fun cdv A outer s H E G po => der4 (mod_of KX Gn SD EX ih) (xm_of KX Gn SD EX) _ cdv A outer s H E G po)
include KX Gn SD EX in
theorem step5 {n : Nat} (ih : AllI (fun i (d : He.DefD) => FnT P w K mg base (clA K) (2 * n + 2) (He.fAd K d.at_) (prog.call 3000 n i)) 0 fnl) : FnT P w K mg base (clA K) (2 * (n + 1) + 2) (He.fAd K dd5.at_) (prog.call 3000 (n + 1) 5) := by
  obtain ⟨fd, F⟩ := SD.def_ 5 rfl
  exact fnT_call rfl (fnT_body (lv := 2 * n + 2) ⟨1, 7, b__law_fresh⟩ F sc5 (bn5 F) rfl rfl (fld_of (p := prog) (flds_of SD)) (meth_of (p := prog) (meths_of SD ih)) fun cdv A outer s H E G po => der5 (mod_of KX Gn SD EX ih) (xm_of KX Gn SD EX) _ cdv A outer s H E G po)
include KX Gn SD EX in
theorem step6 {n : Nat} (ih : AllI (fun i (d : He.DefD) => FnT P w K mg base (clA K) (2 * n + 2) (He.fAd K d.at_) (prog.call 3000 n i)) 0 fnl) : FnT P w K mg base (clA K) (2 * (n + 1) + 2) (He.fAd K dd6.at_) (prog.call 3000 (n + 1) 6) := by
  obtain ⟨fd, F⟩ := SD.def_ 6 rfl
  exact fnT_call rfl (fnT_body (lv := 2 * n + 2) ⟨2, 3, b__law_draw⟩ F sc6 (bn6 F) rfl rfl (fld_of (p := prog) (flds_of SD)) (meth_of (p := prog) (meths_of SD ih)) fun cdv A outer s H E G po => der6 (mod_of KX Gn SD EX ih) (xm_of KX Gn SD EX) _ cdv A outer s H E G po)
include KX Gn SD EX in
theorem step7 {n : Nat} (ih : AllI (fun i (d : He.DefD) => FnT P w K mg base (clA K) (2 * n + 2) (He.fAd K d.at_) (prog.call 3000 n i)) 0 fnl) : FnT P w K mg base (clA K) (2 * (n + 1) + 2) (He.fAd K dd7.at_) (prog.call 3000 (n + 1) 7) := by
  obtain ⟨fd, F⟩ := SD.def_ 7 rfl
  exact fnT_call rfl (fnT_body (lv := 2 * n + 2) ⟨2, 3, b__law_copying⟩ F sc7 (bn7 F) rfl rfl (fld_of (p := prog) (flds_of SD)) (meth_of (p := prog) (meths_of SD ih)) fun cdv A outer s H E G po => der7 (mod_of KX Gn SD EX ih) (xm_of KX Gn SD EX) _ cdv A outer s H E G po)
include KX Gn SD EX in
theorem step8 {n : Nat} (ih : AllI (fun i (d : He.DefD) => FnT P w K mg base (clA K) (2 * n + 2) (He.fAd K d.at_) (prog.call 3000 n i)) 0 fnl) : FnT P w K mg base (clA K) (2 * (n + 1) + 2) (He.fAd K dd8.at_) (prog.call 3000 (n + 1) 8) := by
  obtain ⟨fd, F⟩ := SD.def_ 8 rfl
  exact fnT_call rfl (fnT_body (lv := 2 * n + 2) ⟨1, 3, b__law_good⟩ F sc8 (bn8 F) rfl rfl (fld_of (p := prog) (flds_of SD)) (meth_of (p := prog) (meths_of SD ih)) fun cdv A outer s H E G po => der8 (mod_of KX Gn SD EX ih) (xm_of KX Gn SD EX) _ cdv A outer s H E G po)
include KX Gn SD EX in
theorem step9 {n : Nat} (ih : AllI (fun i (d : He.DefD) => FnT P w K mg base (clA K) (2 * n + 2) (He.fAd K d.at_) (prog.call 3000 n i)) 0 fnl) : FnT P w K mg base (clA K) (2 * (n + 1) + 2) (He.fAd K dd9.at_) (prog.call 3000 (n + 1) 9) := by
  obtain ⟨fd, F⟩ := SD.def_ 9 rfl
  exact fnT_call rfl (fnT_body (lv := 2 * n + 2) ⟨1, 3, b__law_raised⟩ F sc9 (bn9 F) rfl rfl (fld_of (p := prog) (flds_of SD)) (meth_of (p := prog) (meths_of SD ih)) fun cdv A outer s H E G po => der9 (mod_of KX Gn SD EX ih) (xm_of KX Gn SD EX) _ cdv A outer s H E G po)
include KX Gn SD EX in
theorem step10 {n : Nat} (ih : AllI (fun i (d : He.DefD) => FnT P w K mg base (clA K) (2 * n + 2) (He.fAd K d.at_) (prog.call 3000 n i)) 0 fnl) : FnT P w K mg base (clA K) (2 * (n + 1) + 2) (He.fAd K dd10.at_) (prog.call 3000 (n + 1) 10) := by
  obtain ⟨fd, F⟩ := SD.def_ 10 rfl
  exact fnT_call rfl (fnT_body (lv := 2 * n + 2) ⟨1, 11, b_law⟩ F sc10 (bn10 F) rfl rfl (fld_of (p := prog) (flds_of SD)) (meth_of (p := prog) (meths_of SD ih)) fun cdv A outer s H E G po => der10 (mod_of KX Gn SD EX ih) (xm_of KX Gn SD EX) _ cdv A outer s H E G po)
include KX Gn SD EX in
theorem allOk : ∀ n, AllI (fun i (d : He.DefD) => FnT P w K mg base (clA K) (2 * n + 2) (He.fAd K d.at_) (prog.call 3000 n i)) 0 fnl
  | 0 => ⟨zero0 SD, zero1 SD, zero2 SD, zero3 SD, zero4 SD, zero5 SD, zero6 SD, zero7 SD, zero8 SD, zero9 SD, zero10 SD, trivial⟩
  | n + 1 => ⟨step0 KX Gn SD EX (allOk n), step1 KX Gn SD EX (allOk n), step2 KX Gn SD EX (allOk n), step3 KX Gn SD EX (allOk n), step4 KX Gn SD EX (allOk n), step5 KX Gn SD EX (allOk n), step6 KX Gn SD EX (allOk n), step7 KX Gn SD EX (allOk n), step8 KX Gn SD EX (allOk n), step9 KX Gn SD EX (allOk n), step10 KX Gn SD EX (allOk n), trivial⟩
end
abbrev lawM : List D → MI.R D := (⟨1, 11, b_law⟩ : MI.Fn).run (cx 100)
theorem law_ok {P : Program} {w : World} {K : PySem.W.Frag} {mg : Str → Option Value} {base h : Heap} (KX : K.In h) (Gn : h.Ns mainGlobals mg) (SD : He.SaysD fal fnl K) (EX : exB K = true) {fd : FuncData} (F : FunD K "law" "law" (defArgs s10) (defBody s10) (defScope s10) [] [] (He.ga K "law") fd) :
    MS.FnOk P w K mg base (L2.CX P w) (2 * 100 + 4) (He.ga K "law") fd ["script"] (spOf K (clA K) 1 lawM) :=
  fnOk_body (lv := 2 * 100 + 2) (ps := P10) ⟨1, 11, b_law⟩ F sc10 (bn10 F) rfl rfl (fld_of (p := prog) (flds_of SD)) (meth_of (p := prog) (meths_of SD (allOk KX Gn SD EX 100))) fun cdv A outer s H E G po => der10 (mod_of KX Gn SD EX (allOk KX Gn SD EX 100)) (xm_of KX Gn SD EX) _ cdv A outer s H E G po
theorem law_holds (pure : ∀ ns : List Int, ns.length ≤ 63 → ∃ st, lawM [.frz (ns.map D.int)] [] = some (.ok (.bl true), st)) : PySem.Challenge.rw_copyplaces_k79_copyings_written_and_read.Holds := by
  open PySem PySem.W PySem.Calls PyProof.Rows in
  w_on; o_law
  refine HandSHeadRun.head_any (r := OpenLaw.row PySem.Challenge.rw_copyplaces_k79_copyings_written_and_read) (q := view (OpenLaw.row PySem.Challenge.rw_copyplaces_k79_copyings_written_and_read).prog [15]) (H := Dv.hk) (ob := Dv.ob) (M := 4000) (loose := Dv.loose) (d := HandSHeadRun.topDef (OpenLaw.row PySem.Challenge.rw_copyplaces_k79_copyings_written_and_read).prog 15) (kwd := []) Dv.ob_eq
    (by kernel_rfl) (fun s => by kernel_rfl) Dv.run (by kernel_rfl) (by kernel_rfl) (by kernel_rfl) (by rfl) (by first | assumption | decide +kernel) (by decide +kernel) ⟨rfl, rfl, rfl, rfl, rfl, by decide +kernel⟩ ?hw ?hc
  case hw => w_witness2
  case hc =>
    refine MS.walk_ofG (l := PySem.Challenge.rw_copyplaces_k79_copyings_written_and_read) (n := 63) (k := 2 * 100 + 4) (x := "script") (C := L2.CX0) rfl (by decide) (by kernel_rfl) ⟨rfl, by decide, by decide⟩ ?F (fun _ _ _ _ z => z)
    intro w mg fa h Y G hmg0
    obtain ⟨K, KX, SD, EX⟩ := Y
    have hmg : mg ("law" : PySem.Str) = some (.ref fa) := by
      have e : (HandSHeadRun.topDef (OpenLaw.row PySem.Challenge.rw_copyplaces_k79_copyings_written_and_read).prog 15).name = ("law" : PySem.Str) := by kernel_rfl
      rw [← e]
      exact hmg0
    obtain ⟨fd, F⟩ := SD.def_ 10 rfl
    have e := hmg.symm.trans (He.glo_ok KX G (SD.fact 23 rfl))
    cases e
    exact ⟨K, fd, fun vs H Q _ => spOf K (clA K) 1 lawM vs H Q fun _ _ _ => False, KX, FunD.bindsA (ps := ["script"]) F (fun _ _ _ _ _ _ us hl => match us, hl with | [_], _ => rfl) |> fun b s v => b s [v] rfl, fun H a ns hl hO hS => sp_law pure hl hO hS, fun base _ _ => fnOk_none (law_ok KX G SD EX F)⟩
end Dv

set_option autoImplicit false
set_option maxRecDepth 100000
set_option linter.all false
/-! R0: running MI's combinators on plain data. -/
namespace MI
theorem call_np {p : Prog} {fuel n f : Nat} {fn : Fn} (h : p.fns[f]? = some fn) (hp : p.pures.contains f = false) : p.call fuel (n + 1) f = fn.run ⟨p.call fuel n, p.meth, p.fld, fuel⟩ := by
  rw [Prog.call, h]
  show (if p.pures.contains f = true then _ else _) = _
  rw [if_neg (by rw [hp]; decide)]
theorem call_p {p : Prog} {fuel n f : Nat} {fn : Fn} (h : p.fns[f]? = some fn) (hp : p.pures.contains f = true) : p.call fuel (n + 1) f = optC (fn.run ⟨p.call fuel n, p.meth, p.fld, fuel⟩) := by
  rw [Prog.call, h]
  show (if p.pures.contains f = true then _ else _) = _
  rw [if_pos hp]
mutual
theorem eqv_refl : ∀ (n : Nat) (d : D), D.ok n d = true → D.eqv d d = true
  | _, .non, _ => rfl
  | _, .bl b, _ => by simp [D.eqv]
  | _, .int b, _ => by simp [D.eqv]
  | _, .str b, _ => by simp [D.eqv]
  | 0, .tup _, h => by simp [D.ok] at h
  | n + 1, .tup l, h => by
    simp only [D.ok, Bool.and_eq_true] at h
    simp only [D.eqv]; exact eqvL_refl n l h.2
  | 0, .xtup _, h => by simp [D.ok] at h
  | n + 1, .xtup l, h => by
    simp only [D.ok, Bool.and_eq_true] at h
    simp only [D.eqv]; exact eqvL_refl n l h.2
  | 0, .frz _, h => by simp [D.ok] at h
  | n + 1, .frz l, h => by
    simp only [D.ok, Bool.and_eq_true] at h
    simp only [D.eqv]; exact eqvL_refl n l h.2
  | _, .loc _, h => by simp [D.ok] at h
theorem eqvL_refl : ∀ (n : Nat) (l : List D), D.okL n l = true → D.eqvL l l = true
  | _, [], _ => rfl
  | n, x :: xs, h => by
    simp only [D.okL, Bool.and_eq_true] at h
    simp only [D.eqvL, Bool.and_eq_true]
    exact ⟨eqv_refl n x h.1, eqvL_refl n xs h.2⟩
end
theorem dat_self {d : D} {st : Stt} {n : Nat} (h : D.ok n d = true) : dat d st = some d := by
  cases d <;> first | rfl | simp [D.ok] at h
/-! ### plain calls -/
theorem opt_run {g : List D → R D} {ds : List D} {st st' : Stt} {d : D} (ha : D.lfL ds = true) (h : g ds [] = some (.ok d, st')) (hn : ∀ n, d ≠ .loc n) (hd : D.lf d = true) : optC g ds st = some (.ok d, st) := by
  unfold optC
  rw [if_pos ha, h]
  cases d with
  | loc n => exact absurd rfl (hn n)
  | _ => simp only [hd, if_true]
theorem opt_lst {g : List D → R D} {ds : List D} {st st' : Stt} {n : Nat} {l : List D} (ha : D.lfL ds = true) (h : g ds [] = some (.ok (.loc n), st')) (hn : st'[n]? = some (.lst l)) (hd : D.lfL l = true) : optC g ds st = some (.ok (.frz l), st) := by
  unfold optC
  rw [if_pos ha, h]
  simp only [hn, hd, if_true]
theorem ret_run {e : SE} {c : Ctx} {env : Env} {st st' : Stt} {d : D} (h : e c env st = some (.ok d, st')) : sRet e c env st = some (.rt d, env, st') := by
  unfold sRet sBnd
  rw [h]
theorem expr_run {e : SE} {c : Ctx} {env : Env} {st st' : Stt} {d : D} (h : e c env st = some (.ok d, st')) : sExpr e c env st = some (.nx, env, st') := by
  unfold sExpr sBnd
  rw [h]
theorem call_run {f : Nat} {l : SL} {c : Ctx} {env : Env} {st st1 : Stt} {xs : List D} {r : Option (Rs D × Stt)} (h : l c env st = some (.ok xs, st1)) (hc : c.call f xs st1 = r) : eCall f l c env st = r := by
  unfold eCall
  rw [bnd_ok h]
  exact hc
theorem lnil_run {c : Ctx} {env : Env} {st : Stt} : lNil c env st = some (.ok [], st) := rfl
theorem lcons_run {a : SE} {l : SL} {c : Ctx} {env : Env} {st st1 st2 : Stt} {x : D} {xs : List D} (h : a c env st = some (.ok x, st1)) (hl : l c env st1 = some (.ok xs, st2)) : lCons a l c env st = some (.ok (x :: xs), st2) := by
  unfold lCons
  rw [bnd_ok h, bnd_ok hl]; rfl
theorem tup_run {l : SL} {c : Ctx} {env : Env} {st st1 : Stt} {xs : List D} (h : l c env st = some (.ok xs, st1)) (hl : xs.length < lim) : eTup l c env st = some (.ok (.tup xs), st1) := by
  unfold eTup
  rw [bnd_ok h, if_pos hl]; rfl
theorem cB_run {e : SE} {c : Ctx} {env : Env} {st st1 : Stt} {b : Bool} (h : e c env st = some (.ok (.bl b), st1)) : cB e c env st = some (.ok b, st1) := by
  unfold cB
  rw [bnd_ok h]; rfl
theorem if_t {t : ST} {a b : SS} {c : Ctx} {env : Env} {st st1 : Stt} (h : t c env st = some (.ok true, st1)) : sIf t a b c env st = a c env st1 := by
  unfold sIf sBnd
  rw [h]; rfl
theorem if_f {t : ST} {a b : SS} {c : Ctx} {env : Env} {st st1 : Stt} (h : t c env st = some (.ok false, st1)) : sIf t a b c env st = b c env st1 := by
  unfold sIf sBnd
  rw [h]; rfl
theorem for_run {g : SG} {it : SI} {b : SS} {c : Ctx} {env : Env} {st st1 : Stt} {s : Src} {r : Option (Fl × Env × Stt)} (h : it c env st = some (.ok s, st1)) (hf : forL s (turnOf g b c) c.fuel 0 env st1 = r) : sFor g it b c env st = r := by
  unfold sFor sBnd
  rw [h]; exact hf
theorem comp_run {own : List Nat} {g : SG} {it : SI} {t : ST} {e : SE} {c : Ctx} {env : Env} {st st1 st2 : Stt} {s : Src} {l : List D} (h : it c env st = some (.ok s, st1)) (hf : compL s (compT g t e c (wipeE env own)) c.fuel 0 [] st1 = some (.ok l, st2)) : eCompF own g it t e c env st = some (.ok (.frz l), st2) := by
  unfold eCompF
  rw [bnd_ok h, bnd_ok hf]; rfl
/-- a comprehension over items each of whose turns is known -/
theorem compL_map {l : List D} {T : D → R (Option D)} (f : D → Option D) {st : Stt} (step : ∀ (i : Nat) (d : D), l[i]? = some d → T d st = some (.ok (f d), st)) :
    ∀ (fuel i : Nat) (acc : List D), l.length < i + fuel → i ≤ l.length → acc.length + (l.length - i) < lim - 1 → compL (.items l) T fuel i acc st = some (.ok (acc ++ (l.drop i).filterMap f), st)
  | 0, i, acc, h1, h2, _ => by omega
  | fuel + 1, i, acc, h1, h2, h3 => by
    unfold compL
    by_cases hi : i < l.length
    · have e : l[i]? = some l[i] := List.getElem?_eq_getElem hi
      have e2 : l.drop i = l[i] :: l.drop (i + 1) := List.drop_eq_getElem_cons hi
      have q := step i _ e
      simp only [srcAt, e, q]
      cases hf : f l[i] with
      | none =>
        have := compL_map f step fuel (i + 1) acc (by omega) (by omega) (by omega)
        rw [e2, List.filterMap_cons, hf]
        exact this
      | some x =>
        have ha : acc.length < lim - 1 := by omega
        simp only [ha, if_true]
        have := compL_map f step fuel (i + 1) (acc ++ [x]) (by omega) (by omega) (by rw [List.length_append]; show acc.length + 1 + _ < _; omega)
        rw [e2, List.filterMap_cons, hf, this]
        simp
    · have e : l[i]? = none := List.getElem?_eq_none_iff.mpr (by omega)
      have hi' : l.drop i = [] := List.drop_eq_nil_of_le (by omega)
      simp only [srcAt, e, hi', List.filterMap_nil, List.append_nil]
theorem compF_map {own : List Nat} {g : SG} {it : SI} {t : ST} {e : SE} {c : Ctx} {env : Env} {st st1 : Stt} {l r : List D} (f : D → Option D) (h : it c env st = some (.ok (.items l), st1)) (step : ∀ (i : Nat) (d : D), l[i]? = some d → compT g t e c (wipeE env own) d st1 = some (.ok (f d), st1)) (hf : l.length < c.fuel) (hl : l.length < lim - 1) (hr : l.filterMap f = r) :
    eCompF own g it t e c env st = some (.ok (.frz r), st1) := by
  refine comp_run h ?_
  have := compL_map f step c.fuel 0 [] (by omega) (Nat.zero_le _) (by simpa using hl)
  rw [this]
  simp [hr]
/-- `T d env st` for each item in turn, what holds being P -/
theorem for_inv {g : SG} {it : SI} {b : SS} {c : Ctx} {env : Env} {st st1 : Stt} {l : List D} (P : Nat → Env → Stt → Prop) (h : it c env st = some (.ok (.items l), st1)) (h0 : P 0 env st1) (hf : l.length < c.fuel)
    (step : ∀ (i : Nat) (d : D) (env : Env) (st : Stt), l[i]? = some d → P i env st → ∃ env' st', turnOf g b c d env st = some (.nx, env', st') ∧ P (i + 1) env' st') :
    ∃ env' st', sFor g it b c env st = some (.nx, env', st') ∧ P l.length env' st' := by
  obtain ⟨env', st', e, p⟩ := forL_inv (l := l) (P := P) (T := turnOf g b c) step c.fuel 0 env st1 (by omega) (Nat.zero_le _) h0
  exact ⟨env', st', for_run h e, p⟩
theorem turn_var {i : Nat} {b : SS} {c : Ctx} {d : D} {env : Env} {st : Stt} {r : Option (Fl × Env × Stt)} (hi : i < env.length) (h : b c (env.set i (some d)) st = r) : turnOf (gVar i) b c d env st = r := by
  unfold turnOf gVar
  rw [if_pos hi]
  exact h
theorem turn_two {i j : Nat} {b : SS} {c : Ctx} {x y : D} {env : Env} {st : Stt} {r : Option (Fl × Env × Stt)} (hi : i < env.length) (hj : j < env.length) (h : b c ((env.set i (some x)).set j (some y)) st = r) : turnOf (gTup 2 (gCons (gVar i) (gCons (gVar j) gNil))) b c (.tup [x, y]) env st = r := by
  have hj' : j < (env.set i (some x)).length := by simpa using hj
  unfold turnOf gTup gCons gVar
  simp only [List.length_cons, List.length_nil, if_true, hi, gCons, gVar, hj', gNil]
  exact h
theorem enumD_get : ∀ (l : List D) (k i : Nat) (d : D), (enumD k l)[i]? = some d → ∃ x, l[i]? = some x ∧ d = .tup [.int ((k + i : Nat) : Int), x]
  | [], k, i, d, h => by simp [enumD] at h
  | x :: l, k, 0, d, h => by
    simp [enumD] at h
    exact ⟨x, by simp, by rw [← h]; simp⟩
  | x :: l, k, i + 1, d, h => by
    simp only [enumD, List.getElem?_cons_succ] at h
    obtain ⟨y, h1, h2⟩ := enumD_get l (k + 1) i d h
    exact ⟨y, by simpa using h1, by rw [h2, show k + 1 + i = k + (i + 1) by omega]⟩
theorem enumD_len : ∀ (l : List D) (k : Nat), (enumD k l).length = l.length
  | [], _ => rfl
  | x :: l, k => by simp [enumD, enumD_len l (k + 1)]
theorem append_run {a b : SE} {c : Ctx} {env : Env} {st st1 : Stt} {k : Nat} {l l' : List D} {y : D} (ha : a c env st = some (.ok (.loc k), st)) (hk : st[k]? = some (.lst l)) (hb : b c env st = some (.ok y, st1)) (hk1 : st1[k]? = some (.lst l')) (hl : l'.length < lim - 1) :
    eMt1 isLst mAppend a b c env st = some (.ok .non, st1.set k (.lst (l' ++ [y]))) := by
  have h1 : isLst (.loc k) st = some (.ok (), st) := by simp [isLst, hk]
  unfold eMt1
  rw [bnd_ok ha, bnd_ok h1, bnd_ok hb]
  simp only [mAppend, hk1, hl, if_true]
theorem extend_run {a b : SE} {c : Ctx} {env : Env} {st st1 : Stt} {k : Nat} {l l' m : List D} {y : D} (ha : a c env st = some (.ok (.loc k), st)) (hk : st[k]? = some (.lst l)) (hb : b c env st = some (.ok y, st1)) (hk1 : st1[k]? = some (.lst l')) (hm : lstD y st1 = some m) (hl : l'.length + m.length < lim) :
    eMt1 isLst mExtend a b c env st = some (.ok .non, st1.set k (.lst (l' ++ m))) := by
  have h1 : isLst (.loc k) st = some (.ok (), st) := by simp [isLst, hk]
  unfold eMt1
  rw [bnd_ok ha, bnd_ok h1, bnd_ok hb]
  simp only [mExtend, hk1, hm, hl, if_true]
theorem enum_run {a : SE} {c : Ctx} {env : Env} {st st1 : Stt} {l : List D} (h : a c env st = some (.ok (.tup l), st1)) (hl : l.length < lim) : iEnum a c env st = some (.ok (.items (enumD 0 l)), st1) := by
  unfold iEnum
  rw [bnd_ok h]
  simp only [hl, if_true]
theorem seq_tup {a : SE} {c : Ctx} {env : Env} {st st1 : Stt} {l : List D} (h : a c env st = some (.ok (.tup l), st1)) : iSeq a c env st = some (.ok (.items l), st1) := by
  unfold iSeq
  rw [bnd_ok h]
theorem seq_xtup {a : SE} {c : Ctx} {env : Env} {st st1 : Stt} {l : List D} (h : a c env st = some (.ok (.xtup l), st1)) : iSeq a c env st = some (.ok (.items l), st1) := by
  unfold iSeq
  rw [bnd_ok h]
theorem seq_frz {a : SE} {c : Ctx} {env : Env} {st st1 : Stt} {l : List D} (h : a c env st = some (.ok (.frz l), st1)) : iSeq a c env st = some (.ok (.items l), st1) := by
  unfold iSeq
  rw [bnd_ok h]
theorem lst_new {l : SL} {c : Ctx} {env : Env} {st st1 : Stt} {xs : List D} (h : l c env st = some (.ok xs, st1)) (hl : xs.length < lim) : eLst l c env st = some (.ok (.loc st1.length), st1 ++ [.lst xs]) := by
  unfold eLst
  rw [bnd_ok h, if_pos hl]; rfl
theorem tadd_run {l m : List D} (st : Stt) (h : l.length + m.length < lim) : opAdd (.tup l) (.tup m) st = some (.ok (.tup (l ++ m)), st) := by
  simp only [opAdd, h, if_true]
theorem ix_tup {l : List D} {k : Nat} {d : D} (st : Stt) (h : l[k]? = some d) : opIx (.tup l) (.int (k : Int)) st = some (.ok d, st) := by
  have hk := (List.getElem?_eq_some_iff.mp h).1
  simp only [opIx, ixN_ofNat hk, Option.bind_some, h]
theorem ix_xtup {l : List D} {k : Nat} {d : D} (st : Stt) (h : l[k]? = some d) : opIx (.xtup l) (.int (k : Int)) st = some (.ok d, st) := by
  have hk := (List.getElem?_eq_some_iff.mp h).1
  simp only [opIx, ixN_ofNat hk, Option.bind_some, h]
theorem ix_frz {l : List D} {k : Nat} {d : D} (st : Stt) (h : l[k]? = some d) : opIx (.frz l) (.int (k : Int)) st = some (.ok d, st) := by
  have hk := (List.getElem?_eq_some_iff.mp h).1
  simp only [opIx, ixN_ofNat hk, Option.bind_some, h]
theorem ix_loc {a : Nat} {l : List D} {k : Nat} {d : D} {st : Stt} (ha : st[a]? = some (.lst l)) (h : l[k]? = some d) : opIx (.loc a) (.int (k : Int)) st = some (.ok d, st) := by
  have hk := (List.getElem?_eq_some_iff.mp h).1
  simp only [opIx, ha, ixN_ofNat hk, Option.bind_some, h]
/-- x[-1] -/
theorem ix_last {l : List D} {d : D} (st : Stt) : opIx (.tup (l ++ [d])) (.int (-1)) st = some (.ok d, st) := by
  have e : ixN (l ++ [d]).length (-1) = some l.length := by
    unfold ixN
    rw [if_neg (by decide), if_pos (by simp; omega)]
    simp
    omega
  simp only [opIx, e, Option.bind_some]
  simp
/-- x[:-1] -/
theorem slc_last {a : SE} {c : Ctx} {env : Env} {st st1 : Stt} {l : List D} {d : D} (h : a c env st = some (.ok (.tup (l ++ [d])), st1)) : eSlc a oNone (oSome (eUn opNeg (eC (.int 1)))) c env st = some (.ok (.tup l), st1) := by
  have h2 : oSome (eUn opNeg (eC (.int 1))) c env st1 = some (.ok (some (-1)), st1) := rfl
  have e : cut (l ++ [d]) none (some (-1)) = l := by
    unfold cut clampI
    simp
    rw [show (-1 + ((l.length : Int) + 1)).toNat = l.length by omega]
    simp
  unfold eSlc
  rw [bnd_ok h, bnd_ok (x := oNone c env) (a := none) (st1 := st1) rfl, bnd_ok h2]
  simp only [opSlc, e]
theorem compL_mapG {α : Type} {xs : List α} {g : α → D} {T : D → R (Option D)} (f : α → Option D) {st : Stt} (step : ∀ x, x ∈ xs → T (g x) st = some (.ok (f x), st)) :
    ∀ (fuel i : Nat) (acc : List D), xs.length < i + fuel → i ≤ xs.length → acc.length + (xs.length - i) < lim - 1 → compL (.items (xs.map g)) T fuel i acc st = some (.ok (acc ++ (xs.drop i).filterMap f), st)
  | 0, i, acc, h1, h2, _ => by omega
  | fuel + 1, i, acc, h1, h2, h3 => by
    unfold compL
    by_cases hi : i < xs.length
    · have e : (xs.map g)[i]? = some (g xs[i]) := by rw [List.getElem?_map, List.getElem?_eq_getElem hi]; rfl
      have e2 : xs.drop i = xs[i] :: xs.drop (i + 1) := List.drop_eq_getElem_cons hi
      have q := step xs[i] (List.getElem_mem hi)
      simp only [srcAt, e, q]
      cases hf : f xs[i] with
      | none =>
        have := compL_mapG f step fuel (i + 1) acc (by omega) (by omega) (by omega)
        rw [e2, List.filterMap_cons, hf]
        exact this
      | some x =>
        have ha : acc.length < lim - 1 := by omega
        simp only [ha, if_true]
        have := compL_mapG f step fuel (i + 1) (acc ++ [x]) (by omega) (by omega) (by rw [List.length_append]; show acc.length + 1 + _ < _; omega)
        rw [e2, List.filterMap_cons, hf, this]
        simp
    · have e : (xs.map g)[i]? = none := List.getElem?_eq_none_iff.mpr (by rw [List.length_map]; omega)
      have hi' : xs.drop i = [] := List.drop_eq_nil_of_le (by omega)
      simp only [srcAt, e, hi', List.filterMap_nil, List.append_nil]
theorem compF_mapG {α : Type} {own : List Nat} {tg : SG} {it : SI} {t : ST} {e : SE} {c : Ctx} {env : Env} {st st1 : Stt} {xs : List α} {g : α → D} {r : List D} (f : α → Option D) (h : it c env st = some (.ok (.items (xs.map g)), st1)) (step : ∀ x, x ∈ xs → compT tg t e c (wipeE env own) (g x) st1 = some (.ok (f x), st1)) (hf : xs.length < c.fuel) (hl : xs.length < lim - 1) (hr : xs.filterMap f = r) :
    eCompF own tg it t e c env st = some (.ok (.frz r), st1) := by
  refine comp_run h ?_
  have := compL_mapG f step c.fuel 0 [] (by omega) (Nat.zero_le _) (by simpa using hl)
  rw [this]
  simp [hr]
/-- one turn of a comprehension over a name -/
theorem compT_y {i : Nat} {t : ST} {e : SE} {c : Ctx} {env : Env} {d x : D} {st st1 st2 : Stt} (hi : i < env.length) (ht : t c (env.set i (some d)) st = some (.ok true, st1)) (he : e c (env.set i (some d)) st1 = some (.ok x, st2)) : compT (gVar i) t e c env d st = some (.ok (some x), st2) := by
  unfold compT gVar
  rw [if_pos hi]
  show bnd (t c (env.set i (some d))) _ st = _
  rw [bnd_ok ht, if_pos rfl, bnd_ok he]; rfl
theorem compT_n {i : Nat} {t : ST} {e : SE} {c : Ctx} {env : Env} {d : D} {st st1 : Stt} (hi : i < env.length) (ht : t c (env.set i (some d)) st = some (.ok false, st1)) : compT (gVar i) t e c env d st = some (.ok none, st1) := by
  unfold compT gVar
  rw [if_pos hi]
  show bnd (t c (env.set i (some d))) _ st = _
  rw [bnd_ok ht]; rfl
theorem run_nx {fn : Fn} {c : Ctx} {ds : List D} {st st' : Stt} {env' : Env} (hl : ds.length = fn.pars) (h : fn.body c (ds.map some ++ List.replicate (fn.slots - fn.pars) none) st = some (.nx, env', st')) : fn.run c ds st = some (.ok .non, st') := by
  unfold Fn.run
  rw [if_pos hl, h]
theorem fr_rt {p k : Nat} {b : SS} {c : Ctx} {ds : List D} {env env' : Env} {st st' : Stt} {d : D} (hl : ds.length = p) (he : ds.map some ++ List.replicate (k - p) none = env) (h : b c env st = some (.rt d, env', st')) : (⟨p, k, b⟩ : Fn).run c ds st = some (.ok d, st') := by
  subst he
  exact run_rt (fn := ⟨p, k, b⟩) hl h
theorem fr_nx {p k : Nat} {b : SS} {c : Ctx} {ds : List D} {env env' : Env} {st st' : Stt} (hl : ds.length = p) (he : ds.map some ++ List.replicate (k - p) none = env) (h : b c env st = some (.nx, env', st')) : (⟨p, k, b⟩ : Fn).run c ds st = some (.ok .non, st') := by
  subst he
  exact run_nx (fn := ⟨p, k, b⟩) hl h
/-- the same over a list that stands in the store, unchanged by the turns -/
theorem compL_live {n : Nat} {l : List D} {T : D → R (Option D)} {st : Stt} (hn : st[n]? = some (.lst l)) (keep : ∀ d, d ∈ l → ∃ r, T d st = some (.ok r, st)) :
    ∀ (fuel i : Nat) (acc : List D), compL (.live n) T fuel i acc st = compL (.items l) T fuel i acc st
  | 0, _, _ => rfl
  | fuel + 1, i, acc => by
    unfold compL
    simp only [srcAt, hn]
    cases e : l[i]? with
    | none => rfl
    | some d =>
      obtain ⟨r, hr⟩ := keep d (List.mem_of_getElem? e)
      simp only [hr]
      cases r with
      | none => exact compL_live hn keep fuel (i + 1) acc
      | some x =>
        simp only
        by_cases h : acc.length < lim - 1
        · simp only [h, if_true]; exact compL_live hn keep fuel (i + 1) _
        · simp only [h, if_false]
theorem compF_live {α : Type} {own : List Nat} {tg : SG} {it : SI} {t : ST} {e : SE} {c : Ctx} {env : Env} {st st1 : Stt} {n : Nat} {xs : List α} {g : α → D} {r : List D} (f : α → Option D) (h : it c env st = some (.ok (.live n), st1)) (hn : st1[n]? = some (.lst (xs.map g))) (step : ∀ x, x ∈ xs → compT tg t e c (wipeE env own) (g x) st1 = some (.ok (f x), st1)) (hf : xs.length < c.fuel) (hl : xs.length < lim - 1) (hr : xs.filterMap f = r) :
    eCompF own tg it t e c env st = some (.ok (.frz r), st1) := by
  refine comp_run h ?_
  rw [compL_live hn (fun d hd => by
    obtain ⟨x, hx, rfl⟩ := List.mem_map.mp hd
    exact ⟨_, step x hx⟩)]
  have := compL_mapG f step c.fuel 0 [] (by omega) (Nat.zero_le _) (by simpa using hl)
  rw [this]
  simp [hr]
theorem seq_loc {a : SE} {c : Ctx} {env : Env} {st st1 : Stt} {n : Nat} {l : List D} (h : a c env st = some (.ok (.loc n), st1)) (hn : st1[n]? = some (.lst l)) : iSeq a c env st = some (.ok (.live n), st1) := by
  unfold iSeq
  rw [bnd_ok h]
  simp only [hn]
theorem tuple_frz {a : SE} {c : Ctx} {env : Env} {st st1 : Stt} {l : List D} (h : a c env st = some (.ok (.frz l), st1)) : eUn bTuple a c env st = some (.ok (.tup l), st1) := un_run h rfl
/-- a comprehension whose turns change the store -/
theorem compL_inv {l : List D} {T : D → R (Option D)} {P : Nat → List D → Stt → Prop} (step : ∀ (i : Nat) (d : D) (acc : List D) (st : Stt), l[i]? = some d → P i acc st → ∃ o st', T d st = some (.ok o, st') ∧ P (i + 1) (acc ++ o.toList) st') :
    ∀ (fuel i : Nat) (acc : List D) (st : Stt), l.length < i + fuel → i ≤ l.length → acc.length + (l.length - i) < lim - 1 → P i acc st → ∃ acc' st', compL (.items l) T fuel i acc st = some (.ok acc', st') ∧ P l.length acc' st'
  | 0, i, acc, st, h1, h2, _, _ => by omega
  | fuel + 1, i, acc, st, h1, h2, h3, p => by
    unfold compL
    by_cases hi : i < l.length
    · have e : l[i]? = some l[i] := List.getElem?_eq_getElem hi
      obtain ⟨o, st', q, p'⟩ := step i _ acc st e p
      simp only [srcAt, e, q]
      cases o with
      | none => exact compL_inv step fuel (i + 1) acc st' (by omega) (by omega) (by omega) (by simpa using p')
      | some x =>
        have ha : acc.length < lim - 1 := by omega
        simp only [ha, if_true]
        exact compL_inv step fuel (i + 1) (acc ++ [x]) st' (by omega) (by omega) (by rw [List.length_append]; show acc.length + 1 + _ < _; omega) (by simpa using p')
    · have e : l[i]? = none := List.getElem?_eq_none_iff.mpr (by omega)
      have hi' : i = l.length := by omega
      subst hi'
      exact ⟨acc, st, by simp only [srcAt, e], p⟩
theorem compF_inv {own : List Nat} {tg : SG} {it : SI} {t : ST} {e : SE} {c : Ctx} {env : Env} {st st1 : Stt} {l : List D} (P : Nat → List D → Stt → Prop) (h : it c env st = some (.ok (.items l), st1)) (h0 : P 0 [] st1) (hf : l.length < c.fuel) (hl : l.length < lim - 1)
    (step : ∀ (i : Nat) (d : D) (acc : List D) (st : Stt), l[i]? = some d → P i acc st → ∃ o st', compT tg t e c (wipeE env own) d st = some (.ok o, st') ∧ P (i + 1) (acc ++ o.toList) st') :
    ∃ acc st2, eCompF own tg it t e c env st = some (.ok (.frz acc), st2) ∧ P l.length acc st2 := by
  obtain ⟨acc, st2, q, p⟩ := compL_inv step c.fuel 0 [] st1 (by omega) (Nat.zero_le _) (by simpa using hl) h0
  exact ⟨acc, st2, comp_run h q, p⟩
end MI

set_option autoImplicit false
set_option maxRecDepth 100000
set_option linter.all false
/-! F0: what serves again. -/
namespace MI
open PySem
abbrev CX (N : Nat) : Ctx := ⟨prog.call 3000 N, prog.meth, prog.fld, 3000⟩
def pD (p : List Nat) : D := .tup (p.map fun (k : Nat) => D.int (k : Int))
theorem lim_eq : lim = 16777216 := rfl
theorem lim1 : 1 < lim := by decide
theorem lim2 : 2 < lim := by decide
theorem pure_tup {f N : Nat} {fn : Fn} {ds : List D} {d : D} {env' : Env} {st st' : Stt} (hf : prog.fns[f]? = some fn) (hp : prog.pures.contains f = true) (ha : D.lfL ds = true) (hl : ds.length = fn.pars)
    (h : fn.body (CX N) (ds.map some ++ List.replicate (fn.slots - fn.pars) none) [] = some (.rt d, env', st')) (hn : ∀ n, d ≠ .loc n) (hd : D.lf d = true) : prog.call 3000 (N + 1) f ds st = some (.ok d, st) := by
  rw [call_p hf hp]
  exact opt_run ha (run_rt hl h) hn hd
theorem pD_lf (p : List Nat) : D.lf (pD p) = true := by
  unfold pD
  simp only [D.lf]
  induction p with
  | nil => rfl
  | cons x p ih => simp only [List.map_cons, D.lfL, D.lf, ih, Bool.and_self]
theorem tuple_loc {a : SE} {c : Ctx} {env : Env} {st st1 : Stt} {k : Nat} {l : List D} (h : a c env st = some (.ok (.loc k), st1)) (hk : st1[k]? = some (.lst l)) : eUn bTuple a c env st = some (.ok (.tup l), st1) := by
  refine un_run h ?_
  unfold bTuple
  have : seqOf (.loc k) st1 = some (.ok l, st1) := by simp [seqOf, hk]
  rw [bnd_ok this]; rfl
theorem lt_run (i l : Nat) (st : Stt) : opLt (.int (i : Int)) (.int (l : Int)) st = some (.ok (.bl (decide (i < l))), st) := by
  simp only [opLt, Int.ofNat_lt]
theorem eqs (s t : List Nat) (hs : (s.all (· < 1114112)) = true) (ht : (t.all (· < 1114112)) = true) (st : Stt) : opEq (.str s) (.str t) st = some (.ok (.bl (s == t)), st) := by
  have e : eqD (.str s) (.str t) st = some (.ok (s == t), st) := by
    unfold eqD
    simp only [dat, deep, D.ok, hs, ht, Bool.and_self, if_true, D.eqv]
  unfold opEq
  rw [bnd_ok e]; rfl
theorem eqi (i j : Int) (st : Stt) : opEq (.int i) (.int j) st = some (.ok (.bl (i == j)), st) := by
  have e : eqD (.int i) (.int j) st = some (.ok (i == j), st) := by
    unfold eqD
    simp only [dat, deep, D.ok, Bool.and_self, if_true, D.eqv]
  unfold opEq
  rw [bnd_ok e]; rfl
theorem or_run {a b : ST} {c : Ctx} {env : Env} {st : Stt} {x y : Bool} (h1 : a c env st = some (.ok x, st)) (h2 : b c env st = some (.ok y, st)) : cOr a b c env st = some (.ok (x || y), st) := by
  unfold cOr bnd
  rw [h1]
  cases x with
  | true => rfl
  | false => exact h2
theorem cx_call (N f : Nat) (ds : List D) (st : Stt) : (CX N).call f ds st = prog.call 3000 N f ds st := rfl
theorem range_items (n : Nat) : rangeL 0 (n : Int) = (List.range n).map fun (k : Nat) => D.int (k : Int) := by
  unfold rangeL
  simp
theorem range1_run {a : SE} {c : Ctx} {env : Env} {st st1 : Stt} {n : Nat} (h : a c env st = some (.ok (.int (n : Int)), st1)) (hn : n < lim) : iRange1 a c env st = some (.ok (.items ((List.range n).map fun (k : Nat) => D.int (k : Int))), st1) := by
  unfold iRange1
  rw [bnd_ok h]
  show (if -(lim : Int) < (n : Int) ∧ (n : Int) < lim then ret (Src.items (rangeL 0 (n : Int))) else fail) st1 = _
  rw [lim_eq] at hn
  rw [if_pos ⟨by rw [lim_eq]; omega, by rw [lim_eq]; omega⟩, range_items]; rfl
theorem len_loc {a : SE} {c : Ctx} {env : Env} {st : Stt} {k : Nat} {l : List D} (h : a c env st = some (.ok (.loc k), st)) (hk : st[k]? = some (.lst l)) : eUn bLen a c env st = some (.ok (.int (l.length : Int)), st) :=
  un_run h (by simp [bLen, hk])
theorem fn_pen : prog.fns[F__law_pen]? = some ⟨1, 1, b__law_pen⟩ := rfl
theorem fn_fresh : prog.fns[F__law_fresh]? = some ⟨1, 7, b__law_fresh⟩ := rfl
theorem fn_draw : prog.fns[F__law_draw]? = some ⟨2, 3, b__law_draw⟩ := rfl
theorem eq_pen : b__law_pen = q_pen := rfl
theorem eq_fresh : b__law_fresh = q_fresh := rfl
theorem eq_draw : b__law_draw = q_draw F__law_fresh := rfl
theorem fresh_at (N : Nat) (xs : List Int) (hx : xs.length ≤ 63) (a q : Int) (rest : Stt) : ∃ v, prog.call 3000 (N + 1) F__law_fresh [.loc 0] (penO xs a q :: rest) = some (.ok (.int v), penO xs (a + 1) q :: rest) := by
  rw [call_np fn_fresh (by decide)]
  obtain ⟨v, env', h⟩ := fresh_run ⟨prog.call 3000 N, prog.meth, prog.fld, 3000⟩ (by show 6 < 3000; decide) xs (by rw [lim_eq]; omega) a q rest
  exact ⟨v, run_rt rfl (by rw [eq_fresh]; exact h)⟩
def Pen (xs : List Int) (st : Stt) : Prop := ∃ a q, st[0]? = some (penO xs a q)
theorem draw_at (N : Nat) {xs : List Int} (hx : xs.length ≤ 63) {many : Nat} (h0 : 0 < many) (h1 : many < 1000) {st : Stt} (hp : Pen xs st) :
    ∃ m a' q', m < many ∧ (CX (N + 2)).call F__law_draw [.loc 0, .int (many : Int)] st = some (.ok (.int ((m : Nat) : Int)), st.set 0 (penO xs a' q')) := by
  obtain ⟨a, q, hp⟩ := hp
  cases st with
  | nil => simp at hp
  | cons o rest =>
    have e : o = penO xs a q := by simpa using hp
    subst e
    rw [cx_call, call_np fn_draw (by decide)]
    obtain ⟨m, a', q', env', p0, p1, h⟩ := draw_run ⟨prog.call 3000 (N + 1), prog.meth, prog.fld, 3000⟩ F__law_fresh xs (many : Int) (by omega) (by omega) a q rest (fresh_at N xs hx a q rest)
    obtain ⟨k, rfl⟩ := Int.eq_ofNat_of_zero_le p0
    exact ⟨k, a', q', by omega, run_rt rfl (by rw [eq_draw]; exact h)⟩
theorem pen_set0 {xs : List Int} {st : Stt} (hp : Pen xs st) (a q : Int) : Pen xs (st.set 0 (penO xs a q)) := by
  obtain ⟨a0, q0, hp⟩ := hp
  have := (List.getElem?_eq_some_iff.mp hp).1
  exact ⟨a, q, by rw [List.getElem?_set_self this]⟩
def dg (x : Nat) : List Nat := [48 + x]
theorem strI_dg : ∀ x : Nat, x < 10 → strI (x : Int) = dg x := by
  intro x h
  match x, h with
  | 0, _ => decide +kernel
  | 1, _ => decide +kernel
  | 2, _ => decide +kernel
  | 3, _ => decide +kernel
  | 4, _ => decide +kernel
  | 5, _ => decide +kernel
  | 6, _ => decide +kernel
  | 7, _ => decide +kernel
  | 8, _ => decide +kernel
  | 9, _ => decide +kernel
theorem log_dg : ∀ x : Nat, x < 10 → ((x : Int)).natAbs.log2 < 1920 := by
  intro x h
  have : ∀ y : Fin 10, ((y.val : Int)).natAbs.log2 < 1920 := by decide +kernel
  exact this ⟨x, h⟩
theorem bStr_dg {x : Nat} (h : x < 10) (st : Stt) : bStr (.int (x : Int)) st = some (.ok (.str (dg x)), st) := by
  simp only [bStr, log_dg x h, if_true, strI_dg x h]
theorem joinN_mem {c : Nat} : ∀ {ws : List (List Nat)}, c ∈ joinN [32] ws → c = 32 ∨ ∃ w ∈ ws, c ∈ w
  | [], h => by simp [joinN] at h
  | [x], h => .inr ⟨x, by simp, h⟩
  | x :: y :: r, h => by
    rw [joinN, List.append_assoc] at h
    rcases List.mem_append.mp h with h | h
    · exact .inr ⟨x, by simp, h⟩
    · rcases List.mem_append.mp h with h | h
      · exact .inl (by simpa using h)
      · rcases joinN_mem h with h | ⟨w, hw, h⟩
        · exact .inl h
        · exact .inr ⟨w, List.mem_cons_of_mem _ hw, h⟩
theorem split_one {c : Nat} : ∀ {l : List Nat}, c ∉ l → splitC c l = [l]
  | [], _ => rfl
  | x :: l, h => by
    have h1 : x ≠ c := fun e => h (by simp [e])
    rw [splitC, if_neg h1, split_one (l := l) (fun z => h (by simp [z]))]
theorem split_cons {c : Nat} {rest : List Nat} : ∀ {l : List Nat}, c ∉ l → splitC c (l ++ c :: rest) = l :: splitC c rest
  | [], _ => by simp [splitC]
  | x :: l, h => by
    have h1 : x ≠ c := fun e => h (by simp [e])
    rw [List.cons_append, splitC, if_neg h1, split_cons (l := l) (fun z => h (by simp [z]))]
theorem split_join : ∀ {ws : List (List Nat)}, ws ≠ [] → (∀ w ∈ ws, 32 ∉ w) → splitC 32 (joinN [32] ws) = ws
  | [], h, _ => absurd rfl h
  | [x], _, h => split_one (h x (by simp))
  | x :: y :: r, _, h => by
    rw [joinN, List.append_assoc, List.singleton_append, split_cons (h x (by simp)), split_join (by simp) (fun w hw => h w (by simp [hw]))]
mutual
theorem ok_up : ∀ (n : Nat) (d : D), D.ok n d = true → D.ok (n + 1) d = true
  | n, .non, _ => by simp [D.ok]
  | n, .bl _, _ => by simp [D.ok]
  | n, .int _, _ => by simp [D.ok]
  | n, .str s, h => by simp only [D.ok] at h ⊢; exact h
  | 0, .tup _, h => by simp [D.ok] at h
  | n + 1, .tup l, h => by
    simp only [D.ok, Bool.and_eq_true] at h ⊢
    exact ⟨h.1, okL_up n l h.2⟩
  | 0, .xtup _, h => by simp [D.ok] at h
  | n + 1, .xtup l, h => by
    simp only [D.ok, Bool.and_eq_true] at h ⊢
    exact ⟨h.1, okL_up n l h.2⟩
  | 0, .frz _, h => by simp [D.ok] at h
  | n + 1, .frz l, h => by
    simp only [D.ok, Bool.and_eq_true] at h ⊢
    exact ⟨h.1, okL_up n l h.2⟩
  | _, .loc _, h => by simp [D.ok] at h
theorem okL_up : ∀ (n : Nat) (l : List D), D.okL n l = true → D.okL (n + 1) l = true
  | _, [], _ => by simp [D.okL]
  | n, x :: xs, h => by
    simp only [D.okL, Bool.and_eq_true] at h ⊢
    exact ⟨ok_up n x h.1, okL_up n xs h.2⟩
end
theorem ne_self {d : D} (ho : D.ok deep d = true) (st : Stt) : opNe d d st = some (.ok (.bl false), st) := by
  have e : eqD d d st = some (.ok true, st) := by
    unfold eqD
    rw [dat_self ho]
    simp [ho, eqv_refl _ _ ho]
  unfold opNe
  rw [bnd_ok e]; rfl
theorem ok_le {m m' : Nat} {d : D} (h : m ≤ m') (hd : D.ok m d = true) : D.ok m' d = true := by
  induction h with
  | refl => exact hd
  | step _ ih => exact ok_up _ _ ih
theorem tup_ok {m : Nat} {l : List D} (hl : l.length < lim) (h : D.okL m l = true) : D.ok (m + 1) (.tup l) = true := by
  simp only [D.ok, h, decide_eq_true hl, Bool.and_self]
theorem str_ok' {m : Nat} {s : List Nat} (h : ∀ c ∈ s, c < 128) : D.ok m (.str s) = true := by
  have : s.all (· < 1114112) = true := List.all_eq_true.mpr fun c hc => by have := h c hc; simp; omega
  cases m <;> simpa only [D.ok] using this
theorem strs_map : ∀ ws : List (List Nat), strs? (ws.map D.str) = some ws
  | [] => rfl
  | w :: ws => by simp [strs?, strs_map ws]
theorem sum_le {l : List (List Nat)} {k : Nat} (h : ∀ w ∈ l, w.length ≤ k) : (l.map (·.length)).sum ≤ k * l.length := by
  induction l with
  | nil => simp
  | cons w l ih =>
    have h1 := h w (by simp)
    have h2 := ih fun x hx => h x (by simp [hx])
    simp only [List.map_cons, List.sum_cons, List.length_cons]
    rw [Nat.mul_succ]; omega
theorem join_run {y : D} {a : List Nat} {ws : List (List Nat)} {st : Stt} (hy : seqOf y st = some (.ok (ws.map D.str), st)) (ha : a.length ≤ 1) (hw : ∀ w ∈ ws, w.length ≤ 100) (hl : ws.length ≤ 10000) : mJoin (.str a) y st = some (.ok (.str (joinN a ws)), st) := by
  have h1 := sum_le hw
  have h2 : ws.length * a.length ≤ 10000 * 1 := Nat.mul_le_mul hl ha
  have h3 : (ws.map (·.length)).sum + ws.length * a.length < lim := by rw [lim_eq]; omega
  unfold mJoin
  rw [bnd_ok hy]
  simp only [strs_map, h3, if_true, ret]
theorem joinE {e : SE} {a : List Nat} {c : Ctx} {env : Env} {st : Stt} {y : D} {ws : List (List Nat)} (he : e c env st = some (.ok y, st)) (hy : seqOf y st = some (.ok (ws.map D.str), st)) (ha : a.length ≤ 1) (hw : ∀ w ∈ ws, w.length ≤ 100) (hl : ws.length ≤ 10000) : eMt1 isStr mJoin (eC (.str a)) e c env st = some (.ok (.str (joinN a ws)), st) := by
  unfold eMt1
  rw [bnd_ok (a := .str a) (st1 := st) rfl, bnd_ok (a := ()) (st1 := st) rfl, bnd_ok he]
  exact join_run hy ha hw hl
theorem sadd_run {a b : List Nat} (st : Stt) (h : a.length + b.length < lim) : opAdd (.str a) (.str b) st = some (.ok (.str (a ++ b)), st) := by
  simp only [opAdd, h, if_true]
def wdD : D → List Nat
  | .int i => strI i
  | .str s => s
  | _ => []
theorem strs_run {c : Ctx} {env : Env} {st : Stt} {v : Nat} {l : List D} {e : SE} {ws : List (List Nat)} (he : e c env st = some (.ok (.tup l), st)) (hv : v < env.length) (hl : l.length ≤ 100) (hc : 100 < c.fuel) (hd : ∀ d ∈ l, (∃ x : Nat, x < 10 ∧ d = .int (x : Int)) ∨ ∃ s, d = .str s) (hw : l.map wdD = ws) :
    eCompF [v] (gVar v) (iSeq e) cYes (eUn bStr (eVar v)) c env st = some (.ok (.frz (ws.map D.str)), st) := by
  refine compF_map (fun d => some (.str (wdD d))) (seq_tup he) (fun i d hi => ?_) (by omega) (by rw [lim_eq]; omega) ?_
  · have hm := hd d (List.mem_of_getElem? hi)
    have hw : v < (wipeE env [v]).length := by simp [wipeE, hv]
    refine compT_y (st1 := st) (d := d) hw rfl (un_run (x := d) (var_run (by rw [List.getElem?_set_self hw])) ?_)
    rcases hm with ⟨x, hx, rfl⟩ | ⟨s, rfl⟩
    · rw [bStr_dg hx, wdD, strI_dg x hx]
    · rfl
  · rw [← hw]; simp [List.filterMap_eq_map, Function.comp_def]
theorem eqD_ok {a b : D} (ha : D.ok deep a = true) (hb : D.ok deep b = true) (st : Stt) : eqD a b st = some (.ok (D.eqv a b), st) := by
  unfold eqD
  rw [dat_self ha]
  simp only [dat_self hb, ha, hb, Bool.and_self, if_true]
theorem opEq_ok {a b : D} (ha : D.ok deep a = true) (hb : D.ok deep b = true) (st : Stt) : opEq a b st = some (.ok (.bl (D.eqv a b)), st) := by
  unfold opEq; rw [bnd_ok (eqD_ok ha hb st)]; rfl
theorem opNe_ok {a b : D} (ha : D.ok deep a = true) (hb : D.ok deep b = true) (st : Stt) : opNe a b st = some (.ok (.bl (!(D.eqv a b))), st) := by
  unfold opNe; rw [bnd_ok (eqD_ok ha hb st)]; rfl
theorem eqvL_nil (l : List D) : D.eqvL l [] = l.isEmpty := by cases l <;> rfl
theorem okL_strs {m : Nat} : ∀ {ws : List (List Nat)}, (∀ w ∈ ws, ∀ c ∈ w, c < 128) → D.okL m (ws.map D.str) = true
  | [], _ => by simp [D.okL]
  | w :: ws, h => by
    have h1 := okL_strs (m := m) (ws := ws) (fun x hx => h x (List.mem_cons_of_mem _ hx))
    have h2 : D.ok m (.str w) = true := str_ok' (h w (List.mem_cons_self ..))
    simp only [List.map_cons, D.okL, h1, h2, Bool.and_self]
theorem or_f2 {a b : ST} {c : Ctx} {env : Env} {st st1 : Stt} (h : a c env st = some (.ok false, st1)) : cOr a b c env st = b c env st1 := by
  unfold cOr
  rw [bnd_ok h]; rfl
theorem not_run {a : ST} {c : Ctx} {env : Env} {st st1 : Stt} {b : Bool} (h : a c env st = some (.ok b, st1)) : cNot a c env st = some (.ok (!b), st1) := by
  unfold cNot
  rw [bnd_ok h]; rfl
theorem joinE' {e : SE} {a : List Nat} {c : Ctx} {env : Env} {st st1 : Stt} {y : D} {ws : List (List Nat)} (he : e c env st = some (.ok y, st1)) (hy : seqOf y st1 = some (.ok (ws.map D.str), st1)) (ha : a.length ≤ 1) (hw : ∀ w ∈ ws, w.length ≤ 100) (hl : ws.length ≤ 10000) : eMt1 isStr mJoin (eC (.str a)) e c env st = some (.ok (.str (joinN a ws)), st1) := by
  unfold eMt1
  rw [bnd_ok (a := .str a) (st1 := st) rfl, bnd_ok (a := ()) (st1 := st) rfl, bnd_ok he]
  exact join_run hy ha hw hl
def PlS (t : Str) : Prop := ∀ c ∈ t.cps.toList, c < 128
theorem PlS.app {a b : Str} (ha : PlS a) (hb : PlS b) : PlS (a ++ b) := by
  intro c hc
  have e : (a ++ b).cps.toList = a.cps.toList ++ b.cps.toList := by
    show (a.cps ++ b.cps).toList = _
    exact Array.toList_append
  rw [e] at hc
  rcases List.mem_append.mp hc with h | h
  · exact ha c h
  · exact hb c h
theorem PlS.join {sep : Str} (hs : PlS sep) : ∀ {ts : List Str}, (∀ t ∈ ts, PlS t) → PlS (Str.join sep ts)
  | [], _ => by intro c hc; exact absurd hc (by simp [Str.join, Str.empty])
  | [x], h => h x (by simp)
  | x :: y :: r, h => by
    show PlS (x ++ sep ++ Str.join sep (y :: r))
    exact ((h x (by simp)).app hs).app (PlS.join hs fun t ht => h t (by simp [ht]))
theorem pl_tuple {ts : List Str} (h : ∀ t ∈ ts, PlS t) : PlS (tupleText ts) := by
  unfold tupleText
  refine (PlS.app (PlS.app ?_ (PlS.join ?_ h)) ?_)
  · unfold PlS; decide +kernel
  · unfold PlS; decide +kernel
  · split <;> (unfold PlS; decide +kernel)
mutual
def smp : D → Bool
  | .int i => decide (0 ≤ i ∧ i < 10)
  | .str s => [w_none].contains s
  | .tup l => smpL l
  | _ => false
def smpL : List D → Bool
  | [] => true
  | x :: xs => smp x && smpL xs
end
theorem int_dg {i : Int} (h : 0 ≤ i ∧ i < 10) : ∃ x : Nat, x < 10 ∧ i = (x : Int) := ⟨i.toNat, by omega, by omega⟩
mutual
theorem smp_shw : ∀ d : D, smp d = true → D.shw d = true
  | .int i, h => by
    simp only [smp, decide_eq_true_eq] at h
    obtain ⟨x, hx, rfl⟩ := int_dg h
    simp only [D.shw, decide_eq_true_eq]
    exact log_dg x hx
  | .str s, _ => by simp [D.shw]
  | .tup l, h => by
    simp only [smp] at h
    simp only [D.shw]
    exact smpL_shw l h
  | .non, h => by simp [smp] at h
  | .bl _, h => by simp [smp] at h
  | .loc _, h => by simp [smp] at h
  | .frz _, h => by simp [smp] at h
  | .xtup _, h => by simp [smp] at h
theorem smpL_shw : ∀ l : List D, smpL l = true → D.shwL l = true
  | [], _ => rfl
  | x :: xs, h => by
    simp only [smpL, Bool.and_eq_true] at h
    simp only [D.shwL, smp_shw x h.1, smpL_shw xs h.2, Bool.and_self]
end
theorem pl_int : ∀ x : Nat, x < 10 → PlS (PyData.shown (.int (x : Int))) := by
  have : ∀ x : Fin 10, PlS (PyData.shown (.int (x.val : Int))) := by unfold PlS; decide +kernel
  exact fun x hx => this ⟨x, hx⟩
theorem pl_word : ∀ w ∈ [w_none], PlS (PyData.shown (.str ⟨w.toArray⟩)) := by unfold PlS; decide +kernel
mutual
theorem smp_pl : ∀ d : D, smp d = true → PlS (toPyN d).shown
  | .int i, h => by
    simp only [smp, decide_eq_true_eq] at h
    obtain ⟨x, hx, rfl⟩ := int_dg h
    exact pl_int x hx
  | .str s, h => by
    simp only [smp] at h
    exact pl_word s (List.contains_iff_mem.mp h)
  | .tup l, h => by
    simp only [smp] at h
    exact pl_tuple (smpL_pl l h)
  | .non, h => by simp [smp] at h
  | .bl _, h => by simp [smp] at h
  | .loc _, h => by simp [smp] at h
  | .frz _, h => by simp [smp] at h
  | .xtup _, h => by simp [smp] at h
theorem smpL_pl : ∀ l : List D, smpL l = true → ∀ t ∈ PyData.shownAll (toPyNs l), PlS t
  | [], _ => by intro t ht; simp [toPyNs, PyData.shownAll] at ht
  | x :: xs, h => by
    simp only [smpL, Bool.and_eq_true] at h
    intro t ht
    simp only [toPyNs, PyData.shownAll, List.mem_cons] at ht
    rcases ht with rfl | ht
    · exact smp_pl x h.1
    · exact smpL_pl xs h.2 t ht
end
theorem smp_i {x : Nat} (h : x < 10) : smp (.int (x : Int)) = true := by
  simp only [smp, decide_eq_true_eq]; omega
theorem lg_dg : ∀ x : Nat, x < 10 → ((x : Int)).natAbs.log2 ≤ 3 := by
  have : ∀ y : Fin 10, ((y.val : Int)).natAbs.log2 ≤ 3 := by decide +kernel
  exact fun x hx => this ⟨x, hx⟩
end MI

set_option autoImplicit false
set_option maxRecDepth 100000
set_option linter.all false
/-! F1: texts of copyings, plainly; parse_copying runs. -/
namespace MI
open PySem
def isDg (w : List Nat) : Option Nat := match w with
  | [c] => if 48 ≤ c ∧ c ≤ 57 then some (c - 48) else none
  | _ => none
def numD (w : List Nat) : D := match isDg w with
  | some k => .int (k : Int)
  | none => .non
def nums : List (List Nat) → Option (List Nat)
  | [] => some []
  | w :: r => match isDg w, nums r with
    | some k, some ks => some (k :: ks)
    | _, _ => none
abbrev Up (ns : List Nat) : Prop := ns.Pairwise (· < ·)
/-- what a text says -/
def res (t : List Nat) : Option (List Nat) := if t = w_none then some [] else match nums (splitC 32 t) with
  | some ns => if (∀ k ∈ ns, k ≤ 7) ∧ Up ns then some ns else none
  | none => none
/-! ### numbers in order -/
theorem insI_perm (x : Int) : ∀ l : List Int, (insI x l).Perm (x :: l)
  | [] => .refl _
  | y :: r => by
    unfold insI
    split
    · exact .refl _
    · exact ((insI_perm x r).cons y).trans (.swap x y r)
theorem sortI_perm' : ∀ l : List Int, (sortI l).Perm l
  | [] => .nil
  | x :: r => (insI_perm x _).trans ((sortI_perm' r).cons x)
theorem insI_sorted (x : Int) : ∀ l : List Int, l.Pairwise (· ≤ ·) → (insI x l).Pairwise (· ≤ ·)
  | [], _ => by simp [insI]
  | y :: r, h => by
    unfold insI
    split
    · rename_i hxy
      refine List.pairwise_cons.mpr ⟨fun z hz => ?_, h⟩
      rcases List.mem_cons.mp hz with rfl | hz
      · exact hxy
      · exact Int.le_trans hxy ((List.pairwise_cons.mp h).1 z hz)
    · rename_i hxy
      refine List.pairwise_cons.mpr ⟨fun z hz => ?_, insI_sorted x r (List.pairwise_cons.mp h).2⟩
      rcases List.mem_cons.mp ((insI_perm x r).mem_iff.mp hz) with rfl | hz
      · omega
      · exact (List.pairwise_cons.mp h).1 z hz
theorem sortI_sorted' : ∀ l : List Int, (sortI l).Pairwise (· ≤ ·)
  | [] => .nil
  | x :: r => insI_sorted x _ (sortI_sorted' r)
theorem lt_of_both : ∀ {l : List Int}, l.Pairwise (· ≤ ·) → l.Nodup → l.Pairwise (· < ·)
  | [], _, _ => .nil
  | x :: l, h, n => by
    obtain ⟨h1, h2⟩ := List.pairwise_cons.mp h
    obtain ⟨n1, n2⟩ := List.nodup_cons.mp n
    refine List.pairwise_cons.mpr ⟨fun z hz => ?_, lt_of_both h2 n2⟩
    have := h1 z hz
    have : x ≠ z := fun e => n1 (e ▸ hz)
    omega
theorem sortI_self {l : List Int} (h : l.Pairwise (· < ·)) : sortI l = l := by
  have h1 : l.Pairwise (· ≤ ·) := h.imp fun h => Int.le_of_lt h
  exact ((sortI_perm' l).symm.eq_of_pairwise (le := (· ≤ ·)) (fun a b _ _ h1 h2 => Int.le_antisymm h1 h2) h1 (sortI_sorted' l)).symm
theorem foldF : ∀ (l acc : List Int), acc.Nodup → (l.foldl addF acc).Nodup
  | [], acc, h => h
  | x :: l, acc, h => by
    refine foldF l _ ?_
    unfold addF
    split
    · exact h
    · rename_i hx
      refine List.nodup_append.mpr ⟨h, by simp, fun a ha b hb => ?_⟩
      have : b = x := by simpa using hb
      subst this
      exact fun e => hx (e ▸ ha)
theorem foldF_id : ∀ (l acc : List Int), (acc ++ l).Nodup → l.foldl addF acc = acc ++ l
  | [], acc, _ => by simp
  | x :: l, acc, h => by
    have hx : x ∉ acc := fun z => by
      have := List.nodup_append.mp h
      exact this.2.2 x z x (by simp) rfl
    rw [List.foldl_cons]
    have : addF acc x = acc ++ [x] := by unfold addF; rw [if_neg hx]
    rw [this, foldF_id l (acc ++ [x]) (by simpa using h)]
    simp
theorem nodup_of_lt {l : List Int} (h : l.Pairwise (· < ·)) : l.Nodup := h.imp fun h => Int.ne_of_lt h
/-- a list is its own sorted set where it rises -/
theorem self_iffF (l : List Int) : l = sortI (dedF l) ↔ l.Pairwise (· < ·) := by
  constructor
  · intro e
    rw [e]
    exact lt_of_both (sortI_sorted' _) ((sortI_perm' _).nodup_iff.mpr (foldF l [] List.nodup_nil))
  · intro h
    have : dedF l = l := foldF_id l [] (by simpa using nodup_of_lt h)
    rw [this, sortI_self h]
theorem dedI_id : ∀ {l : List Int}, l.Nodup → dedI l = l
  | [], _ => rfl
  | x :: l, h => by
    obtain ⟨h1, h2⟩ := List.nodup_cons.mp h
    rw [dedI, if_neg h1, dedI_id h2]
theorem self_iffI (l : List Int) : l = sortI (dedI l) ↔ l.Pairwise (· < ·) := by
  constructor
  · intro e
    rw [e]
    exact lt_of_both (sortI_sorted' _) ((sortI_perm' _).nodup_iff.mpr (nodup_dedI l))
  · intro h
    rw [dedI_id (nodup_of_lt h), sortI_self h]
theorem up_int (ns : List Nat) : (ns.map fun (k : Nat) => (k : Int)).Pairwise (· < ·) ↔ Up ns := by
  rw [List.pairwise_map]
  exact ⟨fun h => h.imp fun h => by omega, fun h => h.imp fun h => by omega⟩
theorem great_le (b : Int) : ∀ (l : List Int) (m : Int), greatI m l ≤ b ↔ m ≤ b ∧ ∀ x ∈ l, x ≤ b
  | [], m => by simp [greatI]
  | x :: l, m => by
    unfold greatI
    rw [great_le b l]
    simp only [List.mem_cons, forall_eq_or_imp]
    split <;> constructor <;> intro h <;> refine ⟨by omega, ?_⟩
    · exact ⟨by omega, h.2⟩
    · exact h.2.2
    · exact ⟨by omega, h.2⟩
    · exact h.2.2
/-! ### data -/
theorem ints_map' : ∀ l : List Int, ints? (l.map D.int) = some l
  | [] => rfl
  | x :: l => by simp [ints?, ints_map' l]
theorem eqvL_ints : ∀ a b : List Int, D.eqvL (a.map D.int) (b.map D.int) = decide (a = b)
  | [], [] => rfl
  | [], _ :: _ => rfl
  | _ :: _, [] => rfl
  | x :: a, y :: b => by
    simp only [List.map_cons, D.eqvL, D.eqv, eqvL_ints a b, List.cons.injEq]
    rw [Bool.eq_iff_iff]; simp
theorem frz_ok {m : Nat} {l : List D} (hl : l.length < lim) (h : D.okL m l = true) : D.ok (m + 1) (.frz l) = true := by
  simp only [D.ok, h, decide_eq_true hl, Bool.and_self]
theorem numD_ok (m : Nat) : ∀ ws : List (List Nat), D.okL m (ws.map numD) = true
  | [] => by simp [D.okL]
  | w :: ws => by
    have : D.ok m (numD w) = true := by unfold numD; split <;> simp [D.ok]
    simp [D.okL, this, numD_ok m ws]
theorem nums_some : ∀ {ws : List (List Nat)} {ns : List Nat}, nums ws = some ns → ws.map numD = ns.map fun (k : Nat) => D.int (k : Int)
  | [], ns, h => by cases h; rfl
  | w :: ws, ns, h => by
    unfold nums at h
    split at h
    · rename_i k ks h1 h2
      cases h
      have : numD w = .int (k : Int) := by unfold numD; rw [h1]
      rw [List.map_cons, List.map_cons, nums_some h2, this]
    · cases h
theorem nums_none : ∀ {ws : List (List Nat)}, nums ws = none → (ws.map numD).any (fun y => D.eqv y .non) = true
  | [], h => by cases h
  | w :: ws, h => by
    unfold nums at h
    split at h
    · cases h
    · rename_i hh
      rw [List.map_cons, List.any_cons]
      cases h1 : isDg w with
      | none =>
        have : numD w = .non := by unfold numD; rw [h1]
        rw [this]; rfl
      | some k =>
        cases h2 : nums ws with
        | none => rw [nums_none h2]; simp
        | some ks => exact absurd h2 (hh k ks h1)
theorem ints_any : ∀ ns : List Nat, (ns.map fun (k : Nat) => D.int (k : Int)).any (fun y => D.eqv y .non) = false
  | [] => rfl
  | k :: ns => by rw [List.map_cons, List.any_cons, ints_any ns]; rfl
theorem fn_num : prog.fns[F_number_in]? = some ⟨1, 1, b_number_in⟩ := rfl
theorem fn_prs : prog.fns[F_parse_copying]? = some ⟨1, 4, b_parse_copying⟩ := rfl
theorem dg_mem' (c : Nat) : w_0123456789.contains c = decide (48 ≤ c ∧ c ≤ 57) := by
  rw [Bool.eq_iff_iff]
  simp [w_0123456789]
  omega
theorem dg_idx : ∀ k : Fin 10, w_0123456789.idxOf (48 + k.val) = k.val := by decide +kernel
theorem number_body {w : List Nat} (hl : w.length < lim) (N : Nat) : (eIf (cAnd (cB (eBin opEq (eUn bLen (eVar 0)) (eC (.int 1)))) (cB (eBin opIn (eVar 0) (eC (.str w_0123456789))))) (eMt1 isStr mIndexS (eC (.str w_0123456789)) (eVar 0)) (eC .non)) (CX N) [some (.str w)] [] = some (.ok (numD w), []) := by
  have hlen : (eUn bLen (eVar 0)) (CX N) [some (.str w)] [] = some (.ok (.int (w.length : Int)), []) := un_run (var_run rfl) (by simp only [bLen, hl, if_true])
  have c1 := cB_run (bin_run (f := opEq) hlen (b := eC (.int 1)) rfl (eqi _ _ _))
  by_cases h1 : w.length = 1
  · obtain ⟨c, rfl⟩ : ∃ c, w = [c] := List.length_eq_one_iff.mp h1
    have e1 : ((([c] : List Nat).length : Int) == 1) = true := rfl
    rw [e1] at c1
    have c2 : (cB (eBin opIn (eVar 0) (eC (.str w_0123456789)))) (CX N) [some (.str [c])] [] = some (.ok (decide (48 ≤ c ∧ c ≤ 57)), []) := by
      refine cB_run (bin_run (var_run rfl) (y := .str w_0123456789) rfl ?_)
      have : isInT (.str [c]) (.str w_0123456789) [] = some (.ok (w_0123456789.contains c), []) := rfl
      unfold opIn
      rw [bnd_ok this, dg_mem']; rfl
    have c3 := and_run c1 c2
    unfold eIf
    rw [bnd_ok c3]
    by_cases hc : 48 ≤ c ∧ c ≤ 57
    · have e : (true && decide (48 ≤ c ∧ c ≤ 57)) = true := by simp [hc]
      rw [if_pos e]
      have hn : numD [c] = .int ((c - 48 : Nat) : Int) := by simp [numD, isDg, hc]
      rw [hn]
      unfold eMt1
      rw [bnd_ok (a := .str w_0123456789) (st1 := []) rfl, bnd_ok (a := ()) (st1 := []) rfl, bnd_ok (var_run (x := .str [c]) rfl)]
      have hi := dg_idx ⟨c - 48, by omega⟩
      have e2 : 48 + (c - 48) = c := by omega
      simp only [e2] at hi
      have hm : w_0123456789.contains c = true := by rw [dg_mem']; exact decide_eq_true hc
      simp only [mIndexS, hm, if_true, hi]
    · have e : (true && decide (48 ≤ c ∧ c ≤ 57)) = false := by simp [hc]
      rw [if_neg (by rw [e]; decide)]
      have hn : numD [c] = .non := by simp [numD, isDg, hc]
      rw [hn]; rfl
  · have e1 : ((w.length : Int) == 1) = false := by simp; omega
    rw [e1] at c1
    have c3 : (cAnd (cB (eBin opEq (eUn bLen (eVar 0)) (eC (.int 1)))) (cB (eBin opIn (eVar 0) (eC (.str w_0123456789))))) (CX N) [some (.str w)] [] = some (.ok false, []) := by
      unfold cAnd
      rw [bnd_ok c1]; rfl
    unfold eIf
    rw [bnd_ok c3, if_neg (by decide)]
    have hn : numD w = .non := by
      unfold numD isDg
      match w, h1 with
      | [], _ => rfl
      | [c], h1 => exact absurd rfl h1
      | _ :: _ :: _, _ => rfl
    rw [hn]; rfl
theorem number_run {w : List Nat} (hl : w.length < lim) (N : Nat) (st : Stt) : prog.call 3000 (N + 1) F_number_in [.str w] st = some (.ok (numD w), st) := by
  have lf : D.lf (numD w) = true := by unfold numD; split <;> rfl
  exact pure_tup fn_num (by decide) rfl rfl (env' := [some (.str w)]) (st' := []) (ret_run (number_body hl N)) (fun n z => by unfold numD at z; split at z <;> cases z) lf
theorem split_len (c : Nat) : ∀ t : List Nat, (splitC c t).length ≤ t.length + 1 ∧ ∀ w ∈ splitC c t, w.length ≤ t.length ∧ ∀ x ∈ w, x ∈ t
  | [] => by simp [splitC]
  | x :: t => by
    obtain ⟨h1, h2⟩ := split_len c t
    unfold splitC
    split
    · refine ⟨by simp; omega, fun w hw => ?_⟩
      rcases List.mem_cons.mp hw with rfl | hw
      · simp
      · have := h2 w hw
        exact ⟨by simp; omega, fun y hy => List.mem_cons_of_mem _ (this.2 y hy)⟩
    · split
      · rename_i p q e
        rw [e] at h1 h2
        refine ⟨by simp at h1 ⊢; omega, fun w hw => ?_⟩
        rcases List.mem_cons.mp hw with rfl | hw
        · have := h2 p (by simp)
          refine ⟨by simp; omega, fun y hy => ?_⟩
          rcases List.mem_cons.mp hy with rfl | hy
          · simp
          · exact List.mem_cons_of_mem _ (this.2 y hy)
        · have := h2 w (by simp [hw])
          exact ⟨by simp; omega, fun y hy => List.mem_cons_of_mem _ (this.2 y hy)⟩
      · rename_i e
        refine ⟨by simp, fun w hw => ?_⟩
        have : w = [x] := by simpa using hw
        subst this
        exact ⟨by simp, fun y hy => by simp at hy; simp [hy]⟩
theorem split_ne (c : Nat) : ∀ t : List Nat, splitC c t ≠ []
  | [] => by simp [splitC]
  | x :: t => by
    unfold splitC
    split
    · simp
    · split <;> simp
structure TxOk (t : List Nat) : Prop where
  len : t.length ≤ 6000
  ch : ∀ c ∈ t, c < 128
  few : (splitC 32 t).length ≤ 60
theorem TxOk.ok {t : List Nat} (h : TxOk t) (m : Nat) : D.ok m (.str t) = true := str_ok' h.ch
theorem split_run {c : Ctx} {env : Env} {st : Stt} {i : Nat} {t : List Nat} (ho : TxOk t) (h : env[i]? = some (some (.str t))) : eMt1 isStr mSplit (eVar i) (eC (.str w__32_)) c env st = some (.ok (.frz ((splitC 32 t).map D.str)), st) := by
  unfold eMt1
  rw [bnd_ok (var_run h), bnd_ok (a := ()) (st1 := st) rfl, bnd_ok (a := .str [32]) (st1 := st) rfl]
  have hl : t.length + 2 < lim := by have := ho.len; rw [lim_eq]; omega
  simp only [mSplit, hl, if_true]
theorem none_eq {t : List Nat} (ho : TxOk t) (st : Stt) : opEq (.str t) (.str w_none) st = some (.ok (.bl (decide (t = w_none))), st) := by
  rw [opEq_ok (ho.ok _) (by decide +kernel), D.eqv]
  have : (t == w_none) = decide (t = w_none) := by rw [Bool.eq_iff_iff]; simp
  rw [this]
theorem or_t {a b : ST} {c : Ctx} {env : Env} {st st1 : Stt} (h : a c env st = some (.ok true, st1)) : cOr a b c env st = some (.ok true, st1) := by
  unfold cOr
  rw [bnd_ok h]; rfl
theorem run_ex {fn : Fn} {c : Ctx} {ds : List D} {st st' : Stt} {env' : Env} {kc : Nat} {fs : List (List Nat × D)} (hl : ds.length = fn.pars) (h : fn.body c (ds.map some ++ List.replicate (fn.slots - fn.pars) none) st = some (.ex kc fs, env', st')) : fn.run c ds st = some (.exc kc fs, st') := by
  unfold Fn.run
  rw [if_pos hl, h]
theorem fr_ex {p k : Nat} {b : SS} {c : Ctx} {ds : List D} {env env' : Env} {st st' : Stt} {kc : Nat} {fs : List (List Nat × D)} (hl : ds.length = p) (he : ds.map some ++ List.replicate (k - p) none = env) (h : b c env st = some (.ex kc fs, env', st')) : (⟨p, k, b⟩ : Fn).run c ds st = some (.exc kc fs, st') := by
  subst he
  exact run_ex (fn := ⟨p, k, b⟩) hl h
/-- parse_copying -/
theorem parse_run {t : List Nat} (ho : TxOk t) (N : Nat) (st : Stt) : prog.call 3000 (N + 2) F_parse_copying [.str t] st = (match res t with
    | some ns => some (.ok (pD ns), st)
    | none => some (.exc C_ParseError [(w_line, .int 0)], st)) := by
  rw [call_np fn_prs (by decide)]
  have t0 : (cB (eBin opEq (eVar 0) (eC (.str w_none)))) (CX (N + 1)) [some (.str t), none, none, none] st = some (.ok (decide (t = w_none)), st) := cB_run (bin_run (var_run rfl) (y := .str w_none) rfl (none_eq ho st))
  by_cases hn : t = w_none
  · have e : res t = some [] := by unfold res; rw [if_pos hn]
    rw [e]
    rw [decide_eq_true hn] at t0
    exact fr_rt rfl rfl (seq_rt (a := b_parse_copying_0) ((if_t t0).trans (ret_run rfl)))
  rw [decide_eq_false hn] at t0
  have s0 : b_parse_copying_0 (CX (N + 1)) [some (.str t), none, none, none] st = some (.nx, [some (.str t), none, none, none], st) := if_f t0
  obtain ⟨wl, wm⟩ := split_len 32 t
  have hwl := ho.len
  have s1 : b_parse_copying_1 (CX (N + 1)) [some (.str t), none, none, none] st = some (.nx, [some (.str t), some (.frz ((splitC 32 t).map numD)), none, none], st) := by
    refine set_run ?_ (by show 1 < 4; decide)
    have hfew := ho.few
    refine compF_mapG (xs := splitC 32 t) (g := D.str) (fun w => some (numD w)) (seq_frz (split_run ho rfl)) (fun w hw => ?_) (by show _ < 3000; omega) (by rw [lim_eq]; omega) (by simp [List.filterMap_eq_map, Function.comp_def])
    exact compT_y (st1 := st) (by show 2 < 4; decide) rfl (call_run (lcons_run (var_run rfl) lnil_run) (number_run (by have := (wm w hw).1; rw [lim_eq]; omega) N st))
  have hfew := ho.few
  generalize hws : splitC 32 t = ws at s1 hfew
  have hne : ws ≠ [] := by rw [← hws]; exact split_ne 32 t
  -- None in labels
  have okn : D.okL deep (ws.map numD) = true := numD_ok _ ws
  have tin : (cB (eBin opIn (eC .non) (eVar 1))) (CX (N + 1)) [some (.str t), some (.frz (ws.map numD)), none, none] st = some (.ok ((ws.map numD).any fun y => D.eqv y .non), st) := by
    refine cB_run (bin_run (x := .non) (y := .frz (ws.map numD)) rfl (var_run rfl) ?_)
    have : isInT .non (.frz (ws.map numD)) st = some (.ok ((ws.map numD).any fun y => D.eqv y .non), st) := by
      have o1 : D.ok deep .non = true := rfl
      simp only [isInT, o1, okn, Bool.and_self, if_true]
    unfold opIn
    rw [bnd_ok this]; rfl
  have raise : ∀ env, (sRaise C_ParseError w_line m_ParseError (eC (.int 0))) (CX (N + 1)) env st = some (.ex C_ParseError [(w_line, .int 0)], env, st) := fun env => by kernel_rfl
  have bad : ∀ {T : ST}, T (CX (N + 1)) [some (.str t), some (.frz (ws.map numD)), none, none] st = some (.ok true, st) → (sIf T (sRaise C_ParseError w_line m_ParseError (eC (.int 0))) sPass) (CX (N + 1)) [some (.str t), some (.frz (ws.map numD)), none, none] st = some (.ex C_ParseError [(w_line, .int 0)], [some (.str t), some (.frz (ws.map numD)), none, none], st) := fun h => (if_t h).trans (raise _)
  have finEx : b_parse_copying_2 (CX (N + 1)) [some (.str t), some (.frz (ws.map numD)), none, none] st = some (.ex C_ParseError [(w_line, .int 0)], [some (.str t), some (.frz (ws.map numD)), none, none], st) → (⟨1, 4, b_parse_copying⟩ : Fn).run ⟨prog.call 3000 (N + 1), prog.meth, prog.fld, 3000⟩ [.str t] st = some (.exc C_ParseError [(w_line, .int 0)], st) := fun h => by
    have hb : b_parse_copying (CX (N + 1)) [some (.str t), none, none, none] st = some (.ex C_ParseError [(w_line, .int 0)], [some (.str t), some (.frz (ws.map numD)), none, none], st) := by
      refine (seq_nx s0).trans ((seq_nx s1).trans ?_)
      unfold sSeq
      rw [h]
    exact fr_ex rfl rfl hb
  have hres : res t = (match nums ws with
    | some ns => if (∀ k ∈ ns, k ≤ 7) ∧ Up ns then some ns else none
    | none => none) := by unfold res; rw [if_neg hn, hws]
  cases hnum : nums ws with
  | none =>
    rw [hres, hnum]
    rw [nums_none hnum] at tin
    exact finEx (bad (or_t tin))
  | some ns =>
    have em := nums_some hnum
    have hnl : ns.length = ws.length := by have := congrArg List.length em; simpa using this.symm
    rw [em, ints_any] at tin
    rw [em] at bad finEx
    have emI : (ns.map fun (k : Nat) => D.int (k : Int)) = (ns.map fun (k : Nat) => (k : Int)).map D.int := by rw [List.map_map]; rfl
    have s1' := s1
    rw [em] at s1'
    generalize hL : (ns.map fun (k : Nat) => (k : Int)) = L at emI
    have hLl : L.length = ns.length := by rw [← hL]; simp
    rw [emI] at tin bad finEx s1'
    have okF : D.ok deep (.frz (L.map D.int)) = true := frz_ok (by rw [List.length_map, lim_eq]; omega) (okL_ints _ _)
    -- the greatest
    obtain ⟨x, r, hxr⟩ : ∃ x r, L = x :: r := by
      cases hc : L with
      | nil => rw [hc] at hLl; rw [hnl] at hLl; exact absurd (List.length_eq_zero_iff.mp hLl.symm) hne
      | cons x r => exact ⟨x, r, rfl⟩
    have tmx : (cB (eBin opGt (eUn bMax (eVar 1)) (eC (.int 7)))) (CX (N + 1)) [some (.str t), some (.frz (L.map D.int)), none, none] st = some (.ok (decide (7 < greatI x r)), st) := by
      refine cB_run (bin_run (x := .int (greatI x r)) (y := .int 7) (un_run (var_run rfl) ?_) rfl rfl)
      unfold bMax
      rw [bnd_ok (a := L.map D.int) (st1 := st) rfl, ints_map', hxr]; rfl
    have tso : (cB (eBin opNe (eVar 1) (eUn bSortedF (eKeysF [3] (gVar 3) (iSeq (eVar 1)) cYes (eVar 3))))) (CX (N + 1)) [some (.str t), some (.frz (L.map D.int)), none, none] st = some (.ok (!decide (L = sortI (dedF L))), st) := by
      have k1 : eKeysF [3] (gVar 3) (iSeq (eVar 1)) cYes (eVar 3) (CX (N + 1)) [some (.str t), some (.frz (L.map D.int)), none, none] st = some (.ok (.frz ((dedF L).map D.int)), st) := by
        have := compL_map (l := L.map D.int) (T := compT (gVar 3) cYes (eVar 3) (CX (N + 1)) (wipeE [some (.str t), some (.frz (L.map D.int)), none, none] [3])) (fun d => some d) (st := st) (fun i d hi => compT_y (st1 := st) (by show 3 < 4; decide) rfl (var_run rfl)) 3000 0 [] (by rw [List.length_map]; omega) (Nat.zero_le _) (by rw [List.length_map, lim_eq]; simp; omega)
        unfold eKeysF
        rw [bnd_ok (a := Src.items (L.map D.int)) (st1 := st) rfl, bnd_ok this]
        have e2 : ([] ++ ((L.map D.int).drop 0).filterMap fun d => some d) = L.map D.int := by simp
        rw [e2, ints_map']; rfl
      have hd : (dedF L).length < lim := by
        have : ∀ (l acc : List Int), (l.foldl addF acc).length ≤ acc.length + l.length := fun l => by
          induction l with
          | nil => intro acc; simp
          | cons y l ih =>
            intro acc
            have h1 := ih (addF acc y)
            have h2 : (addF acc y).length ≤ acc.length + 1 := by unfold addF; split <;> simp
            simp only [List.foldl_cons, List.length_cons]; omega
        have := this L []
        unfold dedF
        rw [lim_eq]; simp at this ⊢; omega
      have k2 : (eUn bSortedF (eKeysF [3] (gVar 3) (iSeq (eVar 1)) cYes (eVar 3))) (CX (N + 1)) [some (.str t), some (.frz (L.map D.int)), none, none] st = some (.ok (.frz ((sortI (dedF L)).map D.int)), st) := by
        refine un_run k1 ?_
        unfold bSortedF
        rw [bnd_ok (a := (dedF L).map D.int) (st1 := st) rfl, ints_map']
        simp only [hd, if_true]; rfl
      have okS : D.ok deep (.frz ((sortI (dedF L)).map D.int)) = true := frz_ok (by rw [List.length_map, (sortI_perm' _).length_eq]; exact hd) (okL_ints _ _)
      refine cB_run (bin_run (x := .frz (L.map D.int)) (var_run rfl) k2 ?_)
      rw [opNe_ok okF okS, D.eqv, eqvL_ints]
    have hr : res t = if (∀ k ∈ ns, k ≤ 7) ∧ Up ns then some ns else none := by rw [hres, hnum]
    rw [hr]
    have up1 : L = sortI (dedF L) ↔ Up ns := by rw [self_iffF, ← hL, up_int]
    have gr : greatI x r ≤ 7 ↔ ∀ k ∈ ns, k ≤ 7 := by
      rw [great_le]
      have : (x ≤ 7 ∧ ∀ y ∈ r, y ≤ 7) ↔ ∀ y ∈ L, y ≤ 7 := by rw [hxr]; simp
      rw [this, ← hL]
      simp only [List.mem_map, forall_exists_index, and_imp, forall_apply_eq_imp_iff₂]
      exact ⟨fun h k hk => by have := h k hk; omega, fun h k hk => by have := h k hk; omega⟩
    by_cases hg : ∀ k ∈ ns, k ≤ 7
    · have e7 : decide (7 < greatI x r) = false := decide_eq_false (by have := gr.mpr hg; omega)
      rw [e7] at tmx
      by_cases hu : Up ns
      · have eu : (!decide (L = sortI (dedF L))) = false := by rw [decide_eq_true (up1.mpr hu)]; rfl
        rw [eu] at tso
        rw [if_pos ⟨hg, hu⟩]
        have s2 : b_parse_copying_2 (CX (N + 1)) [some (.str t), some (.frz (L.map D.int)), none, none] st = some (.nx, [some (.str t), some (.frz (L.map D.int)), none, none], st) := if_f ((or_f2 tin).trans ((or_f2 tmx).trans tso))
        have ep : pD ns = .tup (L.map D.int) := by unfold pD; rw [emI]
        show _ = some (Rs.ok (pD ns), st)
        rw [ep]
        exact fr_rt rfl rfl ((seq_nx s0).trans ((seq_nx s1').trans ((seq_nx s2).trans (ret_run (tuple_frz (var_run rfl))))))
      · have eu : (!decide (L = sortI (dedF L))) = true := by rw [decide_eq_false (fun z => hu (up1.mp z))]; rfl
        rw [eu] at tso
        rw [if_neg (fun z => hu z.2)]
        exact finEx (bad ((or_f2 tin).trans ((or_f2 tmx).trans tso)))
    · have e7 : decide (7 < greatI x r) = true := decide_eq_true (by
        have : ¬ greatI x r ≤ 7 := fun z => hg (gr.mp z)
        omega)
      rw [e7] at tmx
      rw [if_neg (fun z => hg z.1)]
      exact finEx (bad ((or_f2 tin).trans (or_t tmx)))
end MI

set_option autoImplicit false
set_option maxRecDepth 100000
set_option linter.all false
/-! F2: what the law calls good. -/
namespace MI
open PySem
def octs : List (List Nat) := [[48], [49], [50], [51], [52], [53], [54], [55]]
theorem dg_isDg {k : Nat} (h : k ≤ 9) : isDg (dg k) = some k := by
  have h1 : 48 ≤ 48 + k ∧ 48 + k ≤ 57 := by omega
  show (if 48 ≤ 48 + k ∧ 48 + k ≤ 57 then some (48 + k - 48) else none) = some k
  rw [if_pos h1]
  congr 1; omega
theorem isDg_dg {w : List Nat} {k : Nat} (h : isDg w = some k) : w = dg k ∧ k ≤ 9 := by
  unfold isDg at h
  split at h
  · split at h
    · rename_i c hc
      have : c - 48 = k := by simpa using h
      subst this
      refine ⟨?_, by omega⟩
      unfold dg
      congr 1; omega
    · cases h
  · cases h
theorem mem_octs (w : List Nat) : w ∈ octs ↔ ∃ k, k ≤ 7 ∧ w = dg k := by
  constructor
  · intro h
    have : ∀ w ∈ octs, ∃ k : Fin 8, w = dg k.val := by decide
    obtain ⟨k, hk⟩ := this w h
    exact ⟨k.val, by omega, hk⟩
  · rintro ⟨k, hk, rfl⟩
    have : ∀ k : Fin 8, dg k.val ∈ octs := by decide
    exact this ⟨k, by omega⟩
/-- the words are figures up to 7 -/
theorem octs_nums : ∀ {ws : List (List Nat)}, (∀ w ∈ ws, w ∈ octs) → ∃ ns : List Nat, ws = ns.map dg ∧ nums ws = some ns ∧ ∀ k ∈ ns, k ≤ 7
  | [], _ => ⟨[], rfl, rfl, by simp⟩
  | w :: ws, h => by
    obtain ⟨ns, e, h1, h2⟩ := octs_nums (ws := ws) fun w hw => h w (by simp [hw])
    obtain ⟨k, hk, rfl⟩ := (mem_octs w).mp (h w (by simp))
    refine ⟨k :: ns, by simp [e], ?_, by simpa using ⟨hk, h2⟩⟩
    unfold nums
    rw [dg_isDg (by omega), h1]
theorem nums_octs : ∀ {ws : List (List Nat)} {ns : List Nat}, nums ws = some ns → (∀ k ∈ ns, k ≤ 7) → ∀ w ∈ ws, w ∈ octs
  | [], _, _, _ => by simp
  | w :: ws, ns, h, h7 => by
    unfold nums at h
    split at h
    · rename_i k ks h1 h2
      cases h
      intro v hv
      rcases List.mem_cons.mp hv with rfl | hv
      · exact (mem_octs _).mpr ⟨k, h7 k (by simp), (isDg_dg h1).1⟩
      · exact nums_octs h2 (fun k hk => h7 k (by simp [hk])) v hv
    · cases h
theorem res_good {t : List Nat} {ns : List Nat} (hn : t ≠ w_none) (hw : splitC 32 t = ns.map dg) (h7 : ∀ k ∈ ns, k ≤ 7) (hu : Up ns) : res t = some ns := by
  have : nums (ns.map dg) = some ns := by
    clear hu hw
    induction ns with
    | nil => rfl
    | cons k ns ih =>
      rw [List.map_cons]
      unfold nums
      rw [dg_isDg (by have := h7 k (by simp); omega), ih fun k hk => h7 k (by simp [hk])]
  unfold res
  rw [if_neg hn, hw, this]
  exact if_pos ⟨h7, hu⟩
theorem good_res {t : List Nat} {ns : List Nat} (hn : t ≠ w_none) (h : res t = some ns) : splitC 32 t = ns.map dg ∧ (∀ k ∈ ns, k ≤ 7) ∧ Up ns := by
  unfold res at h
  rw [if_neg hn] at h
  cases hm : nums (splitC 32 t) with
  | none => rw [hm] at h; cases h
  | some ms =>
    rw [hm] at h
    simp only at h
    split at h
    · rename_i hg
      cases h
      obtain ⟨ks, e, h1, h2⟩ := octs_nums (nums_octs hm hg.1)
      rw [hm] at h1
      cases h1
      exact ⟨e, hg⟩
    · cases h
/-- sorted(set(the words)) -/
theorem srt_up (ns : List Nat) : ns.map (48 + ·) = srtC (ns.map (48 + ·)) ↔ Up ns := by
  generalize hc : ns.map (48 + ·) = cs
  have e : Up cs ↔ Up ns := by
    rw [← hc]
    unfold Up
    rw [List.pairwise_map]
    exact ⟨fun h => h.imp fun h => by omega, fun h => h.imp fun h => by omega⟩
  rw [← e, ← up_int, ← self_iffI]
  unfold srtC
  have nn : ∀ x ∈ sortI (dedI (cs.map fun (c : Nat) => (c : Int))), 0 ≤ x := fun x hx => by
    have := (sortI_perm' _).mem_iff.mp hx
    have := mem_dedI.mp this
    obtain ⟨c, _, rfl⟩ := List.mem_map.mp this
    omega
  generalize sortI (dedI (cs.map fun (c : Nat) => (c : Int))) = M at nn
  constructor
  · intro h
    rw [h, List.map_map]
    have : ∀ l : List Int, (∀ x ∈ l, 0 ≤ x) → l.map ((fun (c : Nat) => (c : Int)) ∘ Int.toNat) = l := fun l hl => by
      induction l with
      | nil => rfl
      | cons x l ih =>
        rw [List.map_cons, ih fun y hy => hl y (by simp [hy])]
        have := hl x (by simp)
        congr 1
        simp only [Function.comp]; omega
    exact this M nn
  · intro h
    rw [← h, List.map_map]
    have : (Int.toNat ∘ fun (c : Nat) => (c : Int)) = id := by funext c; simp
    rw [this, List.map_id]
theorem srt_mem {cs : List Nat} {c : Nat} (h : c ∈ srtC cs) : c ∈ cs := by
  unfold srtC at h
  obtain ⟨x, hx, rfl⟩ := List.mem_map.mp h
  obtain ⟨c, hc, rfl⟩ := List.mem_map.mp (mem_dedI.mp ((sortI_perm' _).mem_iff.mp hx))
  simpa using hc
theorem ones_map : ∀ cs : List Nat, ones? (cs.map fun c => D.str [c]) = some cs
  | [] => rfl
  | c :: cs => by simp [ones?, ones_map cs]
theorem eqvL_strs : ∀ a b : List (List Nat), D.eqvL (a.map D.str) (b.map D.str) = decide (a = b)
  | [], [] => rfl
  | [], _ :: _ => rfl
  | _ :: _, [] => rfl
  | x :: a, y :: b => by
    simp only [List.map_cons, D.eqvL, D.eqv, eqvL_strs a b, List.cons.injEq]
    rw [Bool.eq_iff_iff]; simp
theorem any_octs (w : List Nat) : ((octs.map D.str).any fun y => D.eqv y (.str w)) = decide (w ∈ octs) := by
  rw [List.any_map]
  rw [Bool.eq_iff_iff]
  simp only [List.any_eq_true, Function.comp, D.eqv, beq_iff_eq, decide_eq_true_eq]
  exact ⟨fun ⟨x, h, e⟩ => e ▸ h, fun h => ⟨w, h, rfl⟩⟩
theorem dedI_length (l : List Int) : (dedI l).length ≤ l.length := by
  induction l with
  | nil => simp [dedI]
  | cons x l ih => unfold dedI; split <;> simp <;> omega
theorem fn_good : prog.fns[F__law_good]? = some ⟨1, 3, b__law_good⟩ := rfl
theorem fn_raised : prog.fns[F__law_raised]? = some ⟨1, 3, b__law_raised⟩ := rfl
theorem good_run {t : List Nat} (ho : TxOk t) (N : Nat) (st : Stt) : prog.call 3000 (N + 1) F__law_good [.str t] st = some (.ok (.bl (res t).isSome), st) := by
  rw [call_np fn_good (by decide)]
  have t0 : (cB (eBin opEq (eVar 0) (eC (.str w_none)))) (CX N) [some (.str t), some (.frz ((splitC 32 t).map D.str)), none] st = some (.ok (decide (t = w_none)), st) := cB_run (bin_run (var_run rfl) (y := .str w_none) rfl (none_eq ho st))
  have s0 : b__law_good_0 (CX N) [some (.str t), none, none] st = some (.nx, [some (.str t), some (.frz ((splitC 32 t).map D.str)), none], st) := set_run (split_run ho rfl) (by show 1 < 3; decide)
  by_cases hn : t = w_none
  · have e : res t = some [] := by unfold res; rw [if_pos hn]
    rw [e]
    rw [decide_eq_true hn] at t0
    exact fr_rt rfl rfl ((seq_nx s0).trans (seq_rt (a := b__law_good_1) ((if_t t0).trans (ret_run rfl))))
  rw [decide_eq_false hn] at t0
  have s1 : b__law_good_1 (CX N) [some (.str t), some (.frz ((splitC 32 t).map D.str)), none] st = some (.nx, [some (.str t), some (.frz ((splitC 32 t).map D.str)), none], st) := if_f t0
  have hfew := ho.few
  have hwl := split_len 32 t
  have hlen := ho.len
  have wch : ∀ w ∈ splitC 32 t, ∀ c ∈ w, c < 128 := fun w hw c hc => ho.ch c ((hwl.2 w hw).2 c hc)
  have hne := split_ne 32 t
  have key : (eAnd (eBin opEq (eCompF [2] (gVar 2) (iSeq (eVar 1)) (cB (eBin opNotIn (eVar 2) (eUn bListS (eC (.str w_01234567))))) (eVar 2)) (eLstF lNil)) (eBin opEq (eVar 1) (eUn bSorU (eVar 1)))) (CX N) [some (.str t), some (.frz ((splitC 32 t).map D.str)), none] st = some (.ok (.bl (res t).isSome), st) := by
    generalize hws : splitC 32 t = ws at hfew wch hne s0 s1
    have c1 : (eCompF [2] (gVar 2) (iSeq (eVar 1)) (cB (eBin opNotIn (eVar 2) (eUn bListS (eC (.str w_01234567))))) (eVar 2)) (CX N) [some (.str t), some (.frz (ws.map D.str)), none] st = some (.ok (.frz ((ws.filter fun w => decide (w ∉ octs)).map D.str)), st) := by
      refine compF_mapG (xs := ws) (g := D.str) (fun w => if w ∈ octs then none else some (.str w)) (seq_frz (var_run rfl)) (fun w hw => ?_) (by show _ < 3000; omega) (by rw [lim_eq]; omega) ?_
      · have o1 : D.ok deep (.str w) = true := str_ok' (wch w hw)
        have o2 : D.okL deep (octs.map D.str) = true := by decide +kernel
        have hin : isInT (.str w) (.frz (octs.map D.str)) st = some (.ok (decide (w ∈ octs)), st) := by
          simp only [isInT, o1, o2, Bool.and_self, if_true, any_octs]
        have ht : (cB (eBin opNotIn (eVar 2) (eUn bListS (eC (.str w_01234567))))) (CX N) [some (.str t), some (.frz (ws.map D.str)), some (.str w)] st = some (.ok (!decide (w ∈ octs)), st) := by
          refine cB_run (bin_run (x := .str w) (y := .frz (octs.map D.str)) (var_run rfl) (un_run (x := .str w_01234567) rfl rfl) ?_)
          unfold opNotIn
          rw [bnd_ok hin]; rfl
        by_cases hm : w ∈ octs
        · rw [if_pos hm]
          rw [decide_eq_true hm] at ht
          exact compT_n (by show 2 < 3; decide) ht
        · rw [if_neg hm]
          rw [decide_eq_false hm] at ht
          exact compT_y (st1 := st) (by show 2 < 3; decide) ht (var_run rfl)
      · clear s0 s1 hws hfew wch hne
        induction ws with
        | nil => rfl
        | cons w ws ih =>
          by_cases hm : w ∈ octs
          · simp [hm] at ih ⊢; exact ih
          · simp [hm] at ih ⊢; exact ih
    have fil : (ws.filter fun w => decide (w ∉ octs)).length ≤ ws.length := List.length_filter_le _ _
    have okF : D.ok deep (.frz ((ws.filter fun w => decide (w ∉ octs)).map D.str)) = true := frz_ok (by rw [List.length_map, lim_eq]; omega) (okL_strs fun w hw => wch w (List.mem_filter.mp hw).1)
    have c2 : (eBin opEq (eCompF [2] (gVar 2) (iSeq (eVar 1)) (cB (eBin opNotIn (eVar 2) (eUn bListS (eC (.str w_01234567))))) (eVar 2)) (eLstF lNil)) (CX N) [some (.str t), some (.frz (ws.map D.str)), none] st = some (.ok (.bl (decide ((ws.filter fun w => decide (w ∉ octs)) = []))), st) := by
      refine bin_run c1 (y := .frz []) rfl ?_
      have := eqvL_strs (ws.filter fun w => decide (w ∉ octs)) []
      rw [opEq_ok okF (by decide +kernel), D.eqv, ← this]; rfl
    unfold eAnd
    rw [bnd_ok c2]
    by_cases hall : ∀ w ∈ ws, w ∈ octs
    · have e : (ws.filter fun w => decide (w ∉ octs)) = [] := List.filter_eq_nil_iff.mpr fun w hw => by simp [hall w hw]
      rw [decide_eq_true e]
      obtain ⟨ns, e1, e2, e3⟩ := octs_nums hall
      have el : ws.map D.str = (ns.map (48 + ·)).map fun c => D.str [c] := by rw [e1, List.map_map, List.map_map]; rfl
      have okW : D.ok deep (.frz (ws.map D.str)) = true := frz_ok (by rw [List.length_map, lim_eq]; omega) (okL_strs wch)
      have nl : ns.length = ws.length := by rw [e1, List.length_map]
      obtain ⟨k, ns', hk⟩ : ∃ k ns', ns = k :: ns' := by
        cases ns with
        | nil => exact absurd e1 hne
        | cons k ns' => exact ⟨k, ns', rfl⟩
      have hi : ints? (ws.map D.str) = none := by rw [e1, hk]; rfl
      have so : bSorU (.frz (ws.map D.str)) st = some (.ok (.frz (((srtC (ns.map (48 + ·))).map fun c => [c]).map D.str)), st) := by
        unfold bSorU
        rw [bnd_ok (a := ws.map D.str) (st1 := st) rfl, hi]
        simp only
        rw [bnd_ok (a := ws.map D.str) (st1 := st) rfl, el, ones_map]
        have : (ns.map (48 + ·)).length < 64 := by rw [List.length_map]; omega
        simp only [this, if_true, List.map_map]; rfl
      have sl : (srtC (ns.map (48 + ·))).length ≤ ns.length := by
        unfold srtC
        rw [List.length_map, (sortI_perm' _).length_eq]
        have := dedI_length ((ns.map (48 + ·)).map fun (c : Nat) => (c : Int))
        simpa using this
      have okS : D.ok deep (.frz (((srtC (ns.map (48 + ·))).map fun c => [c]).map D.str)) = true := frz_ok (by rw [List.length_map, List.length_map, lim_eq]; omega) (okL_strs fun w hw c hc => by
        obtain ⟨d, hd, rfl⟩ := List.mem_map.mp hw
        have : c = d := by simpa using hc
        subst this
        obtain ⟨m, hm, rfl⟩ := List.mem_map.mp (srt_mem hd)
        have := e3 m hm
        omega)
      have fin : (eBin opEq (eVar 1) (eUn bSorU (eVar 1))) (CX N) [some (.str t), some (.frz (ws.map D.str)), none] st = some (.ok (.bl (decide (ws = (srtC (ns.map (48 + ·))).map fun c => [c]))), st) := by
        refine bin_run (x := .frz (ws.map D.str)) (var_run rfl) (un_run (x := .frz (ws.map D.str)) (var_run rfl) so) ?_
        rw [opEq_ok okW okS, D.eqv, eqvL_strs]
      simp only
      rw [fin]
      have inj : ws = (srtC (ns.map (48 + ·))).map (fun c => [c]) ↔ Up ns := by
        rw [← srt_up]
        have : ws = (ns.map (48 + ·)).map fun c => [c] := by rw [e1, List.map_map]; rfl
        rw [this]
        exact ⟨fun h => (List.map_inj_right (fun a b h => by simpa using h)).mp h, fun h => by rw [← h]⟩
      by_cases hu : Up ns
      · rw [decide_eq_true (inj.mpr hu), res_good hn (by rw [hws]; exact e1) e3 hu]; rfl
      · rw [decide_eq_false (fun z => hu (inj.mp z))]
        cases hr : res t with
        | none => rfl
        | some ms =>
          obtain ⟨g1, g2, g3⟩ := good_res hn hr
          rw [hws, e1] at g1
          have : ns = ms := (List.map_inj_right (fun a b h => by simp [dg] at h; exact h)).mp g1
          exact absurd (this ▸ g3) hu
    · have e : (ws.filter fun w => decide (w ∉ octs)) ≠ [] := fun z => hall fun w hw => by
        have := List.filter_eq_nil_iff.mp z w hw
        simpa using this
      rw [decide_eq_false e]
      cases hr : res t with
      | none => rfl
      | some ms =>
        obtain ⟨g1, g2, g3⟩ := good_res hn hr
        exact absurd (fun w hw => by
          rw [hws] at g1
          rw [g1] at hw
          obtain ⟨k, hk, rfl⟩ := List.mem_map.mp hw
          exact (mem_octs _).mpr ⟨k, g2 k hk, rfl⟩) hall
  exact fr_rt rfl rfl ((seq_nx s0).trans ((seq_nx s1).trans (ret_run key)))
/-- law_raised -/
def outD (t : List Nat) : D := match res t with
  | some ns => pD ns
  | none => .tup [.str w_error, .int 0]
theorem raised_run {t : List Nat} (ho : TxOk t) (N : Nat) (st : Stt) : prog.call 3000 (N + 3) F__law_raised [.str t] st = some (.ok (outD t), st) := by
  rw [call_np fn_raised (by decide)]
  have h := parse_run ho N st
  have hc : eCall F_parse_copying (lCons (eVar 0) lNil) (CX (N + 2)) [some (.str t), some .non, none] st = prog.call 3000 (N + 2) F_parse_copying [.str t] st := by
    unfold eCall
    rw [bnd_ok (lcons_run (var_run rfl) lnil_run)]
  have s0 : b__law_raised_0 (CX (N + 2)) [some (.str t), none, none] st = some (.nx, [some (.str t), some .non, none], st) := rfl
  have s1 : b__law_raised_1 (CX (N + 2)) [some (.str t), some .non, none] st = some (.nx, [some (.str t), some (outD t), none], st) := by
    unfold b__law_raised_1 sTryAs sSet sBnd
    rw [hc, h]
    unfold outD
    cases res t <;> rfl
  exact fr_rt rfl rfl ((seq_nx s0).trans ((seq_nx s1).trans (ret_run (var_run rfl))))
end MI

set_option autoImplicit false
set_option maxRecDepth 100000
set_option linter.all false
/-! F3: one turn of the law. -/
namespace MI
open PySem
def turnB : SS := (sSeq (sSet 3 (eCall F__law_copying (lCons (eVar 1) (lCons (eC (.int 8)) lNil))))
  (sSeq (sSet 4 (eIf (cB (eBin opNe (eVar 3) (eTup lNil))) (eMt1 isStr mJoin (eC (.str w__32_)) (eCompF [9] (gVar 9) (iSeq (eVar 3)) cYes (eUn bStr (eVar 9)))) (eC (.str w_none))))
  (sSeq (sIf (cOr (cB (eBin opNe (eCall F_format_copying (lCons (eVar 3) lNil)) (eVar 4))) (cB (eBin opNe (eUn bRepr (eCall F_parse_copying (lCons (eVar 4) lNil))) (eUn bRepr (eVar 3)))))
  (sRet (eC (.bl false)))
  sPass)
  (sSeq (sPar 5 6 (lCons (eCall F__law_draw (lCons (eVar 1) (lCons (eBin opAdd (eUn bLen (eVar 4)) (eC (.int 1))) lNil))) (lCons (eBin opIx (eC (.str w__32_0123456789n_45__10__9__43__95_N)) (eCall F__law_draw (lCons (eVar 1) (lCons (eC (.int 18)) lNil)))) lNil)))
  (sSeq (sSet 6 (eIf (cB (eBin opEq (eCall F__law_draw (lCons (eVar 1) (lCons (eC (.int 5)) lNil))) (eC (.int 0)))) (eC (.str w_)) (eVar 6)))
  (sSeq (sSet 4 (eBin opAdd (eBin opAdd (eSlc (eVar 4) oNone (oSome (eVar 5))) (eVar 6)) (eSlc (eVar 4) (oSome (eBin opAdd (eVar 5) (eCall F__law_draw (lCons (eVar 1) (lCons (eC (.int 2)) lNil))))) oNone)))
  (sSeq (sSet 7 (eTup (lCons (eC (.str w_error)) (lCons (eC (.int 0)) lNil))))
  (sSeq (sIf (cB (eCall F__law_good (lCons (eVar 4) lNil)))
  (sSet 7 (eIf (cB (eBin opNe (eVar 4) (eC (.str w_none)))) (eUn bTuple (eCompF [10] (gVar 10) (iSeq (eMt1 isStr mSplit (eVar 4) (eC (.str w__32_)))) cYes (eUn bIntU (eVar 10)))) (eTup lNil)))
  sPass)
  (sIf (cB (eBin opNe (eCall F__law_raised (lCons (eVar 4) lNil)) (eVar 7)))
  (sRet (eC (.bl false)))
  sPass)))))))))
def txt (cy : List Nat) : List Nat := if cy = [] then w_none else joinN [32] (cy.map dg)
theorem okL_dg (m : Nat) (cy : List Nat) : D.okL m (cy.map fun (k : Nat) => D.int (k : Int)) = true := by
  have : (cy.map fun (k : Nat) => D.int (k : Int)) = (cy.map fun (k : Nat) => (k : Int)).map D.int := by rw [List.map_map]; rfl
  rw [this]; exact okL_ints _ _
theorem pD_ok {cy : List Nat} (h : cy.length ≤ 60) : D.ok deep (pD cy) = true := tup_ok (by rw [List.length_map, lim_eq]; omega) (okL_dg _ _)
theorem join_one : ∀ {ws : List (List Nat)}, (∀ w ∈ ws, w.length = 1) → (joinN [32] ws).length ≤ 2 * ws.length
  | [], _ => by simp [joinN]
  | [w], h => by have := h w (by simp); simp [joinN, this]
  | w :: v :: r, h => by
    have h1 := h w (by simp)
    have h2 := join_one (ws := v :: r) fun x hx => h x (by simp [hx])
    simp only [joinN, List.length_append, List.length_cons, List.length_nil] at h2 ⊢
    omega
structure CyOk (cy : List Nat) : Prop where
  len : cy.length ≤ 8
  up : Up cy
  le : ∀ k ∈ cy, k ≤ 7
theorem CyOk.txl {cy : List Nat} (h : CyOk cy) : (txt cy).length ≤ 16 := by
  unfold txt
  split
  · decide
  · have := join_one (ws := cy.map dg) (fun w hw => by obtain ⟨k, _, rfl⟩ := List.mem_map.mp hw; rfl)
    rw [List.length_map] at this
    have := h.len; omega
theorem CyOk.txc {cy : List Nat} (h : CyOk cy) : ∀ c ∈ txt cy, c < 128 := by
  unfold txt
  split
  · decide
  · intro c hc
    rcases joinN_mem hc with rfl | ⟨w, hw, hc⟩
    · decide
    · obtain ⟨k, hk, rfl⟩ := List.mem_map.mp hw
      have := h.le k hk
      have : c = 48 + k := by simpa [dg] using hc
      omega
theorem short_ok {t : List Nat} (hl : t.length ≤ 40) (hc : ∀ c ∈ t, c < 128) : TxOk t := ⟨by omega, hc, by have := (split_len 32 t).1; omega⟩
theorem CyOk.ok {cy : List Nat} (h : CyOk cy) : TxOk (txt cy) := short_ok (by have := h.txl; omega) h.txc
theorem CyOk.res {cy : List Nat} (h : CyOk cy) : MI.res (txt cy) = some cy := by
  by_cases hn : cy = []
  · subst hn; rfl
  have e : txt cy = joinN [32] (cy.map dg) := if_neg hn
  have hs : splitC 32 (txt cy) = cy.map dg := by
    rw [e]
    refine split_join (by simpa using hn) fun w hw => ?_
    obtain ⟨k, hk, rfl⟩ := List.mem_map.mp hw
    simp [dg]; omega
  refine res_good (fun z => ?_) hs h.le h.up
  rw [z] at hs
  have h0 : w_none ∈ cy.map dg := by rw [← hs]; decide
  obtain ⟨k, hk, ek⟩ := List.mem_map.mp h0
  have := congrArg List.length ek
  simp [dg, w_none] at this
theorem smp_cy : ∀ {cy : List Nat}, (∀ k ∈ cy, k ≤ 7) → smpL (cy.map fun (k : Nat) => D.int (k : Int)) = true ∧ D.costL (cy.map fun (k : Nat) => D.int (k : Int)) ≤ 7 * cy.length
  | [], _ => ⟨rfl, by simp [D.costL]⟩
  | k :: cy, h => by
    obtain ⟨h1, h2⟩ := smp_cy (cy := cy) fun x hx => h x (by simp [hx])
    have hk := h k (by simp)
    have lg := lg_dg k (by omega)
    refine ⟨?_, ?_⟩
    · show (smp (.int (k : Int)) && smpL (cy.map fun (k : Nat) => D.int (k : Int))) = true
      rw [smp_i (by omega), h1]; rfl
    · show (k : Int).natAbs.log2 + 2 + 2 + D.costL (cy.map fun (k : Nat) => D.int (k : Int)) ≤ 7 * (cy.length + 1)
      omega
theorem cy_repr {cy : List Nat} (h : CyOk cy) (st : Stt) : bRepr (pD cy) st = some (.ok (.str (reprN (pD cy))), st) ∧ D.ok deep (.str (reprN (pD cy))) = true := by
  obtain ⟨h1, h2⟩ := smp_cy h.le
  have hs : smp (pD cy) = true := h1
  refine ⟨?_, str_ok' (smp_pl _ hs)⟩
  have hr : reprOk (pD cy) = true := by
    have hcost : D.cost (pD cy) ≤ 16777216 := by
      show D.costL _ + 3 ≤ _
      have := h.len; omega
    unfold reprOk
    rw [pD_ok (by have := h.len; omega), smp_shw _ hs, decide_eq_true hcost]; rfl
  have e : dat (pD cy) st = some (pD cy) := rfl
  unfold bRepr
  simp only [e, hr, if_true]
theorem fmt_expr {c : Ctx} {env : Env} {st : Stt} {i v : Nat} {cy : List Nat} (h : CyOk cy) (hi : env[i]? = some (some (pD cy))) (hv : v < env.length) (hc : 100 < c.fuel) :
    (eIf (cB (eBin opNe (eVar i) (eTup lNil))) (eMt1 isStr mJoin (eC (.str w__32_)) (eCompF [v] (gVar v) (iSeq (eVar i)) cYes (eUn bStr (eVar v)))) (eC (.str w_none))) c env st = some (.ok (.str (txt cy)), st) := by
  have hl := h.len
  have t : (cB (eBin opNe (eVar i) (eTup lNil))) c env st = some (.ok (!cy.isEmpty), st) := by
    refine cB_run (bin_run (x := pD cy) (y := .tup []) (var_run hi) rfl ?_)
    rw [opNe_ok (pD_ok (by omega)) (by decide +kernel)]
    have : D.eqv (pD cy) (.tup []) = cy.isEmpty := by unfold pD; rw [D.eqv, eqvL_nil]; cases cy <;> rfl
    rw [this]
  unfold eIf
  rw [bnd_ok t]
  cases hcy : cy with
  | nil => rfl
  | cons k r =>
    rw [if_pos (by rfl)]
    have e : txt (k :: r) = joinN [32] ((k :: r).map dg) := if_neg (by simp)
    rw [e, ← hcy]
    have hs := strs_run (c := c) (env := env) (st := st) (v := v) (l := cy.map fun (k : Nat) => D.int (k : Int)) (e := eVar i) (ws := cy.map dg) (var_run hi) hv (by rw [List.length_map]; omega) hc (fun d hd => by
      obtain ⟨x, hx, rfl⟩ := List.mem_map.mp hd
      exact .inl ⟨x, by have := h.le x hx; omega, rfl⟩) (by
        rw [List.map_map]
        refine List.map_congr_left fun x hx => ?_
        exact strI_dg x (by have := h.le x hx; omega))
    exact joinE hs rfl (by decide) (fun w hw => by obtain ⟨k, _, rfl⟩ := List.mem_map.mp hw; show 1 ≤ 100; decide) (by rw [List.length_map]; omega)
theorem fn_fmt : prog.fns[F_format_copying]? = some ⟨1, 2, b_format_copying⟩ := rfl
theorem fn_copying : prog.fns[F__law_copying]? = some ⟨2, 3, b__law_copying⟩ := rfl
theorem fmt_run {cy : List Nat} (h : CyOk cy) (N : Nat) (st : Stt) : prog.call 3000 (N + 1) F_format_copying [pD cy] st = some (.ok (.str (txt cy)), st) := by
  exact pure_tup fn_fmt (by decide) (by show (D.lf (pD cy) && true) = true; rw [pD_lf]; rfl) rfl (env' := [some (pD cy), none]) (st' := []) (ret_run (fmt_expr h rfl (by show 1 < 2; decide) (by show 100 < 3000; decide))) (fun n z => by cases z) rfl
theorem copying_run {xs : List Int} (hx : xs.length ≤ 63) {st : Stt} (hp : Pen xs st) (N : Nat) :
    ∃ (cy : List Nat) (st' : Stt), prog.call 3000 (N + 3) F__law_copying [.loc 0, .int 8] st = some (.ok (pD cy), st') ∧ CyOk cy ∧ Pen xs st' := by
  rw [call_np fn_copying (by decide)]
  obtain ⟨acc, st2, e2, ws, rfl, hl, hu, hm, h2⟩ := compF_inv (own := [2]) (tg := gVar 2) (it := iRange1 (eVar 1)) (t := (cB (eBin opEq (eCall F__law_draw (lCons (eVar 0) (lCons (eC (.int 2)) lNil))) (eC (.int 0))))) (e := eVar 2) (c := CX (N + 2)) (env := [some (.loc 0), some (.int ((8 : Nat) : Int)), none]) (st := st) (st1 := st) (l := (List.range 8).map fun (k : Nat) => D.int (k : Int))
    (fun i acc st' => ∃ ws : List Nat, acc = (ws.map fun (k : Nat) => D.int (k : Int)) ∧ ws.length ≤ i ∧ Up ws ∧ (∀ k ∈ ws, k < i) ∧ Pen xs st')
    (range1_run (var_run rfl) (by rw [lim_eq]; omega)) ⟨[], rfl, Nat.le_refl _, .nil, by simp, hp⟩ (by rw [List.length_map, List.length_range]; show 8 < 3000; omega) (by rw [List.length_map, List.length_range, lim_eq]; omega) (by
      rintro i y acc st' hd ⟨ws, rfl, hl, hu, hm, h2⟩
      rw [List.getElem?_map] at hd
      obtain ⟨j, hj, rfl⟩ := Option.map_eq_some_iff.mp hd
      have hji : j = i := by
        obtain ⟨h, e⟩ := List.getElem?_eq_some_iff.mp hj
        simpa using e.symm
      subst hji
      obtain ⟨w, a, q, hw, d⟩ := draw_at N hx (many := 2) (by omega) (by omega) h2
      have h3 := pen_set0 h2 a q
      generalize st'.set 0 (penO xs a q) = st3 at d h3
      have tw : (cB (eBin opEq (eCall F__law_draw (lCons (eVar 0) (lCons (eC (.int 2)) lNil))) (eC (.int 0)))) (CX (N + 2)) [some (.loc 0), some (.int ((8 : Nat) : Int)), some (.int (j : Int))] st' = some (.ok ((w : Int) == 0), st3) := cB_run (bin_run (y := .int 0) (call_run (xs := [.loc 0, .int 2]) rfl d) rfl (eqi _ _ _))
      by_cases hw0 : w = 0
      · subst hw0
        refine ⟨some (.int (j : Int)), st3, compT_y (st1 := st3) (by show 2 < 3; decide) tw (var_run rfl), ws ++ [j], by simp, by simp; omega, ?_, fun k hk => ?_, h3⟩
        · exact List.pairwise_append.mpr ⟨hu, by simp, fun a ha b hb => by have : b = j := by simpa using hb
                                                                           subst this; exact hm a ha⟩
        · rcases List.mem_append.mp hk with hk | hk
          · have := hm k hk; omega
          · have : k = j := by simpa using hk
            omega
      · have hwf : ((w : Int) == 0) = false := by simp; omega
        rw [hwf] at tw
        exact ⟨none, st3, compT_n (by show 2 < 3; decide) tw, ws, by simp, by omega, hu, fun k hk => by have := hm k hk; omega, h3⟩)
  rw [List.length_map, List.length_range] at hl hm
  have hb : b__law_copying (CX (N + 2)) [some (.loc 0), some (.int ((8 : Nat) : Int)), none] st = some (.rt (pD ws), [some (.loc 0), some (.int ((8 : Nat) : Int)), none], st2) := by
    unfold b__law_copying b__law_copying_0
    exact ret_run (tuple_frz e2)
  exact ⟨ws, st2, fr_rt rfl rfl hb, ⟨hl, hu, fun k hk => by have := hm k hk; omega⟩, h2⟩
theorem cut_sub {α : Type} (l : List α) (lo hi : Option Int) : (cut l lo hi).length ≤ l.length ∧ ∀ x ∈ cut l lo hi, x ∈ l := by
  unfold cut
  refine ⟨?_, fun x hx => List.mem_of_mem_take (List.mem_of_mem_drop hx)⟩
  simp only [List.length_drop, List.length_take]; omega
theorem sign_get : ∀ m : Fin 18, (w__32_0123456789n_45__10__9__43__95_N[m.val]?.getD 200) < 128 := by decide
theorem sign_run {m : Nat} (hm : m < 18) (st : Stt) : ∃ c, c < 128 ∧ opIx (.str w__32_0123456789n_45__10__9__43__95_N) (.int (m : Int)) st = some (.ok (.str [c]), st) := by
  have h := sign_get ⟨m, hm⟩
  have hk : m < w__32_0123456789n_45__10__9__43__95_N.length := hm
  cases hg : w__32_0123456789n_45__10__9__43__95_N[m]? with
  | none => rw [List.getElem?_eq_none_iff] at hg; omega
  | some c =>
    simp only [hg, Option.getD_some] at h
    refine ⟨c, h, ?_⟩
    have h18 : w__32_0123456789n_45__10__9__43__95_N.length < lim := by decide
    simp only [opIx, ixN_ofNat hk, Option.bind_some, hg, h18, if_true]
theorem slc_hi {c : Ctx} {env : Env} {st st1 : Stt} {i p : Nat} {e : SE} {t : List Nat} (hi : env[i]? = some (some (.str t))) (he : e c env st = some (.ok (.int (p : Int)), st1)) (hp : p < 1000) (ht : t.length < lim) : eSlc (eVar i) oNone (oSome e) c env st = some (.ok (.str (cut t none (some (p : Int)))), st1) := by
  have h2 : oSome e c env st = some (.ok (some (p : Int)), st1) := by
    unfold oSome
    rw [bnd_ok he]
    have : -(lim : Int) < (p : Int) ∧ (p : Int) < (lim : Int) := by rw [lim_eq]; omega
    simp only [this, and_self, if_true]; rfl
  unfold eSlc
  rw [bnd_ok (var_run hi), bnd_ok (x := oNone c env) (a := none) (st1 := st) rfl, bnd_ok h2]
  simp only [opSlc, ht, if_true]
theorem slc_lo {c : Ctx} {env : Env} {st st1 : Stt} {i p : Nat} {e : SE} {t : List Nat} (hi : env[i]? = some (some (.str t))) (he : e c env st = some (.ok (.int (p : Int)), st1)) (hp : p < 1000) (ht : t.length < lim) : eSlc (eVar i) (oSome e) oNone c env st = some (.ok (.str (cut t (some (p : Int)) none)), st1) := by
  have h2 : oSome e c env st = some (.ok (some (p : Int)), st1) := by
    unfold oSome
    rw [bnd_ok he]
    have : -(lim : Int) < (p : Int) ∧ (p : Int) < (lim : Int) := by rw [lim_eq]; omega
    simp only [this, and_self, if_true]; rfl
  unfold eSlc
  rw [bnd_ok (var_run hi), bnd_ok h2, bnd_ok (x := oNone c env) (a := none) (st1 := st1) rfl]
  simp only [opSlc, ht, if_true]
theorem ne_same {a b : SE} {c : Ctx} {env : Env} {st st1 : Stt} {d : D} (ha : a c env st = some (.ok d, st1)) (hb : b c env st1 = some (.ok d, st1)) (ho : D.ok deep d = true) : (cB (eBin opNe a b)) c env st = some (.ok false, st1) :=
  cB_run (bin_run ha hb (ne_self ho st1))
end MI

set_option autoImplicit false
set_option maxRecDepth 100000
set_option linter.all false
/-! F4: the law. -/
namespace MI
open PySem
abbrev N0 : Nat := 100
section
variable {xs : List Int} {S : D} {st : Stt}
abbrev eT (S : D) (x2 x3 x4 x5 x6 x7 x8 x9 x10 : Option D) : Env := [some S, some (.loc 0), x2, x3, x4, x5, x6, x7, x8, x9, x10]
theorem out_ok (t : List Nat) (h : ∀ ns, res t = some ns → ns.length ≤ 60) : D.ok deep (outD t) = true := by
  unfold outD
  cases hr : res t with
  | none => decide +kernel
  | some ns => exact pD_ok (h ns hr)
theorem res_len {t ns : List Nat} (ho : TxOk t) (h : res t = some ns) : ns.length ≤ 60 := by
  by_cases hn : t = w_none
  · have : res t = some [] := by unfold res; rw [if_pos hn]
    rw [this] at h; cases h; simp
  · obtain ⟨e, _⟩ := good_res hn h
    have := ho.few
    rw [e, List.length_map] at this
    exact this
theorem intU_run {k : Nat} (h : k ≤ 7) (st : Stt) : bIntU (.str (dg k)) st = some (.ok (.int (k : Int)), st) := by
  have h1 : 48 ≤ 48 + k ∧ 48 + k ≤ 57 := by omega
  show (if 48 ≤ 48 + k ∧ 48 + k ≤ 57 then some (Rs.ok (D.int ((48 + k - 48 : Nat) : Int)), st) else none) = _
  rw [if_pos h1]
  have : 48 + k - 48 = k := by omega
  rw [this]
/-- what is due for a good text -/
theorem due_run {c : Ctx} {env : Env} {st : Stt} {t ns : List Nat} (ho : TxOk t) (hi : env[4]? = some (some (.str t))) (hv : 10 < env.length) (hc : 100 < c.fuel) (hr : res t = some ns) :
    (eIf (cB (eBin opNe (eVar 4) (eC (.str w_none)))) (eUn bTuple (eCompF [10] (gVar 10) (iSeq (eMt1 isStr mSplit (eVar 4) (eC (.str w__32_)))) cYes (eUn bIntU (eVar 10)))) (eTup lNil)) c env st = some (.ok (pD ns), st) := by
  have t0 : (cB (eBin opNe (eVar 4) (eC (.str w_none)))) c env st = some (.ok (!decide (t = w_none)), st) := by
    refine cB_run (bin_run (var_run hi) (y := .str w_none) rfl ?_)
    rw [opNe_ok (ho.ok _) (by decide +kernel), D.eqv]
    have : (t == w_none) = decide (t = w_none) := by rw [Bool.eq_iff_iff]; simp
    rw [this]
  unfold eIf
  rw [bnd_ok t0]
  by_cases hn : t = w_none
  · rw [decide_eq_true hn]
    have : res t = some [] := by unfold res; rw [if_pos hn]
    rw [this] at hr; cases hr; rfl
  · rw [decide_eq_false hn]
    obtain ⟨e, h7, _⟩ := good_res hn hr
    have hs := split_run (c := c) (st := st) ho hi
    rw [e, List.map_map] at hs
    have hfew := ho.few
    rw [e, List.length_map] at hfew
    refine tuple_frz ?_
    exact compF_mapG (xs := ns) (g := D.str ∘ dg) (fun k => some (.int (k : Int))) (seq_frz hs) (fun k hk => by
      have hw : 10 < (wipeE env [10]).length := by simp [wipeE, hv]
      exact compT_y (st1 := st) hw rfl (un_run (x := .str (dg k)) (var_run (by rw [List.getElem?_set_self hw]; rfl)) (intU_run (h7 k hk) st))) (by omega) (by rw [lim_eq]; omega) (by simp [List.filterMap_eq_map, Function.comp_def])
theorem turn_run (hx : xs.length ≤ 63) {x2 x3 x4 x5 x6 x7 x8 x9 x10 : Option D} (hp : Pen xs st) : ∃ y3 y4 y5 y6 y7 st', turnB (CX N0) (eT S x2 x3 x4 x5 x6 x7 x8 x9 x10) st = some (.nx, eT S x2 y3 y4 y5 y6 y7 x8 x9 x10, st') ∧ Pen xs st' := by
  obtain ⟨cy, st1, e1, ok, p1⟩ := copying_run hx hp 97
  have s1 : (sSet 3 (eCall F__law_copying (lCons (eVar 1) (lCons (eC (.int 8)) lNil)))) (CX N0) (eT S x2 x3 x4 x5 x6 x7 x8 x9 x10) st = some (.nx, eT S x2 (some (pD cy)) x4 x5 x6 x7 x8 x9 x10, st1) :=
    set_run (call_run (xs := [.loc 0, .int 8]) rfl e1) (by show 3 < 11; decide)
  have s2 := set_run (fmt_expr (c := CX N0) (env := eT S x2 (some (pD cy)) x4 x5 x6 x7 x8 x9 x10) (st := st1) (i := 3) (v := 9) ok rfl (by show 9 < 11; decide) (by show 100 < 3000; decide)) (i := 4) (by show 4 < 11; decide)
  have tok := ok.ok
  have txl := ok.txl
  have rp := cy_repr ok
  have fr := fmt_run ok 99 st1
  have pr := parse_run tok 98 st1
  rw [ok.res] at pr
  have t1 : (cB (eBin opNe (eCall F_format_copying (lCons (eVar 3) lNil)) (eVar 4))) (CX N0) (eT S x2 (some (pD cy)) (some (.str (txt cy))) x5 x6 x7 x8 x9 x10) st1 = some (.ok false, st1) :=
    ne_same (call_run (xs := [pD cy]) rfl fr) (var_run rfl) (tok.ok _)
  have t2 : (cB (eBin opNe (eUn bRepr (eCall F_parse_copying (lCons (eVar 4) lNil))) (eUn bRepr (eVar 3)))) (CX N0) (eT S x2 (some (pD cy)) (some (.str (txt cy))) x5 x6 x7 x8 x9 x10) st1 = some (.ok false, st1) :=
    ne_same (un_run (x := pD cy) (call_run (xs := [.str (txt cy)]) rfl pr) (rp st1).1) (un_run (x := pD cy) (var_run rfl) (rp st1).1) (rp st1).2
  have s3 : (sIf (cOr (cB (eBin opNe (eCall F_format_copying (lCons (eVar 3) lNil)) (eVar 4))) (cB (eBin opNe (eUn bRepr (eCall F_parse_copying (lCons (eVar 4) lNil))) (eUn bRepr (eVar 3))))) (sRet (eC (.bl false))) sPass) (CX N0) (eT S x2 (some (pD cy)) (some (.str (txt cy))) x5 x6 x7 x8 x9 x10) st1 = some (.nx, eT S x2 (some (pD cy)) (some (.str (txt cy))) x5 x6 x7 x8 x9 x10, st1) := if_f ((or_f2 t1).trans t2)
  have tch := ok.txc
  generalize txt cy = t at s2 s3 txl tch tok t1 t2 fr pr
  obtain ⟨p, a1, q1, hpl, d1⟩ := draw_at 98 hx (many := t.length + 1) (by omega) (by omega) p1
  have p2 := pen_set0 p1 a1 q1
  generalize (st1.set 0 (penO xs a1 q1)) = st2 at p2 d1
  obtain ⟨m2, a2, q2, hm2, d2⟩ := draw_at 98 hx (many := 18) (by omega) (by omega) p2
  have p3 := pen_set0 p2 a2 q2
  generalize (st2.set 0 (penO xs a2 q2)) = st3 at p3 d2
  obtain ⟨c, hc, es⟩ := sign_run hm2 st3
  have s4 : (sPar 5 6 (lCons (eCall F__law_draw (lCons (eVar 1) (lCons (eBin opAdd (eUn bLen (eVar 4)) (eC (.int 1))) lNil))) (lCons (eBin opIx (eC (.str w__32_0123456789n_45__10__9__43__95_N)) (eCall F__law_draw (lCons (eVar 1) (lCons (eC (.int 18)) lNil)))) lNil))) (CX N0) (eT S x2 (some (pD cy)) (some (.str t)) x5 x6 x7 x8 x9 x10) st1 = some (.nx, eT S x2 (some (pD cy)) (some (.str t)) (some (.int (p : Int))) (some (.str [c])) x7 x8 x9 x10, st3) := by
    have hl : (eUn bLen (eVar 4)) (CX N0) (eT S x2 (some (pD cy)) (some (.str t)) x5 x6 x7 x8 x9 x10) st1 = some (.ok (.int (t.length : Int)), st1) := by
      refine un_run (x := .str t) (var_run rfl) ?_
      have : t.length < lim := by rw [lim_eq]; omega
      simp only [bLen, this, if_true]
    have ha : (eBin opAdd (eUn bLen (eVar 4)) (eC (.int 1))) (CX N0) (eT S x2 (some (pD cy)) (some (.str t)) x5 x6 x7 x8 x9 x10) st1 = some (.ok (.int ((t.length + 1 : Nat) : Int)), st1) := bin_run hl (y := .int 1) rfl rfl
    have k1 : (eCall F__law_draw (lCons (eVar 1) (lCons (eBin opAdd (eUn bLen (eVar 4)) (eC (.int 1))) lNil))) (CX N0) (eT S x2 (some (pD cy)) (some (.str t)) x5 x6 x7 x8 x9 x10) st1 = some (.ok (.int (p : Int)), st2) := call_run (lcons_run (x := .loc 0) rfl (lcons_run ha lnil_run)) d1
    have k2 : (eBin opIx (eC (.str w__32_0123456789n_45__10__9__43__95_N)) (eCall F__law_draw (lCons (eVar 1) (lCons (eC (.int 18)) lNil)))) (CX N0) (eT S x2 (some (pD cy)) (some (.str t)) x5 x6 x7 x8 x9 x10) st2 = some (.ok (.str [c]), st3) := bin_run (x := .str w__32_0123456789n_45__10__9__43__95_N) rfl (call_run (xs := [.loc 0, .int 18]) rfl d2) es
    unfold sPar sBnd
    rw [lcons_run k1 (lcons_run k2 lnil_run)]; rfl
  obtain ⟨m3, a3, q3, hm3, d3⟩ := draw_at 98 hx (many := 5) (by omega) (by omega) p3
  have p4 := pen_set0 p3 a3 q3
  generalize (st3.set 0 (penO xs a3 q3)) = st4 at p4 d3
  obtain ⟨u, hu, hul, s5⟩ : ∃ u : List Nat, (∀ x ∈ u, x < 128) ∧ u.length ≤ 1 ∧ (sSet 6 (eIf (cB (eBin opEq (eCall F__law_draw (lCons (eVar 1) (lCons (eC (.int 5)) lNil))) (eC (.int 0)))) (eC (.str w_)) (eVar 6))) (CX N0) (eT S x2 (some (pD cy)) (some (.str t)) (some (.int (p : Int))) (some (.str [c])) x7 x8 x9 x10) st3 = some (.nx, eT S x2 (some (pD cy)) (some (.str t)) (some (.int (p : Int))) (some (.str u)) x7 x8 x9 x10, st4) := by
    have tw : (cB (eBin opEq (eCall F__law_draw (lCons (eVar 1) (lCons (eC (.int 5)) lNil))) (eC (.int 0)))) (CX N0) (eT S x2 (some (pD cy)) (some (.str t)) (some (.int (p : Int))) (some (.str [c])) x7 x8 x9 x10) st3 = some (.ok ((m3 : Int) == 0), st4) := cB_run (bin_run (y := .int 0) (call_run (xs := [.loc 0, .int 5]) rfl d3) rfl (eqi _ _ _))
    cases hb : ((m3 : Int) == 0) with
    | true =>
      rw [hb] at tw
      exact ⟨[], by simp, by simp, set_run (x := .str []) (by unfold eIf; rw [bnd_ok tw]; rfl) (by show 6 < 11; decide)⟩
    | false =>
      rw [hb] at tw
      exact ⟨[c], by simpa using hc, by simp, set_run (x := .str [c]) (by unfold eIf; rw [bnd_ok tw]; rfl) (by show 6 < 11; decide)⟩
  obtain ⟨m5, a5, q5, hm5, d5⟩ := draw_at 98 hx (many := 2) (by omega) (by omega) p4
  have p5 := pen_set0 p4 a5 q5
  generalize (st4.set 0 (penO xs a5 q5)) = st5 at p5 d5
  have htl : t.length < lim := by rw [lim_eq]; omega
  have c1 := cut_sub t none (some (p : Int))
  have c2 := cut_sub t (some ((p + m5 : Nat) : Int)) none
  have s6 : (sSet 4 (eBin opAdd (eBin opAdd (eSlc (eVar 4) oNone (oSome (eVar 5))) (eVar 6)) (eSlc (eVar 4) (oSome (eBin opAdd (eVar 5) (eCall F__law_draw (lCons (eVar 1) (lCons (eC (.int 2)) lNil))))) oNone))) (CX N0) (eT S x2 (some (pD cy)) (some (.str t)) (some (.int (p : Int))) (some (.str u)) x7 x8 x9 x10) st4 = some (.nx, eT S x2 (some (pD cy)) (some (.str ((cut t none (some (p : Int)) ++ u) ++ cut t (some ((p + m5 : Nat) : Int)) none))) (some (.int (p : Int))) (some (.str u)) x7 x8 x9 x10, st5) := by
    refine set_run (bin_run (bin_run (slc_hi rfl (var_run rfl) (by omega) htl) (var_run (x := .str u) rfl) (sadd_run _ (by rw [lim_eq]; omega))) (slc_lo (i := 4) (t := t) (p := p + m5) rfl (bin_run (x := .int (p : Int)) (y := .int (m5 : Int)) (var_run rfl) (call_run (xs := [.loc 0, .int 2]) rfl d5) rfl) (by omega) htl) (sadd_run _ (by rw [List.length_append, lim_eq]; omega))) (by show 4 < 11; decide)
  have tok2 : TxOk ((cut t none (some (p : Int)) ++ u) ++ cut t (some ((p + m5 : Nat) : Int)) none) := short_ok (by rw [List.length_append, List.length_append]; omega) (fun x hx => by
    rcases List.mem_append.mp hx with hx | hx
    · rcases List.mem_append.mp hx with hx | hx
      · exact tch x (c1.2 x hx)
      · exact hu x hx
    · exact tch x (c2.2 x hx))
  generalize ((cut t none (some (p : Int)) ++ u) ++ cut t (some ((p + m5 : Nat) : Int)) none) = v at s6 tok2
  have s7 : (sSet 7 (eTup (lCons (eC (.str w_error)) (lCons (eC (.int 0)) lNil)))) (CX N0) (eT S x2 (some (pD cy)) (some (.str v)) (some (.int (p : Int))) (some (.str u)) x7 x8 x9 x10) st5 = some (.nx, eT S x2 (some (pD cy)) (some (.str v)) (some (.int (p : Int))) (some (.str u)) (some (.tup [.str w_error, .int 0])) x8 x9 x10, st5) := rfl
  have gr := good_run tok2 99 st5
  have tg : (cB (eCall F__law_good (lCons (eVar 4) lNil))) (CX N0) (eT S x2 (some (pD cy)) (some (.str v)) (some (.int (p : Int))) (some (.str u)) (some (.tup [.str w_error, .int 0])) x8 x9 x10) st5 = some (.ok (res v).isSome, st5) := cB_run (call_run (xs := [.str v]) rfl gr)
  have s8 : (sIf (cB (eCall F__law_good (lCons (eVar 4) lNil))) (sSet 7 (eIf (cB (eBin opNe (eVar 4) (eC (.str w_none)))) (eUn bTuple (eCompF [10] (gVar 10) (iSeq (eMt1 isStr mSplit (eVar 4) (eC (.str w__32_)))) cYes (eUn bIntU (eVar 10)))) (eTup lNil))) sPass) (CX N0) (eT S x2 (some (pD cy)) (some (.str v)) (some (.int (p : Int))) (some (.str u)) (some (.tup [.str w_error, .int 0])) x8 x9 x10) st5 = some (.nx, eT S x2 (some (pD cy)) (some (.str v)) (some (.int (p : Int))) (some (.str u)) (some (outD v)) x8 x9 x10, st5) := by
    cases hr : res v with
    | none =>
      rw [hr] at tg
      have : outD v = .tup [.str w_error, .int 0] := by unfold outD; rw [hr]
      rw [this]
      exact if_f tg
    | some ns =>
      rw [hr] at tg
      have : outD v = pD ns := by unfold outD; rw [hr]
      rw [this]
      exact (if_t tg).trans (set_run (due_run tok2 rfl (by show 10 < 11; decide) (by show 100 < 3000; decide) hr) (by show 7 < 11; decide))
  have rr := raised_run tok2 97 st5
  have t9 : (cB (eBin opNe (eCall F__law_raised (lCons (eVar 4) lNil)) (eVar 7))) (CX N0) (eT S x2 (some (pD cy)) (some (.str v)) (some (.int (p : Int))) (some (.str u)) (some (outD v)) x8 x9 x10) st5 = some (.ok false, st5) :=
    ne_same (call_run (xs := [.str v]) rfl rr) (var_run rfl) (out_ok v fun ns h => res_len tok2 h)
  exact ⟨_, _, _, _, _, st5, (seq_nx s1).trans ((seq_nx s2).trans ((seq_nx s3).trans ((seq_nx s4).trans ((seq_nx s5).trans ((seq_nx s6).trans ((seq_nx s7).trans ((seq_nx s8).trans ((if_f t9).trans rfl)))))))), p5⟩
end
def odds : List (List Nat) := [w_, w__32_, w_8, w_0_32_0, w_1_32_0, w_00, w_0_32__32_1, w_0_32_, w_none_32_, w_None, w_0_10_, w__45_1, w__43_1, List.replicate 4400 49, w_0_32_none]
theorem odd_ok : ∀ t ∈ odds, TxOk t ∧ res t = none := by
  have small : ∀ t, t.length ≤ 40 → (∀ c ∈ t, c < 128) → res t = none → TxOk t ∧ res t = none := fun t h1 h2 h3 => ⟨short_ok h1 h2, h3⟩
  have big : TxOk (List.replicate 4400 49) ∧ res (List.replicate 4400 49) = none := by
    have h32 : 32 ∉ List.replicate 4400 49 := fun z => by have := List.eq_of_mem_replicate z; omega
    have hl : (List.replicate 4400 49).length = 4400 := List.length_replicate
    have hs : splitC 32 (List.replicate 4400 49) = [List.replicate 4400 49] := split_one h32
    refine ⟨⟨by rw [hl]; omega, fun c hc => by have := List.eq_of_mem_replicate hc; omega, by rw [hs]; simp⟩, ?_⟩
    generalize List.replicate 4400 49 = t at hs hl
    unfold res
    have hn : t ≠ w_none := fun z => by rw [z] at hl; exact absurd hl (by decide)
    have hd : isDg t = none := by
      unfold isDg
      split
      · rename_i c
        simp at hl
      · rfl
    rw [if_neg hn, hs]
    unfold nums
    rw [hd]
  intro t ht
  simp only [odds, List.mem_cons, List.not_mem_nil, or_false] at ht
  rcases ht with rfl | rfl | rfl | rfl | rfl | rfl | rfl | rfl | rfl | rfl | rfl | rfl | rfl | rfl | rfl
  all_goals first
    | exact big
    | exact small _ (by decide) (by decide) (by decide +kernel)
theorem pen_at (xs : List Int) (hx : xs.length ≤ 63) : prog.call 3000 100 F__law_pen [.frz (xs.map D.int)] [] = some (.ok (.loc 0), [penO xs 0 0]) := by
  rw [call_np (n := 99) fn_pen (by decide)]
  exact run_rt rfl (by rw [eq_pen]; exact pen_run _ xs hx)
theorem mulS_run (st : Stt) : opMulS (.str w_1) (.int 4400) st = some (.ok (.str (List.replicate 4400 49)), st) := by
  have h : w_1.length = 1 ∧ (1 : Int) < 4400 ∧ (4400 : Int) < 1000000 := by decide
  have e : (List.replicate 4400 [49]).flatten = List.replicate 4400 49 := by
    have : ∀ n, (List.replicate n [49]).flatten = List.replicate n 49 := fun n => by
      induction n with
      | zero => rfl
      | succ n ih => rw [List.replicate_succ, List.flatten_cons, ih]; rfl
    exact this 4400
  unfold opMulS
  show (if w_1.length = 1 ∧ (1 : Int) < 4400 ∧ (4400 : Int) < 1000000 then some (Rs.ok (D.str (List.replicate 4400 [49]).flatten), st) else none) = _
  rw [if_pos h, e]
theorem pure79 (ns : List Int) (hl : ns.length ≤ 63) : ∃ st, (⟨1, 11, b_law⟩ : Fn).run (CX 100) [.frz (ns.map D.int)] [] = some (.ok (.bl true), st) := by
  have a0 : b_law_0 (CX N0) [some (.frz (ns.map D.int)), none, none, none, none, none, none, none, none, none, none] [] = some (.nx, eT (.frz (ns.map D.int)) none none none none none none none none none, [penO ns 0 0]) :=
    set_run (call_run (xs := [.frz (ns.map D.int)]) rfl (pen_at ns hl)) (by show 1 < 11; decide)
  generalize D.frz (ns.map D.int) = S at a0
  obtain ⟨env', st1, e1, x2, x3, x4, x5, x6, x7, rfl, hp⟩ := for_inv (g := gVar 2) (b := turnB) (c := CX N0) (fun i env st' => ∃ x2 x3 x4 x5 x6 x7, env = eT S x2 x3 x4 x5 x6 x7 none none none ∧ Pen ns st') (range1_run (a := eC (.int 10)) (n := 10) (st := [penO ns 0 0]) (env := eT S none none none none none none none none none) rfl (by decide)) ⟨_, _, _, _, _, _, rfl, ⟨0, 0, rfl⟩⟩ (by rw [List.length_map, List.length_range]; show 10 < 3000; omega) (by
    rintro i d env st' hd ⟨x2, x3, x4, x5, x6, x7, rfl, hp⟩
    obtain ⟨y3, y4, y5, y6, y7, st4, e4, h4⟩ := turn_run (S := S) (x2 := some d) (x3 := x3) (x4 := x4) (x5 := x5) (x6 := x6) (x7 := x7) (x8 := none) (x9 := none) (x10 := none) hl hp
    exact ⟨_, st4, turn_var (by show 2 < 11; decide) e4, some d, y3, y4, y5, y6, y7, rfl, h4⟩)
  have e1' : b_law_1 (CX N0) (eT S none none none none none none none none none) [penO ns 0 0] = some (.nx, eT S x2 x3 x4 x5 x6 x7 none none none, st1) := e1
  have s2 : b_law_2 (CX N0) (eT S x2 x3 x4 x5 x6 x7 none none none) st1 = some (.nx, eT S x2 x3 x4 x5 x6 x7 (some (.frz (odds.map D.str))) none none, st1) := by
    refine set_run ?_ (by show 8 < 11; decide)
    have h14 : (eBin opMulS (eC (.str w_1)) (eC (.int 4400))) (CX N0) (eT S x2 x3 x4 x5 x6 x7 none none none) st1 = some (.ok (.str (List.replicate 4400 49)), st1) := bin_run (x := .str w_1) rfl (y := .int 4400) rfl (mulS_run st1)
    have hls := lcons_run (x := .str w_) (a := eC (.str w_)) (c := CX N0) (env := eT S x2 x3 x4 x5 x6 x7 none none none) (st := st1) rfl (lcons_run (x := .str w__32_) (a := eC (.str w__32_)) rfl (lcons_run (x := .str w_8) (a := eC (.str w_8)) rfl (lcons_run (x := .str w_0_32_0) (a := eC (.str w_0_32_0)) rfl (lcons_run (x := .str w_1_32_0) (a := eC (.str w_1_32_0)) rfl (lcons_run (x := .str w_00) (a := eC (.str w_00)) rfl (lcons_run (x := .str w_0_32__32_1) (a := eC (.str w_0_32__32_1)) rfl (lcons_run (x := .str w_0_32_) (a := eC (.str w_0_32_)) rfl (lcons_run (x := .str w_none_32_) (a := eC (.str w_none_32_)) rfl (lcons_run (x := .str w_None) (a := eC (.str w_None)) rfl (lcons_run (x := .str w_0_10_) (a := eC (.str w_0_10_)) rfl (lcons_run (x := .str w__45_1) (a := eC (.str w__45_1)) rfl (lcons_run (x := .str w__43_1) (a := eC (.str w__43_1)) rfl (lcons_run h14 (lcons_run (x := .str w_0_32_none) (a := eC (.str w_0_32_none)) rfl lnil_run))))))))))))))
    unfold eLstF
    rw [bnd_ok hls]
    rfl
  have c3 : (eCompF [4] (gVar 4) (iSeq (eVar 8)) cYes (eCall F__law_raised (lCons (eVar 4) lNil))) (CX N0) (eT S x2 x3 x4 x5 x6 x7 (some (.frz (odds.map D.str))) none none) st1 = some (.ok (.frz (List.replicate 15 (.tup [.str w_error, .int 0]))), st1) := by
    refine compF_mapG (xs := odds) (g := D.str) (fun _ => some (.tup [.str w_error, .int 0])) (seq_frz (var_run rfl)) (fun t ht => ?_) (by show 15 < 3000; decide) (by show 15 < lim - 1; decide) rfl
    obtain ⟨h1, h2⟩ := odd_ok t ht
    have rr := raised_run h1 97 st1
    have : outD t = .tup [.str w_error, .int 0] := by unfold outD; rw [h2]
    rw [this] at rr
    exact compT_y (st1 := st1) (by show 4 < 11; decide) rfl (call_run (xs := [.str t]) rfl rr)
  have c4 : (eBin opMul (eLst (lCons (eTup (lCons (eC (.str w_error)) (lCons (eC (.int 0)) lNil))) lNil)) (eC (.int 15))) (CX N0) (eT S x2 x3 x4 x5 x6 x7 (some (.frz (odds.map D.str))) none none) st1 = some (.ok (.loc (st1.length + 1)), (st1 ++ [.lst [.tup [.str w_error, .int 0]]]) ++ [.lst (List.replicate 15 (.tup [.str w_error, .int 0]))]) := by
    have k1 := lst_new (c := CX N0) (env := eT S x2 x3 x4 x5 x6 x7 (some (.frz (odds.map D.str))) none none) (st := st1) (st1 := st1) (l := lCons (eTup (lCons (eC (.str w_error)) (lCons (eC (.int 0)) lNil))) lNil) (xs := [.tup [.str w_error, .int 0]]) rfl (by show 1 < lim; decide)
    refine bin_run k1 (y := .int 15) rfl ?_
    have g : (st1 ++ [Ob.lst [.tup [.str w_error, .int 0]]])[st1.length]? = some (.lst [.tup [.str w_error, .int 0]]) := by simp
    simp only [opMul, g]
    rw [if_pos (by decide)]
    show some (Rs.ok (D.loc (st1 ++ [Ob.lst [.tup [.str w_error, .int 0]]]).length), _) = _
    rw [List.length_append]; rfl
  have c5 : (eBin opEq (eCompF [4] (gVar 4) (iSeq (eVar 8)) cYes (eCall F__law_raised (lCons (eVar 4) lNil))) (eBin opMul (eLst (lCons (eTup (lCons (eC (.str w_error)) (lCons (eC (.int 0)) lNil))) lNil)) (eC (.int 15)))) (CX N0) (eT S x2 x3 x4 x5 x6 x7 (some (.frz (odds.map D.str))) none none) st1 = some (.ok (.bl true), (st1 ++ [.lst [.tup [.str w_error, .int 0]]]) ++ [.lst (List.replicate 15 (.tup [.str w_error, .int 0]))]) := by
    refine bin_run c3 c4 ?_
    have g : ((st1 ++ [Ob.lst [.tup [.str w_error, .int 0]]]) ++ [Ob.lst (List.replicate 15 (.tup [.str w_error, .int 0]))])[st1.length + 1]? = some (.lst (List.replicate 15 (.tup [.str w_error, .int 0]))) := by
      rw [List.getElem?_append_right (by simp)]; simp
    generalize ((st1 ++ [Ob.lst [.tup [.str w_error, .int 0]]]) ++ [Ob.lst (List.replicate 15 (.tup [.str w_error, .int 0]))]) = s at g
    have ok : D.ok deep (.frz (List.replicate 15 (.tup [.str w_error, .int 0]))) = true := by decide +kernel
    have ev : D.eqv (.frz (List.replicate 15 (.tup [.str w_error, .int 0]))) (.frz (List.replicate 15 (.tup [.str w_error, .int 0]))) = true := eqv_refl _ _ ok
    unfold opEq
    have : eqD (.frz (List.replicate 15 (.tup [.str w_error, .int 0]))) (.loc (st1.length + 1)) s = some (.ok true, s) := by
      unfold eqD
      have d1 : dat (.frz (List.replicate 15 (.tup [.str w_error, .int 0]))) s = some (.frz (List.replicate 15 (.tup [.str w_error, .int 0]))) := rfl
      have d2 : dat (.loc (st1.length + 1)) s = some (.frz (List.replicate 15 (.tup [.str w_error, .int 0]))) := by simp only [dat, g]
      rw [d1, d2]
      simp only [ok, ev, Bool.and_self, if_true]
    rw [bnd_ok this]; rfl
  exact ⟨_, fr_rt rfl rfl ((seq_nx a0).trans ((seq_nx e1').trans ((seq_nx s2).trans (ret_run c5))))⟩
end MI

theorem PySem.Challenge.cw_copyplaces_k79_copyings_written_and_read_holds : PySem.Challenge.rw_copyplaces_k79_copyings_written_and_read.Holds := by
  exact Dv.law_holds fun ns hl => MI.pure79 ns hl
