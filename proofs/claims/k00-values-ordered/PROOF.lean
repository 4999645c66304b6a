import PyProof.Rows.All
import Wide.All
import OpenK.AllK
import Wide.FinOn
import HandS.ForMost
import KE.KDictKeyed
import KE.SortData
import HandS.TupLe
import HandS.TupAny
import HandS.TupMul
import HandS.Style
import HandS.Deep
import HandS.IsInst
import HandS.Conv
import HandS.More
import HandS.NoneIn
import HandS.Words
import HandS.Codes
import HandS.Ends
import PySem.Challenge.RW_factsay_k00_values_ordered
set_option Elab.async false
set_option linter.all false
set_option maxRecDepth 100000
/-! MP: a small language of values, a store of objects, expressions, statements; its evaluator. -/
namespace MP
open PySem (Str PyData)

inductive D where
  | non | bl (b : Bool) | int (i : Int) | str (s : Str)
  | tup (ds : List D)
  | cl (ds : List D)
  | ref (n : Nat)
  | fn (f : Nat)
  | kls (c : Nat)
  | lam (l : Nat) (cap : List D)
  deriving Inhabited

namespace D
mutual
def beq : D → D → Bool
  | .non, .non => true
  | .bl a, .bl b => a == b
  | .int a, .int b => a == b
  | .str a, .str b => decide (a = b)
  | .tup a, .tup b => beqL a b
  | .cl a, .cl b => beqL a b
  | .ref a, .ref b => a == b
  | .fn a, .fn b => a == b
  | .kls a, .kls b => a == b
  | .lam a c, .lam b d => a == b && beqL c d
  | _, _ => false
def beqL : List D → List D → Bool
  | [], [] => true
  | a :: as, b :: bs => beq a b && beqL as bs
  | _, _ => false
end
mutual
theorem eq_of_beq : ∀ a b : D, beq a b = true → a = b
  | .non, b, h => by cases b <;> simp [beq] at h ⊢
  | .bl a, b, h => by cases b <;> simp [beq] at h ⊢; exact h
  | .int a, b, h => by cases b <;> simp [beq] at h ⊢; exact h
  | .str a, b, h => by cases b <;> simp [beq] at h ⊢; exact h
  | .tup a, b, h => by cases b <;> simp [beq] at h ⊢; exact eq_of_beqL _ _ h
  | .cl a, b, h => by cases b <;> simp [beq] at h ⊢; exact eq_of_beqL _ _ h
  | .ref a, b, h => by cases b <;> simp [beq] at h ⊢; exact h
  | .fn a, b, h => by cases b <;> simp [beq] at h ⊢; exact h
  | .kls a, b, h => by cases b <;> simp [beq] at h ⊢; exact h
  | .lam a c, b, h => by cases b <;> simp [beq] at h ⊢; exact ⟨h.1, eq_of_beqL _ _ h.2⟩
theorem eq_of_beqL : ∀ a b : List D, beqL a b = true → a = b
  | [], b, h => by cases b <;> simp [beqL] at h ⊢
  | a :: as, b, h => by
    cases b with
    | nil => simp [beqL] at h
    | cons b bs => simp [beqL] at h; rw [eq_of_beq _ _ h.1, eq_of_beqL _ _ h.2]
end
mutual
theorem beq_self : ∀ a : D, beq a a = true
  | .non => by simp [beq]
  | .bl a => by simp [beq]
  | .int a => by simp [beq]
  | .str a => by simp [beq]
  | .tup a => by simp [beq, beqL_self a]
  | .cl a => by simp [beq, beqL_self a]
  | .ref a => by simp [beq]
  | .fn a => by simp [beq]
  | .kls a => by simp [beq]
  | .lam a c => by simp [beq, beqL_self c]
theorem beqL_self : ∀ a : List D, beqL a a = true
  | [] => by simp [beqL]
  | a :: as => by simp [beqL, beq_self a, beqL_self as]
end
instance : DecidableEq D := fun a b => if h : beq a b = true then .isTrue (eq_of_beq a b h) else .isFalse fun e => h (e ▸ beq_self a)

mutual
/-- no object of the store in it, no def: data -/
def flat : D → Bool
  | .non | .bl _ | .int _ | .str _ => true
  | .tup ds => flatL ds
  | .cl ds => flatL ds
  | .ref _ | .fn _ | .kls _ | .lam _ _ => false
def flatL : List D → Bool
  | [] => true
  | d :: ds => flat d && flatL ds
end
mutual
/-- as data -/
def py : D → PyData
  | .non => .none
  | .bl b => .bool b
  | .int i => .int i
  | .str s => .str s
  | .tup ds => .tuple (pyL ds)
  | .cl ds => .list (pyL ds)
  | .ref _ | .fn _ | .kls _ | .lam _ _ => .none
def pyL : List D → List PyData
  | [] => []
  | d :: ds => py d :: pyL ds
end
mutual
/-- how deep (as PyData.depth) -/
def dep : D → Nat
  | .tup ds => depL ds + 1
  | .cl ds => depL ds + 1
  | _ => 0
def depL : List D → Nat
  | [] => 0
  | d :: ds => max (dep d) (depL ds)
end
/-- data that may be compared -/
def okD (d : D) : Bool := flat d && (py d).canLay0 && decide (dep d ≤ 60)
def okL (ds : List D) : Bool := flatL ds && PyData.canLayAll0 (pyL ds) && decide (depL ds ≤ 60)
inductive Cp where | lt | le | gt | ge
  deriving DecidableEq, Repr
def rcI : Cp → Int → Int → Bool
  | .lt, i, j => decide (i < j)
  | .le, i, j => decide (i ≤ j)
  | .gt, i, j => decide (j < i)
  | .ge, i, j => decide (j ≤ i)
def rcN : Cp → Nat → Nat → Bool
  | .lt, i, j => decide (i < j)
  | .le, i, j => decide (i ≤ j)
  | .gt, i, j => decide (i > j)
  | .ge, i, j => decide (i ≥ j)
def rcS : Cp → Str → Str → Bool
  | .lt, x, y => decide (x.cps.toList < y.cps.toList)
  | .le, x, y => !decide (y.cps.toList < x.cps.toList)
  | .gt, x, y => decide (y.cps.toList < x.cps.toList)
  | .ge, x, y => !decide (x.cps.toList < y.cps.toList)
mutual
/-- the comparison of alike data -/
def rc (c : Cp) : D → D → Bool
  | .int i, .int j => rcI c i j
  | .str x, .str y => rcS c x y
  | .tup xs, .tup ys => rcL c xs ys
  | _, _ => false
/-- the first place that differs -/
def rcL (c : Cp) : List D → List D → Bool
  | [], [] => rcN c 0 0
  | [], _ :: _ => rcN c 0 1
  | _ :: _, [] => rcN c 1 0
  | x :: xs, y :: ys => if PyData.eqv x.py y.py = true then rcL c xs ys else rc c x y
end
mutual
/-- as PySem.W.alike, without None and bools -/
def like : D → D → Bool
  | .int _, .int _ => true
  | .str _, .str _ => true
  | .tup xs, .tup ys => likeL xs ys
  | _, _ => false
def likeL : List D → List D → Bool
  | x :: xs, y :: ys => like x y && likeL xs ys
  | [], _ => true
  | _ :: _, [] => true
end
/-- .. at the first place that differs -/
def likeT : List D → List D → Bool
  | x :: xs, y :: ys => if PyData.eqv x.py y.py = true then likeT xs ys else like x y
  | [], _ => true
  | _ :: _, [] => true
mutual
/-- a key of a dict that is a tuple -/
def nkey : D → Option PySem.NestedKey
  | .non => some .none
  | .int i => some (.num i)
  | .str s => some (.text s)
  | .tup ds => (nkeyL ds).map .tup
  | _ => none
def nkeyL : List D → Option (List PySem.NestedKey)
  | [] => some []
  | d :: ds => (nkey d).bind fun k => (nkeyL ds).map fun r => k :: r
end
end D

inductive Ob where
  | lst (ds : List D)
  | dct (kvs : List (D × D))
  | fdct (kvs : List (D × D))
  | ins (c : Nat) (fs : List (Str × D))
  deriving Inhabited, DecidableEq
abbrev Sto := List Ob
abbrev Env := List (Option D)
def LINE : Nat := 16777216

inductive R (α : Type) where
  | ok (a : α) (st : Sto)
  | exc (c : Nat) (fs : List (Str × D)) (st : Sto)
  | bad
namespace R
def bind {α β : Type} (r : R α) (f : α → Sto → R β) : R β :=
  match r with
  | .ok a st => f a st
  | .exc c fs st => .exc c fs st
  | .bad => .bad
@[simp] theorem bind_ok {α β : Type} (a : α) (st : Sto) (f : α → Sto → R β) : (R.ok a st).bind f = f a st := rfl
@[simp] theorem bind_bad {α β : Type} (f : α → Sto → R β) : (R.bad : R α).bind f = .bad := rfl
@[simp] theorem bind_exc {α β : Type} (c fs st) (f : α → Sto → R β) : (R.exc c fs st : R α).bind f = .exc c fs st := rfl
/-- a value, if there is one -/
def opt {α : Type} (o : Option α) (st : Sto) : R α := match o with
  | some a => .ok a st
  | none => .bad
@[simp] theorem opt_some {α : Type} (a : α) (st : Sto) : opt (some a) st = .ok a st := rfl
@[simp] theorem opt_none {α : Type} (st : Sto) : opt (none : Option α) st = .bad := rfl
def thaw {α : Type} (n : Nat) (o : Ob) : R α → R α
  | .ok a st => .ok a (st.set n o)
  | .exc _ _ _ => .bad
  | .bad => .bad
end R

inductive Op1 where
  | neg | len | abs | int_ | ord | str_ | pop | isNone | notNone | items | keys | values | dcopy | slAll
  deriving DecidableEq, Repr
inductive Op2 where
  | add | sub | mul | fdiv | mod | pow | eq | ne | lt | le | gt | ge | is_ | isnot | in_ | notin | idx | append | get | max_ | min_ | slFrom | slTo
  deriving DecidableEq, Repr
inductive Op3 where
  | slice | get3
  deriving DecidableEq, Repr
inductive Fd where
  | tuple | all | any | sum | len | dict | max | min
  deriving DecidableEq, Repr
inductive Ty where
  | int | bool | str | tuple | list | dict
  deriving DecidableEq, Repr
inductive Tg where
  | name (i : Nat) | tup (is : List Nat)
  deriving DecidableEq, Repr

/-! ### the operations -/
/-- a key of a flat dict -/
def fkey : D → Option L2.Key
  | .int i => some (.inl i)
  | .str s => some (.inr s)
  | _ => none
inductive DK where | f (k : L2.Key) | n (k : PySem.NestedKey)
  deriving DecidableEq
def dkey (d : D) : Option DK := match d with
  | .int i => some (.f (.inl i))
  | .str s => some (.f (.inr s))
  | .tup ds => if D.dep (.tup ds) ≤ 8 then (D.nkey (.tup ds)).map .n else none
  | _ => none
/-- all keys are of one kind -/
def sameKind (k : DK) : List (D × D) → Bool
  | [] => true
  | (d, _) :: _ => match k, d with
    | .f _, .tup _ => false
    | .f _, _ => true
    | .n _, .tup _ => true
    | .n _, _ => false
/-- the items of a list or tuple -/
def seqOf (d : D) (st : Sto) : Option (List D) := match d with
  | .tup ds => some ds
  | .cl ds => some ds
  | .ref n => match st[n]? with
    | some (.lst ds) => some ds
    | _ => none
  | _ => none
def listOf (d : D) (st : Sto) : Option (List D) := match d with
  | .cl ds => some ds
  | .ref n => match st[n]? with
    | some (.lst ds) => some ds
    | _ => none
  | _ => none
def truth (d : D) (st : Sto) : Option Bool := match d with
  | .non => some false
  | .bl b => some b
  | .int i => some (i != 0)
  | .str s => if s.length ≤ LINE then some ((s.length : Int) != 0) else none
  | .tup ds => some (!ds.isEmpty)
  | .cl ds => some (!ds.isEmpty)
  | .ref n => match st[n]? with
    | some (.lst ds) => some (!ds.isEmpty)
    | some (.dct kvs) => if sameKind (.f (.inl 0)) kvs then some (!kvs.isEmpty) else none
    | _ => none
  | _ => none
/-- as data, lists of data too -/
def exp (d : D) (st : Sto) : Option PyData := match d with
  | .ref _ => (listOf d st).bind fun ds => if D.okL ds = true then some (.list (D.pyL ds)) else none
  | _ => if D.okD d = true then some d.py else none
def eqD (a b : D) (st : Sto) : Option Bool := (exp a st).bind fun x => (exp b st).map fun y => PyData.eqv x y
def mulOk (i j : Int) : Bool := decide (-(2 ^ 64) < i) && decide (i < 2 ^ 64) || decide (-(2 ^ 64) < j) && decide (j < 2 ^ 64)
def isD (a b : D) : Option Bool := match b with
  | .non => (match a with | .non => some true | _ => some false)
  | .bl c => (match a with | .bl x => some (decide (x = c)) | _ => none)
  | _ => none
def dget (kvs : List (D × D)) (k : DK) : Option D := match kvs with
  | [] => none
  | (d, v) :: r => if dkey d = some k then some v else dget r k
def dput (kvs : List (D × D)) (k : DK) (d v : D) : List (D × D) :=
  if (kvs.any fun p => decide (dkey p.1 = some k)) = true then kvs.map (fun p => if dkey p.1 = some k then (p.1, v) else p) else kvs ++ [(d, v)]
def dictOf (d : D) (st : Sto) : Option (List (D × D)) := match d with
  | .ref n => match st[n]? with
    | some (.dct kvs) => some kvs
    | some (.fdct kvs) => some kvs
    | _ => none
  | _ => none
def inStr (x y : Str) : Bool := if x.length = 1 then decide (x.cps.getD 0 0 ∈ y.cps.toList) else !(PySem.Builtin.Str.occurrences y x 0 y.length 1).isEmpty
def inD (a b : D) (st : Sto) : Option Bool := match b with
  | .str y => (match a with | .str x => some (inStr x y) | _ => none)
  | .tup ds => if D.okD a && D.okL ds then some (ds.any fun d => PyData.eqv d.py a.py) else none
  | .cl ds => if D.okD a && D.okL ds then some (ds.any fun d => PyData.eqv d.py a.py) else none
  | .ref n => (match st[n]? with
    | some (.lst ds) => if D.okD a && D.okL ds then some (ds.any fun d => PyData.eqv d.py a.py) else none
    | some (.dct kvs) => (dkey a).bind fun k => if sameKind k kvs then some (dget kvs k).isSome else none
    | some (.fdct kvs) => (dkey a).bind fun k => if sameKind k kvs then some (dget kvs k).isSome else none
    | _ => none)
  | _ => none
def idxD (a i : D) (st : Sto) : Option D := match a with
  | .tup ds => (match i with | .int j => L2.atI ds j | _ => none)
  | .cl ds => (match i with | .int j => L2.atI ds j | _ => none)
  | .str s => (match i with | .int j => if s.length ≤ LINE then (L2.atI s.cps.toList j).map fun c => .str ⟨#[c]⟩ else none | _ => none)
  | .ref n => (match st[n]? with
    | some (.lst ds) => (match i with | .int j => L2.atI ds j | _ => none)
    | some (.dct kvs) => (dkey i).bind fun k => if sameKind k kvs then dget kvs k else none
    | some (.fdct kvs) => (dkey i).bind fun k => if sameKind k kvs then dget kvs k else none
    | _ => none)
  | _ => none
/-- a new object -/
def alloc (o : Ob) (st : Sto) : R D := .ok (.ref st.length) (st ++ [o])
def newList (ds : List D) (st : Sto) : R D := if ds.length ≤ LINE then alloc (.lst ds) st else .bad
def newTup (ds : List D) (st : Sto) : R D := if ds.length ≤ LINE then .ok (.tup ds) st else .bad
def addD (a b : D) (st : Sto) : R D := match a, b with
  | .int i, .int j => .ok (.int (i + j)) st
  | .str x, .str y => if x.length + y.length ≤ LINE then .ok (.str (x ++ y)) st else .bad
  | .tup xs, .tup ys => if xs.length + ys.length ≤ LINE then .ok (.tup (xs ++ ys)) st else .bad
  | .ref _, .ref _ => (match listOf a st, listOf b st with
    | some xs, some ys => if xs.length + ys.length ≤ LINE then alloc (.lst (xs ++ ys)) st else .bad
    | _, _ => .bad)
  | _, _ => .bad
def repL (ds : List D) (k : Int) : List D := (List.replicate k.toNat ds).flatten
def mulD (a b : D) (st : Sto) : R D := match a, b with
  | .int i, .int j => if mulOk i j then .ok (.int (i * j)) st else .bad
  | .str x, .int k => if 0 ≤ k ∧ k ≤ 1000 ∧ x.length ≤ 1000 then .ok (.str (PySem.Txt.mul x k)) st else .bad
  | .tup ds, .int k => if 2 ≤ k ∧ k ≤ 1000 ∧ ds ≠ [] ∧ ds.length ≤ 1000 then .ok (.tup (repL ds k)) st else .bad
  | .ref _, .int k => (match listOf a st with
    | some ds => if -1000 < k ∧ k < 1000000 ∧ ds.length * k.toNat ≤ LINE then alloc (.lst (repL ds k)) st else .bad
    | none => .bad)
  | _, _ => .bad
def cmpR (o : Option Bool) (st : Sto) : R D := match o with
  | some b => .ok (.bl b) st
  | none => .bad
def rcD (c : D.Cp) (a b : D) : Option Bool := if D.okD a && D.okD b && D.like a b then some (D.rc c a b) else none
def cutL {α : Type} (xs : List α) (lo hi : Option Int) : List α := (xs.drop (HT.sIx xs.length 0 lo)).take (HT.sIx xs.length xs.length hi - HT.sIx xs.length 0 lo)
def sliceD (a : D) (lo hi : Option Int) (st : Sto) : R D := match a with
  | .tup ds => .ok (.tup (cutL ds lo hi)) st
  | .str s => if s.length ≤ LINE then .ok (.str (L2.cutS s lo hi)) st else .bad
  | .ref _ => (match listOf a st with
    | some ds => alloc (.lst (cutL ds lo hi)) st
    | none => .bad)
  | .cl ds => alloc (.lst (cutL ds lo hi)) st
  | _ => .bad
def p2 (o : Op2) (a b : D) (st : Sto) : R D := match o with
  | .add => addD a b st
  | .sub => (match a, b with | .int i, .int j => .ok (.int (i - j)) st | _, _ => .bad)
  | .mul => mulD a b st
  | .fdiv => (match a, b with | .int i, .int j => if j ≠ 0 ∧ j.natAbs < 1073741824 then .ok (.int (i.fdiv j)) st else .bad | _, _ => .bad)
  | .mod => (match a, b with | .int i, .int j => if j ≠ 0 then .ok (.int (i.fmod j)) st else .bad | _, _ => .bad)
  | .pow => (match a, b with | .int i, .int j => if 0 ≤ j ∧ j ≤ 1000000 ∧ i.natAbs < 2 ^ 64 then .ok (.int (i ^ j.toNat)) st else .bad | _, _ => .bad)
  | .eq => cmpR (eqD a b st) st
  | .ne => cmpR ((eqD a b st).map (!·)) st
  | .lt => cmpR (rcD .lt a b) st
  | .le => cmpR (rcD .le a b) st
  | .gt => cmpR (rcD .gt a b) st
  | .ge => cmpR (rcD .ge a b) st
  | .is_ => cmpR (isD a b) st
  | .isnot => cmpR ((isD a b).map (!·)) st
  | .in_ => cmpR (inD a b st) st
  | .notin => cmpR ((inD a b st).map (!·)) st
  | .idx => R.opt (idxD a b st) st
  | .append => (match a with
    | .ref n => (match st[n]? with
      | some (.lst ds) => if ds.length < LINE then .ok .non (st.set n (.lst (ds ++ [b]))) else .bad
      | _ => .bad)
    | _ => .bad)
  | .get => (match dictOf a st with
    | some kvs => (match dkey b with
      | some k => if sameKind k kvs then .ok ((dget kvs k).getD .non) st else .bad
      | none => .bad)
    | none => .bad)
  | .slFrom => (match b with | .int i => sliceD a (some i) none st | _ => .bad)
  | .slTo => (match b with | .int i => sliceD a none (some i) st | _ => .bad)
  | .max_ => (match a, b with | .int i, .int j => .ok (.int (if j > i then j else i)) st | _, _ => .bad)
  | .min_ => (match a, b with | .int i, .int j => .ok (.int (if j < i then j else i)) st | _, _ => .bad)
def lenD (a : D) (st : Sto) : Option Nat := match a with
  | .str s => if s.length ≤ LINE then some s.length else none
  | .tup ds => some ds.length
  | .cl ds => some ds.length
  | .ref n => (match st[n]? with
    | some (.lst ds) => some ds.length
    | some (.dct kvs) => some kvs.length
    | _ => none)
  | _ => none
def p1 (o : Op1) (a : D) (st : Sto) : R D := match o with
  | .neg => (match a with | .int i => .ok (.int (-i)) st | _ => .bad)
  | .len => R.opt ((lenD a st).map fun (n : Nat) => D.int (n : Int)) st
  | .abs => (match a with | .int i => .ok (.int (if i < 0 then -i else i)) st | _ => .bad)
  | .int_ => (match a with | .int i => .ok (.int i) st | .bl b => .ok (.int (if b then 1 else 0)) st | _ => .bad)
  | .ord => (match a with | .str s => if s.length = 1 then .ok (.int (s.cps.getD 0 0 : Nat)) st else .bad | _ => .bad)
  | .str_ => (match a with | .int i => if i.natAbs < 2 ^ 1900 then .ok (.str (toString i)) st else .bad | .str s => .ok (.str s) st | _ => .bad)
  | .pop => (match a with
    | .ref n => (match st[n]? with
      | some (.lst ds) => (match ds.getLast? with
        | some x => .ok x (st.set n (.lst ds.dropLast))
        | none => .bad)
      | _ => .bad)
    | _ => .bad)
  | .isNone => cmpR (isD a .non) st
  | .notNone => cmpR ((isD a .non).map (!·)) st
  | .items | .keys | .values => .bad
  | .slAll => sliceD a none none st
  | .dcopy => (match dictOf a st with
    | some kvs => if sameKind (.f (.inl 0)) kvs then alloc (.dct kvs) st else .bad
    | none => .bad)
def p3 (o : Op3) (a b c : D) (st : Sto) : R D := match o with
  | .slice => (match b, c with | .int i, .int j => sliceD a (some i) (some j) st | _, _ => .bad)
  | .get3 => (match dictOf a st with
    | some kvs => (match dkey b with
      | some k => if sameKind k kvs then .ok ((dget kvs k).getD c) st else .bad
      | none => .bad)
    | none => .bad)
def isiD (a : D) (t : Ty) (st : Sto) : Option Bool := match a with
  | .non => some false
  | .bl _ => some (match t with | .int | .bool => true | _ => false)
  | .int _ => some (match t with | .int => true | _ => false)
  | .str _ => some (match t with | .str => true | _ => false)
  | .tup _ => some (match t with | .tuple => true | _ => false)
  | .cl _ => some (match t with | .list => true | _ => false)
  | .ref n => (match st[n]? with
    | some (.lst _) => some (match t with | .list => true | _ => false)
    | some (.dct kvs) => if sameKind (.f (.inl 0)) kvs then some (match t with | .dict => true | _ => false) else none
    | _ => none)
  | _ => none
def boolsOf : List D → Option (List Bool)
  | [] => some []
  | .bl b :: r => (boolsOf r).map fun bs => b :: bs
  | _ => none
def intsOf : List D → Option (List Int)
  | [] => some []
  | .int i :: r => (intsOf r).map fun is => i :: is
  | _ => none
/-- dict(..) of pairs: keys flat; keys tuples -/
def dictF (acc : List (D × D)) : List D → Option (List (D × D))
  | [] => some acc
  | .tup [d, v] :: r => (fkey d).bind fun k => dictF (dput acc (.f k) d v) r
  | _ => none
def dictN (acc : List (D × D)) : List D → Option (List (D × D))
  | [] => some acc
  | .tup [d, v] :: r => (match dkey d with
    | some (.n k) => dictN (dput acc (.n k) d v) r
    | _ => none)
  | _ => none
def foldD (f : Fd) (ds : List D) (st : Sto) : R D := match f with
  | .tuple => .ok (.tup ds) st
  | .all => R.opt ((boolsOf ds).map fun bs => .bl (bs.all id)) st
  | .any => R.opt ((boolsOf ds).map fun bs => .bl (bs.any id)) st
  | .sum => R.opt ((intsOf ds).map fun is => .int is.sum) st
  | .len => .ok (.int ds.length) st
  | .dict => (match dictF [] ds with
    | some kvs => alloc (.dct kvs) st
    | none => (match dictN [] ds with
      | some kvs => alloc (.dct kvs) st
      | none => .bad))
  | .max | .min => .bad
/-- by twos -/
def pairsOf : List D → Option (List D)
  | [] => some []
  | k :: v :: r => (pairsOf r).map fun ps => .tup [k, v] :: ps
  | _ => none
def dispD (ds : List D) : Option (List (D × D)) := if ds.length ≤ 30 then (pairsOf ds).bind fun ps => dictF [] ps else none
/-- two items that sorted can put in order -/
def sortable (a b : D) : Bool := match a, b with
  | .int _, .int _ => true
  | .str _, .str _ => true
  | .tup (x :: xs), .tup (y :: ys) => D.like x y && D.likeT (x :: xs) (y :: ys)
  | _, _ => false
def allSort (ds : List D) : Bool := ds.all fun a => ds.all fun b => sortable a b
def sortLe (a b : D) : Bool := !PySem.W.dataLt b.py a.py
def sortD (ds : List D) : Option (List D) := if D.okL ds && allSort ds && decide (ds.length ≤ LINE) then some (ds.mergeSort sortLe) else none

def setAll (ρ : Env) : List Nat → List D → Env
  | i :: is, d :: ds => setAll (ρ.set i (some d)) is ds
  | _, _ => ρ
def asgT (t : Tg) (d : D) (ρ : Env) (st : Sto) : Option Env := match t with
  | .name i => some (ρ.set i (some d))
  | .tup is => (seqOf d st).bind fun ds => if ds.length = is.length then some (setAll ρ is ds) else none
def wipeE (ρ : Env) : List Nat → Env
  | [] => ρ
  | v :: vs => (wipeE ρ vs).set v none

/-- what is walked: its items; where the list stands that they come from -/
structure Src where
  items : List D
  chk : Option Nat := none
def Src.same (s : Src) (st : Sto) : Bool := match s.chk with
  | none => true
  | some n => match st[n]? with
    | some (.lst ds) => decide (ds = s.items)
    | _ => false
/-- while the dict at n is locked -/
def held {α : Type} (lk : Option (Nat × List (D × D))) (k : Sto → R α) (st : Sto) : R α := match lk with
  | none => k st
  | some (n, kvs) => (k (st.set n (.fdct kvs))).thaw n (.dct kvs)
/-- the dict that a value is, not locked yet -/
def lockD (r : R D) (st : Sto) : Option (Nat × List (D × D)) := match r with
  | .ok (.ref n) _ => (match st[n]? with
    | some (.dct kvs) => some (n, kvs)
    | _ => none)
  | _ => none
/-- the walk of a value -/
def srcOf (d : D) (st : Sto) : Option Src := match d with
  | .tup ds => some { items := ds }
  | .cl ds => some { items := ds }
  | .str s => if s.length ≤ LINE then some { items := s.cps.toList.map fun c => .str ⟨#[c]⟩ } else none
  | .ref n => (match st[n]? with
    | some (.lst ds) => some { items := ds, chk := some n }
    | some (.fdct kvs) => some { items := kvs.map (·.1) }
    | _ => none)
  | _ => none
def rngOf (ds : List D) : Option Src := match ds with
  | [.int j] => if -(2 ^ 62) ≤ j ∧ j < 2 ^ 62 then some { items := (List.range j.toNat).map fun (i : Nat) => .int (0 + i) } else none
  | [.int i, .int j] => if -(2 ^ 62) ≤ i ∧ i < 2 ^ 62 ∧ -(2 ^ 62) ≤ j ∧ j < 2 ^ 62 then some { items := (List.range (j - i).toNat).map fun (k : Nat) => .int (i + k) } else none
  | _ => none
/-- a comprehension's loop -/
def lcL (f : D → Sto → R (Option D)) (same : Sto → Bool) : List D → List D → Sto → R (List D)
  | [], acc, st => if same st then .ok acc st else .bad
  | x :: xs, acc, st => if same st then (match f x st with
    | .ok (some y) st' => if acc.length < LINE then lcL f same xs (acc ++ [y]) st' else .bad
    | .ok none st' => lcL f same xs acc st'
    | .exc _ _ _ => .bad
    | .bad => .bad) else .bad

/-- a method's object -/
def mtOk (o : Op2) (x : D) (st : Sto) : Bool := match o with
  | .append => (match x with
    | .ref n => (match st[n]? with
      | some (.lst _) => true
      | _ => false)
    | _ => false)
  | .get => (dictOf x st).isSome
  | _ => false

def ok3a (o : Op3) (x : D) (st : Sto) : Bool := match o with
  | .get3 => (dictOf x st).isSome
  | .slice => true
def ok3b (o : Op3) (y : D) : Bool := match o with
  | .get3 => true
  | .slice => (match y with
    | .int _ => true
    | _ => false)

/-! ### the language -/
structure Ctx where
  call : Nat → List D → Sto → R D
  glob : Nat → Option D
mutual
inductive E where
  | var (i : Nat)
  | con (d : D)
  | glob (g : Nat)
  | op1 (o : Op1) (a : E)
  | op2 (o : Op2) (a b : E)
  | op3 (o : Op3) (a b c : E)
  | mt2 (o : Op2) (a b : E)
  | chain (o1 o2 : Op2) (a b c : E)
  | and (a b : E)
  | or (a b : E)
  | not (a : E)
  | ite (c : Cd) (a b : E)
  | tup (es : Es)
  | ofQ (q : Q)
  | fold (f : Fd) (q : Q)
  | eqQ (ne : Bool) (q1 q2 : Q)
  | call (f : Nat) (es : Es)
  | isi (a : E) (t : Ty)
  | dnew
  | ddisp (kvs : Es)
inductive Es where
  | nil
  | cons (e : E) (r : Es)
/-- a test -/
inductive Cd where
  | and (a b : Cd)
  | or (a b : Cd)
  | not (a : Cd)
  | ofE (e : E)
/-- a list or tuple, perhaps for the moment alone -/
inductive Q where
  | ofE (e : E)
  | ofL (e : E)
  | disp (es : Es)
  | lc (elt : E) (own : List Nat) (t : Tg) (src : It)
  | lci (elt : E) (own : List Nat) (t : Tg) (src : It) (c : Cd)
  | sorted (q : Q)
  | list (q : Q)
  | rev (q : Q)
/-- what is walked -/
inductive It where
  | ofE (e : E)
  | ofP (e : E)
  | ofQ (q : Q)
  | rng (es : Es)
end
/-- a new list -/
def Q.fresh : Q → Bool
  | .ofE _ => false
  | .ofL _ => false
  | _ => true
/-- a list -/
def Q.isL : Q → Bool
  | .ofE _ => false
  | _ => true
mutual
def evE (C : Ctx) : E → Env → Sto → R D
  | .var i, ρ, st => (match ρ[i]? with
    | some (some d) => .ok d st
    | _ => .bad)
  | .con d, _, st => .ok d st
  | .glob g, _, st => R.opt (C.glob g) st
  | .op1 o a, ρ, st => (evE C a ρ st).bind fun x st => p1 o x st
  | .op2 o a b, ρ, st => (evE C a ρ st).bind fun x st => (evE C b ρ st).bind fun y st => p2 o x y st
  | .op3 o a b c, ρ, st => (evE C a ρ st).bind fun x st => if ok3a o x st = true then (evE C b ρ st).bind fun y st => if ok3b o y = true then (evE C c ρ st).bind fun z st => p3 o x y z st else .bad else .bad
  | .mt2 o a b, ρ, st => (evE C a ρ st).bind fun x st => if mtOk o x st = true then (evE C b ρ st).bind fun y st => p2 o x y st else .bad
  | .chain o1 o2 a b c, ρ, st => (evE C a ρ st).bind fun x st => (evE C b ρ st).bind fun y st => (p2 o1 x y st).bind fun z st => (match z with
    | .bl true => (evE C c ρ st).bind fun w st => p2 o2 y w st
    | .bl false => .ok (.bl false) st
    | _ => .bad)
  | .and a b, ρ, st => (evE C a ρ st).bind fun x st => (match truth x st with
    | some true => evE C b ρ st
    | some false => .ok x st
    | none => .bad)
  | .or a b, ρ, st => (evE C a ρ st).bind fun x st => (match truth x st with
    | some true => .ok x st
    | some false => evE C b ρ st
    | none => .bad)
  | .not a, ρ, st => (evE C a ρ st).bind fun x st => R.opt ((truth x st).map fun t => D.bl (!t)) st
  | .ite c a b, ρ, st => (evC C c ρ st).bind fun t st => if t = true then evE C a ρ st else evE C b ρ st
  | .tup es, ρ, st => (evEs C es ρ st).bind fun ds st => newTup ds st
  | .ofQ q, ρ, st => (evQ C q ρ st).bind fun ds st => alloc (.lst ds) st
  | .fold f q, ρ, st => (evQ C q ρ st).bind fun ds st => foldD f ds st
  | .eqQ ne q1 q2, ρ, st => (evQ C q1 ρ st).bind fun xs st => (evQ C q2 ρ st).bind fun ys st =>
      if D.okL xs && D.okL ys then .ok (.bl (ne ^^ PyData.eqv (.list (D.pyL xs)) (.list (D.pyL ys)))) st else .bad
  | .call f es, ρ, st => (evEs C es ρ st).bind fun ds st => C.call f ds st
  | .isi a t, ρ, st => (evE C a ρ st).bind fun x st => cmpR (isiD x t st) st
  | .dnew, _, st => alloc (.dct []) st
  | .ddisp kvs, ρ, st => (evEs C kvs ρ st).bind fun ds st => R.opt (dispD ds) st |>.bind fun es st => alloc (.dct es) st
def evEs (C : Ctx) : Es → Env → Sto → R (List D)
  | .nil, _, st => .ok [] st
  | .cons e r, ρ, st => (evE C e ρ st).bind fun x st => (evEs C r ρ st).bind fun xs st => .ok (x :: xs) st
def evC (C : Ctx) : Cd → Env → Sto → R Bool
  | .and a b, ρ, st => (evC C a ρ st).bind fun t st => if t = true then evC C b ρ st else .ok false st
  | .or a b, ρ, st => (evC C a ρ st).bind fun t st => if t = true then .ok true st else evC C b ρ st
  | .not a, ρ, st => (evC C a ρ st).bind fun t st => .ok (!t) st
  | .ofE e, ρ, st => (evE C e ρ st).bind fun x st => R.opt (truth x st) st
def evQ (C : Ctx) : Q → Env → Sto → R (List D)
  | .ofE e, ρ, st => (evE C e ρ st).bind fun x st => R.opt (seqOf x st) st
  | .ofL e, ρ, st => (evE C e ρ st).bind fun x st => R.opt (listOf x st) st
  | .disp es, ρ, st => (evEs C es ρ st).bind fun ds st => if ds.length ≤ LINE then .ok ds st else .bad
  | .lc elt own t src, ρ, st => held (evLk C src ρ st) (fun st => (evIt C src ρ st).bind fun s st => lcL (fun x st =>
      (match asgT t x (wipeE ρ own) st with
        | some ρ' => (evE C elt ρ' st).bind fun y st => .ok (some y) st
        | none => .bad)) s.same s.items [] st) st
  | .lci elt own t src c, ρ, st => held (evLk C src ρ st) (fun st => (evIt C src ρ st).bind fun s st => lcL (fun x st =>
      (match asgT t x (wipeE ρ own) st with
        | some ρ' => (evC C c ρ' st).bind fun b st => if b = true then (evE C elt ρ' st).bind fun y st => .ok (some y) st else .ok none st
        | none => .bad)) s.same s.items [] st) st
  | .sorted q, ρ, st => (evQ C q ρ st).bind fun ds st => R.opt (sortD ds) st
  | .list q, ρ, st => (evQ C q ρ st).bind fun ds st => .ok ds st
  | .rev q, ρ, st => (evQ C q ρ st).bind fun ds st => .ok ds.reverse st
def evIt (C : Ctx) : It → Env → Sto → R Src
  | .ofE e, ρ, st => (evE C e ρ st).bind fun x st => R.opt (srcOf x st) st
  | .ofP e, ρ, st => (evE C e ρ st).bind fun x st => R.opt (srcOf x st) st
  | .ofQ q, ρ, st => (evQ C q ρ st).bind fun ds st => .ok { items := ds } st
  | .rng es, ρ, st => (evEs C es ρ st).bind fun ds st => R.opt (rngOf ds) st
def evLk (C : Ctx) : It → Env → Sto → Option (Nat × List (D × D))
  | .ofP e, ρ, st => lockD (evE C e ρ st) st
  | .ofE _, _, _ => none
  | .ofQ _, _, _ => none
  | .rng _, _, _ => none
end

inductive Fl where
  | next | ret (d : D) | brk | cont
mutual
inductive S where
  | asg (t : Tg) (e : E)
  | par (is : List Nat) (es : Es)
  | setIx (o i e : E)
  | aug (i : Nat) (o : Op2) (e : E)
  | ext (i : Nat) (q : Q)
  | exp (e : E)
  | ite (c : Cd) (a b : Ss)
  | while (c : Cd) (b : Ss)
  | for (t : Tg) (src : It) (b : Ss)
  | ret (e : E)
  | retN
  | brk
  | cont
  | pass
inductive Ss where
  | nil
  | cons (s : S) (r : Ss)
end
def WF : Nat := 1000000
def whileL (c : Env → Sto → R Bool) (b : Env → Sto → R (Fl × Env)) : Nat → Env → Sto → R (Fl × Env)
  | 0, _, _ => .bad
  | n + 1, ρ, st => (c ρ st).bind fun t st => if t = true then (b ρ st).bind fun r st => (match r.1 with
      | .next => whileL c b n r.2 st
      | .cont => whileL c b n r.2 st
      | .brk => .ok (.next, r.2) st
      | .ret d => .ok (.ret d, r.2) st) else .ok (.next, ρ) st
def forL (f : D → Env → Sto → R (Fl × Env)) (same : Sto → Bool) : List D → Env → Sto → R (Fl × Env)
  | [], ρ, st => if same st then .ok (.next, ρ) st else .bad
  | x :: xs, ρ, st => if same st then (f x ρ st).bind fun r st => (match r.1 with
      | .next => forL f same xs r.2 st
      | .cont => forL f same xs r.2 st
      | .brk => .ok (.next, r.2) st
      | .ret d => .ok (.ret d, r.2) st) else .bad
def setIxD (o i v : D) (st : Sto) : Option Sto := match o with
  | .ref n => (match st[n]? with
    | some (.lst ds) => (match i with
      | .int j => (L2.ixN ds.length j).map fun k => st.set n (.lst (ds.set k v))
      | _ => none)
    | some (.dct kvs) => (dkey i).bind fun k => if sameKind k kvs && decide (kvs.length < LINE) then some (st.set n (.dct (dput kvs k i v))) else none
    | _ => none)
  | _ => none
def extD (d : D) (ds : List D) (st : Sto) : Option Sto := match d with
  | .ref n => (match st[n]? with
    | some (.lst xs) => if xs.length + ds.length ≤ LINE then some (st.set n (.lst (xs ++ ds))) else none
    | _ => none)
  | _ => none
/-- in place on a name: of ints, texts, tuples -/
def augD (o : Op2) (a b : D) (st : Sto) : R D := match o, a, b with
  | .add, .int i, .int j => .ok (.int (i + j)) st
  | .add, .str x, .str y => addD a b st
  | .sub, .int i, .int j => .ok (.int (i - j)) st
  | .mul, .int i, .int j => mulD a b st
  | _, _, _ => .bad
mutual
def evS (C : Ctx) : S → Env → Sto → R (Fl × Env)
  | .asg t e, ρ, st => (evE C e ρ st).bind fun x st => R.opt ((asgT t x ρ st).map fun ρ' => (Fl.next, ρ')) st
  | .par is es, ρ, st => (evEs C es ρ st).bind fun ds st => if ds.length = is.length then .ok (.next, setAll ρ is ds) st else .bad
  | .setIx o i e, ρ, st => (evE C e ρ st).bind fun v st => (evE C o ρ st).bind fun x st => (evE C i ρ st).bind fun y st => (match setIxD x y v st with
    | some st' => .ok (.next, ρ) st'
    | none => .bad)
  | .aug i o e, ρ, st => (match ρ[i]? with
    | some (some a) => (evE C e ρ st).bind fun b st => (augD o a b st).bind fun c st => .ok (.next, ρ.set i (some c)) st
    | _ => .bad)
  | .ext i q, ρ, st => (match ρ[i]? with
    | some (some a) => (evQ C q ρ st).bind fun ds st => (match extD a ds st with
      | some st' => .ok (.next, ρ) st'
      | none => .bad)
    | _ => .bad)
  | .exp e, ρ, st => (evE C e ρ st).bind fun _ st => .ok (.next, ρ) st
  | .ite c a b, ρ, st => (evC C c ρ st).bind fun t st => if t = true then evSs C a ρ st else evSs C b ρ st
  | .while c b, ρ, st => whileL (fun ρ st => evC C c ρ st) (fun ρ st => evSs C b ρ st) WF ρ st
  | .for t src b, ρ, st => held (evLk C src ρ st) (fun st => (evIt C src ρ st).bind fun s st => forL (fun x ρ st =>
      (match asgT t x ρ st with
        | some ρ' => evSs C b ρ' st
        | none => .bad)) s.same s.items ρ st) st
  | .ret e, ρ, st => (evE C e ρ st).bind fun x st => .ok (.ret x, ρ) st
  | .retN, ρ, st => .ok (.ret .non, ρ) st
  | .brk, ρ, st => .ok (.brk, ρ) st
  | .cont, ρ, st => .ok (.cont, ρ) st
  | .pass, ρ, st => .ok (.next, ρ) st
def evSs (C : Ctx) : Ss → Env → Sto → R (Fl × Env)
  | .nil, ρ, st => .ok (.next, ρ) st
  | .cons s r, ρ, st => (evS C s ρ st).bind fun f st => (match f.1 with
    | .next => evSs C r f.2 st
    | _ => .ok f st)
end

structure FD where
  np : Nat
  ns : Nat
  body : Ss
/-- what a call leaves behind that nothing can reach is dropped -/
def gc (st : Sto) : R D → R D
  | .ok d st' => if D.flat d = true ∧ st'.take st.length = st then .ok d st else .ok d st'
  | r => r
def retOf : R (Fl × Env) → R D
  | .ok (.ret d, _) st => .ok d st
  | .ok (.next, _) st => .ok .non st
  | .ok _ _ => .bad
  | .exc c fs st => .exc c fs st
  | .bad => .bad
def run (T : Nat → Option FD) (G : Nat → Option D) : Nat → Nat → List D → Sto → R D
  | 0, _, _, _ => .bad
  | k + 1, f, args, st => match T f with
    | none => .bad
    | some fd => if args.length = fd.np ∧ fd.np ≤ fd.ns then
        gc st (retOf (evSs ⟨run T G k, G⟩ fd.body (args.map some ++ List.replicate (fd.ns - fd.np) none) st))
      else .bad
end MP

set_option Elab.async false
set_option linter.all false
set_option maxRecDepth 100000
/-! MP: from the kit's trees to MP's. -/
namespace MP
open PySem

/-- where one translates: the def's names by slot, the scope that runs, the module's defs, constants, the built-ins' names that are free -/
structure TC where
  N : List Str
  sc : Scope
  fns : List Str
  gls : List Str
  nb : List Str
def okName (x : Str) : Bool := !(x == ("__debug__" : Str)) && !(x == ("__classdict__" : Str))
def ixOf (x : Str) : List Str → Option Nat
  | [] => none
  | y :: r => if y = x then some 0 else (ixOf x r).map (· + 1)
def TC.slot (T : TC) (x : Str) : Option Nat := if okName x = true then (match T.sc.names.lookup x with
  | some .local => ixOf x T.N
  | some .cell => ixOf x T.N
  | some .free => ixOf x T.N
  | _ => none) else none
/-- a name that may be stored -/
def TC.tslot (T : TC) (x : Str) : Option Nat := if okName x = true then (match T.sc.names.lookup x with
  | some .local => ixOf x T.N
  | some .cell => ixOf x T.N
  | _ => none) else none
def TC.isGl (T : TC) (x : Str) : Bool := okName x && decide (T.sc.names.lookup x = some .globalImplicit)
/-- a built-in's name -/
def TC.isNb (T : TC) (x : Str) : Bool := T.isGl x && decide (x ∈ T.nb)
def trName (T : TC) (x : Str) : Option E := match T.slot x with
  | some i => some (.var i)
  | none => if T.isGl x then (ixOf x T.gls).map .glob else none
def trConst : Const → Option E
  | .none => some (.con .non)
  | .bool b => some (.con (.bl b))
  | .int i => some (.con (.int i))
  | .str s => some (.con (.str s))
  | _ => none
def trBop : Operator → Option Op2
  | .Add => some .add
  | .Sub => some .sub
  | .Mult => some .mul
  | .FloorDiv => some .fdiv
  | .Mod => some .mod
  | .Pow => some .pow
  | _ => none
def trCop : CmpOp → Op2
  | .Eq => .eq
  | .NotEq => .ne
  | .Lt => .lt
  | .LtE => .le
  | .Gt => .gt
  | .GtE => .ge
  | .Is => .is_
  | .IsNot => .isnot
  | .In => .in_
  | .NotIn => .notin
def isSlice : Expr → Bool
  | .Slice _ _ _ _ => true
  | _ => false
/-- an expression that gives a new list -/
def isQ : Expr → Bool
  | .List _ _ => true
  | .ListComp _ _ _ _ => true
  | .Call (.Name f _) _ [] _ => decide (f = ("sorted" : Str)) || decide (f = ("list" : Str))
  | .Subscript _ (.Slice none none (some _) _) _ => true
  | _ => false
def trTy (x : Str) : Option Ty :=
  if x = ("int" : Str) then some .int else if x = ("bool" : Str) then some .bool else if x = ("str" : Str) then some .str else if x = ("tuple" : Str) then some .tuple
  else if x = ("list" : Str) then some .list else if x = ("dict" : Str) then some .dict else none
def trTg (T : TC) : Expr → Option Tg
  | .Name x _ => (T.tslot x).map .name
  | .Tuple es _ _ => (go es).map .tup
  | _ => none
where go : List Expr → Option (List Nat)
  | [] => some []
  | .Name x _ :: r => (T.tslot x).bind fun i => (go r).map fun is => i :: is
  | _ => none
/-- the names of a comprehension's block that are its own: with their slots -/
def ownOf (T : TC) (scope : Scope) : List (Str × Nat) := scope.names.filterMap fun y => match y.2 with
  | .local => (ixOf y.1 T.N).map fun i => (y.1, i)
  | .cell => (ixOf y.1 T.N).map fun i => (y.1, i)
  | _ => none
def isSet : Expr → Bool
  | .Set _ _ _ => true
  | _ => false
def isB (f : Str) (n : String) : Bool := decide (f = Str.ofString n)
/-- the slots of a target are among these -/
def tgIn : Tg → List Nat → Bool
  | .name i, own => decide (i ∈ own)
  | .tup is, own => is.all fun i => decide (i ∈ own)
def mkE (q : Q) : Option E := if q.fresh = true then some (.ofQ q) else none
def mkI (q : Q) : Option It := if q.fresh = true then some (.ofQ q) else none
def mkL (q : Q) : Option Q := if q.isL = true then some q else none
def mkF (q : Q) : Option Q := if q.fresh = true then some q else none
def isCall0 : Expr → Bool
  | .Call (.Name _ _) [] [] _ => true
  | _ => false
mutual
def trE : Nat → TC → Expr → Option E
  | 0, _, _ => none
  | n + 1, T, e => match e with
    | .Name x _ => trName T x
    | .Constant c _ _ => trConst c
    | .BinOp a op b _ => (trBop op).bind fun o => (trE n T a).bind fun A => (trE n T b).map fun B => .op2 o A B
    | .UnaryOp .USub a _ => (trE n T a).map fun A => .op1 .neg A
    | .UnaryOp .Not a _ => (trE n T a).map fun A => .not A
    | .BoolOp op vs pos => (match op, vs with
      | _, [] => none
      | _, [a] => trE n T a
      | .And, a :: b :: r => (trE n T a).bind fun A => (trE n T (.BoolOp .And (b :: r) pos)).map fun B => .and A B
      | .Or, a :: b :: r => (trE n T a).bind fun A => (trE n T (.BoolOp .Or (b :: r) pos)).map fun B => .or A B)
    | .Compare a ops bs _ => trCmp n T a ops bs
    | .IfExp c a b _ => (trC n T c).bind fun C => (trE n T a).bind fun A => (trE n T b).map fun B => .ite C A B
    | .Tuple es _ _ => (trEs n T es).map fun L => .tup L
    | .List es pos => (trQ n T (.List es pos)).bind mkE
    | .ListComp a b c d => (trQ n T (.ListComp a b c d)).bind mkE
    | .Dict [] [] _ => some .dnew
    | .Dict ks vs _ => if ks.length ≤ 15 then (trPs n T ks vs).map .ddisp else none
    | .Subscript a i pos => if isQ (.Subscript a i pos) = true then (trQ n T (.Subscript a i pos)).bind mkE else (match i with
      | .Slice (some lo) (some hi) none _ => (trE n T a).bind fun A => (trE n T lo).bind fun L => (trE n T hi).map fun R => .op3 .slice A L R
      | .Slice (some lo) none none _ => (trE n T a).bind fun A => (trE n T lo).map fun L => .op2 .slFrom A L
      | .Slice none (some hi) none _ => (trE n T a).bind fun A => (trE n T hi).map fun R => .op2 .slTo A R
      | .Slice none none none _ => (trE n T a).map fun A => .op1 .slAll A
      | .Slice _ _ (some _) _ => none
      | _ => (trE n T a).bind fun A => (trE n T i).map fun I => .op2 .idx A I)
    | .Call (.Name f p) args [] pos => (match ixOf f T.fns with
      | some g => if T.isGl f then (trEs n T args).map fun L => .call g L else none
      | none => if T.isNb f then
          (if isQ (.Call (.Name f p) args [] pos) = true then (trQ n T (.Call (.Name f p) args [] pos)).bind mkE
          else trB n T f args) else none)
    | .Call (.Attribute o m ap) args [] pos => if ap.endLine == pos.line && !isCall0 o then trM n T o m args else none
    | _ => none
/-- a comparison -/
def trCmp : Nat → TC → Expr → List CmpOp → List Expr → Option E
  | 0, _, _, _, _ => none
  | n + 1, T, a, [op], [b] => if behindInMarks op b = true then none else
        if (isQ a && isQ b) = true then (match op with
          | .Eq => ((trQ n T a).bind mkF).bind fun A => ((trQ n T b).bind mkF).map fun B => .eqQ false A B
          | .NotEq => ((trQ n T a).bind mkF).bind fun A => ((trQ n T b).bind mkF).map fun B => .eqQ true A B
          | _ => none)
        else (trE n T a).bind fun A => (trE n T b).map fun B => .op2 (trCop op) A B
  | n + 1, T, a, [o1, o2], [b, c] => if lastMarks [o1, o2] [b, c] = true then none else (trE n T a).bind fun A => (trE n T b).bind fun B => (trE n T c).map fun C => .chain (trCop o1) (trCop o2) A B C
  | _, _, _, _, _ => none
def trEs : Nat → TC → List Expr → Option Es
  | 0, _, _ => none
  | _ + 1, _, [] => some .nil
  | n + 1, T, e :: r => (trE n T e).bind fun A => (trEs n T r).map fun R => .cons A R
/-- a display's keys and values, by turns -/
def trPs : Nat → TC → List (Option Expr) → List Expr → Option Es
  | 0, _, _, _ => none
  | _ + 1, _, [], [] => some .nil
  | n + 1, T, some k :: ks, v :: vs => (trE n T k).bind fun K => (trE n T v).bind fun V => (trPs n T ks vs).map fun R => .cons K (.cons V R)
  | _, _, _, _ => none
/-- a call of a built-in -/
def trB : Nat → TC → Str → List Expr → Option E
  | 0, _, _, _ => none
  | n + 1, T, f, args => match args with
    | [a] => if isB f "len" then (if isQ a = true then (trQ n T a).map fun A => .fold .len A else (trE n T a).map fun A => .op1 .len A)
      else if isB f "abs" then (trE n T a).map fun A => .op1 .abs A
      else if isB f "int" then (trE n T a).map fun A => .op1 .int_ A
      else if isB f "tuple" then (trQ n T a).map fun A => .fold .tuple A
      else if isB f "all" then (trL n T a).map fun A => .fold .all A
      else if isB f "any" then (trL n T a).map fun A => .fold .any A
      else if isB f "sum" then (trL n T a).map fun A => .fold .sum A
      else if isB f "dict" then (if isQ a = true then ((trQ n T a).bind mkF).map fun A => .fold .dict A else (trE n T a).map fun A => .op1 .dcopy A)
      else none
    | [a, b] => if isB f "isinstance" then (match b with
        | .Name t _ => if T.isNb t then (trTy t).bind fun t => (trE n T a).map fun A => .isi A t else none
        | _ => none)
      else if isB f "max" then (trE n T a).bind fun A => (trE n T b).map fun B => .op2 .max_ A B
      else if isB f "min" then (trE n T a).bind fun A => (trE n T b).map fun B => .op2 .min_ A B
      else none
    | _ => none
/-- a call of a method -/
def trM : Nat → TC → Expr → Str → List Expr → Option E
  | 0, _, _, _, _ => none
  | n + 1, T, o, m, args => match args with
    | [] => if isB m "pop" then (trE n T o).map fun O => .op1 .pop O else none
    | [a] => if isB m "append" then (trE n T o).bind fun O => (trE n T a).map fun A => .mt2 .append O A
      else if isB m "get" then (trE n T o).bind fun O => (trE n T a).map fun A => .mt2 .get O A
      else none
    | _ => none
def trC : Nat → TC → Expr → Option Cd
  | 0, _, _ => none
  | n + 1, T, e => match e with
    | .UnaryOp .Not a _ => (trC n T a).map .not
    | .BoolOp op vs pos => (match op, vs with
      | _, [] => none
      | _, [a] => trC n T a
      | .And, a :: b :: r => (trC n T a).bind fun A => (trC n T (.BoolOp .And (b :: r) pos)).map fun B => .and A B
      | .Or, a :: b :: r => (trC n T a).bind fun A => (trC n T (.BoolOp .Or (b :: r) pos)).map fun B => .or A B)
    | .Compare a ops bs _ => (trCmp n T a ops bs).map .ofE
    | .Name a b => (trE n T (.Name a b)).map .ofE
    | .Call a b c d => (trE n T (.Call a b c d)).map .ofE
    | .Subscript a b c => (trE n T (.Subscript a b c)).map .ofE
    | .Attribute a b c => (trE n T (.Attribute a b c)).map .ofE
    | _ => none
def trQ : Nat → TC → Expr → Option Q
  | 0, _, _ => none
  | n + 1, T, e => match e with
    | .List es _ => (trEs n T es).map .disp
    | .ListComp elt [⟨tg, iter, ifs, 0⟩] scope _ =>
      let own := ownOf T scope
      let T' : TC := { T with sc := L2.relS scope T.sc }
      if L2.blkC T.N T.sc scope own && !isSet iter then
        (trIt n T iter).bind fun S => (trTg T' tg).bind fun G => if !(tgIn G (own.map (·.2))) then none else (match ifs with
          | [] => (trE n T' elt).map fun A => .lc A (own.map (·.2)) G S
          | [c] => (trC n T' c).bind fun C => (trE n T' elt).map fun A => .lci A (own.map (·.2)) G S C
          | _ => none)
      else none
    | .Call (.Name f p) [a] [] pos => if (isQ (.Call (.Name f p) [a] [] pos) && T.isNb f && (ixOf f T.fns).isNone) = true then
        (if isB f "sorted" then (trL n T a).map .sorted else if isB f "list" then (trQ n T a).map .list else none)
      else (trE n T (.Call (.Name f p) [a] [] pos)).map .ofE
    | .Subscript a (.Slice none none (some (.UnaryOp .USub (.Constant (.int 1) _ _) _)) _) _ => (trL n T a).map .rev
    | e => if isQ e = true then none else (trE n T e).map .ofE
/-- a list -/
def trL : Nat → TC → Expr → Option Q
  | 0, _, _ => none
  | n + 1, T, e => if isQ e = true then (trQ n T e).bind mkL else (trE n T e).map .ofL
def trIt : Nat → TC → Expr → Option It
  | 0, _, _ => none
  | n + 1, T, e => if isQ e = true then (trQ n T e).bind mkI else (match e with
    | .Call (.Name f p) args [] pos => if (isB f "range" && T.isNb f && (ixOf f T.fns).isNone) = true then (match args with
        | [a] => (trE n T a).map fun A => .rng (.cons A .nil)
        | [a, b] => (trE n T a).bind fun A => (trE n T b).map fun B => .rng (.cons A (.cons B .nil))
        | _ => none) else (trE n T (.Call (.Name f p) args [] pos)).map .ofE
    | .Name x p => (trE n T (.Name x p)).map .ofP
    | e => (trE n T e).map .ofE)
end
/-- a, b = x, y: stored by names (some []: not followed) -/
def parOf (sc : Scope) (ts vs : List Expr) : Option (List Str) :=
  if (!(ts.length == 2 || ts.length == 3) || vs.length != ts.length || false) = true then none else
  if (vs.any fun | .Starred .. => true | _ => false) = true then none else
  let line := (ts.head?.map (·.pos.line)).getD 0
  let names := ts.filterMap fun
    | .Name id pos => if sc.names.lookup id == some .local && pos.line == line then some id else none
    | _ => none
  if (names.length != ts.length || names.eraseDups.length != names.length) = true then none else
  if vs.all (foldedForSure 8) = true then none else
  if vs.all (constantsAlone 8) = true then some [] else some names
def parT (T : TC) (ts : List Expr) : Expr → Option (List Str)
  | .Tuple vs _ _ => parOf T.sc ts vs
  | _ => none
def isComp : Expr → Bool
  | .ListComp _ _ _ _ => true
  | .SetComp _ _ _ _ => true
  | .DictComp _ _ _ _ _ => true
  | _ => false
mutual
def trS : Nat → TC → Stmt → Option S
  | 0, _, _ => none
  | n + 1, T, s => match s with
    | .Expr e _ => if isComp e then none else (trE n T e).map .exp
    | .Return (some e) _ => (trE n T e).map .ret
    | .Return none _ => some .retN
    | .Pass _ => some .pass
    | .Break _ => some .brk
    | .Continue _ => some .cont
    | .Assign [tg] v _ => (match tg with
      | .Name x p => (T.tslot x).bind fun i => (trE n T v).map fun V => .asg (.name i) V
      | .Tuple ts k p => if isComp v then none else (match parT T ts v with
        | none => (trTg T (.Tuple ts k p)).bind fun G => (trE n T v).map fun V => .asg G V
        | some names => (match ts, v with
          | [.Name x _, .Name y _], .Tuple [a, b] _ _ => if names = [x, y] then (ixOf x T.N).bind fun i => (ixOf y T.N).bind fun j => if i = j then none else (trEs n T [a, b]).map fun V => .par [i, j] V else none
          | _, _ => none))
      | .Subscript o i _ => if isSlice i then none else (trE n T o).bind fun O => (trE n T i).bind fun I => (trE n T v).map fun V => .setIx O I V
      | _ => none)
    | .AugAssign (.Name x _) op e _ => (T.tslot x).bind fun i => (match op with
      | .Add => if isQ e = true then ((trQ n T e).bind mkF).map fun A => .ext i A else (trE n T e).map fun A => .aug i .add A
      | .Sub => (trE n T e).map fun A => .aug i .sub A
      | .Mult => (trE n T e).map fun A => .aug i .mul A
      | _ => none)
    | .If c a b _ => (trC n T c).bind fun C => (trSs n T a).bind fun A => (trSs n T b).map fun B => .ite C A B
    | .While c b [] _ => (trC n T c).bind fun C => (trSs n T b).map fun B => .while C B
    | .For tg iter b [] _ => if isSet iter then none else (trIt n T iter).bind fun I => (trTg T tg).bind fun G => (trSs n T b).map fun B => .for G I B
    | _ => none
def trSs : Nat → TC → List Stmt → Option Ss
  | 0, _, _ => none
  | _ + 1, _, [] => some .nil
  | n + 1, T, s :: r => (trS n T s).bind fun A => (trSs n T r).map fun R => .cons A R
end
end MP

set_option Elab.async false
set_option linter.all false
set_option maxRecDepth 100000
/-! MP: what a value of MP is in the model's abstract heap; readings made of MP's evaluator. -/
namespace MP
open PySem PySem.Spec L2
open PyProof.Rows hiding St

/-- the program's fixed things -/
structure Wd where
  K : PySem.W.Frag
  fa : Nat → Option Addr
  ca : Nat → Option Addr

/-- a list that nobody changes -/
def SqC (K : PySem.W.Frag) (H : Hp) (a : Addr) (xs : List V) : Prop :=
  (∃ o, H a = some (.frz o (.lst xs))) ∨
    ∃ (o : Obj) (its : Array Value) (n : Nat), K.lookup a = some o ∧ o.cls = .type "list" ∧ o.dict = none ∧ o.data = .seq its n ∧ its.size ≤ sizeLine ∧ Vals xs its.toList
theorem SqC.sqL {K : PySem.W.Frag} {H : Hp} {a : Addr} {xs : List V} (h : SqC K H a xs) : SqL K H a xs := by
  rcases h with ⟨o, h⟩ | h
  · exact .inl (.inr ⟨o, h⟩)
  · exact .inr h
mutual
inductive Rep (Z : Wd) (H : Hp) (μ : List Addr) : V → D → Prop
  | non : Rep Z H μ .non .non
  | bl (b : Bool) : Rep Z H μ (.bl b) (.bl b)
  | int (i : Int) : Rep Z H μ (.int i) (.int i)
  | str (s : Str) : Rep Z H μ (.str s) (.str s)
  | tup {a : Addr} {xs : List V} {ds : List D} : SqT Z.K H a xs → RepL Z H μ xs ds → Rep Z H μ (.ref a) (.tup ds)
  | cl {a : Addr} {xs : List V} {ds : List D} : SqC Z.K H a xs → RepL Z H μ xs ds → Rep Z H μ (.ref a) (.cl ds)
  | ref {n : Nat} {a : Addr} : μ[n]? = some a → Rep Z H μ (.ref a) (.ref n)
  | fn {f : Nat} {a : Addr} : Z.fa f = some a → Rep Z H μ (.ref a) (.fn f)
  | kls {c : Nat} {a : Addr} : Z.ca c = some a → Rep Z H μ (.ref a) (.kls c)
inductive RepL (Z : Wd) (H : Hp) (μ : List Addr) : List V → List D → Prop
  | nil : RepL Z H μ [] []
  | cons {v : V} {d : D} {vs : List V} {ds : List D} : Rep Z H μ v d → RepL Z H μ vs ds → RepL Z H μ (v :: vs) (d :: ds)
end

/-- no tuple, no locked list stands there -/
def NoTup (H : Hp) (a : Addr) : Prop := (∀ xs, ¬ Rd H a (.tup xs)) ∧ ∀ o xs, H a ≠ some (.frz o (.lst xs))
/-- keys and values of a flat dict -/
inductive RepKF (Z : Wd) (H : Hp) (μ : List Addr) : List (Key × V) → List (D × D) → Prop
  | nil : RepKF Z H μ [] []
  | cons {k : Key} {v : V} {d e : D} {r : List (Key × V)} {s : List (D × D)} : fkey d = some k → Rep Z H μ v e → RepKF Z H μ r s → RepKF Z H μ ((k, v) :: r) ((d, e) :: s)
/-- .. of a dict whose keys are tuples: the key, where its tuple stands, the value -/
inductive RepKN (Z : Wd) (H : Hp) (μ : List Addr) : List (NestedKey × Addr × V) → List (D × D) → Prop
  | nil : RepKN Z H μ [] []
  | cons {k : NestedKey} {a : Addr} {v : V} {d e : D} {r : List (NestedKey × Addr × V)} {s : List (D × D)} : dkey d = some (.n k) → Rep Z H μ (.ref a) d → Rep Z H μ v e → RepKN Z H μ r s → RepKN Z H μ ((k, a, v) :: r) ((d, e) :: s)
/-- the one object of a dict with tuple keys -/
def KeyedObj (P : Program) (w : World) (a : Addr) (xs : List (NestedKey × Addr × V)) (h : Heap) : Prop :=
  xs.length ≤ sizeLine ∧ (a == sysModules) = false ∧ (xs.map (·.1)).Nodup ∧ ∃ ys : List (NestedKey × Addr × Value), Paired (fun (p : NestedKey × Addr × V) (q : NestedKey × Addr × Value) => p.1 = q.1 ∧ p.2.1 = q.2.1 ∧ RelV p.2.2 q.2.2) xs ys ∧
    ∃ o es ep, h.get? a = some o ∧ o.ExactDict ∧ o.data = .dict es ep ∧ es.toList = ys.map (entryOfKey (nestedKind P w))
def keyedHO (P : Program) (w : World) (a : Addr) (xs : List (NestedKey × Addr × V)) : HO := .ext (KeyedObj P w a xs)
def RepDct (P : Program) (w : World) (Z : Wd) (H : Hp) (μ : List Addr) (a : Addr) (kvs : List (D × D)) (u : HO) : Prop :=
  (∃ es, u = .dK es ∧ RepKF Z H μ es kvs) ∨ (∃ es, u = keyedHO P w a es ∧ es ≠ [] ∧ RepKN Z H μ es kvs)
def RepO (P : Program) (w : World) (Z : Wd) (H : Hp) (μ : List Addr) (a : Addr) : Ob → Prop
  | .lst ds => ∃ xs, H a = some (.lst xs) ∧ RepL Z H μ xs ds
  | .dct kvs => ∃ u, H a = some u ∧ RepDct P w Z H μ a kvs u
  | .fdct kvs => ∃ o u, H a = some (.frz o u) ∧ RepDct P w Z H μ a kvs u
  | .ins _ _ => False
structure SRep (P : Program) (w : World) (Z : Wd) (H : Hp) (μ : List Addr) (st : Sto) : Prop where
  len : μ.length = st.length
  nd : μ.Nodup
  ob : ∀ (n : Nat) (o : Ob) (a : Addr), st[n]? = some o → μ[n]? = some a → RepO P w Z H μ a o
structure Ev (H : Hp) (μ : List Addr) (H' : Hp) (μ' : List Addr) : Prop where
  pre : ∃ ν, μ' = μ ++ ν ∧ ∀ a ∈ ν, a ∉ μ ∧ H a = none
  keep : ∀ a o, a ∉ μ → H a = some o → H' a = some o
  fz : ∀ a o u, H a = some (.frz o u) → H' a = some (.frz o u)

section
variable {P : Program} {w : World} {Z : Wd} {W : XK} {H H' H1 H2 : Hp} {μ μ' μ1 μ2 : List Addr} {st : Sto}
theorem Ev.refl : Ev H μ H μ := ⟨⟨[], by simp, by simp⟩, fun _ _ _ h => h, fun _ _ _ h => h⟩
theorem Ev.trans (a : Ev H μ H1 μ1) (b : Ev H1 μ1 H2 μ2) : Ev H μ H2 μ2 := by
  obtain ⟨⟨ν, e, f⟩, k, z⟩ := a
  obtain ⟨⟨ν', e', f'⟩, k', z'⟩ := b
  subst e; subst e'
  have back : ∀ x, x ∉ μ → H1 x = none → H x = none := fun x hx hn => by
    cases q : H x with
    | none => rfl
    | some o => rw [k x o hx q] at hn; cases hn
  refine ⟨⟨ν ++ ν', by simp, fun x hx => ?_⟩, fun x o hx h => ?_, fun x o u h => z' x o u (z x o u h)⟩
  · rcases List.mem_append.mp hx with hx | hx
    · exact f x hx
    · obtain ⟨n1, n2⟩ := f' x hx
      have n3 : x ∉ μ := fun q => n1 (List.mem_append_left _ q)
      exact ⟨n3, back x n3 n2⟩
  · have h1 := k x o hx h
    refine k' x o (fun hm => ?_) h1
    rcases List.mem_append.mp hm with hm | hm
    · exact hx hm
    · rw [(f x hm).2] at h; cases h
/-- a tuple stays -/
theorem Ev.sqT (e : Ev H μ H' μ') (nt : ∀ a ∈ μ, NoTup H a) {a : Addr} {xs : List V} (h : SqT Z.K H a xs) : SqT Z.K H' a xs := by
  rcases h with h | h
  · have ha : a ∉ μ := fun q => (nt a q).1 xs h
    rcases h with h | ⟨o, h⟩
    · exact .inl (.inl (e.keep a _ ha h))
    · exact .inl (.inr ⟨o, e.keep a _ ha h⟩)
  · exact .inr h
theorem Ev.sqC (e : Ev H μ H' μ') (nt : ∀ a ∈ μ, NoTup H a) {a : Addr} {xs : List V} (h : SqC Z.K H a xs) : SqC Z.K H' a xs := by
  rcases h with ⟨o, h⟩ | h
  · exact .inl ⟨o, e.keep a _ (fun q => (nt a q).2 o xs h) h⟩
  · exact .inr h
theorem Ev.at (e : Ev H μ H' μ') {n : Nat} {a : Addr} (h : μ[n]? = some a) : μ'[n]? = some a := by
  obtain ⟨⟨ν, q, _⟩, _⟩ := e
  subst q
  rw [List.getElem?_append_left (List.getElem?_eq_some_iff.mp h).1]
  exact h
mutual
theorem Rep.mono (e : Ev H μ H' μ') (nt : ∀ a ∈ μ, NoTup H a) : ∀ {v : V} {d : D}, Rep Z H μ v d → Rep Z H' μ' v d
  | _, _, .non => .non
  | _, _, .bl b => .bl b
  | _, _, .int b => .int b
  | _, _, .str b => .str b
  | _, _, .tup h r => .tup (e.sqT nt h) (RepL.mono e nt r)
  | _, _, .cl h r => .cl (e.sqC nt h) (RepL.mono e nt r)
  | _, _, .ref h => .ref (e.at h)
  | _, _, .fn h => .fn h
  | _, _, .kls h => .kls h
theorem RepL.mono (e : Ev H μ H' μ') (nt : ∀ a ∈ μ, NoTup H a) : ∀ {v : List V} {d : List D}, RepL Z H μ v d → RepL Z H' μ' v d
  | _, _, .nil => .nil
  | _, _, .cons h r => .cons (Rep.mono e nt h) (RepL.mono e nt r)
end
theorem RepKF.mono (e : Ev H μ H' μ') (nt : ∀ a ∈ μ, NoTup H a) : ∀ {v : List (Key × V)} {d : List (D × D)}, RepKF Z H μ v d → RepKF Z H' μ' v d
  | _, _, .nil => .nil
  | _, _, .cons k h r => .cons k (h.mono e nt) (RepKF.mono e nt r)
theorem RepKN.mono (e : Ev H μ H' μ') (nt : ∀ a ∈ μ, NoTup H a) : ∀ {v : List (NestedKey × Addr × V)} {d : List (D × D)}, RepKN Z H μ v d → RepKN Z H' μ' v d
  | _, _, .nil => .nil
  | _, _, .cons k g h r => .cons k (g.mono e nt) (h.mono e nt) (RepKN.mono e nt r)
theorem RepL.length : ∀ {v : List V} {d : List D}, RepL Z H μ v d → v.length = d.length
  | _, _, .nil => rfl
  | _, _, .cons _ r => by simp [RepL.length r]
theorem RepL.get : ∀ {v : List V} {d : List D} {i : Nat} {x : D}, RepL Z H μ v d → d[i]? = some x → ∃ y, v[i]? = some y ∧ Rep Z H μ y x
  | _, _, _, _, .nil, h => by simp at h
  | _, _, 0, _, .cons r _, h => by simp at h; subst h; exact ⟨_, rfl, r⟩
  | _, _, i + 1, _, .cons _ t, h => by simpa using RepL.get (i := i) t (by simpa using h)
theorem RepL.get' : ∀ {v : List V} {d : List D} {i : Nat} {y : V}, RepL Z H μ v d → v[i]? = some y → ∃ x, d[i]? = some x ∧ Rep Z H μ y x
  | _, _, _, _, .nil, h => by simp at h
  | _, _, 0, _, .cons r _, h => by simp at h; subst h; exact ⟨_, rfl, r⟩
  | _, _, i + 1, _, .cons _ t, h => by simpa using RepL.get' (i := i) t (by simpa using h)
theorem RepL.append : ∀ {v w : List V} {d e : List D}, RepL Z H μ v d → RepL Z H μ w e → RepL Z H μ (v ++ w) (d ++ e)
  | _, _, _, _, .nil, s => s
  | _, _, _, _, .cons r t, s => .cons r (RepL.append t s)
theorem RepL.snoc {v : List V} {d : List D} {x : V} {y : D} (h : RepL Z H μ v d) (r : Rep Z H μ x y) : RepL Z H μ (v ++ [x]) (d ++ [y]) := h.append (.cons r .nil)
theorem RepL.drop : ∀ {v : List V} {d : List D} (n : Nat), RepL Z H μ v d → RepL Z H μ (v.drop n) (d.drop n)
  | _, _, 0, h => h
  | _, _, _ + 1, .nil => .nil
  | _, _, n + 1, .cons _ t => RepL.drop n t
theorem RepL.take : ∀ {v : List V} {d : List D} (n : Nat), RepL Z H μ v d → RepL Z H μ (v.take n) (d.take n)
  | _, _, 0, _ => .nil
  | _, _, _ + 1, .nil => .nil
  | _, _, n + 1, .cons r t => .cons r (RepL.take n t)
theorem RepL.set {x : V} {y : D} (r : Rep Z H μ x y) : ∀ {v : List V} {d : List D} (n : Nat), RepL Z H μ v d → RepL Z H μ (v.set n x) (d.set n y)
  | _, _, _, .nil => .nil
  | _, _, 0, .cons _ t => .cons r t
  | _, _, n + 1, .cons q t => .cons q (RepL.set r n t)
theorem RepL.reverse : ∀ {v : List V} {d : List D}, RepL Z H μ v d → RepL Z H μ v.reverse d.reverse
  | _, _, .nil => .nil
  | _, _, .cons r t => by simpa using (RepL.reverse t).snoc r
theorem SRep.at (s : SRep P w Z H μ st) {n : Nat} {o : Ob} (h : st[n]? = some o) : ∃ a, μ[n]? = some a ∧ RepO P w Z H μ a o := by
  have hn : n < μ.length := by rw [s.len]; exact (List.getElem?_eq_some_iff.mp h).1
  exact ⟨μ[n], by simp [hn], s.ob n o _ h (by simp [hn])⟩

theorem RepO.there {a : Addr} {o : Ob} (h : RepO P w Z H μ a o) : H a ≠ none ∧ NoTup H a := by
  have gen : ∀ u : HO, H a = some u → (∀ xs, u ≠ .tup xs) → (∀ x xs, u ≠ .frz x (.tup xs)) → (∀ x xs, u ≠ .frz x (.lst xs)) → H a ≠ none ∧ NoTup H a := by
    intro u e n1 n2 n3
    refine ⟨by rw [e]; simp, fun xs h => ?_, fun o xs h => ?_⟩
    · rcases h with h | ⟨o, h⟩
      · rw [e] at h; exact n1 xs (Option.some.inj h)
      · rw [e] at h; exact n2 o xs (Option.some.inj h)
    · rw [e] at h; exact n3 o xs (Option.some.inj h)
  cases o with
  | lst ds =>
    obtain ⟨xs, e, _⟩ := h
    exact gen _ e (by simp) (by simp) (by simp)
  | dct kvs =>
    obtain ⟨u, e, q⟩ := h
    rcases q with ⟨es, rfl, _⟩ | ⟨es, rfl, _, _⟩
    · exact gen _ e (by simp) (by simp) (by simp)
    · exact gen _ e (by simp [keyedHO]) (by simp [keyedHO]) (by simp [keyedHO])
  | fdct kvs =>
    obtain ⟨o, u, e, q⟩ := h
    rcases q with ⟨es, rfl, _⟩ | ⟨es, rfl, _, _⟩
    · exact gen _ e (by simp) (by simp) (by simp)
    · exact gen _ e (by simp) (by simp [keyedHO]) (by simp [keyedHO])
  | ins c fs => exact h.elim
theorem SRep.mem (S : SRep P w Z H μ st) {a : Addr} (h : a ∈ μ) : ∃ (n : Nat) (o : Ob), μ[n]? = some a ∧ st[n]? = some o ∧ RepO P w Z H μ a o := by
  obtain ⟨n, hn, e⟩ := List.getElem_of_mem h
  have hn' : n < st.length := by rw [← S.len]; exact hn
  have e1 : μ[n]? = Option.some a := by simp [hn, e]
  have e2 : st[n]? = Option.some st[n] := by simp [hn']
  exact ⟨n, st[n], e1, e2, S.ob n _ a e2 e1⟩
theorem SRep.nt (S : SRep P w Z H μ st) : ∀ a ∈ μ, NoTup H a := fun a h => let ⟨_, _, _, _, r⟩ := S.mem h; r.there.2
theorem SRep.fresh (S : SRep P w Z H μ st) {p : Addr} (hp : H p = none) : p ∉ μ := fun h => let ⟨_, _, _, _, r⟩ := S.mem h; r.there.1 hp
theorem RepO.mono (e : Ev H μ H' μ') (nt : ∀ a ∈ μ, NoTup H a) {a : Addr} {o : Ob} (ha : H' a = H a) (h : RepO P w Z H μ a o) : RepO P w Z H' μ' a o := by
  have dm : ∀ {kvs u}, RepDct P w Z H μ a kvs u → RepDct P w Z H' μ' a kvs u := fun q => by
    rcases q with ⟨es, rfl, r⟩ | ⟨es, rfl, ne, r⟩
    · exact .inl ⟨es, rfl, r.mono e nt⟩
    · exact .inr ⟨es, rfl, ne, r.mono e nt⟩
  cases o with
  | lst ds =>
    obtain ⟨xs, q, r⟩ := h
    exact ⟨xs, by rw [ha]; exact q, r.mono e nt⟩
  | dct kvs =>
    obtain ⟨u, q, r⟩ := h
    exact ⟨u, by rw [ha]; exact q, dm r⟩
  | fdct kvs =>
    obtain ⟨o, u, q, r⟩ := h
    exact ⟨o, u, by rw [ha]; exact q, dm r⟩
  | ins c fs => exact h
/-- nothing of the store is changed -/
theorem SRep.same (S : SRep P w Z H μ st) (e : Ev H μ H' μ) (hs : ∀ a ∈ μ, H' a = H a) : SRep P w Z H' μ st :=
  ⟨S.len, S.nd, fun n o a h1 h2 => (S.ob n o a h1 h2).mono e S.nt (hs a (List.mem_of_getElem? h2))⟩
/-- a new object that is no object of the store -/
theorem Ev.tmp {p : Addr} {o : HO} (hp : H p = none) : Ev H μ (upd H p o) μ := ⟨⟨[], by simp, by simp⟩, fun a u _ h => by rw [upd_ne (ne_of_none h hp)]; exact h, fun a u v h => by rw [upd_ne (ne_of_none h hp)]; exact h⟩
theorem SRep.tmp (S : SRep P w Z H μ st) {p : Addr} {o : HO} (hp : H p = none) : SRep P w Z (upd H p o) μ st :=
  S.same (Ev.tmp hp) fun a ha => upd_ne (fun e => S.fresh hp (e ▸ ha))
/-- .. one of the store -/
theorem Ev.new {p : Addr} {o : HO} (S : SRep P w Z H μ st) (hp : H p = none) : Ev H μ (upd H p o) (μ ++ [p]) := ⟨⟨[p], rfl, fun a ha => by
  rw [List.mem_singleton] at ha; subst ha; exact ⟨S.fresh hp, hp⟩⟩, fun a u _ h => by rw [upd_ne (ne_of_none h hp)]; exact h, fun a u v h => by rw [upd_ne (ne_of_none h hp)]; exact h⟩
theorem SRep.new (S : SRep P w Z H μ st) {p : Addr} {o : HO} {ob : Ob} (hp : H p = none) (ho : RepO P w Z (upd H p o) (μ ++ [p]) p ob) : SRep P w Z (upd H p o) (μ ++ [p]) (st ++ [ob]) := by
  have hn := S.fresh hp
  refine ⟨by simp [S.len], ?_, fun n u a h1 h2 => ?_⟩
  · rw [List.nodup_append]
    exact ⟨S.nd, by simp, fun a ha b hb => by rw [List.mem_singleton] at hb; subst hb; exact fun e => hn (e ▸ ha)⟩
  · by_cases hlt : n < st.length
    · rw [List.getElem?_append_left hlt] at h1
      rw [List.getElem?_append_left (by rw [S.len]; exact hlt)] at h2
      exact (S.ob n u a h1 h2).mono (Ev.new S hp) S.nt (upd_ne (fun e => hn (e ▸ List.mem_of_getElem? h2)))
    · have hb := (List.getElem?_eq_some_iff.mp h1).1
      simp only [List.length_append, List.length_singleton] at hb
      have e : n = st.length := by omega
      subst e
      rw [List.getElem?_append_right (Nat.le_refl _)] at h1
      rw [List.getElem?_append_right (by rw [S.len]; exact Nat.le_refl _)] at h2
      simp [S.len] at h1 h2
      subst h1; subst h2
      exact ho
/-- what stands there may be changed -/
def NoFrz (H : Hp) (a : Addr) : Prop := ∀ o u, H a ≠ some (.frz o u)
theorem NoFrz.of {a : Addr} {u : HO} (h : H a = some u) (n : ∀ o v, u ≠ .frz o v) : NoFrz H a := fun o v e => by rw [h] at e; exact n o v (Option.some.inj e)
theorem Ev.write {a : Addr} {o : HO} (ha : a ∈ μ) (nf : NoFrz H a) : Ev H μ (upd H a o) μ := ⟨⟨[], by simp, by simp⟩, fun b u hb h => by rw [upd_ne (fun e => hb (by rw [e]; exact ha))]; exact h, fun b u v h => by rw [upd_ne (fun e => nf u v (by rw [← e]; exact h))]; exact h⟩
theorem SRep.write (S : SRep P w Z H μ st) {n : Nat} {a : Addr} {o : HO} {ob : Ob} (hm : μ[n]? = some a) (nf : NoFrz H a) (ho : RepO P w Z (upd H a o) μ a ob) : SRep P w Z (upd H a o) μ (st.set n ob) := by
  have ha := List.mem_of_getElem? hm
  refine ⟨by simp [S.len], S.nd, fun m u b h1 h2 => ?_⟩
  by_cases hmn : n = m
  · subst hmn
    rw [hm] at h2; cases h2
    have hlt : n < st.length := by have := (List.getElem?_eq_some_iff.mp h1).1; simpa using this
    rw [List.getElem?_set_self hlt] at h1
    cases h1
    exact ho
  · rw [List.getElem?_set_ne hmn] at h1
    have hab : b ≠ a := by
      rintro rfl
      obtain ⟨q1, e1⟩ := List.getElem?_eq_some_iff.mp hm
      obtain ⟨q2, e2⟩ := List.getElem?_eq_some_iff.mp h2
      exact hmn ((List.getElem_inj S.nd).mp (e1.trans e2.symm))
    exact (S.ob m u b h1 h2).mono (Ev.write ha nf) S.nt (upd_ne hab)

/-! ### the readings -/
/-- the slots -/
structure ERep (Z : Wd) (H : Hp) (μ : List Addr) (σ : St) (ρ : Env) : Prop where
  len : σ.length = ρ.length
  at_ : ∀ (i : Nat) (d : D), ρ[i]? = some (some d) → ∃ v, σ[i]? = some (some v) ∧ Rep Z H μ v d
theorem ERep.mono {σ : St} {ρ : Env} (r : ERep Z H μ σ ρ) (e : Ev H μ H' μ') (nt : ∀ a ∈ μ, NoTup H a) : ERep Z H' μ' σ ρ :=
  ⟨r.len, fun i d h => let ⟨v, q, p⟩ := r.at_ i d h; ⟨v, q, p.mono e nt⟩⟩
theorem ERep.set {σ : St} {ρ : Env} {i : Nat} {v : V} {d : D} (r : ERep Z H μ σ ρ) (h : Rep Z H μ v d) : ERep Z H μ (σ.set i (some v)) (ρ.set i (some d)) := by
  refine ⟨by simp [r.len], fun j e q => ?_⟩
  by_cases hj : i = j
  · subst hj
    have hi : i < ρ.length := by
      have := (List.getElem?_eq_some_iff.mp q).1
      simpa using this
    rw [List.getElem?_set_self hi] at q
    cases q
    exact ⟨v, List.getElem?_set_self (by rw [r.len]; exact hi), h⟩
  · rw [List.getElem?_set_ne hj] at q
    obtain ⟨u, h1, h2⟩ := r.at_ j e q
    exact ⟨u, by rw [List.getElem?_set_ne hj]; exact h1, h2⟩
theorem ERep.wipe {σ : St} {ρ : Env} (r : ERep Z H μ σ ρ) : ∀ vs : List Nat, ERep Z H μ (wipe σ vs) (wipeE ρ vs)
  | [] => r
  | v :: vs => by
    have ih := ERep.wipe r vs
    refine ⟨by simp [L2.wipe, wipeE, ih.len], fun j e q => ?_⟩
    unfold wipeE at q
    unfold L2.wipe
    by_cases hj : v = j
    · subst hj
      by_cases hv : v < (wipeE ρ vs).length
      · rw [List.getElem?_set_self hv] at q; cases q
      · rw [List.getElem?_eq_none (by simpa using hv)] at q; cases q
    · rw [List.getElem?_set_ne hj] at q ⊢
      exact ih.at_ j e q

/-- an exception's own dict -/
inductive RepFs (Z : Wd) (H : Hp) (μ : List Addr) : List (Str × V) → List (Str × D) → Prop
  | nil : RepFs Z H μ [] []
  | cons {f : Str} {v : V} {d : D} {r : List (Str × V)} {s : List (Str × D)} : Rep Z H μ v d → RepFs Z H μ r s → RepFs Z H μ ((f, v) :: r) ((f, d) :: s)
def RepX (Z : Wd) (H : Hp) (μ : List Addr) (dx : Addr) (fs : List (Str × D)) : Prop := ∃ vs, H dx = some (.xd vs) ∧ RepFs Z H μ vs fs
/-- what is to hold behind an evaluation -/
def Pst (P : Program) (w : World) (Z : Wd) (W : XK) (H : Hp) (μ : List Addr) {α β : Type} (RR : Hp → List Addr → β → α → Prop) (r : R α) (Q : α → Sto → β → Hp → List Addr → Prop) : Prop :=
  match r with
  | .ok d st' => ∀ v H' μ', Ev H μ H' μ' → SRep P w Z H' μ' st' → RR H' μ' v d → Q d st' v H' μ'
  | .exc c fs st' => ∀ H' μ' C dx, Ev H μ H' μ' → SRep P w Z H' μ' st' → Z.ca c = some C → RepX Z H' μ' dx fs → W (.ref C) (some dx) H'
  | .bad => False
theorem Pst.bind {α β γ δ : Type} {RR : Hp → List Addr → β → α → Prop} {RS : Hp → List Addr → δ → γ → Prop} {r : R α} {f : α → Sto → R γ} {Q : γ → Sto → δ → Hp → List Addr → Prop}
    (h : Pst P w Z W H μ RS (r.bind f) Q) : Pst P w Z W H μ RR r fun d st v H1 μ1 => Ev H μ H1 μ1 ∧ SRep P w Z H1 μ1 st ∧ RR H1 μ1 v d ∧ Pst P w Z W H1 μ1 RS (f d st) Q := by
  cases r with
  | bad => exact h
  | exc c fs st => exact h
  | ok d st =>
    intro v H1 μ1 e s r
    refine ⟨e, s, r, ?_⟩
    have h' : Pst P w Z W H μ RS (f d st) Q := h
    unfold Pst at h' ⊢
    cases hq : f d st with
    | bad => rw [hq] at h'; exact h'
    | exc c fs s' => rw [hq] at h'; exact fun H2 μ2 C dx e2 s2 q r => h' H2 μ2 C dx (e.trans e2) s2 q r
    | ok g s' =>
      rw [hq] at h'
      exact fun u H2 μ2 e2 s2 r2 => h' u H2 μ2 (e.trans e2) s2 r2
abbrev RV (Z : Wd) : Hp → List Addr → V → D → Prop := fun H μ v d => Rep Z H μ v d
abbrev RL (Z : Wd) : Hp → List Addr → List V → List D → Prop := fun H μ v d => RepL Z H μ v d
abbrev RB : Hp → List Addr → Bool → Bool → Prop := fun _ _ a b => a = b
def tG (P : Program) (w : World) (Z : Wd) (W : XK) {α β : Type} (RR : Hp → List Addr → β → α → Prop) (f : Env → Sto → R α) : St → Hp → (β → Hp → Prop) → Prop :=
  fun σ H Q => ∃ μ ρ st, ERep Z H μ σ ρ ∧ SRep P w Z H μ st ∧ Pst P w Z W H μ RR (f ρ st) fun _ _ v H' _ => Q v H'
abbrev tE (P : Program) (w : World) (Z : Wd) (W : XK) (f : Env → Sto → R D) : TE := tG P w Z W (RV Z) f
abbrev tA (P : Program) (w : World) (Z : Wd) (W : XK) (f : Env → Sto → R (List D)) : TA := tG P w Z W (RL Z) f
abbrev tT (P : Program) (w : World) (Z : Wd) (W : XK) (f : Env → Sto → R Bool) : TT := tG P w Z W RB f
theorem Pst.mono {α β : Type} {RR : Hp → List Addr → β → α → Prop} {r : R α} {Q Q' : α → Sto → β → Hp → List Addr → Prop} (h : Pst P w Z W H μ RR r Q) (hq : ∀ d st v H' μ', Q d st v H' μ' → Q' d st v H' μ') : Pst P w Z W H μ RR r Q' := by
  cases r with
  | bad => exact h
  | exc c fs st => exact h
  | ok d st => exact fun v H' μ' e s r => hq _ _ _ _ _ (h v H' μ' e s r)
variable {α β γ δ ε ζ : Type} {RR : Hp → List Addr → β → α → Prop} {RS : Hp → List Addr → δ → γ → Prop} {RU : Hp → List Addr → ζ → ε → Prop}
/-- one evaluation, then another that knows its value -/
theorem tG_bind {A : Env → Sto → R α} {G : Env → α → Sto → R γ} {σ : St} {Q : δ → Hp → Prop} (h : tG P w Z W RS (fun ρ st => (A ρ st).bind (G ρ)) σ H Q) :
    tG P w Z W RR A σ H fun x H1 => ∃ μ ρ st d, ERep Z H1 μ σ ρ ∧ SRep P w Z H1 μ st ∧ RR H1 μ x d ∧ Pst P w Z W H1 μ RS (G ρ d st) fun _ _ v H' _ => Q v H' := by
  obtain ⟨μ, ρ, st, e, s, p⟩ := h
  exact ⟨μ, ρ, st, e, s, (Pst.bind p).mono fun d st v H' μ' q => ⟨μ', ρ, st, d, e.mono q.1 s.nt, q.2.1, q.2.2.1, q.2.2.2⟩⟩
theorem tG_1 {A : Env → Sto → R α} {G : α → Sto → R γ} {σ : St} {Q : δ → Hp → Prop} (h : tG P w Z W RS (fun ρ st => (A ρ st).bind G) σ H Q) :
    tG P w Z W RR A σ H fun x H1 => ∃ μ d st, SRep P w Z H1 μ st ∧ RR H1 μ x d ∧ Pst P w Z W H1 μ RS (G d st) fun _ _ v H' _ => Q v H' := by
  obtain ⟨μ, ρ, st, e, s, p⟩ := h
  exact ⟨μ, ρ, st, e, s, (Pst.bind p).mono fun d st v H' μ' q => ⟨μ', d, st, q.2.1, q.2.2.1, q.2.2.2⟩⟩
/-- what stays true as the heap grows -/
def Sta (RR : Hp → List Addr → β → α → Prop) : Prop := ∀ (H H' : Hp) (μ μ' : List Addr) (v : β) (d : α), Ev H μ H' μ' → (∀ a ∈ μ, NoTup H a) → RR H μ v d → RR H' μ' v d
theorem sta_V : Sta (RV Z) := fun _ _ _ _ _ _ e n r => Rep.mono e n r
theorem sta_L : Sta (RL Z) := fun _ _ _ _ _ _ e n r => RepL.mono e n r
theorem tG_2 (hs : Sta RR) {A : Env → Sto → R α} {B : Env → Sto → R ε} {G : α → ε → Sto → R γ} {σ : St} {Q : δ → Hp → Prop} (h : tG P w Z W RS (fun ρ st => (A ρ st).bind fun x st => (B ρ st).bind fun y st => G x y st) σ H Q) :
    tG P w Z W RR A σ H fun x H1 => tG P w Z W RU B σ H1 fun y H2 => ∃ μ d1 d2 st, SRep P w Z H2 μ st ∧ RR H2 μ x d1 ∧ RU H2 μ y d2 ∧ Pst P w Z W H2 μ RS (G d1 d2 st) fun _ _ v H' _ => Q v H' := by
  obtain ⟨μ, ρ, st, e, s, p⟩ := h
  refine ⟨μ, ρ, st, e, s, (Pst.bind p).mono fun d1 st1 v1 H1 μ1 q => ?_⟩
  obtain ⟨v1', s1, r1, p1⟩ := q
  exact ⟨μ1, ρ, st1, e.mono v1' s.nt, s1, (Pst.bind p1).mono fun d2 st2 v2 H2 μ2 q => ⟨μ2, d1, d2, st2, q.2.1, hs _ _ _ _ _ _ q.1 s1.nt r1, q.2.2.1, q.2.2.2⟩⟩
end
theorem _root_.L2.PE.imp {X : Cx} {e : Expr} {t t' : TE} (h : PE X e t) (hi : ∀ σ H Q, t' σ H Q → t σ H Q) : PE X e t' := ⟨fun pins s σ H Q I q => h.run pins s σ H Q I (hi σ H Q q)⟩
theorem _root_.L2.PT.imp {X : Cx} {e : Expr} {t t' : TT} (h : PT X e t) (hi : ∀ σ H Q, t' σ H Q → t σ H Q) : PT X e t' := ⟨fun pins s σ H Q I q => h.run pins s σ H Q I (hi σ H Q q)⟩
theorem _root_.L2.PW.imp {X : Cx} {e : Expr} {t t' : TT} (h : PW X e t) (hi : ∀ σ H Q, t' σ H Q → t σ H Q) : PW X e t' := ⟨fun wh pins s σ H Q I q => h.run wh pins s σ H Q I (hi σ H Q q)⟩
theorem _root_.L2.PA.imp {X : Cx} {e : List Expr} {t t' : TA} (h : PA X e t) (hi : ∀ σ H Q, t' σ H Q → t σ H Q) : PA X e t' := ⟨fun pos pins s σ H Q I q => h.run pos pins s σ H Q I (hi σ H Q q)⟩
theorem _root_.L2.PS.imp {X : Cx} {e : Stmt} {t t' : TS} (h : PS X e t) (hi : ∀ D σ H, t' D σ H → t D σ H) : PS X e t' := ⟨fun pins s σ H D I q => h.run pins s σ H D I (hi D σ H q)⟩
theorem _root_.L2.PSs.imp {X : Cx} {e : List Stmt} {t t' : TS} (h : PSs X e t) (hi : ∀ D σ H, t' D σ H → t D σ H) : PSs X e t' := ⟨fun pins s σ H D I q => h.run pins s σ H D I (hi D σ H q)⟩
end MP

set_option Elab.async false
set_option linter.all false
set_option maxRecDepth 100000
set_option maxHeartbeats 4000000
/-! MP: the operations on two values are sound. -/
namespace MP
open PySem PySem.Spec L2
open PyProof.Rows hiding St

theorem LINE_eq : LINE = sizeLine := by decide

section
variable {Z : Wd} {H : Hp} {μ : List Addr}
mutual
theorem Rep.dp : ∀ {v : V} {d : D}, Rep Z H μ v d → d.flat = true → Dp Z.K H v d.py
  | _, _, .non, _ => by simp only [D.py]; exact .non
  | _, _, .bl b, _ => by simp only [D.py]; exact .bl b
  | _, _, .int b, _ => by simp only [D.py]; exact .int b
  | _, _, .str b, _ => by simp only [D.py]; exact .str b
  | _, _, .tup h r, f => by
    simp only [D.py]
    exact .tup h (RepL.dp r (by simpa [D.flat] using f))
  | _, _, .cl h r, f => by
    simp only [D.py]
    exact .lst h.sqL (RepL.dp r (by simpa [D.flat] using f))
  | _, _, .ref h, f => by simp [D.flat] at f
  | _, _, .fn h, f => by simp [D.flat] at f
  | _, _, .kls h, f => by simp [D.flat] at f
theorem RepL.dp : ∀ {v : List V} {d : List D}, RepL Z H μ v d → D.flatL d = true → DpAll Z.K H v (D.pyL d)
  | _, _, .nil, _ => by simp only [D.pyL]; exact .nil
  | _, _, .cons h r, f => by
    simp only [D.pyL]
    simp only [D.flatL, Bool.and_eq_true] at f
    exact .cons (Rep.dp h f.1) (RepL.dp r f.2)
end
end
mutual
theorem depth_py : ∀ d : D, d.py.depth = d.dep
  | .non => by simp [D.py, D.dep, PyData.depth]
  | .bl _ => by simp [D.py, D.dep, PyData.depth]
  | .int _ => by simp [D.py, D.dep, PyData.depth]
  | .str _ => by simp [D.py, D.dep, PyData.depth]
  | .tup ds => by simp [D.py, D.dep, PyData.depth, depth_pyL ds]
  | .cl ds => by simp [D.py, D.dep, PyData.depth, depth_pyL ds]
  | .ref _ => by simp [D.py, D.dep, PyData.depth]
  | .fn _ => by simp [D.py, D.dep, PyData.depth]
  | .kls _ => by simp [D.py, D.dep, PyData.depth]
  | .lam _ _ => by simp [D.py, D.dep, PyData.depth]
theorem depth_pyL : ∀ d : List D, PyData.depthAll (D.pyL d) = D.depL d
  | [] => by simp [D.pyL, D.depL, PyData.depthAll]
  | d :: ds => by simp [D.pyL, D.depL, PyData.depthAll, depth_py d, depth_pyL ds]
end
theorem pyL_length : ∀ xs : List D, (D.pyL xs).length = xs.length
  | [] => by simp [D.pyL]
  | x :: xs => by simp [D.pyL, pyL_length xs]
theorem okD_flat {d : D} (h : D.okD d = true) : d.flat = true ∧ d.py.canLay0 = true ∧ d.dep ≤ 60 := by
  simp only [D.okD, Bool.and_eq_true, decide_eq_true_eq] at h
  exact ⟨h.1.1, h.1.2, h.2⟩
theorem okL_flat {d : List D} (h : D.okL d = true) : D.flatL d = true ∧ PyData.canLayAll0 (D.pyL d) = true ∧ D.depL d ≤ 60 := by
  simp only [D.okL, Bool.and_eq_true, decide_eq_true_eq] at h
  exact ⟨h.1.1, h.1.2, h.2⟩
theorem okD_shaped {d : D} (h : D.okD d = true) : SeqAt.shaped d.py = true := by
  obtain ⟨_, h2, h3⟩ := okD_flat h
  simp only [SeqAt.shaped, Bool.and_eq_true, decide_eq_true_eq, depth_py]
  exact ⟨h2, by omega⟩
theorem okL_shapedL {d : List D} (h : D.okL d = true) : SeqAt.shaped (.list (D.pyL d)) = true := by
  obtain ⟨_, h2, h3⟩ := okL_flat h
  simp only [SeqAt.shaped, Bool.and_eq_true, decide_eq_true_eq, PyData.depth, depth_pyL, PyData.canLay0]
  exact ⟨h2, by omega⟩
theorem okL_shapedT {d : List D} (h : D.okL d = true) : SeqAt.shaped (.tuple (D.pyL d)) = true := by
  obtain ⟨_, h2, h3⟩ := okL_flat h
  simp only [SeqAt.shaped, Bool.and_eq_true, decide_eq_true_eq, PyData.depth, depth_pyL, PyData.canLay0]
  exact ⟨h2, by omega⟩

section
variable {P : Program} {w : World} {Z : Wd} {W : XK} {H : Hp} {μ : List Addr} {st : Sto}
theorem SRep.lst (S : SRep P w Z H μ st) {n : Nat} {a : Addr} (hm : μ[n]? = some a) {ds : List D} (h : st[n]? = some (.lst ds)) : ∃ xs, H a = some (.lst xs) ∧ RepL Z H μ xs ds := S.ob n _ a h hm
theorem listOf_ref {d : D} {ds : List D} (h : listOf d st = some ds) : d = .cl ds ∨ ∃ n, d = .ref n ∧ st[n]? = some (.lst ds) := by
  unfold listOf at h
  cases d with
  | cl es => cases h; exact .inl rfl
  | ref n =>
    refine .inr ⟨n, rfl, ?_⟩
    simp only at h
    split at h
    · rename_i e; cases h; exact e
    · cases h
  | _ => cases h
/-- a list, as it may be read -/
theorem SRep.listOf (S : SRep P w Z H μ st) {v : V} {d : D} (r : Rep Z H μ v d) {ds : List D} (h : listOf d st = some ds) : ∃ a xs, v = .ref a ∧ SqL Z.K H a xs ∧ RepL Z H μ xs ds := by
  rcases listOf_ref h with rfl | ⟨n, rfl, h'⟩
  · cases r with
    | cl q r => exact ⟨_, _, rfl, q.sqL, r⟩
  · cases r with
    | ref hm =>
      obtain ⟨xs, e, r⟩ := S.lst hm h'
      exact ⟨_, xs, rfl, SqL.of e, r⟩
theorem seqOf_cases {d : D} {ds : List D} (h : seqOf d st = some ds) : d = .tup ds ∨ MP.listOf d st = some ds := by
  unfold seqOf at h
  cases d with
  | tup es => cases h; exact .inl rfl
  | cl es => cases h; exact .inr rfl
  | ref n => exact .inr h
  | _ => cases h
theorem SRep.seqOf (S : SRep P w Z H μ st) {v : V} {d : D} (r : Rep Z H μ v d) {ds : List D} (h : seqOf d st = some ds) : ∃ a xs, v = .ref a ∧ (SqL Z.K H a xs ∨ SqT Z.K H a xs) ∧ RepL Z H μ xs ds := by
  rcases seqOf_cases h with rfl | h
  · cases r with
    | tup q r => exact ⟨_, _, rfl, .inr q, r⟩
  · obtain ⟨a, xs, e, q, r⟩ := S.listOf r h
    exact ⟨a, xs, e, .inl q, r⟩
theorem SRep.exp (S : SRep P w Z H μ st) {v : V} {d : D} (r : Rep Z H μ v d) {p : PyData} (h : exp d st = some p) : Dp Z.K H v p ∧ SeqAt.shaped p = true := by
  unfold MP.exp at h
  split at h
  · rename_i n
    obtain ⟨ds, hl, h⟩ := Option.bind_eq_some_iff.mp h
    obtain ⟨a, xs, rfl, q, rl⟩ := S.listOf r hl
    split at h
    · rename_i hok
      cases h
      exact ⟨.lst q (rl.dp (okL_flat hok).1), okL_shapedL hok⟩
    · cases h
  · split at h
    · rename_i hok
      cases h
      exact ⟨r.dp (okD_flat hok).1, okD_shaped hok⟩
    · cases h
variable {Q : D → Sto → V → Hp → List Addr → Prop}
theorem Pst.fin {d : D} {v : V} (h : Pst P w Z W H μ (RV Z) (.ok d st) Q) (S : SRep P w Z H μ st) (r : Rep Z H μ v d) : Q d st v H μ := h v H μ Ev.refl S r
theorem Pst.lst {p : Addr} {xs : List V} {ds : List D} (h : Pst P w Z W H μ (RV Z) (alloc (.lst ds) st) Q) (S : SRep P w Z H μ st) (hp : H p = none) (r : RepL Z H μ xs ds) :
    Q (.ref st.length) (st ++ [.lst ds]) (.ref p) (upd H p (.lst xs)) (μ ++ [p]) :=
  h _ _ _ (Ev.new S hp) (S.new hp ⟨xs, upd_same, r.mono (Ev.new S hp) S.nt⟩) (.ref (by rw [← S.len]; simp))
theorem Pst.tup {p : Addr} {xs : List V} {ds : List D} (h : Pst P w Z W H μ (RV Z) (.ok (.tup ds) st) Q) (S : SRep P w Z H μ st) (hp : H p = none) (r : RepL Z H μ xs ds) :
    Q (.tup ds) st (.ref p) (upd H p (.tup xs)) μ := h _ _ _ (Ev.tmp hp) (S.tmp hp) (.tup (SqT.of upd_same) (r.mono (Ev.tmp hp) S.nt))
end

theorem dT_int {i : Int} {Q : Prop} (h : Q) : Q := h
/-- an operation on two values, as MP says it -/
def r2 (P : Program) (w : World) (Z : Wd) (W : XK) (o : Op2) : R2 := fun x y H Q => ∃ μ d1 d2 st, SRep P w Z H μ st ∧ Rep Z H μ x d1 ∧ Rep Z H μ y d2 ∧ Pst P w Z W H μ (RV Z) (p2 o d1 d2 st) fun _ _ v H' _ => Q v H'

theorem RepL.nil_iff {Z : Wd} {H : Hp} {μ : List Addr} {xs : List V} {ds : List D} (r : RepL Z H μ xs ds) : xs = [] ↔ ds = [] := by cases r <;> simp
theorem RepL.rep {Z : Wd} {H : Hp} {μ : List Addr} {xs : List V} {ds : List D} (r : RepL Z H μ xs ds) : ∀ k : Nat, RepL Z H μ (List.replicate k xs).flatten (List.replicate k ds).flatten
  | 0 => .nil
  | k + 1 => by
    rw [List.replicate_succ, List.replicate_succ, List.flatten_cons, List.flatten_cons]
    exact r.append (r.rep k)
section
variable {X : Cx} {Z : Wd} {W : XK}
theorem o_add (hZ : Z.K = X.K) : OpR X (binaryOp .Add) (r2 X.prog X.w Z W .add) := by
  intro pins s σ H x y v u Q I rx ry ⟨μ, d1, d2, st, S, q1, q2, h⟩
  cases q1 with
  | int i =>
    cases q2 with
    | int j => exact op_add pins s σ H _ _ v u Q I rx ry ⟨i, j, rfl, rfl, h.fin S (.int _)⟩
    | _ => exact False.elim h
  | str a =>
    cases q2 with
    | str b =>
      have h : Pst X.prog X.w Z W H μ (RV Z) (if a.length + b.length ≤ LINE then .ok (.str (a ++ b)) st else .bad) _ := h
      by_cases hl : a.length + b.length ≤ LINE
      · rw [if_pos hl] at h
        exact op_add_str pins s σ H _ _ v u Q I rx ry ⟨a, b, rfl, rfl, by rw [← LINE_eq]; exact hl, h.fin S (.str _)⟩
      · rw [if_neg hl] at h; exact False.elim h
    | _ => exact False.elim h
  | @tup a xs ds ha ra =>
    cases q2 with
    | @tup b ys es hb rb =>
      have h : Pst X.prog X.w Z W H μ (RV Z) (if ds.length + es.length ≤ LINE then .ok (.tup (ds ++ es)) st else .bad) _ := h
      by_cases hl : ds.length + es.length ≤ LINE
      · rw [if_pos hl] at h
        refine op_catA pins s σ H _ _ v u Q I rx ry ⟨a, b, xs, ys, rfl, rfl, hZ ▸ ha, hZ ▸ hb, by rw [ra.length, rb.length, ← LINE_eq]; exact hl, fun e => ?_, fun _ e => ?_, fun _ _ p hp => ?_⟩
        · have e' := ra.nil_iff.mp e
          subst e'
          exact h.fin S (.tup hb (by simpa using rb))
        · have e' := rb.nil_iff.mp e
          subst e'
          exact h.fin S (.tup ha (by simpa using ra))
        · exact h.tup S hp (ra.append rb)
      · rw [if_neg hl] at h; exact False.elim h
    | _ => exact False.elim h
  | @ref n a ha =>
    cases q2 with
    | @ref m b hb =>
      have h : Pst X.prog X.w Z W H μ (RV Z) (match listOf (.ref n) st, listOf (.ref m) st with
        | some xs, some ys => if xs.length + ys.length ≤ LINE then alloc (.lst (xs ++ ys)) st else .bad
        | _, _ => .bad) _ := h
      cases e1 : listOf (.ref n) st with
      | none => rw [e1] at h; exact False.elim h
      | some ds =>
        cases e2 : listOf (.ref m) st with
        | none => rw [e1, e2] at h; exact False.elim h
        | some es =>
          rw [e1, e2] at h
          dsimp only at h
          rcases listOf_ref e1 with q | ⟨n', q, e1⟩
          · cases q
          cases q
          rcases listOf_ref e2 with q | ⟨n', q, e2⟩
          · cases q
          cases q
          obtain ⟨xs, h1, r1⟩ := S.lst ha e1
          obtain ⟨ys, h2, r2⟩ := S.lst hb e2
          by_cases hl : ds.length + es.length ≤ LINE
          · rw [if_pos hl] at h
            refine op_cat pins s σ H _ _ v u Q I rx ry ⟨a, b, xs, ys, rfl, rfl, h1, h2, by rw [r1.length, r2.length, ← LINE_eq]; exact hl, fun p hp => ?_⟩
            exact h.lst S hp (r1.append r2)
          · rw [if_neg hl] at h; exact False.elim h
    | _ => exact False.elim h
  | _ => cases q2 <;> exact False.elim h
theorem o_sub : OpR X (binaryOp .Sub) (r2 X.prog X.w Z W .sub) := by
  intro pins s σ H x y v u Q I rx ry ⟨μ, d1, d2, st, S, q1, q2, h⟩
  cases q1 with
  | int i =>
    cases q2 with
    | int j => exact op_sub pins s σ H _ _ v u Q I rx ry ⟨i, j, rfl, rfl, h.fin S (.int _)⟩
    | _ => exact False.elim h
  | _ => cases q2 <;> exact False.elim h
theorem mulOk_iff {i j : Int} (h : mulOk i j = true) : CMul i j := by
  simp only [mulOk, Bool.or_eq_true, Bool.and_eq_true, decide_eq_true_eq] at h
  exact h
theorem o_mul (hZ : Z.K = X.K) : OpR X (binaryOp .Mult) (r2 X.prog X.w Z W .mul) := by
  intro pins s σ H x y v u Q I rx ry ⟨μ, d1, d2, st, S, q1, q2, h⟩
  cases q1 with
  | int i =>
    cases q2 with
    | int j =>
      have h : Pst X.prog X.w Z W H μ (RV Z) (if mulOk i j = true then .ok (.int (i * j)) st else .bad) _ := h
      by_cases hl : mulOk i j = true
      · rw [if_pos hl] at h
        exact op_mul pins s σ H _ _ v u Q I rx ry ⟨i, j, rfl, rfl, mulOk_iff hl, h.fin S (.int _)⟩
      · rw [if_neg hl] at h; exact False.elim h
    | _ => exact False.elim h
  | @tup a xs ds ha ra =>
    cases q2 with
    | int k =>
      have h : Pst X.prog X.w Z W H μ (RV Z) (if 2 ≤ k ∧ k ≤ 1000 ∧ ds ≠ [] ∧ ds.length ≤ 1000 then .ok (.tup (repL ds k)) st else .bad) _ := h
      by_cases hl : 2 ≤ k ∧ k ≤ 1000 ∧ ds ≠ [] ∧ ds.length ≤ 1000
      · rw [if_pos hl] at h
        obtain ⟨l1, l2, l3, l4⟩ := hl
        refine op_repT pins s σ H _ _ v u Q I rx ry ⟨a, k, xs, rfl, rfl, hZ ▸ ha, fun e => l3 (ra.nil_iff.mp e), l1, l2, by rw [ra.length]; exact l4, fun p hp => ?_⟩
        exact h.tup S hp (ra.rep _)
      · rw [if_neg hl] at h; exact False.elim h
    | _ => exact False.elim h
  | @ref n a ha =>
    cases q2 with
    | int k =>
      have h : Pst X.prog X.w Z W H μ (RV Z) (match listOf (.ref n) st with
        | some ds => if -1000 < k ∧ k < 1000000 ∧ ds.length * k.toNat ≤ LINE then alloc (.lst (repL ds k)) st else .bad
        | none => .bad) _ := h
      cases e1 : listOf (.ref n) st with
      | none => rw [e1] at h; exact False.elim h
      | some ds =>
        rw [e1] at h
        dsimp only at h
        rcases listOf_ref e1 with q | ⟨n', q, e1⟩
        · cases q
        cases q
        obtain ⟨xs, h1, r1⟩ := S.lst ha e1
        by_cases hl : -1000 < k ∧ k < 1000000 ∧ ds.length * k.toNat ≤ LINE
        · rw [if_pos hl] at h
          obtain ⟨l1, l2, l3⟩ := hl
          refine op_rep pins s σ H _ _ v u Q I rx ry ⟨a, k, xs, rfl, rfl, h1, by omega, by omega, by rw [r1.length, ← LINE_eq]; exact l3, fun p hp => ?_⟩
          exact h.lst S hp (r1.rep _)
        · rw [if_neg hl] at h; exact False.elim h
    | _ => exact False.elim h
  | str z =>
    cases q2 with
    | int k =>
      have h : Pst X.prog X.w Z W H μ (RV Z) (if 0 ≤ k ∧ k ≤ 1000 ∧ z.length ≤ 1000 then .ok (.str (PySem.Txt.mul z k)) st else .bad) _ := h
      by_cases hl : 0 ≤ k ∧ k ≤ 1000 ∧ z.length ≤ 1000
      · rw [if_pos hl] at h
        obtain ⟨l1, l2, l3⟩ := hl
        obtain ⟨t, rfl⟩ := rx
        obtain ⟨t', rfl⟩ := ry
        refine PySem.SB.mul ⟨?_, fun n1 _ => ?_, fun n1 _ => ?_⟩ fun t2 k2 => ⟨.str _, H, I.tok _, ⟨_, rfl⟩, h.fin S (.str _)⟩
        · rw [Bool.or_eq_false_iff]
          exact ⟨decide_eq_false (by omega), decide_eq_false (by omega)⟩
        · have : (1000 : Int) ≤ (2 ^ 63 - 1) / k := (Int.le_ediv_iff_mul_le (by omega)).mpr (by omega)
          omega
        · have e : k.toNat ≤ 1000 := by omega
          have m : z.length * k.toNat ≤ 1000 * 1000 := Nat.mul_le_mul l3 e
          show decide (z.length * k.toNat > sizeLine) = false
          rw [sizeLine_eq]
          exact decide_eq_false (by omega)
      · rw [if_neg hl] at h; exact False.elim h
    | _ => exact False.elim h
  | _ => cases q2 <;> exact False.elim h
theorem o_fdiv : OpR X (binaryOp .FloorDiv) (r2 X.prog X.w Z W .fdiv) := by
  intro pins s σ H x y v u Q I rx ry ⟨μ, d1, d2, st, S, q1, q2, h⟩
  cases q1 with
  | int i =>
    cases q2 with
    | int j =>
      have h : Pst X.prog X.w Z W H μ (RV Z) (if j ≠ 0 ∧ j.natAbs < 1073741824 then .ok (.int (i.fdiv j)) st else .bad) _ := h
      by_cases hl : j ≠ 0 ∧ j.natAbs < 1073741824
      · rw [if_pos hl] at h
        exact op_fdivN pins s σ H _ _ v u Q I rx ry ⟨i, j, rfl, rfl, hl, h.fin S (.int _)⟩
      · rw [if_neg hl] at h; exact False.elim h
    | _ => exact False.elim h
  | _ => cases q2 <;> exact False.elim h
theorem o_mod : OpR X (binaryOp .Mod) (r2 X.prog X.w Z W .mod) := by
  intro pins s σ H x y v u Q I rx ry ⟨μ, d1, d2, st, S, q1, q2, h⟩
  cases q1 with
  | int i =>
    cases q2 with
    | int j =>
      have h : Pst X.prog X.w Z W H μ (RV Z) (if j ≠ 0 then .ok (.int (i.fmod j)) st else .bad) _ := h
      by_cases hl : j ≠ 0
      · rw [if_pos hl] at h
        exact op_modN pins s σ H _ _ v u Q I rx ry ⟨i, j, rfl, rfl, hl, h.fin S (.int _)⟩
      · rw [if_neg hl] at h; exact False.elim h
    | _ => exact False.elim h
  | _ => cases q2 <;> exact False.elim h
theorem o_pow : OpR X (binaryOp .Pow) (r2 X.prog X.w Z W .pow) := by
  intro pins s σ H x y v u Q I rx ry ⟨μ, d1, d2, st, S, q1, q2, h⟩
  cases q1 with
  | int i =>
    cases q2 with
    | int j =>
      have h : Pst X.prog X.w Z W H μ (RV Z) (if 0 ≤ j ∧ j ≤ 1000000 ∧ i.natAbs < 2 ^ 64 then .ok (.int (i ^ j.toNat)) st else .bad) _ := h
      by_cases hl : 0 ≤ j ∧ j ≤ 1000000 ∧ i.natAbs < 2 ^ 64
      · rw [if_pos hl] at h
        exact op_pow pins s σ H _ _ v u Q I rx ry ⟨i, j, rfl, rfl, hl, h.fin S (.int _)⟩
      · rw [if_neg hl] at h; exact False.elim h
    | _ => exact False.elim h
  | _ => cases q2 <;> exact False.elim h
/-- a truth value behind -/
theorem Pst.cmp {P : Program} {w : World} {Z : Wd} {W : XK} {H : Hp} {μ : List Addr} {st : Sto} {o : Option Bool} {Q : D → Sto → V → Hp → List Addr → Prop} (h : Pst P w Z W H μ (RV Z) (cmpR o st) Q) (S : SRep P w Z H μ st) : ∃ b, o = some b ∧ Q (.bl b) st (.bl b) H μ := by
  cases o with
  | none => exact False.elim h
  | some b => exact ⟨b, rfl, h _ _ _ Ev.refl S (.bl b)⟩
theorem o_eq (hZ : Z.K = X.K) (hu : X.A.units + 64 < cLine) : OpR X (compareOp .Eq) (r2 X.prog X.w Z W .eq) := by
  intro pins s σ H x y v u Q I rx ry ⟨μ, d1, d2, st, S, q1, q2, h⟩
  obtain ⟨b, e, q⟩ := Pst.cmp h S
  obtain ⟨p1, e1, e⟩ := Option.bind_eq_some_iff.mp e
  obtain ⟨p2, e2, e⟩ := Option.map_eq_some_iff.mp e
  obtain ⟨k1, s1⟩ := S.exp q1 e1
  obtain ⟨k2, s2⟩ := S.exp q2 e2
  exact op_eqD hu pins s σ H _ _ v u Q I rx ry ⟨p1, p2, hZ ▸ k1, hZ ▸ k2, s1, s2, by rw [e]; exact q⟩
theorem o_ne (hZ : Z.K = X.K) (hu : X.A.units + 64 < cLine) : OpR X (compareOp .NotEq) (r2 X.prog X.w Z W .ne) := by
  intro pins s σ H x y v u Q I rx ry ⟨μ, d1, d2, st, S, q1, q2, h⟩
  obtain ⟨b, e, q⟩ := Pst.cmp h S
  obtain ⟨c, e, ec⟩ := Option.map_eq_some_iff.mp e
  obtain ⟨p1, e1, e⟩ := Option.bind_eq_some_iff.mp e
  obtain ⟨p2, e2, e⟩ := Option.map_eq_some_iff.mp e
  obtain ⟨k1, s1⟩ := S.exp q1 e1
  obtain ⟨k2, s2⟩ := S.exp q2 e2
  exact op_neD hu pins s σ H _ _ v u Q I rx ry ⟨p1, p2, hZ ▸ k1, hZ ▸ k2, s1, s2, by rw [e, ec]; exact q⟩
theorem Rep.non_iff {H : Hp} {μ : List Addr} {x : V} {d : D} (r : Rep Z H μ x d) : decide (x = .non) = decide (d = .non) := by
  cases r <;> rfl
theorem o_is : OpR X (compareOp .Is) (r2 X.prog X.w Z W .is_) := by
  intro pins s σ H x y v u Q I rx ry ⟨μ, d1, d2, st, S, q1, q2, h⟩
  obtain ⟨b, e, q⟩ := Pst.cmp h S
  cases q2 with
  | non =>
    refine op_isN pins s σ H _ _ v u Q I rx ry ⟨rfl, ?_⟩
    rw [q1.non_iff]
    cases d1 <;> (simp [isD] at e; subst e; exact q)
  | bl c =>
    cases q1 with
    | bl a =>
      simp only [isD, Option.some.injEq] at e
      subst e
      exact op_isBl pins s σ H _ _ v u Q I rx ry ⟨a, c, rfl, rfl, q⟩
    | _ => simp [isD] at e
  | _ => cases q1 <;> simp [isD] at e
theorem o_isnot : OpR X (compareOp .IsNot) (r2 X.prog X.w Z W .isnot) := by
  intro pins s σ H x y v u Q I rx ry ⟨μ, d1, d2, st, S, q1, q2, h⟩
  obtain ⟨b, e, q⟩ := Pst.cmp h S
  obtain ⟨c0, e0, ec⟩ := Option.map_eq_some_iff.mp e
  subst ec
  cases q2 with
  | non =>
    refine op_notN pins s σ H _ _ v u Q I rx ry ⟨rfl, ?_⟩
    rw [q1.non_iff]
    cases d1 <;> (simp [isD] at e0; subst e0; exact q)
  | bl c =>
    cases q1 with
    | bl a =>
      simp only [isD, Option.some.injEq] at e0
      subst e0
      exact op_notBl pins s σ H _ _ v u Q I rx ry ⟨a, c, rfl, rfl, q⟩
    | _ => simp [isD] at e0
  | _ => cases q1 <;> simp [isD] at e0
end
end MP

set_option Elab.async false
set_option linter.all false
set_option maxRecDepth 100000
set_option maxHeartbeats 4000000
/-! MP: comparisons of data, items, membership are sound. -/
namespace MP
open PySem PySem.Spec L2
open PyProof.Rows hiding St
open SeqAt (EqAt)

def opOf : D.Cp → CmpOp
  | .lt => .Lt
  | .le => .LtE
  | .gt => .Gt
  | .ge => .GtE
theorem rcI_op (c : D.Cp) (A : Around) (s : Shared) (i j : Int) (t u : Tok) : _root_.Ob.RcOp (opOf c) A s (.int i t) (.int j u) (D.rcI c i j) := by
  cases c
  · exact _root_.Ob.RcOp.lt_int i j t u
  · exact _root_.Ob.RcOp.le_int i j t u
  · exact _root_.Ob.RcOp.gt_int i j t u
  · exact _root_.Ob.RcOp.ge_int i j t u
theorem rcS_op (c : D.Cp) (A : Around) (s : Shared) (i j : Str) (t u : Tok) : _root_.Ob.RcOp (opOf c) A s (.str i t) (.str j u) (D.rcS c i j) := by
  cases c
  · exact fun _ _ _ _ h => lt_str h
  · exact fun _ _ _ _ h => PySem.P.le_str h
  · exact fun _ _ _ _ h => PySem.P.gt_str h
  · exact fun _ _ _ _ h => PySem.P.ge_str h
theorem rcT_op (c : D.Cp) {A : Around} {s : Shared} {l b : Addr} {items items2 : Array Value} {e r : Nat → Bool} (hl : s.heap.IsTuple l items) (hb : s.heap.IsTuple b items2) (hu : A.units < cLine)
    (he : ∀ j (h1 : j < items.size) (h2 : j < items2.size), EqAt A.in1 s items[j] items2[j] (e j))
    (hr : ∀ j (h1 : j < items.size) (h2 : j < items2.size), e j = false → _root_.Ob.RcOp (opOf c) A.in1 s items[j] items2[j] (r j)) :
    _root_.Ob.RcOp (opOf c) A s (.ref l) (.ref b) (_root_.Ob.lexAt e r (D.rcN c items.size items2.size) 0 (min items.size items2.size)) := by
  cases c
  · exact _root_.Ob.RcOp.tuples_lt hl hb hu he hr
  · exact _root_.Ob.RcOp.tuples_le hl hb hu he hr
  · exact _root_.Ob.RcOp.tuples_gt hl hb hu he hr
  · exact _root_.Ob.RcOp.tuples_ge hl hb hu he hr
theorem rcN_succ (c : D.Cp) (m n : Nat) : D.rcN c (m + 1) (n + 1) = D.rcN c m n := by
  cases c <;> simp [D.rcN]
theorem rcN_zl (c : D.Cp) (n : Nat) : D.rcN c 0 (n + 1) = D.rcN c 0 1 := by cases c <;> simp [D.rcN]
theorem rcN_zr (c : D.Cp) (n : Nat) : D.rcN c (n + 1) 0 = D.rcN c 1 0 := by cases c <;> simp [D.rcN]
theorem lexAt_rcL (c : D.Cp) (e r : Nat → Bool) : ∀ (xs ys : List D) (i : Nat), (∀ j, e (i + j) = PyData.eqv ((xs.getD j .non).py) ((ys.getD j .non).py)) → (∀ j, r (i + j) = D.rc c (xs.getD j .non) (ys.getD j .non)) →
    _root_.Ob.lexAt e r (D.rcN c xs.length ys.length) i (min xs.length ys.length) = D.rcL c xs ys
  | [], [], i, _, _ => by simp [_root_.Ob.lexAt, D.rcL]
  | [], y :: ys, i, _, _ => by simp [_root_.Ob.lexAt, D.rcL, rcN_zl]
  | x :: xs, [], i, _, _ => by simp [_root_.Ob.lexAt, D.rcL, rcN_zr]
  | x :: xs, y :: ys, i, he, hr => by
    have ih := lexAt_rcL c e r xs ys (i + 1) (fun j => by
      have q := he (j + 1)
      rw [show i + (j + 1) = i + 1 + j by omega] at q
      simpa using q) (fun j => by
      have q := hr (j + 1)
      rw [show i + (j + 1) = i + 1 + j by omega] at q
      simpa using q)
    have e0 := he 0
    have r0 := hr 0
    simp only [Nat.add_zero, List.getD_cons_zero] at e0 r0
    simp only [List.length_cons, Nat.succ_min_succ, _root_.Ob.lexAt, rcN_succ, D.rcL, ih, e0, r0]
theorem py_getD : ∀ (xs : List D) (j : Nat), (D.pyL xs).getD j .none = (xs.getD j .non).py
  | [], j => by simp [D.pyL, D.py]
  | x :: xs, 0 => by simp [D.pyL]
  | x :: xs, j + 1 => by simpa [D.pyL] using py_getD xs j

mutual
/-- a comparison of alike data -/
theorem rc_reads (c : D.Cp) : ∀ (a b : D) (A : Around) (s : Shared) (u v : Value) (as bs : List Addr), Reads s.heap u a.py as → Reads s.heap v b.py bs → a.py.canLay0 = true → b.py.canLay0 = true → D.like a b = true →
    A.units + min a.dep b.dep < cLine → _root_.Ob.RcOp (opOf c) A s u v (D.rc c a b)
  | .int i, b, A, s, u, v, as, bs, ra, rb, _, _, h, _ => by
    cases b with
    | int j =>
      simp only [D.py] at ra rb
      cases ra; cases rb
      simp only [D.rc]
      exact rcI_op c A s _ _ _ _
    | _ => simp [D.like] at h
  | .str i, b, A, s, u, v, as, bs, ra, rb, _, _, h, _ => by
    cases b with
    | str j =>
      simp only [D.py] at ra rb
      cases ra; cases rb
      simp only [D.rc]
      exact rcS_op c A s _ _ _ _
    | _ => simp [D.like] at h
  | .tup xs, b, A, s, u, v, as, bs, ra, rb, la, lb, h, hu => by
    cases b with
    | tup ys =>
      have hl : D.likeL xs ys = true := by simpa [D.like] using h
      simp only [D.py] at ra rb la lb
      cases ra with
      | @tuple l o vs n _ as₁ h1 h2 h3 h4 =>
        cases rb with
        | @tuple l' o' vs' n' _ bs₁ k1 k2 k3 k4 =>
          have t1 : s.heap.IsTuple l vs := ⟨_, h1, h2, _, h3⟩
          have t2 : s.heap.IsTuple l' vs' := ⟨_, k1, k2, _, k3⟩
          have la' : PyData.canLayAll0 (D.pyL xs) = true := by simpa [PyData.canLay0] using la
          have lb' : PyData.canLayAll0 (D.pyL ys) = true := by simpa [PyData.canLay0] using lb
          have hu' : A.in1.units + min (D.depL xs) (D.depL ys) < cLine := by
            simp only [D.dep] at hu
            show A.units + 1 + min _ _ < cLine
            omega
          have n1 : vs.size = xs.length := by
            have := SeqAt.ReadsAll.length _ _ _ h4
            simp only [Array.length_toList] at this
            rw [this]
            exact pyL_length xs
          have n2 : vs'.size = ys.length := by
            have := SeqAt.ReadsAll.length _ _ _ k4
            simp only [Array.length_toList] at this
            rw [this]
            exact pyL_length ys
          have key := rcT_op c (A := A) (s := s) (e := fun j => PyData.eqv ((xs.getD j .non).py) ((ys.getD j .non).py)) (r := fun j => D.rc c (xs.getD j .non) (ys.getD j .non)) t1 t2 (by simp only [D.dep] at hu; omega) (fun j j1 j2 => by
              have q := SeqAt.eqAt_readsAll _ _ A.in1 s vs.toList vs'.toList _ _ h4 k4 la' lb' (by rw [depth_pyL, depth_pyL]; exact hu') j (by simpa using j1) (by simpa using j2)
              simp only [SeqAt.pairEq, py_getD] at q
              simpa using q) (fun j j1 j2 _ => by
              have q := rcL_reads c xs ys A.in1 s vs.toList vs'.toList _ _ h4 k4 la' lb' hl hu' j (by simpa using j1) (by simpa using j2)
              simpa using q)
          simp only [D.rc]
          rw [n1, n2, lexAt_rcL c _ _ xs ys 0 (fun j => by simp) (fun j => by simp)] at key
          exact key
    | _ => simp [D.like] at h
  | .non, b, _, _, _, _, _, _, _, _, _, _, h, _ => by simp [D.like] at h
  | .bl _, b, _, _, _, _, _, _, _, _, _, _, h, _ => by simp [D.like] at h
  | .cl _, b, _, _, _, _, _, _, _, _, _, _, h, _ => by simp [D.like] at h
  | .ref _, b, _, _, _, _, _, _, _, _, _, _, h, _ => by simp [D.like] at h
  | .fn _, b, _, _, _, _, _, _, _, _, _, _, h, _ => by simp [D.like] at h
  | .kls _, b, _, _, _, _, _, _, _, _, _, _, h, _ => by simp [D.like] at h
  | .lam _ _, b, _, _, _, _, _, _, _, _, _, _, h, _ => by simp [D.like] at h
theorem rcL_reads (c : D.Cp) : ∀ (xs ys : List D) (A : Around) (s : Shared) (us vs : List Value) (as bs : List Addr), ReadsAll s.heap us (D.pyL xs) as → ReadsAll s.heap vs (D.pyL ys) bs → PyData.canLayAll0 (D.pyL xs) = true → PyData.canLayAll0 (D.pyL ys) = true →
    D.likeL xs ys = true → A.units + min (D.depL xs) (D.depL ys) < cLine → ∀ j (h1 : j < us.length) (h2 : j < vs.length), _root_.Ob.RcOp (opOf c) A s us[j] vs[j] (D.rc c (xs.getD j .non) (ys.getD j .non))
  | [], _, _, _, us, _, _, _, ra, _, _, _, _, _, j, h1, _ => by
    simp only [D.pyL] at ra
    cases ra
    exact absurd h1 (Nat.not_lt_zero _)
  | _ :: _, [], _, _, _, _, _, _, _, rb, _, _, _, _, j, _, h2 => by
    simp only [D.pyL] at rb
    cases rb
    exact absurd h2 (Nat.not_lt_zero _)
  | x :: xs, y :: ys, A, s, _, _, _, _, ra, rb, la, lb, h, hu, j, h1, h2 => by
    simp only [D.pyL] at ra rb la lb
    simp only [D.likeL, Bool.and_eq_true] at h
    simp only [PyData.canLayAll0, Bool.and_eq_true] at la lb
    simp only [D.depL] at hu
    cases ra with
    | cons r rs =>
      cases rb with
      | cons r' rs' =>
        cases j with
        | zero =>
          have q := rc_reads c x y A s _ _ _ _ r r' la.1 lb.1 h.1 (by omega)
          simpa using q
        | succ j =>
          have q := rcL_reads c xs ys A s _ _ _ _ rs rs' la.2 lb.2 h.2 (by omega) j (by simpa using h1) (by simpa using h2)
          simpa using q
end
end MP

set_option Elab.async false
set_option linter.all false
set_option maxRecDepth 100000
set_option maxHeartbeats 4000000
/-! MP: comparisons, membership, items, of two values. -/
namespace MP
open PySem PySem.Spec L2
open PyProof.Rows hiding St

section
variable {X : Cx} {Z : Wd} {W : XK}
theorem like_okD {c : D.Cp} {a b : D} {r : Bool} (h : rcD c a b = some r) : D.okD a = true ∧ D.okD b = true ∧ D.like a b = true ∧ D.rc c a b = r := by
  unfold rcD at h
  split at h
  · rename_i hk
    simp only [Bool.and_eq_true] at hk
    exact ⟨hk.1.1, hk.1.2, hk.2, Option.some.inj h⟩
  · cases h
theorem o_rc (hZ : Z.K = X.K) (hu : X.A.units + 64 < cLine) (c : D.Cp) {o : Op2} (ho : ∀ a b st, p2 o a b st = cmpR (rcD c a b) st) (hc : ∀ v u, compareOp (opOf c) v u = richCompare (opOf c) v u := by intro _ _; rfl) : OpR X (compareOp (opOf c)) (r2 X.prog X.w Z W o) := by
  intro pins s σ H x y v u Q I rx ry ⟨μ, d1, d2, st, S, q1, q2, h⟩
  rw [ho] at h
  obtain ⟨b, e, q⟩ := Pst.cmp h S
  obtain ⟨k1, k2, k3, k4⟩ := like_okD e
  obtain ⟨f1, l1, e1⟩ := okD_flat k1
  obtain ⟨f2, l2, e2⟩ := okD_flat k2
  have p1 : Dp X.K H x d1.py := hZ ▸ q1.dp f1
  have p2 : Dp X.K H y d2.py := hZ ▸ q2.dp f2
  obtain ⟨as, r1⟩ := Dp.reads I _ _ _ p1 rx
  obtain ⟨bs, r2⟩ := Dp.reads I _ _ _ p2 ry
  rw [hc]
  refine rc_reads c d1 d2 X.A s v u as bs r1 r2 l1 l2 k3 (by omega) X.prog X.w _ _ ?_
  rw [k4]
  exact ⟨.bl b, H, I, rfl, q⟩
theorem o_lt (hZ : Z.K = X.K) (hu : X.A.units + 64 < cLine) : OpR X (compareOp .Lt) (r2 X.prog X.w Z W .lt) := o_rc hZ hu .lt fun _ _ _ => rfl
theorem o_le (hZ : Z.K = X.K) (hu : X.A.units + 64 < cLine) : OpR X (compareOp .LtE) (r2 X.prog X.w Z W .le) := o_rc hZ hu .le fun _ _ _ => rfl
theorem o_gt (hZ : Z.K = X.K) (hu : X.A.units + 64 < cLine) : OpR X (compareOp .Gt) (r2 X.prog X.w Z W .gt) := o_rc hZ hu .gt fun _ _ _ => rfl
theorem o_ge (hZ : Z.K = X.K) (hu : X.A.units + 64 < cLine) : OpR X (compareOp .GtE) (r2 X.prog X.w Z W .ge) := o_rc hZ hu .ge fun _ _ _ => rfl

/-! ### dicts -/
theorem dkey_f {d : D} {k : Key} : dkey d = some (.f k) ↔ fkey d = some k := by
  cases d <;> simp [dkey, fkey]
theorem fkey_kV {H : Hp} {μ : List Addr} {v : V} {d : D} {k : Key} (r : Rep Z H μ v d) (h : fkey d = some k) : v = kV k := by
  cases r <;> simp [fkey] at h <;> subst h <;> rfl
theorem RepKF.val {H : Hp} {μ : List Addr} {k : Key} : ∀ {es : List (Key × V)} {kvs : List (D × D)}, RepKF Z H μ es kvs →
    (valV es k = none ∧ dget kvs (.f k) = none) ∨ ∃ v d, valV es k = some v ∧ dget kvs (.f k) = some d ∧ Rep Z H μ v d
  | _, _, .nil => .inl ⟨rfl, rfl⟩
  | _, _, .cons (k := j) (v := v) (d := d) (e := e) hk hv r => by
    by_cases hj : j = k
    · subst hj
      refine .inr ⟨v, e, valV_pos (p := (j, v)) rfl, ?_, hv⟩
      unfold dget
      rw [if_pos (dkey_f.mpr hk)]
    · rw [valV_neg (p := (j, v)) hj]
      have : ¬ dkey d = some (.f k) := fun q => by
        have q' := dkey_f.mp q
        rw [hk] at q'
        exact hj (Option.some.inj q')
      unfold dget
      rw [if_neg this]
      exact RepKF.val r
def lkN : List (NestedKey × Addr × V) → NestedKey → Option (Addr × V)
  | [], _ => none
  | p :: r, k => if p.1 = k then some p.2 else lkN r k
theorem lkN_pos {p : NestedKey × Addr × V} {r : List (NestedKey × Addr × V)} {k : NestedKey} (e : p.1 = k) : lkN (p :: r) k = some p.2 := if_pos e
theorem lkN_neg {p : NestedKey × Addr × V} {r : List (NestedKey × Addr × V)} {k : NestedKey} (e : ¬ p.1 = k) : lkN (p :: r) k = lkN r k := if_neg e
theorem RepKN.atk {H : Hp} {μ : List Addr} {k : NestedKey} : ∀ {es : List (NestedKey × Addr × V)} {kvs : List (D × D)}, RepKN Z H μ es kvs →
    (lkN es k = none ∧ dget kvs (.n k) = none) ∨ ∃ a v d, lkN es k = some (a, v) ∧ dget kvs (.n k) = some d ∧ Rep Z H μ v d
  | _, _, .nil => .inl ⟨rfl, rfl⟩
  | _, _, .cons (k := j) (a := a) (v := v) (d := d) (e := e) hk ha hv r => by
    by_cases hj : j = k
    · subst hj
      refine .inr ⟨a, v, e, lkN_pos (p := (j, (a, v))) rfl, ?_, hv⟩
      unfold dget
      rw [if_pos hk]
    · rw [lkN_neg (p := (j, (a, v))) hj]
      have : ¬ dkey d = some (.n k) := fun q => by
        rw [hk] at q
        injection q with q
        injection q with q
        exact hj q
      unfold dget
      rw [if_neg this]
      exact RepKN.atk r
mutual
theorem Rep.nested {pins : List (Addr × Obj)} {s : Shared} {σ : St} {H : Hp} {μ : List Addr} (hZ : Z.K = X.K) (I : Inv X pins σ H s) : ∀ (d : D) (v : V) (u : Value) (k : NestedKey), Rep Z H μ v d → RelV v u → D.nkey d = some k → NestedIs s.heap k u
  | .non, _, _, _, r, q, h => by cases r; cases q; simp only [D.nkey, Option.some.injEq] at h; subst h; exact .none
  | .int i, _, _, _, r, q, h => by cases r; obtain ⟨t, rfl⟩ := q; simp only [D.nkey, Option.some.injEq] at h; subst h; exact .int i t
  | .str i, _, _, _, r, q, h => by cases r; obtain ⟨t, rfl⟩ := q; simp only [D.nkey, Option.some.injEq] at h; subst h; exact .text i t
  | .tup ds, _, _, _, r, q, h => by
    cases r with
    | tup hs hr =>
      cases q
      simp only [D.nkey] at h
      obtain ⟨ks, h1, h2⟩ := Option.map_eq_some_iff.mp h
      subst h2
      obtain ⟨its, rv, ⟨o, ho, hc, n, hd⟩, hz⟩ := I.tuple (hZ ▸ hs)
      exact .tup ho hc hd (by simpa using RepL.nested hZ I ds _ its ks hr rv h1)
  | .bl _, _, _, _, _, _, h => by simp [D.nkey] at h
  | .cl _, _, _, _, _, _, h => by simp [D.nkey] at h
  | .ref _, _, _, _, _, _, h => by simp [D.nkey] at h
  | .fn _, _, _, _, _, _, h => by simp [D.nkey] at h
  | .kls _, _, _, _, _, _, h => by simp [D.nkey] at h
  | .lam _ _, _, _, _, _, _, h => by simp [D.nkey] at h
theorem RepL.nested {pins : List (Addr × Obj)} {s : Shared} {σ : St} {H : Hp} {μ : List Addr} (hZ : Z.K = X.K) (I : Inv X pins σ H s) : ∀ (ds : List D) (vs : List V) (us : List Value) (ks : List NestedKey), RepL Z H μ vs ds → Vals vs us → D.nkeyL ds = some ks → NestedAll s.heap ks us
  | [], _, _, _, r, q, h => by cases r; cases q; simp only [D.nkeyL, Option.some.injEq] at h; subst h; exact .nil
  | d :: ds, _, _, _, r, q, h => by
    cases r with
    | cons r rs =>
      cases q with
      | cons q qs =>
        simp only [D.nkeyL] at h
        obtain ⟨k, h1, h⟩ := Option.bind_eq_some_iff.mp h
        obtain ⟨ks, h2, h3⟩ := Option.map_eq_some_iff.mp h
        subst h3
        exact .cons (Rep.nested hZ I d _ _ k r q h1) (RepL.nested hZ I ds _ _ ks rs qs h2)
end
mutual
theorem nkey_depth : ∀ (d : D) (k : NestedKey), D.nkey d = some k → k.depth = d.dep
  | .non, _, h => by simp only [D.nkey, Option.some.injEq] at h; subst h; simp [NestedKey.depth, D.dep]
  | .int i, _, h => by simp only [D.nkey, Option.some.injEq] at h; subst h; simp [NestedKey.depth, D.dep]
  | .str i, _, h => by simp only [D.nkey, Option.some.injEq] at h; subst h; simp [NestedKey.depth, D.dep]
  | .tup ds, _, h => by
    simp only [D.nkey] at h
    obtain ⟨ks, h1, h2⟩ := Option.map_eq_some_iff.mp h
    subst h2
    simp [NestedKey.depth, D.dep, nkeyL_depth ds ks h1]
  | .bl _, _, h => by simp [D.nkey] at h
  | .cl _, _, h => by simp [D.nkey] at h
  | .ref _, _, h => by simp [D.nkey] at h
  | .fn _, _, h => by simp [D.nkey] at h
  | .kls _, _, h => by simp [D.nkey] at h
  | .lam _ _, _, h => by simp [D.nkey] at h
theorem nkeyL_depth : ∀ (d : List D) (k : List NestedKey), D.nkeyL d = some k → NestedKey.depthAll k = D.depL d
  | [], _, h => by simp only [D.nkeyL, Option.some.injEq] at h; subst h; simp [NestedKey.depthAll, D.depL]
  | d :: ds, _, h => by
    simp only [D.nkeyL] at h
    obtain ⟨k, h1, h⟩ := Option.bind_eq_some_iff.mp h
    obtain ⟨ks, h2, h3⟩ := Option.map_eq_some_iff.mp h
    subst h3
    simp [NestedKey.depthAll, D.depL, nkey_depth d k h1, nkeyL_depth ds ks h2]
end
theorem dkey_n {d : D} {k : NestedKey} (h : dkey d = some (.n k)) : D.nkey d = some k ∧ k.depth ≤ 8 := by
  cases d with
  | tup ds =>
    simp only [dkey] at h
    split at h
    · rename_i hd
      obtain ⟨k', h1, h2⟩ := Option.map_eq_some_iff.mp h
      injection h2 with h2
      subst h2
      exact ⟨h1, by rw [nkey_depth _ _ h1]; exact hd⟩
    · cases h
  | _ => simp [dkey] at h
theorem Rep.keyIs {pins : List (Addr × Obj)} {s : Shared} {σ : St} {H : Hp} {μ : List Addr} (hZ : Z.K = X.K) (I : Inv X pins σ H s) {a : Addr} {d : D} {k : NestedKey} (r : Rep Z H μ (.ref a) d) (h : dkey d = some (.n k)) : (nestedKind X.prog X.w).is s.heap k a := by
  obtain ⟨h1, h2⟩ := dkey_n h
  exact ⟨r.nested hZ I d _ _ k rfl h1, h2⟩
/-- the dict with tuple keys as the library tells it -/
theorem RepKN.dict {pins : List (Addr × Obj)} {s : Shared} {σ : St} {H : Hp} {μ : List Addr} (hZ : Z.K = X.K) (I : Inv X pins σ H s) {a : Addr} {es : List (NestedKey × Addr × V)} {kvs : List (D × D)} (r : RepKN Z H μ es kvs) (h : KeyedObj X.prog X.w a es s.heap) :
    es.length ≤ sizeLine ∧ (a == sysModules) = false ∧ ∃ ys : List (NestedKey × Addr × Value), Paired (fun (p : NestedKey × Addr × V) (q : NestedKey × Addr × Value) => p.1 = q.1 ∧ p.2.1 = q.2.1 ∧ RelV p.2.2 q.2.2) es ys ∧ s.heap.DictOfH (nestedKind X.prog X.w) a ys := by
  obtain ⟨hz, hs, nd, ys, hp, o, es', ep, ho, hx, hd, he⟩ := h
  refine ⟨hz, hs, ys, hp, o, es', ep, ho, hx, hd, he, ?_, ?_⟩
  · have all : ∀ {es : List (NestedKey × Addr × V)} {kvs : List (D × D)} {ys : List (NestedKey × Addr × Value)}, RepKN Z H μ es kvs → Paired (fun (p : NestedKey × Addr × V) (q : NestedKey × Addr × Value) => p.1 = q.1 ∧ p.2.1 = q.2.1 ∧ RelV p.2.2 q.2.2) es ys →
        ∀ x ∈ ys, (nestedKind X.prog X.w).is s.heap x.1 x.2.1 := by
      intro es kvs ys r hp
      induction r generalizing ys with
      | nil => cases hp; intro x hx; cases hx
      | cons hk ha hv r ih =>
        cases hp with
        | cons h1 hp =>
          obtain ⟨e1, e2, _⟩ := h1
          intro x hx
          rcases List.mem_cons.mp hx with rfl | hx
          · rw [← e1, ← e2]
            exact ha.keyIs hZ I hk
          · exact ih hp x hx
    exact all r hp
  · have keys : ∀ {es : List (NestedKey × Addr × V)} {ys : List (NestedKey × Addr × Value)}, Paired (fun (p : NestedKey × Addr × V) (q : NestedKey × Addr × Value) => p.1 = q.1 ∧ p.2.1 = q.2.1 ∧ RelV p.2.2 q.2.2) es ys → ys.map (·.1) = es.map (·.1) := by
      intro es ys hp
      induction hp with
      | nil => rfl
      | cons h _ ih => simp only [List.map_cons, ih, h.1]
    rw [keys hp]
    exact nd
/-- what a look-up finds -/
theorem atKey_val {k : NestedKey} : ∀ {es : List (NestedKey × Addr × V)} {ys : List (NestedKey × Addr × Value)}, Paired (fun (p : NestedKey × Addr × V) (q : NestedKey × Addr × Value) => p.1 = q.1 ∧ p.2.1 = q.2.1 ∧ RelV p.2.2 q.2.2) es ys →
    (lkN es k = none ∧ atKey ys k = none) ∨ ∃ a v u, lkN es k = some (a, v) ∧ atKey ys k = some (a, u) ∧ RelV v u
  | _, _, .nil => .inl ⟨rfl, rfl⟩
  | _, _, .cons (a := p) (b := q) h t => by
    obtain ⟨e1, e2, e3⟩ := h
    by_cases hj : p.1 = k
    · refine .inr ⟨p.2.1, p.2.2, q.2.2, lkN_pos hj, ?_, e3⟩
      have : q.1 = k := e1 ▸ hj
      simp [atKey, this, e2]
    · rw [lkN_neg hj]
      have hn : ¬ q.1 = k := e1 ▸ hj
      rename_i l1 l2
      have e : atKey (q :: l2) k = atKey l2 k := by simp [atKey, hn]
      rw [e]
      exact atKey_val t
end
end MP

set_option Elab.async false
set_option linter.all false
set_option maxRecDepth 100000
set_option maxHeartbeats 4000000
/-! MP: dicts asked; membership, items. -/
namespace MP
open PySem PySem.Spec L2
open PyProof.Rows hiding St

section
variable {X : Cx} {Z : Wd} {W : XK} {pins : List (Addr × Obj)} {s : Shared} {σ : St} {H : Hp} {μ : List Addr} {st : Sto} {E : Value → Shared → Prop} {a : Addr} {u : HO} {kvs : List (D × D)}
theorem SRep.dict (S : SRep X.prog X.w Z H μ st) {v : V} {d : D} (r : Rep Z H μ v d) (h : dictOf d st = some kvs) : ∃ a u, v = .ref a ∧ Rd H a u ∧ RepDct X.prog X.w Z H μ a kvs u := by
  unfold dictOf at h
  cases d with
  | ref n =>
    simp only at h
    cases r with
    | ref hm =>
      split at h
      · rename_i e
        cases h
        obtain ⟨u, e1, q⟩ := S.ob n _ _ e hm
        exact ⟨_, u, rfl, .inl e1, q⟩
      · rename_i e
        cases h
        obtain ⟨o, u, e1, q⟩ := S.ob n _ _ e hm
        exact ⟨_, u, rfl, .inr ⟨o, e1⟩, q⟩
      · cases h
  | _ => cases h
theorem dK_nil (I : Inv X pins σ H s) (e : Rd H a (.dK [])) : (a == sysModules) = false ∧ s.heap.DictOfH (nestedKind X.prog X.w) a [] := by
  obtain ⟨z, hd, vs, rel, dd⟩ := dk_rd I.hok e
  cases rel
  obtain ⟨o, es, ep, ho, hx, hdt, _, hp, _⟩ := dd
  refine ⟨hd, o, es, ep, ho, hx, hdt, ?_, by simp, by simp⟩
  cases q : es.toList with
  | nil => rfl
  | cons x r => rw [q] at hp; cases hp
theorem look_n (hZ : Z.K = X.K) (I : Inv X pins σ H s) (hr : Rd H a u) (q : RepDct X.prog X.w Z H μ a kvs u) {k : NestedKey} (hk : sameKind (.n k) kvs = true) :
    ∃ (es : List (NestedKey × Addr × V)) (ys : List (NestedKey × Addr × Value)), (u = .dK [] ∧ es = [] ∨ u = keyedHO X.prog X.w a es) ∧ RepKN Z H μ es kvs ∧ Paired (fun (p : NestedKey × Addr × V) (q : NestedKey × Addr × Value) => p.1 = q.1 ∧ p.2.1 = q.2.1 ∧ RelV p.2.2 q.2.2) es ys ∧
      s.heap.DictOfH (nestedKind X.prog X.w) a ys ∧ (a == sysModules) = false ∧ es.length ≤ sizeLine := by
  rcases q with ⟨es, rfl, r⟩ | ⟨es, rfl, ne, r⟩
  · cases r with
    | nil =>
      obtain ⟨h1, h2⟩ := dK_nil I hr
      exact ⟨[], [], .inl ⟨rfl, rfl⟩, .nil, .nil, h2, h1, Nat.zero_le _⟩
    | @cons k' v d e r' s' hf _ _ =>
      simp only [sameKind] at hk
      cases d <;> simp [fkey] at hf hk
  · obtain ⟨ko, _, _⟩ := hr.ok I.hok
    obtain ⟨hz, hs, ys, hp, hd⟩ := r.dict hZ I ko
    exact ⟨es, ys, .inr rfl, r, hp, hd, hs, hz⟩
theorem look_f (q : RepDct X.prog X.w Z H μ a kvs u) {k : Key} (hk : sameKind (.f k) kvs = true) : ∃ es, u = .dK es ∧ RepKF Z H μ es kvs := by
  rcases q with ⟨es, rfl, r⟩ | ⟨es, rfl, ne, r⟩
  · exact ⟨es, rfl, r⟩
  · cases r with
    | nil => exact absurd rfl ne
    | @cons k' a' v d e r' s' hf _ _ _ =>
      simp only [sameKind] at hk
      cases d <;> simp [dkey] at hf hk
theorem dget_some {k : DK} : ∀ {kvs : List (D × D)}, (dget kvs k).isSome = kvs.any fun p => decide (dkey p.1 = some k)
  | [] => rfl
  | (d, v) :: r => by
    unfold dget
    rw [List.any_cons]
    by_cases h : dkey d = some k
    · simp [h]
    · rw [if_neg h, dget_some]; simp [h]
theorem key_ref {y : V} {d : D} {k : NestedKey} (r : Rep Z H μ y d) (h : dkey d = some (.n k)) : ∃ b, y = .ref b := by
  cases r <;> simp [dkey] at h <;> exact ⟨_, rfl⟩
theorem room8 (hu : X.A.units + 64 < cLine) : (nestedKind X.prog X.w).room X.A.in1 := by
  show X.A.units + 1 + 8 < cLine
  omega
/-- y in a -/
theorem q_in (hZ : Z.K = X.K) (hu : X.A.units + 64 < cLine) (I : Inv X pins σ H s) (hr : Rd H a u) (q : RepDct X.prog X.w Z H μ a kvs u) {y : V} {yv : Value} {d : D} {k : DK} (r : Rep Z H μ y d) (ry : RelV y yv) (hd : dkey d = some k) (hk : sameKind k kvs = true) {Q : Value → Shared → Prop}
    (h : ∀ s', Inv X pins σ H s' → Q (.bool (dget kvs k).isSome) s') : wpAny (model X.prog X.w) X.A (compareOp .In yv (.ref a)) Q E s := by
  cases k with
  | f k =>
    obtain ⟨es, rfl, rk⟩ := look_f q hk
    have ey := fkey_kV r (dkey_f.mp hd)
    refine d_in (o := valV es k) (by omega) I (.inl ⟨es, k, hr, ey, rfl⟩) ry fun s' I' => ?_
    have e : (valV es k).isSome = (dget kvs (.f k)).isSome := by
      rcases rk.val (k := k) with ⟨e1, e2⟩ | ⟨v, d, e1, e2, _⟩ <;> rw [e1, e2] <;> rfl
    rw [e]
    exact h s' I'
  | n k =>
    obtain ⟨es, ys, _, rk, hp, hm, hs, hz⟩ := look_n hZ I hr q hk
    obtain ⟨b, rfl⟩ := key_ref r hd
    cases (show yv = Value.ref b from ry)
    refine wpAny_in_heap (room8 hu) (r.keyIs hZ I hd) hs hm ?_
    have e : (atKey ys k).isSome = (dget kvs (.n k)).isSome := by
      rcases rk.atk (k := k) with ⟨e1, e2⟩ | ⟨a', v, d', e1, e2, _⟩ <;> rcases atKey_val (k := k) hp with ⟨e3, e4⟩ | ⟨a2, v2, u2, e3, e4, _⟩ <;> rw [e2, e4] <;> rw [e1] at e3 <;> first | rfl | (exact nomatch e3)
    rw [e]
    exact h _ (I.tok _)
theorem q_notIn (hZ : Z.K = X.K) (hu : X.A.units + 64 < cLine) (I : Inv X pins σ H s) (hr : Rd H a u) (q : RepDct X.prog X.w Z H μ a kvs u) {y : V} {yv : Value} {d : D} {k : DK} (r : Rep Z H μ y d) (ry : RelV y yv) (hd : dkey d = some k) (hk : sameKind k kvs = true) {Q : Value → Shared → Prop}
    (h : ∀ s', Inv X pins σ H s' → Q (.bool (!(dget kvs k).isSome)) s') : wpAny (model X.prog X.w) X.A (compareOp .NotIn yv (.ref a)) Q E s := by
  cases k with
  | f k =>
    obtain ⟨es, rfl, rk⟩ := look_f q hk
    have ey := fkey_kV r (dkey_f.mp hd)
    refine d_notIn (o := valV es k) (by omega) I (.inl ⟨es, k, hr, ey, rfl⟩) ry fun s' I' => ?_
    have e : (valV es k).isSome = (dget kvs (.f k)).isSome := by
      rcases rk.val (k := k) with ⟨e1, e2⟩ | ⟨v, d, e1, e2, _⟩ <;> rw [e1, e2] <;> rfl
    rw [e]
    exact h s' I'
  | n k =>
    obtain ⟨es, ys, _, rk, hp, hm, hs, hz⟩ := look_n hZ I hr q hk
    obtain ⟨b, rfl⟩ := key_ref r hd
    cases (show yv = Value.ref b from ry)
    show wpAny _ _ (do return .bool (!(← contains (.ref a) (.ref b)))) Q E s
    refine wpAny_bind (wpAny_contains_heap (room8 hu) (r.keyIs hZ I hd) hs hm (wpAny_pure ?_))
    have e : (atKey ys k).isSome = (dget kvs (.n k)).isSome := by
      rcases rk.atk (k := k) with ⟨e1, e2⟩ | ⟨a', v, d', e1, e2, _⟩ <;> rcases atKey_val (k := k) hp with ⟨e3, e4⟩ | ⟨a2, v2, u2, e3, e4, _⟩ <;> rw [e2, e4] <;> rw [e1] at e3 <;> first | rfl | (exact nomatch e3)
    rw [e]
    exact h _ (I.tok _)
theorem RepKN.both {es : List (NestedKey × Addr × V)} {ys : List (NestedKey × Addr × Value)} {k : NestedKey} (rk : RepKN Z H μ es kvs) (hp : Paired (fun (p : NestedKey × Addr × V) (q : NestedKey × Addr × Value) => p.1 = q.1 ∧ p.2.1 = q.2.1 ∧ RelV p.2.2 q.2.2) es ys) :
    (dget kvs (.n k) = none ∧ atKey ys k = none) ∨ ∃ a u v d, dget kvs (.n k) = some d ∧ atKey ys k = some (a, u) ∧ RelV v u ∧ Rep Z H μ v d := by
  rcases rk.atk (k := k) with ⟨e1, e2⟩ | ⟨a', v, d', e1, e2, r⟩ <;> rcases atKey_val (k := k) hp with ⟨e3, e4⟩ | ⟨a2, v2, u2, e3, e4, q⟩ <;> rw [e1] at e3
  · exact .inl ⟨e2, e4⟩
  · cases e3
  · cases e3
  · cases e3
    exact .inr ⟨_, _, _, _, e2, e4, q, r⟩
/-- a[y], there -/
theorem q_item (hZ : Z.K = X.K) (hu : X.A.units + 64 < cLine) (I : Inv X pins σ H s) (hr : Rd H a u) (q : RepDct X.prog X.w Z H μ a kvs u) {y : V} {yv : Value} {d e : D} {k : DK} (r : Rep Z H μ y d) (ry : RelV y yv) (hd : dkey d = some k) (hk : sameKind k kvs = true) (he : dget kvs k = some e) {Q : Value → Shared → Prop}
    (h : ∀ s' v w, Inv X pins σ H s' → Rep Z H μ v e → RelV v w → Q w s') : wpAny (model X.prog X.w) X.A (getItem (.ref a) yv) Q E s := by
  cases k with
  | f k =>
    obtain ⟨es, rfl, rk⟩ := look_f q hk
    have ey := fkey_kV r (dkey_f.mp hd)
    rcases rk.val (k := k) with ⟨e1, e2⟩ | ⟨v, d', e1, e2, rv⟩
    · rw [he] at e2; cases e2
    · rw [he] at e2; cases e2
      exact d_getItem (v := v) (by omega) I (.inl ⟨es, k, hr, ey, e1.symm⟩) ry fun w' s' I' rw' => h s' v w' I' rv rw'
  | n k =>
    obtain ⟨es, ys, _, rk, hp, hm, hs, hz⟩ := look_n hZ I hr q hk
    obtain ⟨b, rfl⟩ := key_ref r hd
    cases (show yv = Value.ref b from ry)
    rcases rk.both (k := k) hp with ⟨e1, e2⟩ | ⟨a', u', v, d', e1, e2, e3, e4⟩
    · rw [he] at e1; cases e1
    · rw [he] at e1; cases e1
      exact wpAny_getItem_heap (room8 hu) (r.keyIs hZ I hd) hm e2 (h _ v u' (I.tok _) e4 e3)
theorem dictTy (hZ : Z.K = X.K) (I : Inv X pins σ H s) (hr : Rd H a u) (q : RepDct X.prog X.w Z H μ a kvs u) : ∃ o, s.heap.get? a = some o ∧ o.ExactDict ∧ (a == sysModules) = false := by
  rcases q with ⟨es, rfl, r⟩ | ⟨es, rfl, ne, r⟩
  · obtain ⟨z, hd, vs, rel, dd⟩ := dk_rd I.hok hr
    obtain ⟨o, es, ep, ho, hx, _⟩ := dd
    exact ⟨o, ho, hx, hd⟩
  · obtain ⟨ko, _, _⟩ := hr.ok I.hok
    obtain ⟨hz, hs, _, ys, hp, o, es', ep, ho, hx, _⟩ := ko
    exact ⟨o, ho, hx, hs⟩
/-- a.get(y) -/
theorem q_get (hZ : Z.K = X.K) (hu : X.A.units + 64 < cLine) (I : Inv X pins σ H s) (hr : Rd H a u) (q : RepDct X.prog X.w Z H μ a kvs u) {y : V} {yv : Value} {d : D} {k : DK} (r : Rep Z H μ y d) (ry : RelV y yv) (hd : dkey d = some k) (hk : sameKind k kvs = true) {Q : Value → Shared → Prop}
    (h : ∀ s' v w, Inv X pins σ H s' → Rep Z H μ v ((dget kvs k).getD .non) → RelV v w → Q w s') : wpAny (model X.prog X.w) X.A (call (.builtin "dict.get") [.ref a, yv]) Q E s := by
  cases k with
  | f k =>
    obtain ⟨es, rfl, rk⟩ := look_f q hk
    have ey := fkey_kV r (dkey_f.mp hd)
    refine d_get1 (o := valV es k) (by omega) I (.inl ⟨es, k, hr, ey, rfl⟩) ry fun w' s' I' rw' => h s' _ w' I' ?_ rw'
    rcases rk.val (k := k) with ⟨e1, e2⟩ | ⟨v, d', e1, e2, rv⟩
    · rw [e1, e2]; exact .non
    · rw [e1, e2]; exact rv
  | n k =>
    obtain ⟨es, ys, _, rk, hp, hm, hs, hz⟩ := look_n hZ I hr q hk
    obtain ⟨b, rfl⟩ := key_ref r hd
    cases (show yv = Value.ref b from ry)
    have ty : s.TypeIs (.ref a) "dict" := hm.typeIs
    refine call_meetsIn PySem.F.slot_dict_get ty PySem.F.entry_dict_get (PySem.F.args_dict_get_2 _ _) (meetsH_dict_get (nestedKind X.prog X.w) a b hs) ⟨room8 hu, k, ys, r.keyIs hZ I hd, hm, ?_⟩
    rcases rk.both (k := k) hp with ⟨e1, e2⟩ | ⟨a', u', v, d', e1, e2, e3, e4⟩
    · rw [e2]
      exact h _ .non .none (I.tok _) (by rw [e1]; exact .non) rfl
    · rw [e2]
      exact h _ v u' (I.tok _) (by rw [e1]; exact e4) e3
end
end MP

set_option Elab.async false
set_option linter.all false
set_option maxRecDepth 100000
set_option maxHeartbeats 4000000
/-! MP: membership, items, methods of one value and another. -/
namespace MP
open PySem PySem.Spec L2
open PyProof.Rows hiding St

section
variable {X : Cx} {Z : Wd} {W : XK} {pins : List (Addr × Obj)} {s : Shared} {σ : St} {H : Hp} {μ : List Addr} {st : Sto} {E : Value → Shared → Prop}
theorem dictOf_dct {n : Nat} {kvs : List (D × D)} (h : st[n]? = some (.dct kvs)) : dictOf (.ref n) st = some kvs := by simp [dictOf, h]
theorem dictOf_fdct {n : Nat} {kvs : List (D × D)} (h : st[n]? = some (.fdct kvs)) : dictOf (.ref n) st = some kvs := by simp [dictOf, h]
theorem listOf_lst {n : Nat} {ds : List D} (h : st[n]? = some (.lst ds)) : listOf (.ref n) st = some ds := by simp [listOf, h]
/-- what a membership test comes to -/
inductive InK (a b : D) (st : Sto) (r : Bool) : Prop
  | str (x y : Str) : a = .str x → b = .str y → inStr x y = r → InK a b st r
  | tup (ds : List D) : b = .tup ds → D.okD a = true → D.okL ds = true → (ds.any fun d => PyData.eqv d.py a.py) = r → InK a b st r
  | lst (ds : List D) : listOf b st = some ds → D.okD a = true → D.okL ds = true → (ds.any fun d => PyData.eqv d.py a.py) = r → InK a b st r
  | dct (kvs : List (D × D)) (k : DK) : dictOf b st = some kvs → dkey a = some k → sameKind k kvs = true → (dget kvs k).isSome = r → InK a b st r
theorem inD_k {a b : D} {r : Bool} (h : inD a b st = some r) : InK a b st r := by
  have seq : ∀ {ds : List D}, (if (D.okD a && D.okL ds) = true then some (ds.any fun d => PyData.eqv d.py a.py) else none) = some r → D.okD a = true ∧ D.okL ds = true ∧ (ds.any fun d => PyData.eqv d.py a.py) = r := fun {ds} h => by
    split at h
    · rename_i hk
      simp only [Bool.and_eq_true] at hk
      exact ⟨hk.1, hk.2, Option.some.inj h⟩
    · cases h
  have dc : ∀ {kvs : List (D × D)}, ((dkey a).bind fun k => if sameKind k kvs = true then some (dget kvs k).isSome else none) = some r → ∃ k, dkey a = some k ∧ sameKind k kvs = true ∧ (dget kvs k).isSome = r := fun {kvs} h => by
    obtain ⟨k, h1, h⟩ := Option.bind_eq_some_iff.mp h
    split at h
    · rename_i hk
      exact ⟨k, h1, hk, Option.some.inj h⟩
    · cases h
  unfold inD at h
  cases b with
  | str y =>
    cases a with
    | str x => exact .str x y rfl rfl (Option.some.inj h)
    | _ => cases h
  | tup ds => obtain ⟨h1, h2, h3⟩ := seq h; exact .tup ds rfl h1 h2 h3
  | cl ds => obtain ⟨h1, h2, h3⟩ := seq h; exact .lst ds rfl h1 h2 h3
  | ref n =>
    simp only at h
    split at h
    · rename_i e; obtain ⟨h1, h2, h3⟩ := seq h; exact .lst _ (listOf_lst e) h1 h2 h3
    · rename_i e; obtain ⟨k, h1, h2, h3⟩ := dc h; exact .dct _ k (dictOf_dct e) h1 h2 h3
    · rename_i e; obtain ⟨k, h1, h2, h3⟩ := dc h; exact .dct _ k (dictOf_fdct e) h1 h2 h3
    · cases h
  | _ => cases h
theorem any_py {f : PyData → Bool} : ∀ ds : List D, (D.pyL ds).any f = ds.any fun d => f d.py
  | [] => by simp [D.pyL]
  | d :: ds => by simp [D.pyL, any_py ds]
theorem str_one {x : Str} (h : x.length = 1) : x = ⟨#[x.cps.getD 0 0]⟩ := by
  obtain ⟨c⟩ := x
  have h : c.size = 1 := h
  congr 1
  apply Array.ext
  · simp [h]
  · intro i h1 h2
    have : i = 0 := by omega
    subst this
    simp [Array.getD, h]
theorem o_in (hZ : Z.K = X.K) (hu : X.A.units + 100 < cLine) : OpR X (compareOp .In) (r2 X.prog X.w Z W .in_) := by
  intro pins s σ H x y v u Q I rx ry ⟨μ, d1, d2, st, S, q1, q2, h⟩
  obtain ⟨b, e, q⟩ := Pst.cmp h S
  cases inD_k e with
  | str i j e1 e2 e3 =>
    subst e1 e2
    cases q1; cases q2
    unfold inStr at e3
    split at e3
    · rename_i hl
      refine op_in_sign pins s σ H _ _ v u Q I rx ry ⟨i.cps.getD 0 0, j, by rw [← str_one hl], rfl, by rw [e3]; exact q⟩
    · exact op_in_str pins s σ H _ _ v u Q I rx ry ⟨i, j, rfl, rfl, by rw [e3]; exact q⟩
  | tup ds e1 h1 h2 h3 =>
    subst e1
    obtain ⟨f1, l1, p1⟩ := okD_flat h1
    obtain ⟨f2, l2, p2⟩ := okL_flat h2
    obtain ⟨as, r1⟩ := Dp.reads I _ _ _ (hZ ▸ q1.dp f1) rx
    obtain ⟨bs, r2⟩ := Dp.reads I _ _ _ (hZ ▸ q2.dp (by simpa [D.flat] using f2)) ry
    simp only [D.py] at r2
    refine SeqAt.in_tuple_reads r2 r1 l2 l1 (by rw [depth_pyL, depth_py]; omega) ⟨.bl b, H, I, ?_, q⟩
    rw [any_py, h3]; rfl
  | lst ds e1 h1 h2 h3 =>
    obtain ⟨f1, l1, p1⟩ := okD_flat h1
    obtain ⟨f2, l2, p2⟩ := okL_flat h2
    obtain ⟨a, xs, rfl, qs, rl⟩ := S.listOf q2 e1
    obtain ⟨as, r1⟩ := Dp.reads I _ _ _ (hZ ▸ q1.dp f1) rx
    obtain ⟨bs, r2⟩ := Dp.reads I (.list (D.pyL ds)) _ _ (hZ ▸ Dp.lst qs (rl.dp f2)) ry
    refine SeqAt.in_list_reads r2 r1 l2 l1 (by rw [depth_pyL, depth_py]; omega) ⟨.bl b, H, I, ?_, q⟩
    rw [any_py, h3]; rfl
  | dct kvs k e1 h1 h2 h3 =>
    obtain ⟨a, u', rfl, hr, hd⟩ := S.dict q2 e1
    cases (show u = Value.ref a from ry)
    exact q_in hZ (by omega) I hr hd q1 rx h1 h2 fun s' I' => ⟨.bl b, H, I', by rw [h3]; rfl, q⟩
theorem o_notIn (hZ : Z.K = X.K) (hu : X.A.units + 100 < cLine) : OpR X (compareOp .NotIn) (r2 X.prog X.w Z W .notin) := by
  intro pins s σ H x y v u Q I rx ry ⟨μ, d1, d2, st, S, q1, q2, h⟩
  obtain ⟨b0, e, q⟩ := Pst.cmp h S
  obtain ⟨b, e0, eb⟩ := Option.map_eq_some_iff.mp e
  subst eb
  cases inD_k e0 with
  | str i j e1 e2 e3 =>
    subst e1 e2
    cases q1; cases q2
    unfold inStr at e3
    split at e3
    · rename_i hl
      refine op_notIn_sign pins s σ H _ _ v u Q I rx ry ⟨i.cps.getD 0 0, j, by rw [← str_one hl], rfl, by rw [e3]; exact q⟩
    · exact op_notIn_str pins s σ H _ _ v u Q I rx ry ⟨i, j, rfl, rfl, by rw [e3]; exact q⟩
  | tup ds e1 h1 h2 h3 =>
    subst e1
    obtain ⟨f1, l1, p1⟩ := okD_flat h1
    obtain ⟨f2, l2, p2⟩ := okL_flat h2
    obtain ⟨as, r1⟩ := Dp.reads I _ _ _ (hZ ▸ q1.dp f1) rx
    obtain ⟨bs, r2⟩ := Dp.reads I _ _ _ (hZ ▸ q2.dp (by simpa [D.flat] using f2)) ry
    simp only [D.py] at r2
    refine SeqAt.notIn_tuple_reads r2 r1 l2 l1 (by rw [depth_pyL, depth_py]; omega) ⟨.bl (!b), H, I, ?_, q⟩
    rw [any_py, h3]; rfl
  | lst ds e1 h1 h2 h3 =>
    obtain ⟨f1, l1, p1⟩ := okD_flat h1
    obtain ⟨f2, l2, p2⟩ := okL_flat h2
    obtain ⟨a, xs, rfl, qs, rl⟩ := S.listOf q2 e1
    obtain ⟨as, r1⟩ := Dp.reads I _ _ _ (hZ ▸ q1.dp f1) rx
    obtain ⟨bs, r2⟩ := Dp.reads I (.list (D.pyL ds)) _ _ (hZ ▸ Dp.lst qs (rl.dp f2)) ry
    refine SeqAt.notIn_list_reads r2 r1 l2 l1 (by rw [depth_pyL, depth_py]; omega) ⟨.bl (!b), H, I, ?_, q⟩
    rw [any_py, h3]; rfl
  | dct kvs k e1 h1 h2 h3 =>
    obtain ⟨a, u', rfl, hr, hd⟩ := S.dict q2 e1
    cases (show u = Value.ref a from ry)
    exact q_notIn hZ (by omega) I hr hd q1 rx h1 h2 fun s' I' => ⟨.bl (!b), H, I', by rw [h3]; rfl, q⟩
theorem Pst.opt {P : Program} {w : World} {o : Option D} {Q : D → Sto → V → Hp → List Addr → Prop} (h : Pst P w Z W H μ (RV Z) (R.opt o st) Q) : ∃ d, o = some d ∧ ∀ v, SRep P w Z H μ st → Rep Z H μ v d → Q d st v H μ := by
  cases o with
  | none => exact False.elim h
  | some d => exact ⟨d, rfl, fun v S r => h v H μ Ev.refl S r⟩
/-- what an index comes to -/
inductive IxK (a i : D) (st : Sto) (r : D) : Prop
  | seq (ds : List D) (j : Int) : seqOf a st = some ds → i = .int j → L2.atI ds j = some r → IxK a i st r
  | str (z : Str) (j : Int) (c : Nat) : a = .str z → i = .int j → z.length ≤ LINE → L2.atI z.cps.toList j = some c → r = .str ⟨#[c]⟩ → IxK a i st r
  | dct (kvs : List (D × D)) (k : DK) : dictOf a st = some kvs → dkey i = some k → sameKind k kvs = true → dget kvs k = some r → IxK a i st r
theorem idxD_k {a i r : D} (h : idxD a i st = some r) : IxK a i st r := by
  have dc : ∀ {kvs : List (D × D)}, ((dkey i).bind fun k => if sameKind k kvs = true then dget kvs k else none) = some r → ∃ k, dkey i = some k ∧ sameKind k kvs = true ∧ dget kvs k = some r := fun {kvs} h => by
    obtain ⟨k, h1, h⟩ := Option.bind_eq_some_iff.mp h
    split at h
    · rename_i hk
      exact ⟨k, h1, hk, h⟩
    · cases h
  unfold idxD at h
  cases a with
  | tup ds => cases i with
    | int j => exact .seq ds j rfl rfl h
    | _ => cases h
  | cl ds => cases i with
    | int j => exact .seq ds j rfl rfl h
    | _ => cases h
  | str z => cases i with
    | int j =>
      simp only at h
      split at h
      · rename_i hl
        obtain ⟨c, h1, h2⟩ := Option.map_eq_some_iff.mp h
        exact .str z j c rfl rfl hl h1 h2.symm
      · cases h
    | _ => cases h
  | ref n =>
    simp only at h
    split at h
    · rename_i e
      cases i with
      | int j => exact .seq _ j (by simp [seqOf, e]) rfl h
      | _ => cases h
    · rename_i e; obtain ⟨k, h1, h2, h3⟩ := dc h; exact .dct _ k (dictOf_dct e) h1 h2 h3
    · rename_i e; obtain ⟨k, h1, h2, h3⟩ := dc h; exact .dct _ k (dictOf_fdct e) h1 h2 h3
    · cases h
  | _ => cases h
theorem RepL.atI {xs : List V} {ds : List D} {j : Int} {r : D} (h : RepL Z H μ xs ds) (e : L2.atI ds j = some r) : ∃ v, L2.atI xs j = some v ∧ Rep Z H μ v r := by
  unfold L2.atI at e ⊢
  rw [h.length]
  obtain ⟨k, h1, h2⟩ := Option.bind_eq_some_iff.mp e
  obtain ⟨v, h3, h4⟩ := h.get h2
  exact ⟨v, by rw [h1]; exact h3, h4⟩
theorem o_idx (hZ : Z.K = X.K) (hu : X.A.units + 64 < cLine) : IxR X (r2 X.prog X.w Z W .idx) := by
  intro value slice pins s σ H x y v u Q I rx ry ⟨μ, d1, d2, st, S, q1, q2, h⟩ hs
  obtain ⟨r, e, q⟩ := Pst.opt h
  cases idxD_k e with
  | seq ds j e1 e2 e3 =>
    subst e2
    cases q2
    obtain ⟨a, xs, rfl, qs, rl⟩ := S.seqOf q1 e1
    obtain ⟨w, h1, h2⟩ := rl.atI e3
    rcases qs with qs | qs
    · exact ix_list value slice pins s σ H _ _ v u Q I rx ry ⟨a, xs, j, w, rfl, rfl, hZ ▸ qs, h1, q w S h2⟩ hs
    · exact ix_tup value slice pins s σ H _ _ v u Q I rx ry ⟨a, xs, j, w, rfl, rfl, hZ ▸ qs, h1, q w S h2⟩ hs
  | str z j c e1 e2 hl e3 e4 =>
    subst e1 e2 e4
    cases q1; cases q2
    exact ix_str value slice pins s σ H _ _ v u Q I rx ry ⟨z, j, c, rfl, rfl, by rw [← LINE_eq]; exact hl, e3, q _ S (.str _)⟩ hs
  | dct kvs k e1 h1 h2 h3 =>
    obtain ⟨a, u', rfl, hr, hd⟩ := S.dict q1 e1
    cases (show v = Value.ref a from rx)
    obtain ⟨o, ho, hx, _⟩ := dictTy hZ I hr hd
    exact tail_any (T := "dict") ⟨o, ho, hx.1⟩ PySem.F.slot_dict_getitem.lookup (q_item hZ hu I hr hd q2 ry h1 h2 h3 fun s' w' w2 I' rr rv => ⟨w', H, I', rv, q w' S rr⟩) hs
/-- a method of a list, of a dict, by values -/
def rm (P : Program) (w : World) (Z : Wd) (W : XK) (o : Op2) : V → List V → Hp → VK → Prop := fun x xs H Q => ∃ y, xs = [y] ∧ r2 P w Z W o x y H Q
theorem m_append : MtR X "list.append" (rm X.prog X.w Z W .append) := by
  intro pins s σ H x xs v us Q I rx rs ⟨y, e, μ, d1, d2, st, S, q1, q2, h⟩
  subst e
  cases d1 with
  | ref n =>
    cases q1 with
    | @ref _ a hm =>
      have h : Pst X.prog X.w Z W H μ (RV Z) (match st[n]? with
        | some (.lst ds) => if ds.length < LINE then .ok .non (st.set n (.lst (ds ++ [d2]))) else .bad
        | _ => .bad) _ := h
      split at h
      · rename_i ds e
        obtain ⟨xs, h1, r1⟩ := S.lst hm e
        by_cases hl : ds.length < LINE
        · rw [if_pos hl] at h
          refine mt_append pins s σ H _ _ v us Q I rx rs ⟨a, xs, y, rfl, rfl, h1, by rw [r1.length, ← LINE_eq]; exact hl, ?_⟩
          have ev : Ev H μ (upd H a (.lst (xs ++ [y]))) μ := Ev.write (List.mem_of_getElem? hm) (.of h1 (by simp))
          exact h .non _ μ ev (S.write hm (.of h1 (by simp)) ⟨_, upd_same, (r1.snoc q2).mono ev S.nt⟩) .non
        · rw [if_neg hl] at h; exact False.elim h
      · exact False.elim h
  | _ => exact False.elim h
theorem m_get (hZ : Z.K = X.K) (hu : X.A.units + 64 < cLine) : MtR X "dict.get" (rm X.prog X.w Z W .get) := by
  intro pins s σ H x xs v us Q I rx rs ⟨y, e, μ, d1, d2, st, S, q1, q2, h⟩
  subst e
  obtain ⟨u, rfl, ry⟩ := rs.one
  have h : Pst X.prog X.w Z W H μ (RV Z) (match dictOf d1 st with
    | some kvs => (match dkey d2 with
      | some k => if sameKind k kvs = true then .ok ((dget kvs k).getD .non) st else .bad
      | none => .bad)
    | none => .bad) _ := h
  split at h
  · rename_i kvs e1
    split at h
    · rename_i k e2
      by_cases hk : sameKind k kvs = true
      · rw [if_pos hk] at h
        obtain ⟨a, u', rfl, hr, hd⟩ := S.dict q1 e1
        cases (show v = Value.ref a from rx)
        exact q_get hZ hu I hr hd q2 ry e2 hk fun s' w' w2 I' rr rv => ⟨w', H, I', rv, h.fin S rr⟩
      · rw [if_neg hk] at h; exact False.elim h
    · exact False.elim h
  · exact False.elim h
end
end MP

set_option Elab.async false
set_option linter.all false
set_option maxRecDepth 100000
set_option maxHeartbeats 4000000
/-! MP: operations of one value; truth; isinstance. -/
namespace MP
open PySem PySem.Spec L2
open PyProof.Rows hiding St

/-- an operation of one value -/
def r1 (P : Program) (w : World) (Z : Wd) (W : XK) (o : Op1) : V → Hp → VK → Prop := fun x H Q => ∃ μ d st, SRep P w Z H μ st ∧ Rep Z H μ x d ∧ Pst P w Z W H μ (RV Z) (p1 o d st) fun _ _ v H' _ => Q v H'
/-- a call of a built-in with one value -/
def rc1 (P : Program) (w : World) (Z : Wd) (W : XK) (o : Op1) : List V → Hp → VK → Prop := fun xs H Q => ∃ x, xs = [x] ∧ r1 P w Z W o x H Q
/-- .. with two -/
def rc2 (P : Program) (w : World) (Z : Wd) (W : XK) (o : Op2) : List V → Hp → VK → Prop := fun xs H Q => ∃ x y, xs = [x, y] ∧ r2 P w Z W o x y H Q
def rm0 (P : Program) (w : World) (Z : Wd) (W : XK) (o : Op1) : V → List V → Hp → VK → Prop := fun x xs H Q => xs = [] ∧ r1 P w Z W o x H Q
section
variable {X : Cx} {Z : Wd} {W : XK}
theorem u_neg : UnR X (unaryOp .USub) (r1 X.prog X.w Z W .neg) := by
  intro pins s σ H x v Q I rx ⟨μ, d, st, S, q1, h⟩
  cases q1 with
  | int i => exact un_neg pins s σ H _ v Q I rx ⟨i, rfl, h.fin S (.int _)⟩
  | _ => exact False.elim h
theorem c_abs : CallR X (.builtin "abs") (rc1 X.prog X.w Z W .abs) := by
  intro pins s σ H xs us Q I rx ⟨x, e, μ, d, st, S, q1, h⟩
  subst e
  cases q1 with
  | int i => exact call_abs pins s σ H _ us Q I rx ⟨i, rfl, h.fin S (.int _)⟩
  | _ => exact False.elim h
theorem c_int : CallR X (.type "int") (rc1 X.prog X.w Z W .int_) := by
  intro pins s σ H xs us Q I rx ⟨x, e, μ, d, st, S, q1, h⟩
  subst e
  cases q1 with
  | int i => exact call_int1 pins s σ H _ us Q I rx (.inl ⟨i, rfl, h.fin S (.int _)⟩)
  | bl b => exact call_int1 pins s σ H _ us Q I rx (.inr ⟨b, rfl, h.fin S (.int _)⟩)
  | _ => exact False.elim h
theorem c_max (hc : X.calm = true) : CallR X (.builtin "max") (rc2 X.prog X.w Z W .max_) := by
  intro pins s σ H xs us Q I rx ⟨x, y, e, μ, d1, d2, st, S, q1, q2, h⟩
  subst e
  cases q1 with
  | int i =>
    cases q2 with
    | int j => exact call_max2 hc pins s σ H _ us Q I rx ⟨i, j, rfl, h.fin S (.int _)⟩
    | _ => exact False.elim h
  | _ => cases q2 <;> exact False.elim h
theorem c_min (hc : X.calm = true) : CallR X (.builtin "min") (rc2 X.prog X.w Z W .min_) := by
  intro pins s σ H xs us Q I rx ⟨x, y, e, μ, d1, d2, st, S, q1, q2, h⟩
  subst e
  cases q1 with
  | int i =>
    cases q2 with
    | int j => exact call_min2 hc pins s σ H _ us Q I rx ⟨i, j, rfl, h.fin S (.int _)⟩
    | _ => exact False.elim h
  | _ => cases q2 <;> exact False.elim h
/-- what a length comes to -/
inductive LenK (a : D) (st : Sto) (n : Nat) : Prop
  | str (z : Str) : a = .str z → z.length ≤ LINE → z.length = n → LenK a st n
  | seq (ds : List D) : seqOf a st = some ds → ds.length = n → LenK a st n
  | dct (kvs : List (D × D)) : dictOf a st = some kvs → kvs.length = n → LenK a st n
theorem lenD_k {a : D} {st : Sto} {n : Nat} (h : lenD a st = some n) : LenK a st n := by
  unfold lenD at h
  cases a with
  | str z =>
    simp only at h
    split at h
    · rename_i hl; exact .str z rfl hl (Option.some.inj h)
    · cases h
  | tup ds => exact .seq ds rfl (Option.some.inj h)
  | cl ds => exact .seq ds rfl (Option.some.inj h)
  | ref m =>
    simp only at h
    split at h
    · rename_i e; exact .seq _ (by simp [seqOf, e]) (Option.some.inj h)
    · rename_i e; exact .dct _ (dictOf_dct e) (Option.some.inj h)
    · cases h
  | _ => cases h
theorem paired_length {α β : Type} {F : α → β → Prop} : ∀ {l : List α} {m : List β}, Paired F l m → l.length = m.length
  | _, _, .nil => rfl
  | _, _, .cons _ t => by simp [paired_length t]
theorem RepKF.length {H : Hp} {μ : List Addr} : ∀ {es : List (Key × V)} {kvs : List (D × D)}, RepKF Z H μ es kvs → es.length = kvs.length
  | _, _, .nil => rfl
  | _, _, .cons _ _ t => by simp [RepKF.length t]
theorem RepKN.length {H : Hp} {μ : List Addr} : ∀ {es : List (NestedKey × Addr × V)} {kvs : List (D × D)}, RepKN Z H μ es kvs → es.length = kvs.length
  | _, _, .nil => rfl
  | _, _, .cons _ _ _ t => by simp [RepKN.length t]
/-- len of a dict -/
theorem q_len {pins : List (Addr × Obj)} {s : Shared} {σ : St} {H : Hp} {μ : List Addr} {a : Addr} {u : HO} {kvs : List (D × D)} {E : Value → Shared → Prop} (hZ : Z.K = X.K) (I : Inv X pins σ H s) (hr : Rd H a u) (q : RepDct X.prog X.w Z H μ a kvs u) {Q : Value → Shared → Prop}
    (h : ∀ t s', Inv X pins σ H s' → Q (.int kvs.length t) s') : wpAny (model X.prog X.w) X.A (call (.builtin "len") [.ref a]) Q E s := by
  rcases q with ⟨es, rfl, r⟩ | ⟨es, rfl, ne, r⟩
  · rw [← r.length] at h
    exact d_len I hr h
  · obtain ⟨ko, _, _⟩ := hr.ok I.hok
    obtain ⟨hz, hs, ys, hp, hd⟩ := r.dict hZ I ko
    have hl : kvs.length = ys.length := by rw [← r.length, paired_length hp]
    have hz2 : kvs.length ≤ sizeLine := by rw [← r.length]; exact hz
    rw [sizeLine_eq] at hz2
    have hk : s.heap.DictKeyed (nestedKind X.prog X.w) a (pairsH ys) := ⟨ys, hd, rfl⟩
    refine PyProof.Rows.call_len_slot (n := ((pairsH ys).length : Int)) hk.typeIs F.slot_dict_len (fun Q' hq => len_keyed hs hk hq) (by omega) ?_ ?_
    · rw [pairsH_length, ← hl]; omega
    · rw [pairsH_length, ← hl]
      exact h _ _ (I.tok _)
theorem c_len (hZ : Z.K = X.K) : CallR X (.builtin "len") (rc1 X.prog X.w Z W .len) := by
  intro pins s σ H xs us Q I rx ⟨x, e, μ, d, st, S, q1, h⟩
  subst e
  obtain ⟨r, e, q⟩ := Pst.opt h
  obtain ⟨n, e1, e2⟩ := Option.map_eq_some_iff.mp e
  subst e2
  have q := q _ S (.int n)
  cases lenD_k e1 with
  | str z h1 h2 h3 =>
    subst h1 h3
    cases q1
    exact call_len_str pins s σ H _ us Q I rx ⟨z, rfl, by rw [← LINE_eq]; exact h2, q⟩
  | seq ds h1 h2 =>
    subst h2
    obtain ⟨a, xs, rfl, qs, rl⟩ := S.seqOf q1 h1
    rw [← rl.length] at q
    exact call_len_seq pins s σ H _ us Q I rx ⟨a, xs, rfl, hZ ▸ qs, q⟩
  | dct kvs h1 h2 =>
    subst h2
    obtain ⟨a, u', rfl, hr, hd⟩ := S.dict q1 h1
    obtain ⟨u, rfl, ru⟩ := rx.one
    cases (show u = Value.ref a from ru)
    exact q_len hZ I hr hd fun t s' I' => ⟨.int kvs.length, H, I', ⟨t, rfl⟩, q⟩
theorem m_pop : MtR X "list.pop" (rm0 X.prog X.w Z W .pop) := by
  intro pins s σ H x xs v us Q I rx rs ⟨e, μ, d, st, S, q1, h⟩
  subst e
  cases d with
  | ref n =>
    cases q1 with
    | @ref _ a hm =>
      have h : Pst X.prog X.w Z W H μ (RV Z) (match st[n]? with
        | some (.lst ds) => (match ds.getLast? with
          | some x => .ok x (st.set n (.lst ds.dropLast))
          | none => .bad)
        | _ => .bad) _ := h
      split at h
      · rename_i ds e
        obtain ⟨xs, h1, rl⟩ := S.lst hm e
        split at h
        · rename_i x e2
          rw [List.getLast?_eq_getElem?] at e2
          obtain ⟨y, h2, ry⟩ := rl.get e2
          have hlen := rl.length
          refine mt_pop pins s σ H _ _ v us Q I rx rs ⟨a, xs, y, rfl, rfl, h1, by rw [hlen]; exact h2, ?_⟩
          have ev : Ev H μ (upd H a (.lst xs.dropLast)) μ := Ev.write (List.mem_of_getElem? hm) (.of h1 (by simp))
          have rd : RepL Z H μ xs.dropLast ds.dropLast := by
            rw [List.dropLast_eq_take, List.dropLast_eq_take, hlen]
            exact rl.take _
          exact h y _ μ ev (S.write hm (.of h1 (by simp)) ⟨_, upd_same, rd.mono ev S.nt⟩) (ry.mono ev S.nt)
        · exact False.elim h
      · exact False.elim h
  | _ => exact False.elim h

/-! ### truth -/
inductive TruK (a : D) (st : Sto) (b : Bool) : Prop
  | non : a = .non → b = false → TruK a st b
  | bl : a = .bl b → TruK a st b
  | int (i : Int) : a = .int i → b = (i != 0) → TruK a st b
  | str (z : Str) : a = .str z → z.length ≤ LINE → b = ((z.length : Int) != 0) → TruK a st b
  | seq (ds : List D) : seqOf a st = some ds → b = !ds.isEmpty → TruK a st b
  | dct (kvs : List (D × D)) : dictOf a st = some kvs → sameKind (.f (.inl 0)) kvs = true → b = !kvs.isEmpty → TruK a st b
theorem truth_k {a : D} {st : Sto} {b : Bool} (h : truth a st = some b) : TruK a st b := by
  unfold truth at h
  cases a with
  | non => exact .non rfl (Option.some.inj h).symm
  | bl c => cases h; exact .bl rfl
  | int i => exact .int i rfl (Option.some.inj h).symm
  | str z =>
    simp only at h
    split at h
    · rename_i hl; exact .str z rfl hl (Option.some.inj h).symm
    · cases h
  | tup ds => exact .seq ds rfl (Option.some.inj h).symm
  | cl ds => exact .seq ds rfl (Option.some.inj h).symm
  | ref m =>
    simp only at h
    split at h
    · rename_i e; exact .seq _ (by simp [seqOf, e]) (Option.some.inj h).symm
    · rename_i e
      split at h
      · rename_i hk; exact .dct _ (dictOf_dct e) hk (Option.some.inj h).symm
      · cases h
    · cases h
  | _ => cases h
theorem isEmpty_rep {H : Hp} {μ : List Addr} {xs : List V} {ds : List D} (r : RepL Z H μ xs ds) : xs.isEmpty = ds.isEmpty := by cases r <;> rfl
theorem isEmpty_kf {H : Hp} {μ : List Addr} {xs : List (Key × V)} {ds : List (D × D)} (r : RepKF Z H μ xs ds) : xs.isEmpty = ds.isEmpty := by cases r <;> rfl
/-- the truth of a value, by MP -/
def rT (P : Program) (w : World) (Z : Wd) (W : XK) : V → Hp → (Bool → Hp → Prop) → Prop := fun x H Q => ∃ μ d st b, SRep P w Z H μ st ∧ Rep Z H μ x d ∧ truth d st = some b ∧ Q b H
theorem tru (hZ : Z.K = X.K) : TruR X (rT X.prog X.w Z W) := by
  intro pins s σ H x v Q I rx ⟨μ, d, st, b, S, q1, e, q⟩
  cases truth_k e with
  | non h1 h2 => subst h1 h2; cases q1; exact tru_ok pins s σ H _ v Q I rx ⟨false, rfl, q⟩
  | bl h1 => subst h1; cases q1; exact tru_ok pins s σ H _ v Q I rx ⟨b, rfl, q⟩
  | int i h1 h2 => subst h1 h2; cases q1; exact tru_ok pins s σ H _ v Q I rx ⟨_, rfl, q⟩
  | str z h1 h2 h3 => subst h1 h3; cases q1; exact tru_ok pins s σ H _ v Q I rx ⟨_, ⟨by rw [← LINE_eq]; exact h2, rfl⟩, q⟩
  | seq ds h1 h2 =>
    subst h2
    obtain ⟨a, xs, rfl, qs, rl⟩ := S.seqOf q1 h1
    rw [← isEmpty_rep rl] at q
    refine tru_ok pins s σ H _ v Q I rx ⟨_, ?_, q⟩
    rcases qs with qs | qs
    · exact .inl ⟨xs, hZ ▸ qs, rfl⟩
    · exact .inr (.inl ⟨xs, hZ ▸ qs, rfl⟩)
  | dct kvs h1 h2 h3 =>
    subst h3
    obtain ⟨a, u', rfl, hr, hd⟩ := S.dict q1 h1
    obtain ⟨es, rfl, rk⟩ := look_f hd h2
    rw [← isEmpty_kf rk] at q
    cases (show v = Value.ref a from rx)
    exact d_truth I hr fun s' I' => ⟨H, I', q⟩

/-! ### isinstance -/
def tyN : Ty → String
  | .int => "int"
  | .bool => "bool"
  | .str => "str"
  | .tuple => "tuple"
  | .list => "list"
  | .dict => "dict"
/-- isinstance(x, T), T a built-in type -/
def rIs (P : Program) (w : World) (Z : Wd) (W : XK) (t : Ty) : V → Hp → VK → Prop := fun x H Q => ∃ μ d st b, SRep P w Z H μ st ∧ Rep Z H μ x d ∧ isiD d t st = some b ∧ Q (.bl b) H
theorem kits (a b : Ty) : kitB (tyN a) (tyN b) = some (decide (a = b) || (decide (a = .bool) && decide (b = .int))) := by
  cases a <;> cases b <;> decide +kernel
theorem kitsN (b : Ty) : kitB "NoneType" (tyN b) = some false := by
  cases b <;> decide +kernel
theorem isi_ok {pins : List (Addr × Obj)} {s : Shared} {σ : St} {H : Hp} {x : V} {v : Value} {Q : VK} (hZ : Z.K = X.K) (t : Ty) (I : Inv X pins σ H s) (rx : RelV x v) (h : rIs X.prog X.w Z W t x H Q) :
    wpAny (model X.prog X.w) X.A (call (.builtin "isinstance") [v, .type (tyN t)]) (EP X pins σ Q) X.xe s := by
  obtain ⟨μ, d, st, b, S, q1, e, q⟩ := h
  have go : ∀ (a : Ty), TyX X.K H x (.type (tyN a)) → (decide (a = t) || (decide (a = .bool) && decide (t = .int))) = b → wpAny (model X.prog X.w) X.A (call (.builtin "isinstance") [v, .type (tyN t)]) (EP X pins σ Q) X.xe s := fun a ty hb =>
    call_isi pins s σ H [x, .ty (tyN t)] [v, .type (tyN t)] Q I (.cons rx (.cons rfl .nil)) ⟨x, .ty (tyN t), _, _, b, rfl, .ty _, ty, kit_ty (by rw [kits, hb]), q⟩
  cases q1 with
  | non =>
    have hb : b = false := by simp [isiD] at e; exact e
    exact call_isi pins s σ H [_, .ty (tyN t)] [v, .type (tyN t)] Q I (.cons rx (.cons rfl .nil)) ⟨_, .ty (tyN t), _, _, b, rfl, .ty _, .base .non, kit_ty (by rw [kitsN, hb]), q⟩
  | bl c => exact go .bool (.base (.bl c)) (by cases t <;> simp [isiD] at e <;> simp [← e])
  | int c => exact go .int (.base (.int c)) (by cases t <;> simp [isiD] at e <;> simp [← e])
  | str c => exact go .str (.base (.str c)) (by cases t <;> simp [isiD] at e <;> simp [← e])
  | tup hs r =>
    refine go .tuple ?_ (by cases t <;> simp [isiD] at e <;> simp [← e])
    rcases (hZ ▸ hs : SqT X.K H _ _) with (hs | ⟨o, hs⟩) | ⟨o, its, n, hk, hc, _⟩
    · exact .base (.tup hs)
    · exact .fTuple hs
    · exact .kTuple hk hc
  | cl hs r =>
    refine go .list ?_ (by cases t <;> simp [isiD] at e <;> simp [← e])
    rcases (hZ ▸ hs : SqC X.K H _ _) with ⟨o, hs⟩ | ⟨o, its, n, hk, hc, _⟩
    · exact .base (.frz hs)
    · exact .kList hk hc
  | @ref n a hm =>
    simp only [isiD] at e
    split at e
    · rename_i ds e1
      obtain ⟨xs, h1, _⟩ := S.lst hm e1
      exact go .list (.base (.lst h1)) (by cases t <;> simp at e <;> simp [← e])
    · rename_i kvs e1
      split at e
      · rename_i hk
        obtain ⟨u, h1, hd⟩ := S.ob n _ a e1 hm
        obtain ⟨es, rfl, rk⟩ := look_f hd hk
        exact go .dict (.base (.dK h1)) (by cases t <;> simp at e <;> simp [← e])
      · cases e
    · cases e
  | fn h => simp [isiD] at e
  | kls h => simp [isiD] at e
end
end MP

set_option Elab.async false
set_option linter.all false
set_option maxRecDepth 100000
set_option maxHeartbeats 4000000
/-! MP: expressions are sound, construct by construct. -/
namespace MP
open PySem PySem.Spec L2
open PyProof.Rows hiding St

section
variable {X : Cx} {Z : Wd} {W : XK} {C : Ctx} {a b c : Expr} {pos : Pos}
/-- an expression's reading is MP's -/
abbrev SE (X : Cx) (Z : Wd) (W : XK) (C : Ctx) (e : Expr) (A : E) : Prop := PE X e (tE X.prog X.w Z W (evE C A))
abbrev SA (X : Cx) (Z : Wd) (W : XK) (C : Ctx) (es : List Expr) (A : Es) : Prop := PA X es (tA X.prog X.w Z W (evEs C A))
abbrev ST (X : Cx) (Z : Wd) (W : XK) (C : Ctx) (e : Expr) (A : Cd) : Prop := PT X e (tT X.prog X.w Z W (evC C A))

theorem s_var {i : Nat} {x : Str} (hN : X.N[i]? = some x) (hv : Vis X.env.scope x) (hd : (x == ("__debug__" : Str)) = false) (hcd : (x == ("__classdict__" : Str)) = false) : SE X Z W C (.Name x pos) (.var i) := by
  refine (pe_var hN hv hd hcd).imp fun σ H Q h => ?_
  obtain ⟨μ, ρ, st, e, s, p⟩ := h
  simp only [evE] at p
  split at p
  · rename_i d hd
    obtain ⟨v, h1, h2⟩ := e.at_ i d hd
    exact ⟨v, h1, p.fin s h2⟩
  · exact False.elim p
theorem s_con {v : V} {d : D} {e : Expr} (h : PE X e (tC v)) (hr : ∀ H μ, Rep Z H μ v d) : SE X Z W C e (.con d) := by
  refine h.imp fun σ H Q h => ?_
  obtain ⟨μ, ρ, st, e, s, p⟩ := h
  simp only [evE] at p
  exact p.fin s (hr H μ)
theorem s_glob {v : V} {d : D} {g : Nat} {e : Expr} (h : PE X e (tC v)) (hg : C.glob g = some d) (hr : ∀ H μ, Rep Z H μ v d) : SE X Z W C e (.glob g) := by
  refine h.imp fun σ H Q h => ?_
  obtain ⟨μ, ρ, st, e, s, p⟩ := h
  simp only [evE, hg, R.opt_some] at p
  exact p.fin s (hr H μ)
theorem r2_of {o : Op2} {x y : V} {H : Hp} {Q : VK} (h : ∃ μ d1 d2 st, SRep X.prog X.w Z H μ st ∧ Rep Z H μ x d1 ∧ Rep Z H μ y d2 ∧ Pst X.prog X.w Z W H μ (RV Z) (p2 o d1 d2 st) fun _ _ v H' _ => Q v H') : r2 X.prog X.w Z W o x y H Q := h
theorem t_op2 {o : Op2} {A B : E} {σ : St} {H : Hp} {Q : VK} (h : tE X.prog X.w Z W (evE C (.op2 o A B)) σ H Q) : tOp (r2 X.prog X.w Z W o) (tE X.prog X.w Z W (evE C A)) (tE X.prog X.w Z W (evE C B)) σ H Q :=
  tG_2 sta_V (G := fun x y st => p2 o x y st) h
theorem s_bin {o : Op2} {op : Operator} {A B : E} (ho : OpR X (binaryOp op) (r2 X.prog X.w Z W o)) (ha : SE X Z W C a A) (hb : SE X Z W C b B) : SE X Z W C (.BinOp a op b pos) (.op2 o A B) :=
  (pe_op ho ha hb).imp fun _ _ _ h => t_op2 h
theorem s_cmp {o : Op2} {op : CmpOp} {A B : E} (ho : OpR X (compareOp op) (r2 X.prog X.w Z W o)) (ha : SE X Z W C a A) (hb : SE X Z W C b B) (hm : behindInMarks op b = false) : SE X Z W C (.Compare a [op] [b] pos) (.op2 o A B) :=
  (pe_cmpR ho ha hb hm).imp fun _ _ _ h => t_op2 h
/-- comparisons give truth values -/
def isCop : Op2 → Bool
  | .eq | .ne | .lt | .le | .gt | .ge | .is_ | .isnot | .in_ | .notin => true
  | _ => false
theorem p2_bl {o : Op2} (ho : isCop o = true) {x y : D} {st : Sto} : (∃ b, p2 o x y st = .ok (.bl b) st) ∨ p2 o x y st = .bad := by
  have g : ∀ q : Option Bool, (∃ b, cmpR q st = .ok (.bl b) st) ∨ cmpR q st = .bad := fun q => by
    cases q with
    | none => exact .inr rfl
    | some b => exact .inl ⟨b, rfl⟩
  cases o <;> first | exact g _ | cases ho
theorem t_chain {o1 o2 : Op2} {A B D' : E} {σ : St} {H : Hp} {Q : VK} (h1 : isCop o1 = true) (h : tE X.prog X.w Z W (evE C (.chain o1 o2 A B D')) σ H Q) :
    tChain (r2 X.prog X.w Z W o1) (r2 X.prog X.w Z W o2) (tE X.prog X.w Z W (evE C A)) (tE X.prog X.w Z W (evE C B)) (tE X.prog X.w Z W (evE C D')) σ H Q := by
  obtain ⟨μ, ρ, st, e, s, p⟩ := h
  simp only [evE] at p
  refine ⟨μ, ρ, st, e, s, (Pst.bind p).mono fun d1 st1 v1 H1 μ1 ⟨v1', s1, r1, p1⟩ => ?_⟩
  have e1 := e.mono v1' s.nt
  refine ⟨μ1, ρ, st1, e1, s1, (Pst.bind p1).mono fun d2 st2 v2 H2 μ2 ⟨v2', s2, r2', p2'⟩ => ?_⟩
  have e2 := e1.mono v2' s1.nt
  have r1' := r1.mono v2' s1.nt
  refine ⟨μ2, d1, d2, st2, s2, r1', r2', ?_⟩
  rcases p2_bl h1 (x := d1) (y := d2) (st := st2) with ⟨b, hb⟩ | hb
  · rw [hb] at p2' ⊢
    intro z H3 μ3 ev3 s3 rz
    cases rz
    refine ⟨b, rfl, ?_⟩
    cases b with
    | false =>
      simp only [Bool.false_eq_true, if_false]
      have p2' : Pst X.prog X.w Z W H2 μ2 (RV Z) (.ok (.bl false) st2) _ := p2'
      exact p2' _ _ _ ev3 s3 (.bl false)
    | true =>
      simp only [if_true]
      have p2' : Pst X.prog X.w Z W H2 μ2 (RV Z) ((evE C D' ρ st2).bind fun w st => p2 o2 d2 w st) _ := p2'
      have e3 := e2.mono ev3 s2.nt
      have p3 : Pst X.prog X.w Z W H3 μ3 (RV Z) ((evE C D' ρ st2).bind fun w st => p2 o2 d2 w st) fun _ _ v H' _ => Q v H' := by
        unfold Pst at p2' ⊢
        cases hq : (evE C D' ρ st2).bind fun w st => p2 o2 d2 w st with
        | bad => rw [hq] at p2'; exact p2'
        | exc c fs s' => rw [hq] at p2'; exact fun H2 μ2 C dx e2 s2 q r => p2' H2 μ2 C dx (ev3.trans e2) s2 q r
        | ok g s' => rw [hq] at p2'; exact fun u H2 μ2 e2 s2 r2 => p2' u H2 μ2 (ev3.trans e2) s2 r2
      exact ⟨μ3, ρ, st2, e3, s3, (Pst.bind p3).mono fun d4 st4 v4 H4 μ4 ⟨v4', s4, r4, p4⟩ => ⟨μ4, d2, d4, st4, s4, (r2'.mono ev3 s2.nt).mono v4' s3.nt, r4, p4⟩⟩
  · rw [hb] at p2'
    exact False.elim p2'
theorem s_chain {o1 o2 : Op2} {op op' : CmpOp} {A B D' : E} (h1 : isCop o1 = true) (ho : OpR X (compareOp op) (r2 X.prog X.w Z W o1)) (ho' : OpR X (compareOp op') (r2 X.prog X.w Z W o2)) (ha : SE X Z W C a A) (hb : SE X Z W C b B) (hc : SE X Z W C c D')
    (hm : lastMarks [op, op'] [b, c] = false) : SE X Z W C (.Compare a [op, op'] [b, c] pos) (.chain o1 o2 A B D') :=
  (pe_chain ho ho' ha hb hc hm).imp fun _ _ _ h => t_chain h1 h
theorem s_idx {A B : E} (hi : IxR X (r2 X.prog X.w Z W .idx)) (ha : SE X Z W C a A) (hb : SE X Z W C b B) (hs : PlainIx b) : SE X Z W C (.Subscript a b pos) (.op2 .idx A B) :=
  (pe_ix hi ha hb hs).imp fun _ _ _ h => t_op2 h
theorem s_neg {A : E} (ha : SE X Z W C a A) : SE X Z W C (.UnaryOp .USub a pos) (.op1 .neg A) :=
  (pe_un u_neg ha).imp fun _ _ _ h => tG_1 (G := fun x st => p1 .neg x st) h

/-! ### and, or, not, if -/
theorem bool_case {Q : Bool → Hp → Prop} {X : Cx} {pins : List (Addr × Obj)} {σ : St} {s1 : Shared} {b : Bool} (h : TP X pins σ Q b s1) : TP X pins σ Q b s1 := h
def tOrR (P : Program) (w : World) (Z : Wd) (W : XK) (ta tb : TE) : TE := fun σ H Q => ta σ H fun x H1 => rT P w Z W x H1 fun k H2 => if k = true then Q x H2 else tb σ H2 Q
def tAndR (P : Program) (w : World) (Z : Wd) (W : XK) (ta tb : TE) : TE := fun σ H Q => ta σ H fun x H1 => rT P w Z W x H1 fun k H2 => if k = true then tb σ H2 Q else Q x H2
variable {r : List Expr} {ta tb : TE}
theorem pe_orR (hZ : Z.K = X.K) (ha : PE X a ta) (hb : PE X (.BoolOp .Or (b :: r) pos) tb) : PE X (.BoolOp .Or (a :: b :: r) pos) (tOrR X.prog X.w Z W ta tb) := by
  refine ⟨fun pins s σ H Q I h => ?_⟩
  refine BoolOp_or (thn (ha.run pins s σ H _ I h) fun v s1 ⟨x, H1, I1, rx, q⟩ => ?_)
  refine thn (tru (W := W) hZ pins s1 σ H1 x v _ I1 rx q) fun k s2 ⟨H2, I2, q2⟩ => ?_
  cases k with
  | true => exact ⟨x, H2, I2, rx, by simpa using q2⟩
  | false => exact hb.run pins s2 σ H2 Q I2 (by simpa using q2)
theorem pe_andR (hZ : Z.K = X.K) (ha : PE X a ta) (hb : PE X (.BoolOp .And (b :: r) pos) tb) : PE X (.BoolOp .And (a :: b :: r) pos) (tAndR X.prog X.w Z W ta tb) := by
  refine ⟨fun pins s σ H Q I h => ?_⟩
  refine BoolOp_and (thn (ha.run pins s σ H _ I h) fun v s1 ⟨x, H1, I1, rx, q⟩ => ?_)
  refine thn (tru (W := W) hZ pins s1 σ H1 x v _ I1 rx q) fun k s2 ⟨H2, I2, q2⟩ => ?_
  cases k with
  | false => exact ⟨x, H2, I2, rx, by simpa using q2⟩
  | true => exact hb.run pins s2 σ H2 Q I2 (by simpa using q2)
theorem s_or (hZ : Z.K = X.K) {A B : E} (ha : SE X Z W C a A) (hb : SE X Z W C (.BoolOp .Or (b :: r) pos) B) : SE X Z W C (.BoolOp .Or (a :: b :: r) pos) (.or A B) := by
  refine (pe_orR (W := W) hZ ha hb).imp fun σ H Q h => ?_
  refine (tG_bind (RR := RV Z) (G := fun ρ x st => match truth x st with
    | some true => .ok x st
    | some false => evE C B ρ st
    | none => .bad) h) |> fun q => ?_
  obtain ⟨μ, ρ, st, e, s, p⟩ := q
  refine ⟨μ, ρ, st, e, s, p.mono fun d st1 v H1 μ1 ⟨μ2, ρ2, st2, d2, e2, s2, r2, p2⟩ => ?_⟩
  cases ht : truth d2 st2 with
  | none => rw [ht] at p2; exact False.elim p2
  | some k =>
    rw [ht] at p2
    refine ⟨μ2, d2, st2, k, s2, r2, ht, ?_⟩
    cases k with
    | true => simp only [if_true]; exact Pst.fin p2 s2 r2
    | false => simp only [Bool.false_eq_true, if_false]; exact ⟨μ2, ρ2, st2, e2, s2, p2⟩
theorem s_and (hZ : Z.K = X.K) {A B : E} (ha : SE X Z W C a A) (hb : SE X Z W C (.BoolOp .And (b :: r) pos) B) : SE X Z W C (.BoolOp .And (a :: b :: r) pos) (.and A B) := by
  refine (pe_andR (W := W) hZ ha hb).imp fun σ H Q h => ?_
  refine (tG_bind (RR := RV Z) (G := fun ρ x st => match truth x st with
    | some true => evE C B ρ st
    | some false => .ok x st
    | none => .bad) h) |> fun q => ?_
  obtain ⟨μ, ρ, st, e, s, p⟩ := q
  refine ⟨μ, ρ, st, e, s, p.mono fun d st1 v H1 μ1 ⟨μ2, ρ2, st2, d2, e2, s2, r2, p2⟩ => ?_⟩
  cases ht : truth d2 st2 with
  | none => rw [ht] at p2; exact False.elim p2
  | some k =>
    rw [ht] at p2
    refine ⟨μ2, d2, st2, k, s2, r2, ht, ?_⟩
    cases k with
    | false => simp only [Bool.false_eq_true, if_false]; exact Pst.fin p2 s2 r2
    | true => simp only [if_true]; exact ⟨μ2, ρ2, st2, e2, s2, p2⟩
theorem s_one {op : BoolOp} {A : E} (ha : SE X Z W C a A) : SE X Z W C (.BoolOp op [a] pos) A := pe_one ha
/-- the truth of an expression's value -/
theorem t_truth {A : E} {γ δ : Type} {RS : Hp → List Addr → δ → γ → Prop} {G : Bool → Sto → R γ} {σ : St} {H : Hp} {Q : δ → Hp → Prop} (h : tG X.prog X.w Z W RS (fun ρ st => (evE C A ρ st).bind fun x st => (R.opt (truth x st) st).bind G) σ H Q) :
    tE X.prog X.w Z W (evE C A) σ H fun x H1 => rT X.prog X.w Z W x H1 fun k H2 => ∃ μ st, SRep X.prog X.w Z H2 μ st ∧ Pst X.prog X.w Z W H2 μ RS (G k st) fun _ _ v H' _ => Q v H' := by
  have q := tG_1 (RR := RV Z) (G := fun x st => (R.opt (truth x st) st).bind G) h
  obtain ⟨μ, ρ, st, e, s, p⟩ := q
  refine ⟨μ, ρ, st, e, s, p.mono fun d st1 v H1 μ1 ⟨μ2, d2, st2, s2, r2, p2⟩ => ?_⟩
  cases ht : truth d2 st2 with
  | none => rw [ht] at p2; exact False.elim p2
  | some k => rw [ht] at p2; exact ⟨μ2, d2, st2, k, s2, r2, ht, μ2, st2, s2, p2⟩
theorem s_not (hZ : Z.K = X.K) {A : E} (ha : SE X Z W C a A) : SE X Z W C (.UnaryOp .Not a pos) (.not A) := by
  refine ⟨fun pins s σ H Q I h => ?_⟩
  have h : tG X.prog X.w Z W (RV Z) (fun ρ st => (evE C A ρ st).bind fun x st => (R.opt (truth x st) st).bind fun k st => .ok (D.bl (!k)) st) σ H Q := by
    obtain ⟨μ, ρ, st, e, s, p⟩ := h
    refine ⟨μ, ρ, st, e, s, ?_⟩
    simp only [evE] at p
    have eq : ∀ x st, R.opt ((truth x st).map fun t => D.bl (!t)) st = (R.opt (truth x st) st).bind fun k st => .ok (D.bl (!k)) st := fun x st => by
      cases truth x st <;> rfl
    simpa only [eq] using p
  refine UnaryOp_ (thn (ha.run pins s σ H _ I (t_truth h)) fun v s1 ⟨x, H1, I1, rx, q⟩ => ?_)
  refine not_of (thn (tru (W := W) hZ pins s1 σ H1 x v _ I1 rx q) fun k s2 ⟨H2, I2, μ, st, s, p⟩ => ⟨.bl (!k), H2, I2, rfl, Pst.fin p s (.bl _)⟩)
theorem s_ite {K : Cd} {A B : E} (hc : ST X Z W C c K) (ha : SE X Z W C a A) (hb : SE X Z W C b B) : SE X Z W C (.IfExp c a b pos) (.ite K A B) := by
  refine (pe_ifExp hc ha hb).imp fun σ H Q h => ?_
  have q := tG_bind (RR := RB) (G := fun ρ t st => if t = true then evE C A ρ st else evE C B ρ st) h
  obtain ⟨μ, ρ, st, e, s, p⟩ := q
  refine ⟨μ, ρ, st, e, s, p.mono fun d st1 v H1 μ1 ⟨μ2, ρ2, st2, d2, e2, s2, r2, p2⟩ => ?_⟩
  have r2 : v = d2 := r2
  subst r2
  cases v with
  | true => simp only [if_true] at p2 ⊢; exact ⟨μ2, ρ2, st2, e2, s2, p2⟩
  | false => simp only [Bool.false_eq_true, if_false] at p2 ⊢; exact ⟨μ2, ρ2, st2, e2, s2, p2⟩

/-! ### tests -/
abbrev SW (X : Cx) (Z : Wd) (W : XK) (C : Ctx) (e : Expr) (A : Cd) : Prop := PW X e (tT X.prog X.w Z W (evC C A))
theorem c_and {A B : Cd} (ha : ST X Z W C a A) (hb : SW X Z W C (.BoolOp .And (b :: r) pos) B) : SW X Z W C (.BoolOp .And (a :: b :: r) pos) (.and A B) := by
  refine (pw_and ha hb).imp fun σ H Q h => ?_
  have q := tG_bind (RR := RB) (G := fun ρ t st => if t = true then evC C B ρ st else .ok false st) h
  obtain ⟨μ, ρ, st, e, s, p⟩ := q
  refine ⟨μ, ρ, st, e, s, p.mono fun d st1 v H1 μ1 ⟨μ2, ρ2, st2, d2, e2, s2, r2, p2⟩ => ?_⟩
  have r2 : v = d2 := r2
  subst r2
  cases v with
  | true => simp only [if_true] at p2 ⊢; exact ⟨μ2, ρ2, st2, e2, s2, p2⟩
  | false => simp only [Bool.false_eq_true, if_false] at p2 ⊢; exact p2 _ _ _ Ev.refl s2 rfl
theorem c_or {A B : Cd} (ha : ST X Z W C a A) (hb : SW X Z W C (.BoolOp .Or (b :: r) pos) B) : SW X Z W C (.BoolOp .Or (a :: b :: r) pos) (.or A B) := by
  refine (pw_or ha hb).imp fun σ H Q h => ?_
  have q := tG_bind (RR := RB) (G := fun ρ t st => if t = true then .ok true st else evC C B ρ st) h
  obtain ⟨μ, ρ, st, e, s, p⟩ := q
  refine ⟨μ, ρ, st, e, s, p.mono fun d st1 v H1 μ1 ⟨μ2, ρ2, st2, d2, e2, s2, r2, p2⟩ => ?_⟩
  have r2 : v = d2 := r2
  subst r2
  cases v with
  | false => simp only [Bool.false_eq_true, if_false] at p2 ⊢; exact ⟨μ2, ρ2, st2, e2, s2, p2⟩
  | true => simp only [if_true] at p2 ⊢; exact p2 _ _ _ Ev.refl s2 rfl
theorem c_and1 {A : Cd} (ha : ST X Z W C a A) : SW X Z W C (.BoolOp .And [a] pos) A := pw_and1 ha
theorem c_or1 {A : Cd} (ha : ST X Z W C a A) : SW X Z W C (.BoolOp .Or [a] pos) A := pw_or1 ha
theorem c_not {A : Cd} (ha : ST X Z W C a A) : ST X Z W C (.UnaryOp .Not a pos) (.not A) := by
  refine (pt_not ha).imp fun σ H Q h => ?_
  have q := tG_1 (RR := RB) (G := fun t st => R.ok (!t) st) h
  obtain ⟨μ, ρ, st, e, s, p⟩ := q
  refine ⟨μ, ρ, st, e, s, p.mono fun d st1 v H1 μ1 ⟨μ2, d2, st2, s2, r2, p2⟩ => ?_⟩
  have r2 : v = d2 := r2
  subst r2
  exact p2 _ _ _ Ev.refl s2 rfl
theorem opt_bind_id {x : Option Bool} {st : Sto} : R.opt x st = (R.opt x st).bind fun k st => .ok k st := by cases x <;> rfl
theorem c_of (hZ : Z.K = X.K) {e : Expr} {A : E} (ha : SE X Z W C e A) (he : ∀ whole, isTrue e X.env whole = (do let v ← whole; standAt e.pos; holding [v] (truthy v))) : ST X Z W C e (.ofE A) := by
  refine ⟨fun pins s σ H Q I h => ?_⟩
  have h : tG X.prog X.w Z W RB (fun ρ st => (evE C A ρ st).bind fun x st => (R.opt (truth x st) st).bind fun k st => .ok k st) σ H Q := by
    obtain ⟨μ, ρ, st, e, s, p⟩ := h
    refine ⟨μ, ρ, st, e, s, ?_⟩
    simp only [evC] at p
    have eq : ∀ (x : D) st, R.opt (truth x st) st = (R.opt (truth x st) st).bind fun k st => .ok k st := fun x st => opt_bind_id
    rw [show (fun x st => (R.opt (truth x st) st).bind fun k st => R.ok k st) = (fun x st => R.opt (truth x st) st) from funext fun x => funext fun st => (eq x st).symm]
    exact p
  refine isTrue_plain (thn (ha.run pins s σ H _ I (t_truth h)) fun v s1 ⟨x, H1, I1, rx, q⟩ => ?_) (he _)
  exact thn (tru (W := W) hZ pins s1 σ H1 x v _ I1 rx q) fun k s2 ⟨H2, I2, μ, st, s, p⟩ => ⟨H2, I2, p _ _ _ Ev.refl s rfl⟩
/-- a comparison as a test -/
theorem bl_truth {A : E} {σ : St} {H : Hp} {Q : Bool → Hp → Prop} (h : tT X.prog X.w Z W (evC C (.ofE A)) σ H Q) (hb : ∀ ρ st d st', evE C A ρ st = .ok d st' → ∃ k, d = .bl k) : tE X.prog X.w Z W (evE C A) σ H fun x H' => ∃ k, x = .bl k ∧ Q k H' := by
  obtain ⟨μ, ρ, st, e, s, p⟩ := h
  refine ⟨μ, ρ, st, e, s, ?_⟩
  simp only [evC] at p
  cases hq : evE C A ρ st with
  | bad => rw [hq] at p; exact p
  | exc c fs st' => rw [hq] at p; exact p
  | ok d st' =>
    rw [hq] at p
    obtain ⟨k, rfl⟩ := hb _ _ _ _ hq
    intro v H' μ' ev s' rv
    cases rv
    exact ⟨k, rfl, p k H' μ' ev s' rfl⟩
theorem op2_bl {o : Op2} (ho : isCop o = true) {A B : E} {ρ : Env} {st st' : Sto} {d : D} (h : evE C (.op2 o A B) ρ st = .ok d st') : ∃ k, d = .bl k := by
  simp only [evE] at h
  cases hA : evE C A ρ st with
  | bad => rw [hA] at h; cases h
  | exc c fs s => rw [hA] at h; cases h
  | ok x s1 =>
    rw [hA] at h
    simp only [R.bind_ok] at h
    cases hB : evE C B ρ s1 with
    | bad => rw [hB] at h; cases h
    | exc c fs s => rw [hB] at h; cases h
    | ok y s2 =>
      rw [hB] at h
      simp only [R.bind_ok] at h
      rcases p2_bl ho (x := x) (y := y) (st := s2) with ⟨b, hb⟩ | hb
      · rw [hb] at h; cases h; exact ⟨b, rfl⟩
      · rw [hb] at h; cases h
theorem chain_bl {o1 o2 : Op2} (h2 : isCop o2 = true) {A B D' : E} {ρ : Env} {st st' : Sto} {d : D} (h : evE C (.chain o1 o2 A B D') ρ st = .ok d st') : ∃ k, d = .bl k := by
  simp only [evE] at h
  cases hA : evE C A ρ st with
  | bad => rw [hA] at h; cases h
  | exc c fs s => rw [hA] at h; cases h
  | ok x s1 =>
    rw [hA] at h
    simp only [R.bind_ok] at h
    cases hB : evE C B ρ s1 with
    | bad => rw [hB] at h; cases h
    | exc c fs s => rw [hB] at h; cases h
    | ok y s2 =>
      rw [hB] at h
      simp only [R.bind_ok] at h
      cases hp : p2 o1 x y s2 with
      | bad => rw [hp] at h; cases h
      | exc c fs s => rw [hp] at h; cases h
      | ok z s3 =>
        rw [hp] at h
        simp only [R.bind_ok] at h
        split at h
        · cases hD : evE C D' ρ s3 with
          | bad => rw [hD] at h; cases h
          | exc c fs s => rw [hD] at h; cases h
          | ok w s4 =>
            rw [hD] at h
            simp only [R.bind_ok] at h
            rcases p2_bl h2 (x := y) (y := w) (st := s4) with ⟨b, hb⟩ | hb
            · rw [hb] at h; cases h; exact ⟨b, rfl⟩
            · rw [hb] at h; cases h
        · cases h; exact ⟨_, rfl⟩
        · cases h
theorem c_cmp {o : Op2} {op : CmpOp} {A B : E} (hc : isCop o = true) (ho : OpR X (compareOp op) (r2 X.prog X.w Z W o)) (ha : SE X Z W C a A) (hb : SE X Z W C b B) (hm : behindInMarks op b = false) : ST X Z W C (.Compare a [op] [b] pos) (.ofE (.op2 o A B)) :=
  (pt_cmpR ho ha hb hm).imp fun _ _ _ h => t_op2 (bl_truth h fun _ _ _ _ q => op2_bl hc q)
theorem c_chain {o1 o2 : Op2} {op op' : CmpOp} {A B D' : E} (h1 : isCop o1 = true) (h2 : isCop o2 = true) (ho : OpR X (compareOp op) (r2 X.prog X.w Z W o1)) (ho' : OpR X (compareOp op') (r2 X.prog X.w Z W o2)) (ha : SE X Z W C a A) (hb : SE X Z W C b B) (hc : SE X Z W C c D')
    (hm : lastMarks [op, op'] [b, c] = false) : ST X Z W C (.Compare a [op, op'] [b, c] pos) (.ofE (.chain o1 o2 A B D')) :=
  (pt_chain ho ho' ha hb hc hm).imp fun _ _ _ h => t_chain h1 (bl_truth h fun _ _ _ _ q => chain_bl h2 q)

/-! ### argument lists, tuples, calls -/
theorem a_nil : SA X Z W C [] .nil := pa_nil.imp fun σ H Q h => by
  obtain ⟨μ, ρ, st, e, s, p⟩ := h
  simp only [evEs] at p
  exact p [] _ _ Ev.refl s .nil
theorem a_cons {e : Expr} {es : List Expr} {A : E} {R' : Es} (ha : SE X Z W C e A) (hr : SA X Z W C es R') (hs : starEach (e :: es) X.env = (false, eval e X.env) :: starEach es X.env) : SA X Z W C (e :: es) (.cons A R') := by
  refine (pa_cons ha hr hs).imp fun σ H Q h => ?_
  have q := tG_2 (RR := RV Z) (RU := RL Z) (A := evE C A) (B := evEs C R') (G := fun x xs st => R.ok (x :: xs) st) sta_V h
  obtain ⟨μ, ρ, st, e, s, p⟩ := q
  refine ⟨μ, ρ, st, e, s, p.mono fun d st1 v H1 μ1 q => ?_⟩
  obtain ⟨μ, ρ, st, e, s, p⟩ := q
  refine ⟨μ, ρ, st, e, s, p.mono fun ds st2 vs H2 μ2 ⟨μ3, d1, d2, st3, s3, r1, r2, p3⟩ => ?_⟩
  exact p3 _ _ _ Ev.refl s3 (.cons r1 r2)
theorem s_tup {es : List Expr} {k : Nat} {L : Es} (h : SA X Z W C es L) : SE X Z W C (.Tuple es k pos) (.tup L) := by
  refine (pe_tup h).imp fun σ H Q h => ?_
  have q := tG_1 (RR := RL Z) (G := fun ds st => newTup ds st) h
  obtain ⟨μ, ρ, st, e, s, p⟩ := q
  refine ⟨μ, ρ, st, e, s, p.mono fun ds st1 vs H1 μ1 ⟨μ2, d2, st2, s2, r2, p2⟩ => ?_⟩
  unfold newTup at p2
  split at p2
  · rename_i hl
    exact ⟨by rw [r2.length, ← LINE_eq]; exact hl, fun p hp => Pst.tup p2 s2 hp r2⟩
  · exact False.elim p2
theorem s_dnew : SE X Z W C (.Dict [] [] pos) .dnew := pe_dnewK.imp fun σ H Q h p hp => by
  obtain ⟨μ, ρ, st, e, s, q⟩ := h
  simp only [evE, alloc] at q
  exact q _ _ _ (Ev.new s hp) (s.new hp ⟨_, upd_same, .inl ⟨[], rfl, .nil⟩⟩) (.ref (by rw [← s.len]; simp))
theorem s_call {x : Str} {p : Pos} {es : List Expr} {L : Es} {f : Nat} {r : List V → Hp → VK → Prop} {e : Expr} (he : PE X e (tCB r (tA X.prog X.w Z W (evEs C L))))
    (hr : ∀ vs H Q, (∃ μ ds st, SRep X.prog X.w Z H μ st ∧ RepL Z H μ vs ds ∧ Pst X.prog X.w Z W H μ (RV Z) (C.call f ds st) fun _ _ v H' _ => Q v H') → r vs H Q) : SE X Z W C e (.call f L) := by
  refine he.imp fun σ H Q h => ?_
  have q := tG_1 (RR := RL Z) (G := fun ds st => C.call f ds st) h
  obtain ⟨μ, ρ, st, e, s, p⟩ := q
  exact ⟨μ, ρ, st, e, s, p.mono fun ds st1 vs H1 μ1 q => hr _ _ _ q⟩
/-- a call of a built-in with one value -/
theorem s_b1 {e : Expr} {o : Op1} {A : E} (he : ∀ t, PA X [a] t → PE X e (tCB (rc1 X.prog X.w Z W o) t)) (ha : SE X Z W C a A) (hs : starEach [a] X.env = (false, eval a X.env) :: starEach [] X.env) : SE X Z W C e (.op1 o A) := by
  refine (he _ (pa_cons ha pa_nil hs)).imp fun σ H Q h => ?_
  have q := tG_1 (RR := RV Z) (G := fun x st => p1 o x st) h
  obtain ⟨μ, ρ, st, e, s, p⟩ := q
  exact ⟨μ, ρ, st, e, s, p.mono fun d st1 v H1 μ1 q => ⟨v, rfl, q⟩⟩
theorem s_b2 {e : Expr} {o : Op2} {A B : E} (he : ∀ t, PA X [a, b] t → PE X e (tCB (rc2 X.prog X.w Z W o) t)) (ha : SE X Z W C a A) (hb : SE X Z W C b B) (hs : starEach [a, b] X.env = (false, eval a X.env) :: starEach [b] X.env) (hs2 : starEach [b] X.env = (false, eval b X.env) :: starEach [] X.env) : SE X Z W C e (.op2 o A B) := by
  refine (he _ (pa_cons ha (pa_cons hb pa_nil hs2) hs)).imp fun σ H Q h => ?_
  have q := t_op2 h
  obtain ⟨μ, ρ, st, e, s, p⟩ := q
  refine ⟨μ, ρ, st, e, s, p.mono fun d st1 v H1 μ1 q => ?_⟩
  obtain ⟨μ, ρ, st, e, s, p⟩ := q
  exact ⟨μ, ρ, st, e, s, p.mono fun d st1 v2 H1 μ1 q => ⟨v, v2, rfl, q⟩⟩
end
end MP

set_option Elab.async false
set_option linter.all false
set_option maxRecDepth 100000
set_option maxHeartbeats 4000000
/-! MP: dicts written, made. -/
namespace MP
open PySem PySem.Spec L2
open PyProof.Rows hiding St

abbrev P3 : NestedKey × Addr × V → NestedKey × Addr × Value → Prop := fun p q => p.1 = q.1 ∧ p.2.1 = q.2.1 ∧ RelV p.2.2 q.2.2
def putN (es : List (NestedKey × Addr × V)) (k : NestedKey) (a : Addr) (v : V) : List (NestedKey × Addr × V) :=
  if (lkN es k).isSome = true then es.map (fun p => if p.1 = k then (p.1, p.2.1, v) else p) else es ++ [(k, a, v)]
theorem putN_ne (es : List (NestedKey × Addr × V)) (k : NestedKey) (a : Addr) (v : V) : putN es k a v ≠ [] := by
  unfold putN
  split
  · rename_i h
    cases es with
    | nil => simp [lkN] at h
    | cons p r => simp
  · simp
theorem putN_len (es : List (NestedKey × Addr × V)) (k : NestedKey) (a : Addr) (v : V) : (putN es k a v).length ≤ es.length + 1 := by
  unfold putN
  split <;> simp
theorem paired_map {α β γ δ : Type} {F : α → β → Prop} {G : γ → δ → Prop} {f : α → γ} {g : β → δ} (h : ∀ a b, F a b → G (f a) (g b)) : ∀ {l : List α} {m : List β}, Paired F l m → Paired G (l.map f) (m.map g)
  | _, _, .nil => .nil
  | _, _, .cons q t => .cons (h _ _ q) (paired_map h t)
theorem putN_stored {k : NestedKey} {a : Addr} {v : V} {u : Value} (rv : RelV v u) {es : List (NestedKey × Addr × V)} {ys : List (NestedKey × Addr × Value)} (h : Paired P3 es ys) : Paired P3 (putN es k a v) (storedH ys k a u) := by
  rcases atKey_val (k := k) h with ⟨e1, e2⟩ | ⟨b, v', u', e1, e2, _⟩
  · rw [storedH_new e2]
    unfold putN
    rw [e1]
    exact Paired.snoc h ⟨rfl, rfl, rv⟩
  · rw [storedH_old e2]
    unfold putN
    rw [e1]
    simp only [Option.isSome_some, if_true]
    refine paired_map (fun p q hq => ?_) h
    obtain ⟨h1, h2, h3⟩ := hq
    unfold putAt
    by_cases hp : p.1 = k
    · rw [if_pos hp, if_pos (h1 ▸ hp)]; exact ⟨h1, h2, rv⟩
    · rw [if_neg hp, if_neg (fun q => hp (h1 ▸ q))]; exact ⟨h1, h2, h3⟩
section
variable {X : Cx} {Z : Wd} {W : XK} {pins : List (Addr × Obj)} {s : Shared} {σ : St} {H : Hp} {μ : List Addr} {st : Sto} {E : Value → Shared → Prop} {a : Addr} {u : HO} {kvs : List (D × D)}
theorem RepKN.put {k : NestedKey} {b : Addr} {v : V} {d e : D} (hk : dkey d = some (.n k)) (rd : Rep Z H μ (.ref b) d) (rv : Rep Z H μ v e) {es : List (NestedKey × Addr × V)} (h : RepKN Z H μ es kvs) : RepKN Z H μ (putN es k b v) (dput kvs (.n k) d e) := by
  have app : ∀ {es : List (NestedKey × Addr × V)} {kvs : List (D × D)}, RepKN Z H μ es kvs → RepKN Z H μ (es ++ [(k, b, v)]) (kvs ++ [(d, e)]) := by
    intro es kvs h
    induction h with
    | nil => exact .cons hk rd rv .nil
    | cons h1 h2 h3 _ ih => exact .cons h1 h2 h3 ih
  have mp : ∀ {es : List (NestedKey × Addr × V)} {kvs : List (D × D)}, RepKN Z H μ es kvs → RepKN Z H μ (es.map (fun p => if p.1 = k then (p.1, p.2.1, v) else p)) (kvs.map (fun p => if dkey p.1 = some (.n k) then (p.1, e) else p)) := by
    intro es kvs h
    induction h with
    | nil => exact .nil
    | @cons j c w d' e' r s h1 h2 h3 _ ih =>
      rw [List.map_cons, List.map_cons]
      by_cases hj : j = k
      · subst hj
        rw [if_pos rfl, if_pos h1]
        exact .cons h1 h2 rv ih
      · rw [if_neg hj, if_neg (fun q => hj (by rw [h1] at q; injection q with q; injection q))]
        exact .cons h1 h2 h3 ih
  unfold putN dput
  rw [← dget_some]
  rcases h.atk (k := k) with ⟨e1, e2⟩ | ⟨c, w, d', e1, e2, _⟩
  · rw [e1, e2]
    simp only [Option.isSome_none, Bool.false_eq_true, if_false]
    exact app h
  · rw [e1, e2]
    simp only [Option.isSome_some, if_true]
    exact mp h
theorem RepKF.put {k : Key} {v : V} {d e : D} (hk : fkey d = some k) (rv : Rep Z H μ v e) {es : List (Key × V)} (h : RepKF Z H μ es kvs) : RepKF Z H μ (putK es k v) (dput kvs (.f k) d e) := by
  have app : ∀ {es : List (Key × V)} {kvs : List (D × D)}, RepKF Z H μ es kvs → RepKF Z H μ (es ++ [(k, v)]) (kvs ++ [(d, e)]) := by
    intro es kvs h
    induction h with
    | nil => exact .cons hk rv .nil
    | cons h1 h3 _ ih => exact .cons h1 h3 ih
  have mp : ∀ {es : List (Key × V)} {kvs : List (D × D)}, RepKF Z H μ es kvs → RepKF Z H μ (es.map (fun p => if p.1 = k then (p.1, v) else p)) (kvs.map (fun p => if dkey p.1 = some (.f k) then (p.1, e) else p)) := by
    intro es kvs h
    induction h with
    | nil => exact .nil
    | @cons j w d' e' r s h1 h3 _ ih =>
      rw [List.map_cons, List.map_cons]
      by_cases hj : j = k
      · subst hj
        rw [if_pos rfl, if_pos (dkey_f.mpr h1)]
        exact .cons h1 rv ih
      · rw [if_neg hj, if_neg (fun q => hj (by have := dkey_f.mp q; rw [h1] at this; exact Option.some.inj this))]
        exact .cons h1 h3 ih
  unfold putK dput
  rw [← dget_some, valV_any]
  rcases h.val (k := k) with ⟨e1, e2⟩ | ⟨w, d', e1, e2, _⟩
  · rw [e1, e2]
    simp only [Option.isSome_none, Bool.false_eq_true, if_false]
    exact app h
  · rw [e1, e2]
    simp only [Option.isSome_some, if_true]
    exact mp h
/-- the object of a dict with tuple keys -/
theorem keyed_ok {H' : Hp} {h' : Heap} {es : List (NestedKey × Addr × V)} {ys : List (NestedKey × Addr × Value)} (hz : es.length ≤ sizeLine) (hs : (a == sysModules) = false) (hp : Paired P3 es ys) (hd : h'.DictOfH (nestedKind X.prog X.w) a ys) : ObjOk X.prog X.w H' h' a (keyedHO X.prog X.w a es) := by
  obtain ⟨o, es', ep, ho, hx, hdt, he, _, nd⟩ := hd
  have keys : ys.map (·.1) = es.map (·.1) := by
    have gen : ∀ {es : List (NestedKey × Addr × V)} {ys : List (NestedKey × Addr × Value)}, Paired P3 es ys → ys.map (·.1) = es.map (·.1) := by
      intro es ys hp
      induction hp with
      | nil => rfl
      | cons h _ ih => simp only [List.map_cons, ih, h.1]
    exact gen hp
  rw [keys] at nd
  refine ⟨⟨hz, hs, nd, ys, hp, o, es', ep, ho, hx, hdt, he⟩, ⟨o, ho⟩, fun h1 h2 k kk => ?_⟩
  obtain ⟨z1, z2, z3, ys, z4, o, es', ep, ho, r⟩ := k
  exact ⟨z1, z2, z3, ys, z4, o, es', ep, kk o ho, r⟩
/-- a[y] = v -/
theorem q_set (hZ : Z.K = X.K) (hu : X.A.units + 64 < cLine) (I : Inv X pins σ H s) (hr : H a = some u) (q : RepDct X.prog X.w Z H μ a kvs u) {y v : V} {yv vv : Value} {d e : D} {k : DK} (r : Rep Z H μ y d) (ry : RelV y yv) (rv : Rep Z H μ v e) (rvv : RelV v vv) (hd : dkey d = some k) (hk : sameKind k kvs = true) (hl : kvs.length < LINE) {Q : Unit → Shared → Prop}
    (h : ∀ s' u', Inv X pins σ (upd H a u') s' → RepDct X.prog X.w Z H μ a (dput kvs k d e) u' → Q () s') : wpAny (model X.prog X.w) X.A (setItem (.ref a) yv vv) Q E s := by
  rw [LINE_eq] at hl
  cases k with
  | f k =>
    obtain ⟨es, rfl, rk⟩ := look_f q hk
    have hf := dkey_f.mp hd
    have ey := fkey_kV r hf
    exact d_setItem (H' := upd H a (.dK (putK es k v))) (by omega) I (.inl ⟨es, k, hr, ey, by rw [rk.length]; exact hl, rfl⟩) ry rvv fun s' I' => h s' _ I' (.inl ⟨_, rfl, rk.put hf rv⟩)
  | n k =>
    obtain ⟨es, ys, hu', rk, hp, hm, hs, hz⟩ := look_n hZ I (.inl hr) q hk
    obtain ⟨b, rfl⟩ := key_ref r hd
    cases (show yv = Value.ref b from ry)
    have hly : ys.length ≤ sizeLine := by rw [← paired_length hp]; exact hz
    have mu : Mut (H a) := by
      rw [hr]
      rcases hu' with ⟨rfl, _⟩ | rfl
      · trivial
      · trivial
    have hz' : (putN es k b v).length ≤ sizeLine := by
      have := putN_len es k b v
      rw [rk.length] at this
      omega
    refine wpAny_setItem_heap (hsz := hly) (room8 hu) (r.keyIs hZ I hd) hm fun h' hm' hsb => ?_
    have hp' := putN_stored (k := k) (a := b) rvv hp
    have he : ∃ q, h'.get? a = some q := by
      obtain ⟨o, _, _, ho, _⟩ := id hm'
      exact ⟨o, ho⟩
    exact h _ (keyedHO X.prog X.w a (putN es k b v)) (d_write I mu hsb he (keyed_ok hz' hs hp' hm')) (.inr ⟨_, rfl, putN_ne _ _ _ _, rk.put hd r rv⟩)

/-! ### dict(pairs) -/
def mergeN (es more : List (NestedKey × Addr × V)) : List (NestedKey × Addr × V) := more.foldl (fun acc p => putN acc p.1 p.2.1 p.2.2) es
theorem mergeN_stored : ∀ {more : List (NestedKey × Addr × V)} {ps : List (NestedKey × Addr × Value)} {es : List (NestedKey × Addr × V)} {ys : List (NestedKey × Addr × Value)}, Paired P3 more ps → Paired P3 es ys → Paired P3 (mergeN es more) (storedAllH ys ps)
  | _, _, _, _, .nil, h => h
  | _, _, es, ys, .cons (a := p) (b := q) h t, h0 => by
    obtain ⟨e1, e2, e3⟩ := h
    show Paired P3 (mergeN (putN es p.1 p.2.1 p.2.2) _) (storedAllH (storedH ys q.1 q.2.1 q.2.2) _)
    rw [← e1, ← e2]
    exact mergeN_stored t (putN_stored e3 h0)
theorem mergeN_len : ∀ (more es : List (NestedKey × Addr × V)), (mergeN es more).length ≤ es.length + more.length
  | [], es => by simp [mergeN]
  | p :: r, es => by
    have h1 := mergeN_len r (putN es p.1 p.2.1 p.2.2)
    have h2 := putN_len es p.1 p.2.1 p.2.2
    show (mergeN (putN es p.1 p.2.1 p.2.2) r).length ≤ _
    rw [List.length_cons]; omega
theorem mergeN_ne : ∀ (more es : List (NestedKey × Addr × V)), more ≠ [] ∨ es ≠ [] → mergeN es more ≠ []
  | [], es, h => by simpa [mergeN] using h
  | p :: r, es, _ => mergeN_ne r _ (.inr (putN_ne _ _ _ _))
/-- pairs as the list holds them -/
inductive PairsF (Z : Wd) (H : Hp) (μ : List Addr) : List Addr → List (Key × V) → List D → Prop
  | nil : PairsF Z H μ [] [] []
  | cons {p : Addr} {k : Key} {v : V} {d e : D} {ps : List Addr} {kv : List (Key × V)} {ds : List D} : SqT Z.K H p [kV k, v] → fkey d = some k → Rep Z H μ v e → PairsF Z H μ ps kv ds → PairsF Z H μ (p :: ps) ((k, v) :: kv) (.tup [d, e] :: ds)
inductive PairsN (Z : Wd) (H : Hp) (μ : List Addr) : List Addr → List (NestedKey × Addr × V) → List D → Prop
  | nil : PairsN Z H μ [] [] []
  | cons {p : Addr} {k : NestedKey} {b : Addr} {v : V} {d e : D} {ps : List Addr} {kv : List (NestedKey × Addr × V)} {ds : List D} : SqT Z.K H p [.ref b, v] → dkey d = some (.n k) → Rep Z H μ (.ref b) d → Rep Z H μ v e → PairsN Z H μ ps kv ds → PairsN Z H μ (p :: ps) ((k, b, v) :: kv) (.tup [d, e] :: ds)
theorem pairs_F : ∀ {ds : List D} {xs : List V} {acc kvs : List (D × D)} {es : List (Key × V)}, RepL Z H μ xs ds → dictF acc ds = some kvs → RepKF Z H μ es acc →
    ∃ (ps : List Addr) (kv : List (Key × V)), xs = ps.map V.ref ∧ Paired (fun p (q : Key × V) => SqT Z.K H p [kV q.1, q.2]) ps kv ∧ RepKF Z H μ (mergeK es kv) kvs
  | [], _, _, _, _, .nil, h, r => by
    simp only [dictF, Option.some.injEq] at h
    subst h
    exact ⟨[], [], rfl, .nil, r⟩
  | d :: ds, _, acc, kvs, es, .cons rd rs, h, r => by
    unfold dictF at h
    split at h
    · rename_i e; cases e
    · rename_i d1 v1 r1 e
      cases e
      obtain ⟨k, hk, h⟩ := Option.bind_eq_some_iff.mp h
      cases rd with
      | tup hs rl =>
        cases rl with
        | cons r1 rl =>
          cases rl with
          | cons r2 rl =>
            cases rl
            have ek := fkey_kV r1 hk
            subst ek
            obtain ⟨ps, kv, e1, e2, e3⟩ := pairs_F rs h (r.put hk r2)
            exact ⟨_ :: ps, (k, _) :: kv, by rw [e1]; rfl, .cons hs e2, e3⟩
    · cases h
theorem pairs_N : ∀ {ds : List D} {xs : List V} {acc kvs : List (D × D)} {es : List (NestedKey × Addr × V)}, RepL Z H μ xs ds → dictN acc ds = some kvs → RepKN Z H μ es acc →
    ∃ (ps : List Addr) (kv : List (NestedKey × Addr × V)), xs = ps.map V.ref ∧ Paired (fun p (q : NestedKey × Addr × V) => SqT Z.K H p [.ref q.2.1, q.2.2] ∧ ∃ d, dkey d = some (.n q.1) ∧ Rep Z H μ (.ref q.2.1) d) ps kv ∧ RepKN Z H μ (mergeN es kv) kvs
  | [], _, _, _, _, .nil, h, r => by
    simp only [dictN, Option.some.injEq] at h
    subst h
    exact ⟨[], [], rfl, .nil, r⟩
  | d :: ds, _, acc, kvs, es, .cons rd rs, h, r => by
    unfold dictN at h
    split at h
    · rename_i e; cases e
    · rename_i d1 v1 r1 e
      cases e
      split at h
      · rename_i k hk
        cases rd with
        | tup hs rl =>
          cases rl with
          | cons r1 rl =>
            cases rl with
            | cons r2 rl =>
              cases rl
              obtain ⟨b, rfl⟩ := key_ref r1 hk
              obtain ⟨ps, kv, e1, e2, e3⟩ := pairs_N rs h (r.put hk r1 r2)
              exact ⟨_ :: ps, (k, b, _) :: kv, by rw [e1]; rfl, .cons ⟨hs, _, hk, r1⟩ e2, e3⟩
      · cases h
    · cases h
theorem paired_imp {α β : Type} {F G : α → β → Prop} (h : ∀ a b, F a b → G a b) : ∀ {l : List α} {m : List β}, Paired F l m → Paired G l m
  | _, _, .nil => .nil
  | _, _, .cons q t => .cons (h _ _ q) (paired_imp h t)
/-- dict(a), a the list of pairs -/
theorem q_dict (hZ : Z.K = X.K) (hc : X.calm = true) (hu : X.A.units + 100 < cLine) (I : Inv X pins σ H s) (S : SRep X.prog X.w Z H μ st) {xs : List V} {ds : List D} (hq : SqL Z.K H a xs) (rl : RepL Z H μ xs ds) {Q : VK}
    (h : Pst X.prog X.w Z W H μ (RV Z) (foldD .dict ds st) fun _ _ v H' _ => Q v H') : wpAny (model X.prog X.w) X.A (call (.type "dict") [.ref a]) (EP X pins σ Q) X.xe s := by
  simp only [foldD] at h
  split at h
  · rename_i kvs e
    obtain ⟨ps, kv, e1, e2, e3⟩ := pairs_F rl e .nil
    subst e1
    refine call_dictP hc pins s σ H [.ref a] [.ref a] Q I (.cons rfl .nil) ⟨a, ps, kv, rfl, hZ ▸ hq, paired_imp (fun _ _ q => hZ ▸ q) e2, fun p hp => ?_⟩
    exact h _ _ _ (Ev.new S hp) (S.new hp ⟨_, upd_same, .inl ⟨_, rfl, e3.mono (Ev.new S hp) S.nt⟩⟩) (.ref (by rw [← S.len]; simp))
  · split at h
    · rename_i kvs e
      obtain ⟨ps, kv, e1, e2, e3⟩ := pairs_N rl e .nil
      subst e1
      have hne : kv ≠ [] := by
        rintro rfl
        cases e2
        cases rl
        rename_i e0
        simp [dictF] at e0
      obtain ⟨its, rv, pl, hz⟩ := I.list (hZ ▸ hq)
      have ei := refs_at rv
      subst ei
      -- the pairs by values
      have vals : ∀ {ps : List Addr} {kv : List (NestedKey × Addr × V)}, Paired (fun p (q : NestedKey × Addr × V) => SqT Z.K H p [.ref q.2.1, q.2.2] ∧ ∃ d, dkey d = some (.n q.1) ∧ Rep Z H μ (.ref q.2.1) d) ps kv →
          ∃ prs : List (NestedKey × Addr × Value), Paired P3 kv prs ∧ prs.length = ps.length ∧ ∀ (j : Nat) (q : NestedKey × Addr × Value), prs[j]? = some q → ∃ b, ps[j]? = some b ∧ IsTup s.heap b #[.ref q.2.1, q.2.2] ∧ (nestedKind X.prog X.w).is s.heap q.1 q.2.1 := by
        intro ps kv hp
        induction hp with
        | nil => exact ⟨[], .nil, rfl, fun j q e => by simp at e⟩
        | @cons p q ps kv h1 _ ih =>
          obtain ⟨hs, d, hk, rd⟩ := h1
          obtain ⟨prs, r1, hl, r2⟩ := ih
          obtain ⟨its, rv', ht, _⟩ := I.tuple (hZ ▸ hs)
          obtain ⟨u1, u2, rfl, q1, q2⟩ := rv'.two
          cases (show u1 = Value.ref q.2.1 from q1)
          refine ⟨(q.1, q.2.1, u2) :: prs, .cons ⟨rfl, rfl, q2⟩ r1, by simp [hl], fun j z e => ?_⟩
          cases j with
          | zero =>
            have e' : (q.1, q.2.1, u2) = z := Option.some.inj e
            subst e'
            exact ⟨p, rfl, ht, rd.keyIs hZ I hk⟩
          | succ j =>
            obtain ⟨b, e1, e2, e3⟩ := r2 j z (by simpa using e)
            exact ⟨b, by simpa using e1, e2, e3⟩
      obtain ⟨prs, pp, hl, hpr⟩ := vals e2
      have hll : kv.length = prs.length := paired_length pp
      have hz2 : prs.length ≤ sizeLine := by rw [hl]; simpa using hz
      refine call_dict_pairsH (knd := nestedKind X.prog X.w) (ps := prs) (PairArg.list a (ps.map Value.ref).toArray (fun j => ps.getD j 0) (prs.map fun q => (Value.ref q.2.1, q.2.2))) (I.ok.hd hc) (show X.A.units + 1 + 1 + 8 < cLine by omega)
        ⟨?_, ⟨by simp [hl], fun j k v e => ?_⟩⟩ ⟨by simp, fun i key v e => ?_⟩ (fun h' hk x hx => ?_) (by simpa using hz2) (fun h' tk hd' hk => ?_)
      · obtain ⟨o, n, ho, hc, hd, hdat⟩ := pl
        exact ⟨o, n, ho, hc, hd, hdat⟩
      · rw [List.getElem?_map] at e
        obtain ⟨q, e1, e2⟩ := Option.map_eq_some_iff.mp e
        cases e2
        obtain ⟨b, e3, e4, _⟩ := hpr j q e1
        have eb : ps.getD j 0 = b := by simp [List.getD, e3]
        refine ⟨?_, ?_⟩
        · show (List.map Value.ref ps).toArray[j]? = some (Value.ref (ps.getD j 0))
          rw [eb]
          simp [e3]
        · show PairAt s.heap (ps.getD j 0) _ _
          rw [eb]
          exact .inl e4
      · have e : (prs.map fun q => (Value.ref q.2.1, q.2.2))[i]? = some (key, v) := e
        rw [List.getElem?_map] at e
        obtain ⟨q, e1, e2⟩ := Option.map_eq_some_iff.mp e
        cases e2
        exact ⟨q.1, q.2.1, e1, rfl⟩
      · obtain ⟨j, hj, ej⟩ := List.getElem_of_mem hx
        obtain ⟨b, _, _, e3⟩ := hpr j x (by simp [hj, ej])
        exact nestedKind_stays.stays (fun b o vs n e _ => hk b o (Nat.ne_of_lt (Heap.lt_size e)) (fun z => nomatch z) e) e3
      · have hm : (s.heap.objs.size == sysModules) = false := beq_eq_false_iff_ne.mpr (Nat.ne_of_gt I.big)
        have hp' : Paired P3 (mergeN [] kv) (storedAllH [] prs) := mergeN_stored pp .nil
        have hz' : (mergeN [] kv).length ≤ sizeLine := by
          have := mergeN_len kv []
          simp only [List.length_nil] at this
          omega
        have hf := I.hok.fresh (Nat.le_refl s.heap.objs.size)
        refine ⟨.ref s.heap.objs.size, upd H s.heap.objs.size (keyedHO X.prog X.w s.heap.objs.size (mergeN [] kv)), I.laid (t' := tk) (fun b o e => hk b o (fun z => nomatch z) e) (Nat.le_refl _) (keyed_ok hz' hm hp' hd'), rfl, ?_⟩
        exact h _ _ _ (Ev.new S hf) (S.new hf ⟨_, upd_same, .inr ⟨_, rfl, mergeN_ne _ _ (.inl hne), e3.mono (Ev.new S hf) S.nt⟩⟩) (.ref (by rw [← S.len]; simp))
    · exact False.elim h
end
end MP

set_option Elab.async false
set_option linter.all false
set_option maxRecDepth 100000
set_option maxHeartbeats 4000000
/-! MP: sorted. -/
namespace MP
open PySem PySem.Spec L2
open PySem.W (alike alikeAll keyToks keyToksAll dataLt dataType EachIs SortsAt KatLex)
open PyProof.Rows hiding St

mutual
theorem like_alike : ∀ a b : D, D.like a b = true → alike a.py b.py = true
  | .int _, b, h => by cases b <;> simp [D.like] at h <;> simp [D.py, alike]
  | .str _, b, h => by cases b <;> simp [D.like] at h <;> simp [D.py, alike]
  | .tup xs, b, h => by
    cases b with
    | tup ys => simp only [D.like] at h; simp only [D.py, alike]; exact likeL_alike xs ys h
    | _ => simp [D.like] at h
  | .non, b, h => by simp [D.like] at h
  | .bl _, b, h => by simp [D.like] at h
  | .cl _, b, h => by simp [D.like] at h
  | .ref _, b, h => by simp [D.like] at h
  | .fn _, b, h => by simp [D.like] at h
  | .kls _, b, h => by simp [D.like] at h
  | .lam _ _, b, h => by simp [D.like] at h
theorem likeL_alike : ∀ a b : List D, D.likeL a b = true → alikeAll (D.pyL a) (D.pyL b) = true
  | [], b, _ => by simp [D.pyL, alikeAll]
  | x :: xs, [], _ => by simp [D.pyL, alikeAll]
  | x :: xs, y :: ys, h => by
    simp only [D.likeL, Bool.and_eq_true] at h
    simp only [D.pyL, alikeAll, Bool.and_eq_true]
    exact ⟨like_alike x y h.1, likeL_alike xs ys h.2⟩
end
mutual
/-- equal data have the same signs -/
theorem toks_of_eqv : ∀ a b : PyData, a.canLay0 = true → b.canLay0 = true → PyData.eqv a b = true → keyToks a = keyToks b
  | .none, b, _, _, h => by cases b <;> simp [PyData.eqv] at h; rfl
  | .bool x, b, _, _, h => by
    cases b with
    | bool y => simp [PyData.eqv] at h; rw [h]
    | int y => simp [PyData.eqv] at h; simp [keyToks, h]
    | _ => simp [PyData.eqv] at h
  | .int x, b, _, _, h => by
    cases b with
    | bool y => simp [PyData.eqv] at h; simp [keyToks, h]
    | int y => simp [PyData.eqv] at h; rw [h]
    | _ => simp [PyData.eqv] at h
  | .str x, b, _, _, h => by
    cases b with
    | str y => simp [PyData.eqv] at h; rw [h]
    | _ => simp [PyData.eqv] at h
  | .list xs, b, ha, hb, h => by
    cases b with
    | list ys =>
      simp only [PyData.canLay0] at ha hb
      simp only [PyData.eqv] at h
      simp only [keyToks]
      exact toksAll_of_eqv xs ys ha hb h
    | _ => simp [PyData.eqv] at h
  | .tuple xs, b, ha, hb, h => by
    cases b with
    | tuple ys =>
      simp only [PyData.canLay0] at ha hb
      simp only [PyData.eqv] at h
      simp only [keyToks]
      exact toksAll_of_eqv xs ys ha hb h
    | _ => simp [PyData.eqv] at h
  | .dict _, b, ha, _, _ => by simp [PyData.canLay0] at ha
theorem toksAll_of_eqv : ∀ a b : List PyData, PyData.canLayAll0 a = true → PyData.canLayAll0 b = true → PyData.eqvAll a b = true → keyToksAll a = keyToksAll b
  | [], [], _, _, _ => rfl
  | [], y :: ys, _, _, h => by simp [PyData.eqvAll] at h
  | x :: xs, [], _, _, h => by simp [PyData.eqvAll] at h
  | x :: xs, y :: ys, ha, hb, h => by
    simp only [PyData.canLayAll0, Bool.and_eq_true] at ha hb
    simp only [PyData.eqvAll, Bool.and_eq_true] at h
    simp only [keyToksAll, toks_of_eqv x y ha.1 hb.1 h.1, toksAll_of_eqv xs ys ha.2 hb.2 h.2]
end
theorem lt_all_yes {x y : PyData} {xs ys : List PyData} (hx : x.canLay0 = true) (hy : y.canLay0 = true) (e : PyData.eqv x y = true) : PyProof.Rows.lexLt itemOrd (keyToksAll (x :: xs)) (keyToksAll (y :: ys)) = PyProof.Rows.lexLt itemOrd (keyToksAll xs) (keyToksAll ys) := by
  rw [PySem.W.toks_all_cons, PySem.W.toks_all_cons, toks_of_eqv x y hx hy e]
  exact (lex_self (O := itemOrd) _ _ _).trans (PySem.W.lex_pre _ _ _)
section
variable {prog : Program} {w : World} {A : Around} {s : Shared}
theorem katLexT {b fin : Bool} {Q : Bool → Shared → Prop} : ∀ (xs ys : List D) (i : Nat) (vs ws : List Value) (as bs : List Addr), ReadsAll s.heap vs (D.pyL xs) as → ReadsAll s.heap ws (D.pyL ys) bs → PyData.canLayAll0 (D.pyL xs) = true → PyData.canLayAll0 (D.pyL ys) = true → D.likeT xs ys = true →
    A.units + min (D.depL xs) (D.depL ys) < cLine → (b = true → i = 0 → ∀ x r t, xs = x :: r → x ≠ .tup t) → fin = decide (xs.length < ys.length) → Q (PyProof.Rows.lexLt itemOrd (keyToksAll (D.pyL xs)) (keyToksAll (D.pyL ys))) s → KatLex prog w A b fin Q (vs.zip ws) i s
  | [], [], i, _, _, _, _, ra, rb, _, _, _, _, _, hf, hq => by
    simp only [D.pyL] at ra rb hq
    cases ra
    cases rb
    have e : fin = false := by rw [hf]; rfl
    subst e
    rw [lex_irrefl] at hq
    exact PySem.W.kat_nil hq
  | [], y :: ys, i, _, _, _, _, ra, rb, _, _, _, _, _, hf, hq => by
    simp only [D.pyL] at ra hq
    cases ra
    have e : fin = true := by rw [hf]; exact decide_eq_true (Nat.succ_pos _)
    subst e
    rw [PySem.W.toks_all_cons] at hq
    simp only [keyToksAll] at hq
    rw [lex_diff (O := itemOrd) (by simp)] at hq
    rw [List.zip_nil_left]
    exact PySem.W.kat_nil (by simpa [itemLt] using hq)
  | x :: xs, [], i, _, _, _, _, ra, rb, _, _, _, _, _, hf, hq => by
    simp only [D.pyL] at rb hq
    cases rb
    have e : fin = false := by rw [hf]; exact decide_eq_false (Nat.not_lt_zero _)
    subst e
    rw [PySem.W.toks_all_cons] at hq
    simp only [keyToksAll] at hq
    rw [lex_diff (O := itemOrd) (by simp)] at hq
    rw [List.zip_nil_right]
    exact PySem.W.kat_nil (by simpa [itemLt] using hq)
  | x :: xs, y :: ys, i, _, _, _, _, ra, rb, la, lb, h, hu, hb, hf, hq => by
    simp only [D.pyL] at ra rb la lb hq
    simp only [PyData.canLayAll0, Bool.and_eq_true] at la lb
    simp only [D.depL] at hu
    have hf' : fin = decide (xs.length < ys.length) := by
      rw [hf]
      simp only [List.length_cons, Nat.add_lt_add_iff_right]
    cases ra with
    | cons r rs =>
      cases rb with
      | cons r' rs' =>
        rw [List.zip_cons_cons]
        refine PySem.W.kat_cons (SeqAt.eqAt_reads x.py y.py A s _ _ _ _ r r' la.1 lb.1 (by rw [depth_py, depth_py]; omega) prog w _ _ ?_)
        cases hx : PyData.eqv x.py y.py with
        | true =>
          rw [lt_all_yes la.1 lb.1 hx] at hq
          unfold D.likeT at h
          rw [if_pos hx] at h
          exact PySem.W.kat_yes (katLexT xs ys (i + 1) _ _ _ _ rs rs' la.2 lb.2 h (by omega) (fun _ hi => absurd hi (Nat.succ_ne_zero i)) hf' hq)
        | false =>
          unfold D.likeT at h
          rw [if_neg (by rw [hx]; exact Bool.false_ne_true)] at h
          have hal := like_alike x y h
          rw [PySem.W.dataLt_all_no hal hx] at hq
          refine PySem.W.kat_no (PySem.W.oneLt_alike (fun hbi t e => ?_) r r' hal (fun e => ?_) (by rw [depth_py, depth_py]; omega) hq)
          · rw [Bool.and_eq_true] at hbi
            cases x with
            | tup z => exact hb hbi.1 (by simpa using hbi.2) _ xs z rfl rfl
            | cl z => simp [D.like] at h
            | _ => simp [D.py] at e
          · rw [e] at hal
            cases x <;> simp [D.py] at e <;> simp [D.like] at h
/-- keys that are what their values read as -/
noncomputable def rdKind (h : Heap) (ds : List PyData) : PyProof.Rows.KeyKind where
  toKeyOrd := listOrd itemOrd
  keyOf v := open Classical in if ∃ d, d ∈ ds ∧ ∃ as, Reads h v d as then some (keyToks (SeqAt.readOf h v)) else none
  dflt := ([] : List (Int ⊕ List Nat))
theorem rdKind_some {h : Heap} {ds : List PyData} {v : Value} {d : PyData} {as : List Addr} (hd : d ∈ ds) (r : Reads h v d as) (hc : d.canLay0 = true) : (rdKind h ds).keyOf v = some (keyToks d) := by
  show (open Classical in if ∃ d, d ∈ ds ∧ ∃ as, Reads h v d as then some (keyToks (SeqAt.readOf h v)) else none) = _
  rw [if_pos ⟨d, hd, as, r⟩, SeqAt.readOf_eq hc r]
theorem rdKind_inv {h : Heap} {ds : List PyData} {v : Value} {k : List (Int ⊕ List Nat)} (hc : ∀ d ∈ ds, d.canLay0 = true) (e : (rdKind h ds).keyOf v = some k) : ∃ d as, d ∈ ds ∧ Reads h v d as ∧ k = keyToks d := by
  have e : (open Classical in if ∃ d, d ∈ ds ∧ ∃ as, Reads h v d as then some (keyToks (SeqAt.readOf h v)) else none) = some k := e
  split at e
  · rename_i q
    obtain ⟨d, hd, as, r⟩ := q
    rw [SeqAt.readOf_eq (hc d hd) r] at e
    exact ⟨d, as, hd, r, (Option.some.inj e).symm⟩
  · cases e
theorem mem_pyL {d : D} : ∀ {ds : List D}, d ∈ ds → d.py ∈ D.pyL ds
  | x :: xs, h => by
    simp only [D.pyL]
    rcases List.mem_cons.mp h with rfl | h
    · exact List.mem_cons_self
    · exact List.mem_cons_of_mem _ (mem_pyL h)
theorem of_mem_pyL {p : PyData} : ∀ {ds : List D}, p ∈ D.pyL ds → ∃ d ∈ ds, p = d.py
  | x :: xs, h => by
    simp only [D.pyL] at h
    rcases List.mem_cons.mp h with rfl | h
    · exact ⟨x, List.mem_cons_self, rfl⟩
    · obtain ⟨d, h1, h2⟩ := of_mem_pyL h
      exact ⟨d, List.mem_cons_of_mem _ h1, h2⟩
theorem canLay_mem : ∀ {ds : List PyData}, PyData.canLayAll0 ds = true → ∀ d ∈ ds, d.canLay0 = true
  | x :: xs, h, d, hd => by
    simp only [PyData.canLayAll0, Bool.and_eq_true] at h
    rcases List.mem_cons.mp hd with rfl | hd
    · exact h.1
    · exact canLay_mem h.2 d hd
theorem depL_mem : ∀ {ds : List D} {d : D}, d ∈ ds → d.dep ≤ D.depL ds
  | x :: xs, d, h => by
    simp only [D.depL]
    rcases List.mem_cons.mp h with rfl | h
    · omega
    · have := depL_mem h; omega
theorem allSort_at {ds : List D} (h : allSort ds = true) {a b : D} (ha : a ∈ ds) (hb : b ∈ ds) : sortable a b = true := by
  simp only [allSort, List.all_eq_true] at h
  exact h a ha b hb
theorem like_type {x y : D} (h : D.like x y = true) : dataType x.py = dataType y.py := PySem.W.dataType_alike (like_alike x y h)
/-- values that read as data that can be sorted -/
theorem sortsAt {vs : List Value} {ds : List D} (e : EachIs (fun v d => ∃ as, Reads s.heap v d as) vs (D.pyL ds)) (hc : PyData.canLayAll0 (D.pyL ds) = true) (hs : allSort ds = true) (hu : A.units + 70 < cLine) (hd : D.depL ds ≤ 60) : SortsAt prog w A s (rdKind s.heap (D.pyL ds)) vs := by
  have lay := canLay_mem hc
  have room : ∀ {a : D}, a ∈ ds → A.units + a.dep < cLine := fun {a} ha => by have := depL_mem ha; omega
  refine ⟨fun v hv => ?_, ?_⟩
  · obtain ⟨d, hd, as, r⟩ := e.left v hv
    exact ⟨_, rdKind_some hd r (lay _ hd)⟩
  · cases ds with
    | nil =>
      simp only [D.pyL] at e
      cases e
      exact ⟨general', fun E x y a b Q ha _ _ => (by
        obtain ⟨d, _, hd, _⟩ := rdKind_inv lay ha
        simp [D.pyL] at hd), fun h2 => absurd h2 (by simp)⟩
    | cons d₀ ds₀ =>
      have m₀ : d₀ ∈ d₀ :: ds₀ := List.mem_cons_self
      have all₀ : ∀ d ∈ d₀ :: ds₀, sortable d d₀ = true := fun d h => allSort_at hs h m₀
      -- one kind of atoms
      have atoms : (∀ d ∈ d₀ :: ds₀, ∀ d' ∈ d₀ :: ds₀, D.like d d' = true) → (∀ d ∈ d₀ :: ds₀, ∀ xs, d.py ≠ .tuple xs) → ∃ kd : SortKind, H.LtAt prog w A s (rdKind s.heap (D.pyL (d₀ :: ds₀))) kd ∧ (2 ≤ vs.length → ∀ (E : Value → Shared → Prop) {Q : SortKind → Shared → Prop}, Q kd s → wpAny (model prog w) A (keyKind' vs.toArray) Q E s) := by
        intro hl hn
        refine ⟨oneType', ?_, fun h2 E Q hq => ?_⟩
        · intro E x y a b Q ha hb hq
          obtain ⟨p, as, hp, ra, rfl⟩ := rdKind_inv lay ha
          obtain ⟨p', as', hp', rb, rfl⟩ := rdKind_inv lay hb
          obtain ⟨d, hd1, rfl⟩ := of_mem_pyL hp
          obtain ⟨d', hd2, rfl⟩ := of_mem_pyL hp'
          rw [keyLt'_oneType]
          have hk := hl d hd1 d' hd2
          refine PySem.W.oneLt_alike (fun _ => hn d hd1) ra rb (like_alike _ _ hk) (fun e => ?_) (by rw [depth_py, depth_py]; have := room hd1; omega) hq
          cases d <;> simp [D.py] at e <;> simp [D.like] at hk
        · refine PySem.W.kas_kind (T := dataType d₀.py) h2 (fun v hv => ?_) (PySem.W.dataType_other (hn d₀ m₀)) (beq_self_eq_true _) hq
          obtain ⟨p, hp, as, r⟩ := e.left v hv
          obtain ⟨d, hd1, rfl⟩ := of_mem_pyL hp
          rw [← like_type (hl d hd1 d₀ m₀)]
          exact PySem.W.looks_reads r
      have lk : ∀ d ∈ d₀ :: ds₀, ∀ d' ∈ d₀ :: ds₀, sortable d d' = true := fun d h d' h' => allSort_at hs h h'
      cases d₀ with
      | int i =>
        have kind : ∀ d ∈ D.int i :: ds₀, ∃ j, d = .int j := fun d h => by
          have q := all₀ d h
          unfold sortable at q
          cases d with
          | int j => exact ⟨j, rfl⟩
          | tup l => cases l <;> simp at q
          | _ => simp at q
        refine atoms (fun d h d' h' => ?_) (fun d h xs => ?_)
        · obtain ⟨j, rfl⟩ := kind d h
          obtain ⟨j', rfl⟩ := kind d' h'
          rfl
        · obtain ⟨j, rfl⟩ := kind d h
          simp [D.py]
      | str i =>
        have kind : ∀ d ∈ D.str i :: ds₀, ∃ j, d = .str j := fun d h => by
          have q := all₀ d h
          unfold sortable at q
          cases d with
          | str j => exact ⟨j, rfl⟩
          | tup l => cases l <;> simp at q
          | _ => simp at q
        refine atoms (fun d h d' h' => ?_) (fun d h xs => ?_)
        · obtain ⟨j, rfl⟩ := kind d h
          obtain ⟨j', rfl⟩ := kind d' h'
          rfl
        · obtain ⟨j, rfl⟩ := kind d h
          simp [D.py]
      | tup l₀ =>
        cases l₀ with
        | nil => have q := all₀ _ m₀; simp [sortable] at q
        | cons x₀ r₀ =>
          have kind : ∀ d ∈ D.tup (x₀ :: r₀) :: ds₀, ∃ x r, d = .tup (x :: r) ∧ D.like x x₀ = true := fun d h => by
            have q := all₀ d h
            unfold sortable at q
            cases d with
            | tup l =>
              cases l with
              | nil => simp at q
              | cons x r => simp only [Bool.and_eq_true] at q; exact ⟨x, r, rfl, q.1⟩
            | _ => simp at q
          have ht : ∀ p, p ∈ D.pyL (D.tup (x₀ :: r₀) :: ds₀) → ∃ x r, p = PyData.tuple (x :: r) := fun p hp => by
            obtain ⟨d, hd1, rfl⟩ := of_mem_pyL hp
            obtain ⟨x, r, rfl, _⟩ := kind d hd1
            exact ⟨x.py, D.pyL r, by simp [D.py, D.pyL]⟩
          refine ⟨tuples' (dataType x₀.py != Value.type "tuple"), ?_, fun h2 E Q hq => ?_⟩
          · intro E x y a b Q ha hb hq
            obtain ⟨p, as, hp, ra, rfl⟩ := rdKind_inv lay ha
            obtain ⟨p', as', hp', rb, rfl⟩ := rdKind_inv lay hb
            obtain ⟨d, hd1, rfl⟩ := of_mem_pyL hp
            obtain ⟨d', hd2, rfl⟩ := of_mem_pyL hp'
            obtain ⟨x1, r1, rfl, l1⟩ := kind d hd1
            obtain ⟨x2, r2, rfl, l2⟩ := kind d' hd2
            have hso := lk _ hd1 _ hd2
            simp only [sortable, Bool.and_eq_true] at hso
            have la := lay _ hp
            have lb := lay _ hp'
            have hrm := room hd1
            simp only [D.dep] at hrm
            simp only [D.py, PyData.canLay0] at ra rb la lb
            have hq' : Q (dataLt (D.tup (x1 :: r1)).py (D.tup (x2 :: r2)).py) s := hq
            simp only [D.py, PySem.W.dataLt_tuple] at hq'
            cases ra with
            | @tuple l o xs n _ _ h1 h2 h3 h4 =>
              cases rb with
              | @tuple l' o' xs' n' _ _ k1 k2 k3 k4 =>
                have n1 : xs.size = (x1 :: r1).length := by
                  have := SeqAt.ReadsAll.length _ _ _ h4
                  rw [pyL_length] at this
                  simpa using this
                have n2 : xs'.size = (x2 :: r2).length := by
                  have := SeqAt.ReadsAll.length _ _ _ k4
                  rw [pyL_length] at this
                  simpa using this
                refine PySem.W.kat_lt h1 h3 k1 k3 (katLexT (x1 :: r1) (x2 :: r2) 0 _ _ _ _ h4 k4 la lb hso.2 (by omega) (fun hb _ x r t ex => ?_) (by rw [n1, n2]) hq')
                obtain ⟨rfl, rfl⟩ := List.cons.inj ex
                rintro rfl
                rw [← like_type l1] at hb
                simp [D.py, dataType] at hb
          · obtain ⟨fs, t1, t2, t3⟩ := PySem.W.each_katTups e ht
            refine PySem.W.kat_kind (T := dataType x₀.py) t1 (by omega) (fun f hf => ?_) (beq_self_eq_true _) hq
            obtain ⟨x, r, as, m1, m2⟩ := t3 f hf
            obtain ⟨d, hd1, he⟩ := of_mem_pyL m1
            obtain ⟨x', r', rfl, l1⟩ := kind d hd1
            simp only [D.py, D.pyL, PyData.tuple.injEq, List.cons.injEq] at he
            rw [← like_type l1, ← he.1]
            exact PySem.W.looks_reads m2
      | non => have q := all₀ _ m₀; simp [sortable] at q
      | bl _ => have q := all₀ _ m₀; simp [sortable] at q
      | cl _ => have q := all₀ _ m₀; simp [sortable] at q
      | ref _ => have q := all₀ _ m₀; simp [sortable] at q
      | fn _ => have q := all₀ _ m₀; simp [sortable] at q
      | kls _ => have q := all₀ _ m₀; simp [sortable] at q
      | lam _ _ => have q := all₀ _ m₀; simp [sortable] at q
end
/-! ### the call -/
section
variable {X : Cx} {Z : Wd} {pins : List (Addr × Obj)} {s : Shared} {σ : St} {H : Hp} {μ : List Addr} {a : Addr}
/-- a value that stands for d -/
def Stands (Z : Wd) (H : Hp) (μ : List Addr) (v : Value) (d : D) : Prop := ∃ x, RelV x v ∧ Rep Z H μ x d
theorem stands_of : ∀ {xs : List V} {vs : List Value} {ds : List D}, Vals xs vs → RepL Z H μ xs ds → EachIs (Stands Z H μ) vs ds
  | _, _, _, .nil, .nil => .nil
  | _, _, _, .cons h t, .cons r q => .cons ⟨_, h, r⟩ (stands_of t q)
theorem of_stands : ∀ {vs : List Value} {ds : List D}, EachIs (Stands Z H μ) vs ds → ∃ xs, Vals xs vs ∧ RepL Z H μ xs ds
  | _, _, .nil => ⟨[], .nil, .nil⟩
  | _, _, .cons h t => by
    obtain ⟨x, h1, h2⟩ := h
    obtain ⟨xs, t1, t2⟩ := of_stands t
    exact ⟨x :: xs, .cons h1 t1, .cons h2 t2⟩
theorem each_reads {h' : Heap} (hZ : Z.K = X.K) (I : Inv X pins σ H s) (hk : ∀ b o, s.heap.get? b = some o → h'.get? b = some o) : ∀ {vs : List Value} {ds : List D}, EachIs (Stands Z H μ) vs ds → D.flatL ds = true → EachIs (fun v d => ∃ as, Reads h' v d as) vs (D.pyL ds)
  | _, _, .nil, _ => .nil
  | _, _, .cons h t, f => by
    obtain ⟨x, h1, h2⟩ := h
    simp only [D.flatL, Bool.and_eq_true] at f
    simp only [D.pyL]
    obtain ⟨as, r⟩ := Dp.reads I _ _ _ (hZ ▸ h2.dp f.1) h1
    exact .cons ⟨as, PyProof.Rows.Reads.keeps hk r⟩ (each_reads hZ I hk t f.2)
theorem each_keys {h' : Heap} {all : List PyData} (hc : ∀ d ∈ all, d.canLay0 = true) : ∀ {vs : List Value} {ds : List D}, EachIs (fun v d => ∃ as, Reads h' v d as) vs (D.pyL ds) → (∀ d ∈ ds, d.py ∈ all) → EachIs (fun v (d : D) => (rdKind h' all).keyOf v = some (keyToks d.py)) vs ds
  | vs, [], h, _ => by
    simp only [D.pyL] at h
    cases h
    exact .nil
  | vs, d :: ds, h, m => by
    simp only [D.pyL] at h
    cases h with
    | cons r t =>
      obtain ⟨as, r⟩ := r
      have m1 := m d List.mem_cons_self
      exact .cons (rdKind_some m1 r (hc _ m1)) (each_keys hc t fun e he => m e (List.mem_cons_of_mem _ he))
theorem q_sorted (hZ : Z.K = X.K) (hu : X.A.units + 100 < cLine) (I : Inv X pins σ H s) {xs : List V} {ds es : List D} (hs : SqL Z.K H a xs) (rl : RepL Z H μ xs ds) (he : sortD ds = some es) {Q : VK}
    (hq : ∀ p ys, H p = none → RepL Z H μ ys es → Q (.ref p) (upd H p (.lst ys))) : wpAny (model X.prog X.w) X.A (call (.builtin "sorted") [.ref a]) (EP X pins σ Q) X.xe s := by
  unfold sortD at he
  split at he
  · rename_i hk
    simp only [Bool.and_eq_true, decide_eq_true_eq] at hk
    obtain ⟨⟨k1, k2⟩, k3⟩ := hk
    cases he
    obtain ⟨its, rv, hl, hz⟩ := I.list (hZ ▸ hs)
    obtain ⟨f1, f2, f3⟩ := okL_flat k1
    have st := stands_of rv rl
    have er := each_reads hZ I (h' := PySem.W.sortingHeap (PySem.W.copyHeap s.heap its) (s.heap.objs.size + 1) its) (fun _ _ => PySem.W.sorting_copy_old) st f1
    have hlen : its.length ≤ sizeLine := by rw [← rv.length]; exact hz
    refine PySem.W.sorted_vals hl.isList (κ := rdKind (PySem.W.sortingHeap (PySem.W.copyHeap s.heap its) (s.heap.objs.size + 1) its) (D.pyL ds)) (sortsAt er f2 k2 (show X.A.units + 1 + 1 + 70 < cLine by omega) f3) hlen ?_
    have ek := each_keys (canLay_mem f2) er fun d hd => mem_pyL hd
    have out := PySem.W.sortVals_each (κ := rdKind (PySem.W.sortingHeap (PySem.W.copyHeap s.heap its) (s.heap.objs.size + 1) its) (D.pyL ds)) (rev := false) (fun d : D => keyToks d.py) st ek
    obtain ⟨ep, he'⟩ := PyProof.Rows.sortedAll_at s.heap its (PySem.W.sortVals (rdKind (PySem.W.sortingHeap (PySem.W.copyHeap s.heap its) (s.heap.objs.size + 1) its) (D.pyL ds)) false its its).toArray
    obtain ⟨ys, y1, y2⟩ := of_stands out
    have hy : ys.length ≤ sizeLine := by rw [y1.length, PySem.W.sortVals_length _ rfl]; exact hlen
    exact ⟨.ref _, upd H (s.heap.objs.size + 1) (.lst ys), I.laid (t' := s.toks) (fun _ _ => PyProof.Rows.sortedAll_old) (Nat.le_succ _) ⟨hy, _, ep, y1, he'⟩, rfl, hq _ ys (I.hok.fresh (Nat.le_succ _)) y2⟩
  · cases he
end
end MP

set_option Elab.async false
set_option linter.all false
set_option maxRecDepth 100000
set_option maxHeartbeats 4000000
/-! MP: lists for the moment. -/
namespace MP
open PySem PySem.Spec L2
open PyProof.Rows hiding St

/-- a list that has come since H0 and that no object of the store is -/
def RQL (Z : Wd) (H0 : Hp) : Hp → List Addr → V → List D → Prop := fun H μ v ds => ∃ a xs, v = .ref a ∧ H a = some (.lst xs) ∧ a ∉ μ ∧ H0 a = none ∧ RepL Z H μ xs ds
def RQS (Z : Wd) : Hp → List Addr → V → List D → Prop := fun H μ v ds => ∃ a xs, v = .ref a ∧ SqL Z.K H a xs ∧ RepL Z H μ xs ds
def RQ (Z : Wd) : Hp → List Addr → V → List D → Prop := fun H μ v ds => ∃ a xs, v = .ref a ∧ (SqL Z.K H a xs ∨ SqT Z.K H a xs) ∧ RepL Z H μ xs ds
def Q.rel (Z : Wd) (H0 : Hp) : Q → (Hp → List Addr → V → List D → Prop)
  | .ofE _ => RQ Z
  | .ofL _ => RQS Z
  | _ => RQL Z H0
abbrev tQ (P : Program) (w : World) (Z : Wd) (W : XK) (C : Ctx) (q : Q) : TE := fun σ H Q => tG P w Z W (q.rel Z H) (evQ C q) σ H Q
abbrev SQ (X : Cx) (Z : Wd) (W : XK) (C : Ctx) (e : Expr) (q : Q) : Prop := PE X e (tQ X.prog X.w Z W C q)
section
variable {Z : Wd} {H0 H : Hp} {μ : List Addr} {v : V} {ds : List D}
theorem RQL.s (h : RQL Z H0 H μ v ds) : RQS Z H μ v ds := let ⟨a, xs, e, h1, _, _, r⟩ := h; ⟨a, xs, e, .inl (.inl h1), r⟩
theorem RQS.q (h : RQS Z H μ v ds) : RQ Z H μ v ds := let ⟨a, xs, e, h1, r⟩ := h; ⟨a, xs, e, .inl h1, r⟩
theorem rel_fresh {q : Q} (hq : q.fresh = true) : q.rel Z H0 = RQL Z H0 := by cases q <;> simp [Q.fresh] at hq <;> rfl
theorem rel_s {q : Q} (hq : q.isL = true) (h : q.rel Z H0 H μ v ds) : RQS Z H μ v ds := by
  cases q <;> first | (simp [Q.isL] at hq; done) | exact h | exact RQL.s h
theorem rel_q {q : Q} (h : q.rel Z H0 H μ v ds) : RQ Z H μ v ds := by
  cases q <;> first | exact h | exact RQS.q h | exact (RQL.s h).q
end
section
variable {P : Program} {w : World} {Z : Wd} {W : XK} {H H1 H0 : Hp} {μ μ1 : List Addr} {st : Sto}
theorem Ev.back (e : Ev H μ H1 μ1) (S : SRep P w Z H1 μ1 st) {p : Addr} (h : H1 p = none) : H p = none := by
  cases hp : H p with
  | none => rfl
  | some o =>
    by_cases hm : p ∈ μ
    · obtain ⟨⟨ν, rfl, _⟩, _⟩ := e
      obtain ⟨_, _, _, _, r⟩ := S.mem (List.mem_append_left ν hm)
      exact absurd h r.there.1
    · rw [e.keep p o hm hp] at h; cases h
/-- as tG_1; what isn't there wasn't there -/
theorem tG_1n {α β γ δ : Type} {RR : Hp → List Addr → β → α → Prop} {RS : Hp → List Addr → δ → γ → Prop} {A : MP.Env → Sto → R α} {G : α → Sto → R γ} {σ : St} {Q : δ → Hp → Prop} (h : tG P w Z W RS (fun ρ st => (A ρ st).bind G) σ H Q) :
    tG P w Z W RR A σ H fun x H1 => ∃ μ d st, SRep P w Z H1 μ st ∧ RR H1 μ x d ∧ (∀ p, H1 p = none → H p = none) ∧ Pst P w Z W H1 μ RS (G d st) fun _ _ v H' _ => Q v H' := by
  obtain ⟨μ, ρ, st, e, s, p⟩ := h
  exact ⟨μ, ρ, st, e, s, (Pst.bind p).mono fun d st v H' μ' q => ⟨μ', d, st, q.2.1, q.2.2.1, fun _ hp => q.1.back q.2.1 hp, q.2.2.2⟩⟩
theorem Pst.lstQ {ds : List D} {xs : List V} {p : Addr} {Q : List D → Sto → V → Hp → List Addr → Prop} (h : Pst P w Z W H μ (RQL Z H0) (.ok ds st) Q) (S : SRep P w Z H μ st) (hp : H p = none) (h0 : H0 p = none) (r : RepL Z H μ xs ds) : Q ds st (.ref p) (upd H p (.lst xs)) μ :=
  h _ _ _ (Ev.tmp hp) (S.tmp hp) ⟨p, xs, rfl, upd_same, S.fresh hp, h0, r.mono (Ev.tmp hp) S.nt⟩
/-- a call's reading that takes a list and gives a value -/
def rQ1 (P : Program) (w : World) (Z : Wd) (W : XK) (rel : Hp → List Addr → V → List D → Prop) (G : List D → Sto → R D) : List V → Hp → VK → Prop :=
  fun vs H Q => ∃ v μ ds st, vs = [v] ∧ SRep P w Z H μ st ∧ rel H μ v ds ∧ Pst P w Z W H μ (RV Z) (G ds st) fun _ _ v H' _ => Q v H'
/-- .. gives a list -/
def rQL (P : Program) (w : World) (Z : Wd) (W : XK) (rel : Hp → List Addr → V → List D → Prop) (G : List D → Sto → R (List D)) : List V → Hp → VK → Prop :=
  fun vs H Q => ∃ v μ ds st H0, vs = [v] ∧ SRep P w Z H μ st ∧ rel H μ v ds ∧ (∀ p, H p = none → H0 p = none) ∧ Pst P w Z W H μ (RQL Z H0) (G ds st) fun _ _ v H' _ => Q v H'
end
section
variable {X : Cx} {Z : Wd} {W : XK} {C : Ctx} {a b : Expr} {pos : Pos} {q q2 : Q}
theorem q_ofE {A : E} (ha : SE X Z W C a A) : SQ X Z W C a (.ofE A) := ha.imp fun σ H Q h => by
  have h : tG X.prog X.w Z W (RQ Z) (fun ρ st => (evE C A ρ st).bind fun x st => R.opt (seqOf x st) st) σ H Q := by
    obtain ⟨μ, ρ, st, e, s, p⟩ := h
    exact ⟨μ, ρ, st, e, s, by simp only [evQ] at p; exact p⟩
  have q := tG_1 (RR := RV Z) h
  obtain ⟨μ, ρ, st, e, s, p⟩ := q
  refine ⟨μ, ρ, st, e, s, p.mono fun d st1 v H1 μ1 ⟨μ2, d2, st2, s2, r2, p2⟩ => ?_⟩
  cases hs : seqOf d2 st2 with
  | none => rw [hs] at p2; exact False.elim p2
  | some ds => rw [hs] at p2; exact p2 _ _ _ Ev.refl s2 (s2.seqOf r2 hs)
theorem q_ofL {A : E} (ha : SE X Z W C a A) : SQ X Z W C a (.ofL A) := ha.imp fun σ H Q h => by
  have h : tG X.prog X.w Z W (RQS Z) (fun ρ st => (evE C A ρ st).bind fun x st => R.opt (listOf x st) st) σ H Q := by
    obtain ⟨μ, ρ, st, e, s, p⟩ := h
    exact ⟨μ, ρ, st, e, s, by simp only [evQ] at p; exact p⟩
  have q := tG_1 (RR := RV Z) h
  obtain ⟨μ, ρ, st, e, s, p⟩ := q
  refine ⟨μ, ρ, st, e, s, p.mono fun d st1 v H1 μ1 ⟨μ2, d2, st2, s2, r2, p2⟩ => ?_⟩
  cases hs : listOf d2 st2 with
  | none => rw [hs] at p2; exact False.elim p2
  | some ds => rw [hs] at p2; exact p2 _ _ _ Ev.refl s2 (s2.listOf r2 hs)
theorem q_disp {es : List Expr} {L : Es} (h : SA X Z W C es L) : SQ X Z W C (.List es pos) (.disp L) := (pe_lst h).imp fun σ H Q h => by
  have h : tG X.prog X.w Z W (RQL Z H) (fun ρ st => (evEs C L ρ st).bind fun ds st => if ds.length ≤ LINE then .ok ds st else .bad) σ H Q := by
    obtain ⟨μ, ρ, st, e, s, p⟩ := h
    exact ⟨μ, ρ, st, e, s, by simp only [evQ] at p; exact p⟩
  have q := tG_1n (RR := RL Z) h
  obtain ⟨μ, ρ, st, e, s, p⟩ := q
  refine ⟨μ, ρ, st, e, s, p.mono fun d st1 v H1 μ1 ⟨μ2, d2, st2, s2, r2, hn, p2⟩ => ?_⟩
  split at p2
  · rename_i hl
    exact ⟨by rw [r2.length, ← LINE_eq]; exact hl, fun p hp => Pst.lstQ p2 s2 hp (hn p hp) r2⟩
  · exact False.elim p2
theorem q_rev {p1 p2 p3 : Pos} {k : Nat} (hZ : Z.K = X.K) (h : SQ X Z W C a q) (hq : q.isL = true) : SQ X Z W C (.Subscript a (.Slice none none (some (.UnaryOp .USub (.Constant (.int 1) k p1) p2)) p3) pos) (.rev q) := (pe_revL h).imp fun σ H Q h => by
  have h : tG X.prog X.w Z W (RQL Z H) (fun ρ st => (evQ C q ρ st).bind fun ds st => .ok ds.reverse st) σ H Q := by
    obtain ⟨μ, ρ, st, e, s, p⟩ := h
    exact ⟨μ, ρ, st, e, s, by simp only [evQ] at p; exact p⟩
  have z := tG_1n (RR := q.rel Z H) h
  obtain ⟨μ, ρ, st, e, s, p⟩ := z
  refine ⟨μ, ρ, st, e, s, p.mono fun d st1 v H1 μ1 ⟨μ2, d2, st2, s2, r2, hn, p2⟩ => ?_⟩
  obtain ⟨b, xs, rfl, hs, rl⟩ := rel_s hq r2
  exact ⟨b, xs, rfl, hZ ▸ hs, fun p hp => Pst.lstQ p2 s2 hp (hn p hp) rl.reverse⟩
/-- a call of one list -/
theorem s_bQ {e : Expr} {f : Fd} (rel : Hp → List Addr → V → List D → Prop) (hr : ∀ H0 H μ v ds, q.rel Z H0 H μ v ds → rel H μ v ds) (he : ∀ t, PA X [a] t → PE X e (tCB (rQ1 X.prog X.w Z W rel (foldD f)) t)) (ha : SQ X Z W C a q) (hs : starEach [a] X.env = (false, eval a X.env) :: starEach [] X.env) : SE X Z W C e (.fold f q) := by
  refine (he _ (pa_cons ha pa_nil hs)).imp fun σ H Q h => ?_
  have z := tG_1 (RR := q.rel Z H) (G := fun x st => foldD f x st) h
  obtain ⟨μ, ρ, st, e, s, p⟩ := z
  exact ⟨μ, ρ, st, e, s, p.mono fun d st1 v H1 μ1 ⟨μ2, d2, st2, s2, r2, p2⟩ => ⟨v, μ2, d2, st2, rfl, s2, hr _ _ _ _ _ r2, p2⟩⟩
theorem q_bL {e : Expr} {q' : Q} {G : List D → Sto → R (List D)} (hf : q'.fresh = true) (hG : ∀ ρ st, evQ C q' ρ st = (evQ C q ρ st).bind G) (rel : Hp → List Addr → V → List D → Prop) (hr : ∀ H0 H μ v ds, q.rel Z H0 H μ v ds → rel H μ v ds) (he : ∀ t, PA X [a] t → PE X e (tCB (rQL X.prog X.w Z W rel G) t)) (ha : SQ X Z W C a q) (hs : starEach [a] X.env = (false, eval a X.env) :: starEach [] X.env) : SQ X Z W C e q' := by
  refine (he _ (pa_cons ha pa_nil hs)).imp fun σ H Q h => ?_
  have h : tG X.prog X.w Z W (RQL Z H) (fun ρ st => (evQ C q ρ st).bind G) σ H Q := by
    obtain ⟨μ, ρ, st, e, s, p⟩ := h
    rw [rel_fresh hf] at p
    exact ⟨μ, ρ, st, e, s, by simp only [hG] at p; exact p⟩
  have z := tG_1n (RR := q.rel Z H) h
  obtain ⟨μ, ρ, st, e, s, p⟩ := z
  exact ⟨μ, ρ, st, e, s, p.mono fun d st1 v H1 μ1 ⟨μ2, d2, st2, s2, r2, hn, p2⟩ => ⟨v, μ2, d2, st2, H, rfl, s2, hr _ _ _ _ _ r2, hn, p2⟩⟩
theorem cq_sorted (hZ : Z.K = X.K) (hu : X.A.units + 100 < cLine) : CallR X (.builtin "sorted") (rQL X.prog X.w Z W (RQS Z) fun ds st => R.opt (sortD ds) st) := by
  intro pins s σ H vs us Q I r ⟨v, μ, ds, st, H0, e, S, rq, hn, h⟩
  subst e
  obtain ⟨a, xs, rfl, hs, rl⟩ := rq
  obtain ⟨u, rfl, rx⟩ := vals1 r
  cases rx
  have h : Pst X.prog X.w Z W H μ (RQL Z H0) (R.opt (sortD ds) st) fun _ _ v H' _ => Q v H' := h
  cases hq : sortD ds with
  | none => rw [hq] at h; exact False.elim h
  | some es =>
    rw [hq] at h
    exact q_sorted hZ hu I hs rl hq fun p ys hp ry => Pst.lstQ h S hp (hn p hp) ry
theorem cq_list (hZ : Z.K = X.K) : CallR X (.type "list") (rQL X.prog X.w Z W (RQ Z) fun ds st => .ok ds st) := by
  intro pins s σ H vs us Q I r ⟨v, μ, ds, st, H0, e, S, rq, hn, h⟩
  subst e
  obtain ⟨a, xs, rfl, hs, rl⟩ := rq
  exact call_list_of pins s σ H _ us Q I r ⟨a, xs, rfl, hZ ▸ hs, fun p hp => Pst.lstQ h S hp (hn p hp) rl⟩
theorem cq_tuple (hZ : Z.K = X.K) : CallR X (.type "tuple") (rQ1 X.prog X.w Z W (RQ Z) (foldD .tuple)) := by
  intro pins s σ H vs us Q I r ⟨v, μ, ds, st, e, S, rq, h⟩
  subst e
  obtain ⟨a, xs, rfl, hs, rl⟩ := rq
  refine call_tuple_of pins s σ H _ us Q I r ⟨a, xs, rfl, ?_⟩
  rcases hs with hs | hs
  · exact .inl ⟨hZ ▸ hs, fun p hp => Pst.tup h S hp rl⟩
  · exact .inr ⟨hZ ▸ hs, Pst.fin h S (.tup hs rl)⟩
theorem boolsOf_rep {H : Hp} {μ : List Addr} : ∀ {ds : List D} {xs : List V} {bs : List Bool}, RepL Z H μ xs ds → boolsOf ds = some bs → xs = bs.map V.bl
  | [], _, _, .nil, h => by cases h; rfl
  | .bl b :: r, _, bs, .cons r1 t, h => by
    simp only [boolsOf, Option.map_eq_some_iff] at h
    obtain ⟨cs, h1, rfl⟩ := h
    cases r1
    rw [boolsOf_rep t h1]; rfl
theorem intsOf_rep {H : Hp} {μ : List Addr} : ∀ {ds : List D} {xs : List V} {bs : List Int}, RepL Z H μ xs ds → intsOf ds = some bs → xs = bs.map V.int
  | [], _, _, .nil, h => by cases h; rfl
  | .int b :: r, _, bs, .cons r1 t, h => by
    simp only [intsOf, Option.map_eq_some_iff] at h
    obtain ⟨cs, h1, rfl⟩ := h
    cases r1
    rw [intsOf_rep t h1]; rfl
theorem cq_all (hZ : Z.K = X.K) (hc : X.calm = true) : CallR X (.builtin "all") (rQ1 X.prog X.w Z W (RQS Z) (foldD .all)) := by
  intro pins s σ H vs us Q I r ⟨v, μ, ds, st, e, S, rq, h⟩
  subst e
  obtain ⟨a, xs, rfl, hs, rl⟩ := rq
  simp only [foldD] at h
  cases hb : boolsOf ds with
  | none => rw [hb] at h; exact False.elim h
  | some bs =>
    rw [hb] at h
    cases boolsOf_rep rl hb
    exact cr_all hc pins s σ H _ us Q I r ⟨a, bs, rfl, hZ ▸ hs, Pst.fin h S (.bl _)⟩
theorem cq_any (hZ : Z.K = X.K) (hc : X.calm = true) : CallR X (.builtin "any") (rQ1 X.prog X.w Z W (RQS Z) (foldD .any)) := by
  intro pins s σ H vs us Q I r ⟨v, μ, ds, st, e, S, rq, h⟩
  subst e
  obtain ⟨a, xs, rfl, hs, rl⟩ := rq
  simp only [foldD] at h
  cases hb : boolsOf ds with
  | none => rw [hb] at h; exact False.elim h
  | some bs =>
    rw [hb] at h
    cases boolsOf_rep rl hb
    exact cr_any hc pins s σ H _ us Q I r ⟨a, bs, rfl, hZ ▸ hs, Pst.fin h S (.bl _)⟩
theorem cq_sum (hZ : Z.K = X.K) (hc : X.calm = true) : CallR X (.builtin "sum") (rQ1 X.prog X.w Z W (RQS Z) (foldD .sum)) := by
  intro pins s σ H vs us Q I r ⟨v, μ, ds, st, e, S, rq, h⟩
  subst e
  obtain ⟨a, xs, rfl, hs, rl⟩ := rq
  simp only [foldD] at h
  cases hb : intsOf ds with
  | none => rw [hb] at h; exact False.elim h
  | some bs =>
    rw [hb] at h
    cases intsOf_rep rl hb
    exact cr_sum hc pins s σ H _ us Q I r ⟨a, bs, rfl, hZ ▸ hs, Pst.fin h S (.int _)⟩
theorem cq_len (hZ : Z.K = X.K) : CallR X (.builtin "len") (rQ1 X.prog X.w Z W (RQ Z) (foldD .len)) := by
  intro pins s σ H vs us Q I r ⟨v, μ, ds, st, e, S, rq, h⟩
  subst e
  obtain ⟨a, xs, rfl, hs, rl⟩ := rq
  refine call_len_seq pins s σ H _ us Q I r ⟨a, xs, rfl, hZ ▸ hs, ?_⟩
  rw [rl.length]
  exact Pst.fin h S (.int _)
theorem cq_dict (hZ : Z.K = X.K) (hc : X.calm = true) (hu : X.A.units + 100 < cLine) : CallR X (.type "dict") (rQ1 X.prog X.w Z W (RQS Z) (foldD .dict)) := by
  intro pins s σ H vs us Q I r ⟨v, μ, ds, st, e, S, rq, h⟩
  subst e
  obtain ⟨a, xs, rfl, hs, rl⟩ := rq
  obtain ⟨u, rfl, rx⟩ := vals1 r
  cases rx
  exact q_dict hZ hc hu I S hs rl h
/-- a list for the moment becomes the store's -/
theorem Ev.adopt {P : Program} {w : World} {H0 H : Hp} {μ0 μ : List Addr} {st0 : Sto} {p : Addr} (e : Ev H0 μ0 H μ) (S0 : SRep P w Z H0 μ0 st0) (h0 : H0 p = none) : Ev H0 μ0 H (μ ++ [p]) := by
  obtain ⟨⟨ν, rfl, hν⟩, k, z⟩ := e
  refine ⟨⟨ν ++ [p], by simp, fun a ha => ?_⟩, k, z⟩
  rcases List.mem_append.mp ha with ha | ha
  · exact hν a ha
  · rw [List.mem_singleton] at ha; subst ha; exact ⟨S0.fresh h0, h0⟩
/-- what a representation needs of the heap -/
structure Gen (Z : Wd) (H : Hp) (μ : List Addr) (H' : Hp) (μ' : List Addr) : Prop where
  sqT : ∀ a xs, SqT Z.K H a xs → SqT Z.K H' a xs
  sqC : ∀ a xs, SqC Z.K H a xs → SqC Z.K H' a xs
  at_ : ∀ (n : Nat) a, μ[n]? = some a → μ'[n]? = some a
mutual
theorem Rep.gen {H H' : Hp} {μ μ' : List Addr} (g : Gen Z H μ H' μ') : ∀ {v : V} {d : D}, Rep Z H μ v d → Rep Z H' μ' v d
  | _, _, .non => .non
  | _, _, .bl b => .bl b
  | _, _, .int b => .int b
  | _, _, .str b => .str b
  | _, _, .tup h r => .tup (g.sqT _ _ h) (RepL.gen g r)
  | _, _, .cl h r => .cl (g.sqC _ _ h) (RepL.gen g r)
  | _, _, .ref h => .ref (g.at_ _ _ h)
  | _, _, .fn h => .fn h
  | _, _, .kls h => .kls h
theorem RepL.gen {H H' : Hp} {μ μ' : List Addr} (g : Gen Z H μ H' μ') : ∀ {v : List V} {d : List D}, RepL Z H μ v d → RepL Z H' μ' v d
  | _, _, .nil => .nil
  | _, _, .cons h r => .cons (Rep.gen g h) (RepL.gen g r)
end
section
variable {H H' : Hp} {μ μ' : List Addr} {P : Program} {w : World} {st : Sto}
theorem RepKF.gen (g : Gen Z H μ H' μ') : ∀ {v : List (Key × V)} {d : List (D × D)}, RepKF Z H μ v d → RepKF Z H' μ' v d
  | _, _, .nil => .nil
  | _, _, .cons k h r => .cons k (h.gen g) (RepKF.gen g r)
theorem RepKN.gen (g : Gen Z H μ H' μ') : ∀ {v : List (NestedKey × Addr × V)} {d : List (D × D)}, RepKN Z H μ v d → RepKN Z H' μ' v d
  | _, _, .nil => .nil
  | _, _, .cons k e h r => .cons k (e.gen g) (h.gen g) (RepKN.gen g r)
theorem RepDct.gen (g : Gen Z H μ H' μ') {a : Addr} {kvs : List (D × D)} {u : HO} (q : RepDct P w Z H μ a kvs u) : RepDct P w Z H' μ' a kvs u := by
  rcases q with ⟨es, rfl, r⟩ | ⟨es, rfl, ne, r⟩
  · exact .inl ⟨es, rfl, r.gen g⟩
  · exact .inr ⟨es, rfl, ne, r.gen g⟩
theorem RepO.gen (g : Gen Z H μ H' μ') {a : Addr} {o : Ob} (ha : H' a = H a) (h : RepO P w Z H μ a o) : RepO P w Z H' μ' a o := by
  cases o with
  | lst ds => obtain ⟨xs, q, r⟩ := h; exact ⟨xs, by rw [ha]; exact q, r.gen g⟩
  | dct kvs => obtain ⟨u, q, r⟩ := h; exact ⟨u, by rw [ha]; exact q, r.gen g⟩
  | fdct kvs => obtain ⟨o, u, q, r⟩ := h; exact ⟨o, u, by rw [ha]; exact q, r.gen g⟩
  | ins c fs => exact h
theorem Gen.grow (hp : List Addr) : Gen Z H μ H (μ ++ hp) := ⟨fun _ _ h => h, fun _ _ h => h, fun n a h => by
  rw [List.getElem?_append_left (List.getElem?_eq_some_iff.mp h).1]; exact h⟩
theorem SRep.adopt (S : SRep P w Z H μ st) {p : Addr} (hp : p ∉ μ) {ob : Ob} (ho : RepO P w Z H (μ ++ [p]) p ob) : SRep P w Z H (μ ++ [p]) (st ++ [ob]) := by
  refine ⟨by simp [S.len], ?_, fun n u a h1 h2 => ?_⟩
  · rw [List.nodup_append]
    exact ⟨S.nd, by simp, fun a ha b hb => by rw [List.mem_singleton] at hb; subst hb; exact fun e => hp (e ▸ ha)⟩
  · by_cases hlt : n < st.length
    · rw [List.getElem?_append_left hlt] at h1
      rw [List.getElem?_append_left (by rw [S.len]; exact hlt)] at h2
      exact (S.ob n u a h1 h2).gen (Gen.grow _) rfl
    · have hb := (List.getElem?_eq_some_iff.mp h1).1
      simp only [List.length_append, List.length_singleton] at hb
      have e : n = st.length := by omega
      subst e
      rw [List.getElem?_append_right (Nat.le_refl _)] at h1
      rw [List.getElem?_append_right (by rw [S.len]; exact Nat.le_refl _)] at h2
      simp [S.len] at h1 h2
      subst h1; subst h2
      exact ho
end
theorem ofQ_imp (hq : q.fresh = true) {σ : St} {H : Hp} {Q : VK} (h : tE X.prog X.w Z W (evE C (.ofQ q)) σ H Q) : tQ X.prog X.w Z W C q σ H Q := by
  obtain ⟨μ, ρ, st, e, s, p⟩ := h
  simp only [evE] at p
  rw [tQ, rel_fresh hq]
  refine ⟨μ, ρ, st, e, s, ?_⟩
  unfold Pst at p ⊢
  cases hv : evQ C q ρ st with
  | bad => rw [hv] at p; exact p
  | exc c fs s' => rw [hv] at p; exact p
  | ok ds st' =>
    rw [hv] at p
    intro v H1 μ1 ev s1 ⟨b, xs, e1, h1, hm, h0, rl⟩
    subst e1
    refine p (.ref b) H1 (μ1 ++ [b]) (ev.adopt s h0) (s1.adopt hm ⟨xs, h1, rl.gen (Gen.grow _)⟩) (.ref ?_)
    rw [← s1.len]
    simp
theorem s_ofQ (h : SQ X Z W C a q) (hq : q.fresh = true) : SE X Z W C a (.ofQ q) := h.imp fun σ H Q h => ofQ_imp hq h
/-- two lists compared -/
def rEqQ (K : PySem.W.Frag) (ne : Bool) : R2 := fun x y H Q => ∃ d e, Dp K H x d ∧ Dp K H y e ∧ SeqAt.shaped d = true ∧ SeqAt.shaped e = true ∧ Q (.bl (ne ^^ PyData.eqv d e)) H
theorem eqQ_imp {ne : Bool} (hZ : Z.K = X.K) (hf : q.fresh = true) (hf2 : q2.fresh = true) {σ : St} {H : Hp} {Q : VK} (h : tE X.prog X.w Z W (evE C (.eqQ ne q q2)) σ H Q) : tOp (rEqQ X.K ne) (tQ X.prog X.w Z W C q) (tQ X.prog X.w Z W C q2) σ H Q := by
  have sta : Sta (RQL Z H) := fun H1 H2 μ1 μ2 v d ev nt r => by
    obtain ⟨c, xs, e1, h1, hm, h0, rl⟩ := r
    refine ⟨c, xs, e1, ev.keep c _ hm h1, fun hc => ?_, h0, rl.mono ev nt⟩
    obtain ⟨⟨ν, rfl, hν⟩, _⟩ := ev
    rcases List.mem_append.mp hc with hc | hc
    · exact hm hc
    · rw [(hν c hc).2] at h1; cases h1
  have h : tG X.prog X.w Z W (RV Z) (fun ρ st => (evQ C q ρ st).bind fun xs st => (evQ C q2 ρ st).bind fun ys st => if D.okL xs && D.okL ys then .ok (.bl (ne ^^ PyData.eqv (.list (D.pyL xs)) (.list (D.pyL ys)))) st else .bad) σ H Q := by
    obtain ⟨μ, ρ, st, e, s, p⟩ := h
    exact ⟨μ, ρ, st, e, s, by simp only [evE] at p; exact p⟩
  obtain ⟨μ, ρ, st, e, s, p⟩ := h
  show tOp _ _ _ σ H Q
  refine ⟨μ, ρ, st, e, s, ?_⟩
  rw [rel_fresh hf]
  refine (Pst.bind p).mono fun d1 st1 v1 H1 μ1 ⟨v1', s1, r1, p1⟩ => ?_
  refine ⟨μ1, ρ, st1, e.mono v1' s.nt, s1, ?_⟩
  rw [rel_fresh hf2]
  refine (Pst.bind (RR := RQL Z H1) p1).mono fun d2 st2 v2 H2 μ2 ⟨v2', s2, r2, p2⟩ => ?_
  have r1' := sta _ _ _ _ _ _ v2' s1.nt r1
  split at p2
  · rename_i hk
    simp only [Bool.and_eq_true] at hk
    obtain ⟨x1, xs1, rfl, h1, _, _, rl1⟩ := r1'
    obtain ⟨x2, xs2, rfl, h2, _, _, rl2⟩ := r2
    exact ⟨_, _, .lst (.inl (.inl h1)) (hZ ▸ rl1.dp (okL_flat hk.1).1), .lst (.inl (.inl h2)) (hZ ▸ rl2.dp (okL_flat hk.2).1), okL_shapedL hk.1, okL_shapedL hk.2, Pst.fin p2 s2 (.bl _)⟩
  · exact False.elim p2
theorem s_eqQ {ne : Bool} {op : CmpOp} (hZ : Z.K = X.K) (hop : OpR X (compareOp op) (rEqQ X.K ne)) (ha : SQ X Z W C a q) (hb : SQ X Z W C b q2) (hf : q.fresh = true) (hf2 : q2.fresh = true) (hm : behindInMarks op b = false) :
    SE X Z W C (.Compare a [op] [b] pos) (.eqQ ne q q2) := (pe_cmpR hop ha hb hm).imp fun σ H Q h => eqQ_imp hZ hf hf2 h
theorem eqQ_bl {ne : Bool} {ρ : MP.Env} {st st' : Sto} {d : D} (h : evE C (.eqQ ne q q2) ρ st = .ok d st') : ∃ k, d = .bl k := by
  simp only [evE] at h
  cases hA : evQ C q ρ st with
  | bad => rw [hA] at h; cases h
  | exc c fs s => rw [hA] at h; cases h
  | ok x s1 =>
    rw [hA] at h
    simp only [R.bind_ok] at h
    cases hB : evQ C q2 ρ s1 with
    | bad => rw [hB] at h; cases h
    | exc c fs s => rw [hB] at h; cases h
    | ok y s2 =>
      rw [hB] at h
      simp only [R.bind_ok] at h
      split at h
      · cases h; exact ⟨_, rfl⟩
      · cases h
theorem c_eqQ {ne : Bool} {op : CmpOp} (hZ : Z.K = X.K) (hop : OpR X (compareOp op) (rEqQ X.K ne)) (ha : SQ X Z W C a q) (hb : SQ X Z W C b q2) (hf : q.fresh = true) (hf2 : q2.fresh = true) (hm : behindInMarks op b = false) :
    ST X Z W C (.Compare a [op] [b] pos) (.ofE (.eqQ ne q q2)) := (pt_cmpR hop ha hb hm).imp fun σ H Q h => eqQ_imp hZ hf hf2 (bl_truth h fun _ _ _ _ z => eqQ_bl z)
end
end MP

set_option Elab.async false
set_option linter.all false
set_option maxRecDepth 100000
set_option maxHeartbeats 4000000
/-! MP: parts of lists, methods, isinstance, dicts displayed and copied. -/
namespace MP
open PySem PySem.Spec L2
open PyProof.Rows hiding St

section
variable {X : Cx} {Z : Wd} {W : XK} {C : Ctx} {a b c : Expr} {pos : Pos}
/-! ### parts -/
def rS (P : Program) (w : World) (Z : Wd) (W : XK) : V → Option Int → Option Int → Hp → VK → Prop := fun x lo hi H Q => ∃ μ d st, SRep P w Z H μ st ∧ Rep Z H μ x d ∧ Pst P w Z W H μ (RV Z) (sliceD d lo hi st) fun _ _ v H' _ => Q v H'
theorem RepL.cut {H : Hp} {μ : List Addr} {xs : List V} {ds : List D} (r : RepL Z H μ xs ds) (lo hi : Option Int) : RepL Z H μ (cutV xs lo hi) (cutL ds lo hi) := by
  unfold cutV cutL
  rw [r.length]
  exact (r.drop _).take _
theorem cut_whole {α : Type} {xs : List α} {lo hi : Option Int} (h : HT.sIx xs.length 0 lo = 0 ∧ HT.sIx xs.length xs.length hi = xs.length) : cutL xs lo hi = xs := by
  unfold cutL
  rw [h.1, h.2]
  simp
theorem sl_ok (hZ : Z.K = X.K) : SlR X (rS X.prog X.w Z W) := by
  intro pins s σ H x v vl vu lo hi sl Q I rx hs pl pu ⟨μ, d, st, S, q1, h⟩
  cases d with
  | tup ds =>
    cases q1 with
    | @tup a xs _ hq rl =>
      have h : Pst X.prog X.w Z W H μ (RV Z) (.ok (.tup (cutL ds lo hi)) st) _ := h
      refine sl_tupA pins s σ H _ v vl vu lo hi sl Q I rx hs pl pu ⟨a, xs, rfl, hZ ▸ hq, fun hw => ?_, fun _ p hp => Pst.tup h S hp (rl.cut lo hi)⟩
      have e : cutL ds lo hi = ds := cut_whole (by rw [← rl.length]; exact hw)
      rw [e] at h
      exact Pst.fin h S (.tup hq rl)
  | str z =>
    cases q1
    simp only [sliceD] at h
    split at h
    · rename_i hl
      exact sl_str pins s σ H _ v vl vu lo hi sl Q I rx hs pl pu ⟨z, rfl, by rw [← LINE_eq]; exact hl, Pst.fin h S (.str _)⟩
    · exact False.elim h
  | cl ds =>
    cases q1 with
    | @cl a xs _ hq rl =>
      have h : Pst X.prog X.w Z W H μ (RV Z) (alloc (.lst (cutL ds lo hi)) st) _ := h
      exact sl_list pins s σ H _ v vl vu lo hi sl Q I rx hs pl pu ⟨a, xs, rfl, hZ ▸ hq.sqL, fun p hp => Pst.lst h S hp (rl.cut lo hi)⟩
  | ref n =>
    have h : Pst X.prog X.w Z W H μ (RV Z) (match listOf (.ref n) st with
      | some ds => alloc (.lst (cutL ds lo hi)) st
      | none => .bad) _ := h
    split at h
    · rename_i ds e
      obtain ⟨a, xs, rfl, hq, rl⟩ := S.listOf q1 e
      exact sl_list pins s σ H _ v vl vu lo hi sl Q I rx hs pl pu ⟨a, xs, rfl, hZ ▸ hq, fun p hp => Pst.lst h S hp (rl.cut lo hi)⟩
    · exact False.elim h
  | _ => exact False.elim h
theorem s_slAll {A : E} {p2 : Pos} (hZ : Z.K = X.K) (ha : SE X Z W C a A) : SE X Z W C (.Subscript a (.Slice none none none p2) pos) (.op1 .slAll A) :=
  (pe_slice (sl_ok (W := W) hZ) ha po_none po_none).imp fun σ H Q h => tG_1 (G := fun x st => sliceD x none none st) h
theorem s_slFrom {A B : E} {p2 : Pos} (hZ : Z.K = X.K) (ha : SE X Z W C a A) (hb : SE X Z W C b B) : SE X Z W C (.Subscript a (.Slice (some b) none none p2) pos) (.op2 .slFrom A B) :=
  (pe_slice (sl_ok (W := W) hZ) ha (po_some hb) po_none).imp fun σ H Q h => by
    have z := tG_2 (sta_V (Z := Z)) (RU := RV Z) (A := evE C A) (B := evE C B) (G := fun x y st => MP.p2 .slFrom x y st) h
    obtain ⟨μ, ρ, st, e, s, p⟩ := z
    refine ⟨μ, ρ, st, e, s, p.mono fun d st1 v H1 μ1 ⟨μ2, ρ2, st2, e2, s2, p2⟩ => ⟨μ2, ρ2, st2, e2, s2, p2.mono fun d3 st3 v3 H3 μ3 ⟨μ4, d4, d5, st4, s4, r4, r5, p4⟩ => ?_⟩⟩
    cases d5 with
    | int i => cases r5; exact ⟨i, rfl, μ4, d4, st4, s4, r4, p4⟩
    | _ => exact False.elim p4
theorem s_slTo {A B : E} {p2 : Pos} (hZ : Z.K = X.K) (ha : SE X Z W C a A) (hb : SE X Z W C b B) : SE X Z W C (.Subscript a (.Slice none (some b) none p2) pos) (.op2 .slTo A B) :=
  (pe_slice (sl_ok (W := W) hZ) ha po_none (po_some hb)).imp fun σ H Q h => by
    have z := tG_2 (sta_V (Z := Z)) (RU := RV Z) (A := evE C A) (B := evE C B) (G := fun x y st => MP.p2 .slTo x y st) h
    obtain ⟨μ, ρ, st, e, s, p⟩ := z
    refine ⟨μ, ρ, st, e, s, p.mono fun d st1 v H1 μ1 ⟨μ2, ρ2, st2, e2, s2, p2⟩ => ⟨μ2, ρ2, st2, e2, s2, p2.mono fun d3 st3 v3 H3 μ3 ⟨μ4, d4, d5, st4, s4, r4, r5, p4⟩ => ?_⟩⟩
    cases d5 with
    | int i => cases r5; exact ⟨i, rfl, μ4, d4, st4, s4, r4, p4⟩
    | _ => exact False.elim p4
theorem s_slice {A B D' : E} {p2 : Pos} (hZ : Z.K = X.K) (ha : SE X Z W C a A) (hb : SE X Z W C b B) (hc : SE X Z W C c D') : SE X Z W C (.Subscript a (.Slice (some b) (some c) none p2) pos) (.op3 .slice A B D') :=
  (pe_slice (sl_ok (W := W) hZ) ha (po_some hb) (po_some hc)).imp fun σ H Q h => by
    obtain ⟨μ, ρ, st, e, s, p⟩ := h
    simp only [evE, ok3a, if_true] at p
    refine ⟨μ, ρ, st, e, s, (Pst.bind p).mono fun d1 st1 v1 H1 μ1 ⟨v1', s1, r1, p1⟩ => ?_⟩
    have e1 := e.mono v1' s.nt
    refine ⟨μ1, ρ, st1, e1, s1, (Pst.bind p1).mono fun d2 st2 v2 H2 μ2 ⟨v2', s2, r2, p2⟩ => ?_⟩
    cases d2 with
    | int i =>
      cases r2
      simp only [ok3b, if_true] at p2
      refine ⟨i, rfl, μ2, ρ, st2, e1.mono v2' s1.nt, s2, (Pst.bind p2).mono fun d3 st3 v3 H3 μ3 ⟨v3', s3, r3, p3⟩ => ?_⟩
      cases d3 with
      | int j => cases r3; exact ⟨j, rfl, μ3, d1, st3, s3, (r1.mono v2' s1.nt).mono v3' s2.nt, p3⟩
      | _ => exact False.elim p3
    | _ => exact False.elim p2
/-! ### methods -/
structure TyOk (X : Cx) (T : String) (ty : V → Hp → Prop) : Prop where
  is : ∀ {pins : List (Addr × Obj)} {σ : St} {H : Hp} {s : Shared} {x : V} {v : Value}, Inv X pins σ H s → RelV x v → ty x H → s.TypeIs v T ∧ ∀ a, v = .ref a → ∃ ob, s.heap.get? a = some ob ∧ ob.dict = none
def tM1 (ty : V → Hp → Prop) (r : V → List V → Hp → VK → Prop) (to : TE) (t : TA) : TE := fun σ H Q => to σ H fun x H1 => ty x H1 ∧ t σ H1 fun xs H2 => r x xs H2 Q
theorem pe_m1 {o e : Expr} {to : TE} {t : TA} {name : Str} {apos cpos : Pos} {T id : String} {r : V → List V → Hp → VK → Prop} {ty : V → Hp → Prop} (ok : TyOk X T ty) (pa : PlainAttrs T) (slot : Slot T name id) (hty : typeOf (.builtin id) = pure (.type "method_descriptor")) (hm : MtR X id r) (ho : PE X o to) (ha : PA X [e] t)
    (hbase : attributeBase o name X.env (eval o X.env) = eval o X.env)
    (hfew : ((backTo cpos (starEach [e] X.env)).all (fun x => !x.1) && (backToKw cpos (keywordEach [] X.env)).all (fun x => x.1.isSome)
      && decide (([e] : List Expr).length + ([] : List Keyword).length + (if ([] : List Keyword).isEmpty then 0 else 1) < 30)) = true)
    (hline : (apos.endLine == cpos.line) = true) (hs : starEach [e] X.env = (false, eval e X.env) :: starEach [] X.env) : PE X (.Call (.Attribute o name apos) [e] [] cpos) (tM1 ty r to t) := by
  refine ⟨fun pins s σ H Q I h => wpAny_Call_method_late hbase hfew hline rfl (thn (ho.run pins s σ H _ I h) fun v s1 ⟨x, H1, I1, rx, ty1, q1⟩ => ?_)⟩
  obtain ⟨g1, g2⟩ := ok.is I1 rx ty1
  have run := ha.run cpos pins s1 σ H1 _ I1 q1
  rw [hs] at run
  refine ⟨T, id, pa, slot, hty, g1, g2, ?_⟩
  rw [hs]
  exact Calls.callWith_builtin rfl (Calls.evalArgs_plain (thn run fun us s2 ⟨vs, H2, I2, rs, q2⟩ => hm pins s2 σ H2 x vs v us Q I2 rx rs q2))
def tyL : V → Hp → Prop := fun x H => ∃ a xs, x = .ref a ∧ H a = some (.lst xs)
def tyD (P : Program) (w : World) (Z : Wd) : V → Hp → Prop := fun x H => ∃ μ a kvs u, x = .ref a ∧ Rd H a u ∧ RepDct P w Z H μ a kvs u
theorem tyL_ok : TyOk X "list" tyL := ⟨fun I rx h => by
  obtain ⟨a, xs, rfl, h⟩ := h
  exact tyV_is I rx (.inl ⟨rfl, xs, .inl (.inl h)⟩)⟩
theorem tyD_ok (hZ : Z.K = X.K) : TyOk X "dict" (tyD X.prog X.w Z) := ⟨fun I rx h => by
  obtain ⟨μ, a, kvs, u, rfl, hr, hd⟩ := h
  cases rx
  obtain ⟨o, ho, hx, _⟩ := dictTy hZ I hr hd
  exact ⟨⟨o, ho, hx.1⟩, fun b e => by cases e; exact ⟨o, ho, hx.2.1⟩⟩⟩
theorem s_mt2 {e : Expr} {o : Op2} {A B : E} {ty : V → Hp → Prop} (he : ∀ t, PA X [b] t → PE X e (tM1 ty (rm X.prog X.w Z W o) (tE X.prog X.w Z W (evE C A)) t)) (ht : ∀ {H μ st x d}, SRep X.prog X.w Z H μ st → Rep Z H μ x d → mtOk o d st = true → ty x H) (hb : SE X Z W C b B)
    (hs : starEach [b] X.env = (false, eval b X.env) :: starEach [] X.env) : SE X Z W C e (.mt2 o A B) := by
  refine (he _ (pa_cons hb pa_nil hs)).imp fun σ H Q h => ?_
  obtain ⟨μ, ρ, st, e, s, p⟩ := h
  simp only [evE] at p
  refine ⟨μ, ρ, st, e, s, (Pst.bind p).mono fun d1 st1 v1 H1 μ1 ⟨v1', s1, r1, p1⟩ => ?_⟩
  have e1 := e.mono v1' s.nt
  split at p1
  · rename_i hk
    refine ⟨ht s1 r1 hk, μ1, ρ, st1, e1, s1, (Pst.bind p1).mono fun d2 st2 v2 H2 μ2 ⟨v2', s2, r2, p2⟩ => ?_⟩
    exact ⟨v2, rfl, μ2, d1, d2, st2, s2, r1.mono v2' s1.nt, r2, p2⟩
  · exact False.elim p1
theorem mt_app {H : Hp} {μ : List Addr} {st : Sto} {x : V} {d : D} (S : SRep X.prog X.w Z H μ st) (r : Rep Z H μ x d) (h : mtOk .append d st = true) : tyL x H := by
  cases d with
  | ref n =>
    cases r with
    | @ref _ a hm =>
      simp only [mtOk] at h
      split at h
      · rename_i ds e
        obtain ⟨xs, h1, _⟩ := S.lst hm e
        exact ⟨a, xs, rfl, h1⟩
      · cases h
  | _ => simp [mtOk] at h
theorem mt_get {H : Hp} {μ : List Addr} {st : Sto} {x : V} {d : D} (S : SRep X.prog X.w Z H μ st) (r : Rep Z H μ x d) (h : mtOk .get d st = true) : tyD X.prog X.w Z x H := by
  simp only [mtOk] at h
  obtain ⟨kvs, e⟩ := Option.isSome_iff_exists.mp h
  obtain ⟨a, u, rfl, hr, hd⟩ := S.dict r e
  exact ⟨μ, a, kvs, u, rfl, hr, hd⟩
theorem s_pop {o : Expr} {A : E} {name : Str} {apos cpos : Pos} (slot : Slot "list" name "list.pop") (ho : SE X Z W C o A) (hbase : attributeBase o name X.env (eval o X.env) = eval o X.env) (hline : (apos.endLine == cpos.line) = true) : SE X Z W C (.Call (.Attribute o name apos) [] [] cpos) (.op1 .pop A) :=
  (pe_bm0 PySem.F.plainAttrs_list slot PySem.F.type_list_pop (m_pop (Z := Z) (W := W)) ho hbase hline).imp fun σ H Q h => by
    have z := tG_1 (RR := RV Z) (G := fun x st => p1 .pop x st) h
    obtain ⟨μ, ρ, st, e, s, p⟩ := z
    refine ⟨μ, ρ, st, e, s, p.mono fun d st1 v H1 μ1 ⟨μ2, d2, st2, s2, r2, p2⟩ => ?_⟩
    refine ⟨?_, rfl, μ2, d2, st2, s2, r2, p2⟩
    cases d2 with
    | ref n =>
      cases r2 with
      | @ref _ a hm =>
        simp only [p1] at p2
        split at p2
        · rename_i ds e
          obtain ⟨xs, h1, _⟩ := s2.lst hm e
          exact .inl ⟨rfl, xs, .inl (.inl h1)⟩
        · exact False.elim p2
    | _ => exact False.elim p2
/-! ### isinstance -/
theorem c_isi (hZ : Z.K = X.K) (t : Ty) : CallR X (.builtin "isinstance") (fun vs H Q => ∃ x, vs = [x, .ty (tyN t)] ∧ rIs X.prog X.w Z W t x H Q) := by
  intro pins s σ H vs us Q I r ⟨x, e, h⟩
  subst e
  obtain ⟨u, u2, rfl, r1, r2⟩ := r.two
  cases (show u2 = Value.type (tyN t) from r2)
  exact isi_ok hZ t I r1 h
theorem s_isi {e : Expr} {A : E} {t : Ty} (he : ∀ ta, PA X [a, b] ta → PE X e (tCB (fun vs H Q => ∃ x, vs = [x, .ty (tyN t)] ∧ rIs X.prog X.w Z W t x H Q) ta)) (ha : SE X Z W C a A) (hb : PE X b (tC (.ty (tyN t)))) (hs : starEach [a, b] X.env = (false, eval a X.env) :: starEach [b] X.env) (hs2 : starEach [b] X.env = (false, eval b X.env) :: starEach [] X.env) :
    SE X Z W C e (.isi A t) := by
  refine (he _ (pa_cons ha (pa_cons hb pa_nil hs2) hs)).imp fun σ H Q h => ?_
  have z := tG_1 (RR := RV Z) (G := fun x st => cmpR (isiD x t st) st) h
  obtain ⟨μ, ρ, st, e, s, p⟩ := z
  refine ⟨μ, ρ, st, e, s, p.mono fun d st1 v H1 μ1 ⟨μ2, d2, st2, s2, r2, p2⟩ => ?_⟩
  obtain ⟨bb, e1, e2⟩ := Pst.cmp p2 s2
  exact ⟨v, rfl, μ2, d2, st2, bb, s2, r2, e1, e2⟩
/-! ### dicts -/
theorem c_dcopy (hZ : Z.K = X.K) : CallR X (.type "dict") (rc1 X.prog X.w Z W .dcopy) := by
  intro pins s σ H xs us Q I rx ⟨x, e, μ, d, st, S, q1, h⟩
  subst e
  have h : Pst X.prog X.w Z W H μ (RV Z) (match dictOf d st with
    | some kvs => if sameKind (.f (.inl 0)) kvs then alloc (.dct kvs) st else .bad
    | none => .bad) _ := h
  split at h
  · rename_i kvs e
    obtain ⟨a, u, rfl, hr, hd⟩ := S.dict q1 e
    by_cases hk : sameKind (.f (.inl 0)) kvs = true
    · rw [if_pos hk] at h
      obtain ⟨es, rfl, rk⟩ := look_f hd hk
      refine call_dictD pins s σ H _ us Q I rx ⟨a, es, rfl, hr, fun p hp => ?_⟩
      exact h _ _ _ (Ev.new S hp) (S.new hp ⟨_, upd_same, .inl ⟨_, rfl, rk.mono (Ev.new S hp) S.nt⟩⟩) (.ref (by rw [← S.len]; simp))
    · rw [if_neg hk] at h; exact False.elim h
  · exact False.elim h
/-- pairs in a row -/
theorem pairs_D {H : Hp} {μ : List Addr} : ∀ {ds : List D} {xs : List (V × V)} {ps : List D} {acc kvs : List (D × D)} {es : List (Key × V)}, RepL Z H μ (xs.flatMap fun p => [p.1, p.2]) ds → pairsOf ds = some ps → dictF acc ps = some kvs → RepKF Z H μ es acc →
    ∃ kv : List (Key × V), xs = kv.map (fun p => (kV p.1, p.2)) ∧ RepKF Z H μ (mergeK es kv) kvs
  | ds, [], ps, acc, kvs, es, r, h1, h2, rk => by
    cases r
    simp only [pairsOf, Option.some.injEq] at h1
    subst h1
    simp only [dictF, Option.some.injEq] at h2
    subst h2
    exact ⟨[], rfl, rk⟩
  | ds, (x, y) :: xs, ps, acc, kvs, es, r, h1, h2, rk => by
    simp only [List.flatMap_cons, List.cons_append, List.nil_append] at r
    cases r with
    | cons r1 r =>
      cases r with
      | cons r2 r =>
        simp only [pairsOf, Option.map_eq_some_iff] at h1
        obtain ⟨qs, h3, rfl⟩ := h1
        simp only [dictF] at h2
        obtain ⟨k, hk, h2⟩ := Option.bind_eq_some_iff.mp h2
        cases fkey_kV r1 hk
        obtain ⟨kv, e1, e2⟩ := pairs_D r h3 h2 (rk.put hk r2)
        exact ⟨(k, y) :: kv, by rw [e1]; rfl, e2⟩
/-- the readings of a display, by turns -/
inductive SPs (X : Cx) (Z : Wd) (W : XK) (C : Ctx) (pos : Pos) : List (Option Expr) → List Expr → Es → Prop
  | nil : SPs X Z W C pos [] [] .nil
  | cons {k v : Expr} {K V' : E} {ks : List (Option Expr)} {vs : List Expr} {L : Es} : SE X Z W C k K → SE X Z W C v V' → SPs X Z W C pos ks vs L → SPs X Z W C pos (some k :: ks) (v :: vs) (.cons K (.cons V' L))
def flat2 (ps : List (V × V)) : List V := ps.flatMap fun p => [p.1, p.2]
theorem sps_pps {ks : List (Option Expr)} {vs : List Expr} {L : Es} (h : SPs X Z W C pos ks vs L) : ∃ trs, PPs X pos ks vs trs ∧ ks.all (·.isSome) = true ∧ ks.length = vs.length ∧
    ∀ (F : List D → Sto → Prop) (σ : St) (H Hb : Hp) (μb : List Addr) (vs0 : List V) (K : List (V × V) → Hp → Prop), (∀ ps H1 μ ds st, SRep X.prog X.w Z H1 μ st → Ev Hb μb H1 μ → RepL Z H1 μ (vs0 ++ flat2 ps) ds → F ds st → K ps H1) →
      (∃ μ ρ st ds0, ERep Z H μ σ ρ ∧ SRep X.prog X.w Z H μ st ∧ Ev Hb μb H μ ∧ RepL Z H μ vs0 ds0 ∧ Pst X.prog X.w Z W H μ (RL Z) (evEs C L ρ st) fun r st _ _ _ => F (ds0 ++ r) st) → tPairs trs σ H K := by
  induction h with
  | nil =>
    refine ⟨[], pps_nil, rfl, rfl, fun F σ H Hb μb vs0 K hK h => ?_⟩
    obtain ⟨μ, ρ, st, ds0, e, s, ev, r0, p⟩ := h
    simp only [evEs] at p
    have q : F (ds0 ++ []) st := p [] H μ Ev.refl s .nil
    rw [List.append_nil] at q
    exact hK [] H μ ds0 st s ev (by simpa [flat2] using r0) q
  | @cons k v K0 V' ks vs L hk hv _ ih =>
    obtain ⟨trs, h1, h2, h3, h4⟩ := ih
    refine ⟨(tE X.prog X.w Z W (evE C K0), tE X.prog X.w Z W (evE C V')) :: trs, pps_cons hk hv h1, by simp [h2], by simp [h3], fun F σ H Hb μb vs0 K hK h => ?_⟩
    obtain ⟨μ, ρ, st, ds0, e, s, ev, r0, p⟩ := h
    simp only [evEs] at p
    refine ⟨μ, ρ, st, e, s, (Pst.bind p).mono fun d1 st1 v1 H1 μ1 ⟨v1', s1, r1, p1⟩ => ?_⟩
    have e1 := e.mono v1' s.nt
    have p1 : Pst X.prog X.w Z W H1 μ1 (RL Z) ((evE C V' ρ st1).bind fun y st => (evEs C L ρ st).bind fun r st => .ok (d1 :: y :: r) st) fun r st _ _ _ => F (ds0 ++ r) st := by
      have eq : ((evE C V' ρ st1).bind fun y st => (evEs C L ρ st).bind fun r st => R.ok (d1 :: y :: r) st) = ((evE C V' ρ st1).bind fun x st => (evEs C L ρ st).bind fun xs st => R.ok (x :: xs) st).bind fun xs st => .ok (d1 :: xs) st := by
        cases evE C V' ρ st1 with
        | bad => rfl
        | exc c fs s2 => rfl
        | ok y s2 =>
          simp only [R.bind_ok]
          cases evEs C L ρ s2 <;> rfl
      rw [eq]
      exact p1
    refine ⟨μ1, ρ, st1, e1, s1, (Pst.bind p1).mono fun d2 st2 v2 H2 μ2 ⟨v2', s2, r2, p2⟩ => ?_⟩
    have e2 := e1.mono v2' s1.nt
    have r1' := r1.mono v2' s1.nt
    have r0' := (r0.mono v1' s.nt).mono v2' s1.nt
    refine h4 F σ H2 Hb μb (vs0 ++ [v1, v2]) (fun ps H3 => K ((v1, v2) :: ps) H3) (fun ps H3 μ3 ds st3 s3 ev3 r3 f3 => hK _ H3 μ3 ds st3 s3 ev3 (by simpa [flat2] using r3) f3) ⟨μ2, ρ, st2, ds0 ++ [d1, d2], e2, s2, (ev.trans v1').trans v2', r0'.append (.cons r1' (.cons r2 .nil)), ?_⟩
    refine (Pst.bind (RR := RL Z) p2).mono fun d3 st3 v3 H3 μ3 ⟨v3', s3, r3, p3⟩ => ?_
    have q : F (ds0 ++ d1 :: d2 :: d3) st3 := p3 (v1 :: v2 :: v3) H3 μ3 Ev.refl s3 (.cons (r1'.mono v3' s2.nt) (.cons (r2.mono v3' s2.nt) r3))
    simpa using q
theorem Ev.poke {H H2 : Hp} {μ μ2 : List Addr} {p : Addr} {o0 o1 : HO} (hp : H p = none) (e : Ev (upd H p o0) μ H2 μ2) : Ev H μ (upd H2 p o1) μ2 := by
  obtain ⟨⟨ν, rfl, hν⟩, k, z⟩ := e
  have up : ∀ a o, H a = some o → a ≠ p ∧ upd H p o0 a = some o := fun a o h => ⟨ne_of_none h hp, by rw [upd_ne (ne_of_none h hp)]; exact h⟩
  refine ⟨⟨ν, rfl, fun a ha => ⟨(hν a ha).1, ?_⟩⟩, fun a o hm h => ?_, fun a o u h => ?_⟩
  · have q := (hν a ha).2
    by_cases e : a = p
    · rw [e]; exact hp
    · rw [upd_ne e] at q; exact q
  · obtain ⟨n, q⟩ := up a o h
    rw [upd_ne n]; exact k a o hm q
  · obtain ⟨n, q⟩ := up a _ h
    rw [upd_ne n]; exact z a o u q
theorem Gen.poke {H : Hp} {μ : List Addr} {p : Addr} {o : HO} (h1 : ∀ xs, ¬ Rd H p (.tup xs)) (h2 : ∀ o xs, H p ≠ some (.frz o (.lst xs))) : Gen Z H μ (upd H p o) μ := by
  refine ⟨fun a xs h => ?_, fun a xs h => ?_, fun _ _ h => h⟩
  · rcases h with h | h
    · have n : a ≠ p := fun e => h1 xs (e ▸ h)
      rcases h with h | ⟨ob, h⟩
      · exact .inl (.inl (by rw [upd_ne n]; exact h))
      · exact .inl (.inr ⟨ob, by rw [upd_ne n]; exact h⟩)
    · exact .inr h
  · rcases h with ⟨ob, h⟩ | h
    · have n : a ≠ p := fun e => h2 ob xs (e ▸ h)
      exact .inl ⟨ob, by rw [upd_ne n]; exact h⟩
    · exact .inr h
theorem SRep.gen {P : Program} {w : World} {H H' : Hp} {μ : List Addr} {st : Sto} (S : SRep P w Z H μ st) (g : Gen Z H μ H' μ) (hs : ∀ a ∈ μ, H' a = H a) : SRep P w Z H' μ st :=
  ⟨S.len, S.nd, fun n o a h1 h2 => (S.ob n o a h1 h2).gen g (hs a (List.mem_of_getElem? h2))⟩
theorem Pst.ev {P : Program} {w : World} {H H1 : Hp} {μ μ1 : List Addr} {α β : Type} {RR : Hp → List Addr → β → α → Prop} {r : R α} {Q : α → Sto → β → Hp → List Addr → Prop} (e : Ev H μ H1 μ1) (h : Pst P w Z W H μ RR r Q) : Pst P w Z W H1 μ1 RR r Q := by
  cases r with
  | bad => exact h
  | exc c fs st => exact fun H2 μ2 C dx e2 s2 q r => h H2 μ2 C dx (e.trans e2) s2 q r
  | ok d st => exact fun v H2 μ2 e2 s2 r => h v H2 μ2 (e.trans e2) s2 r
theorem s_ddisp {ks : List (Option Expr)} {vs : List Expr} {L : Es} (h : SPs X Z W C pos ks vs L) (h0 : ks ≠ []) (h15 : ks.length ≤ 15) : SE X Z W C (.Dict ks vs pos) (.ddisp L) := by
  obtain ⟨trs, h1, h2, h3, h4⟩ := sps_pps h
  refine (pe_disp h1 h2 h3 h0 h15).imp fun σ H Q h p hp => ?_
  obtain ⟨μ, ρ, st, e, s, q⟩ := h
  simp only [evE] at q
  have ev := Ev.tmp (μ := μ) (o := .dK []) hp
  refine h4 (fun ds st => Pst X.prog X.w Z W H μ (RV Z) ((R.opt (dispD ds) st).bind fun es st => alloc (.dct es) st) fun _ _ v H' _ => Q v H') σ (upd H p (.dK [])) (upd H p (.dK [])) μ [] _ (fun ps H1 μ1 ds st1 s1 ev1 r1 f1 => ?_) ⟨μ, ρ, st, [], e.mono ev s.nt, s.tmp hp, Ev.refl, .nil, ?_⟩
  · have hp1 : H1 p = some (.dK []) := ev1.keep p _ (s.fresh hp) upd_same
    refine ⟨hp1, ?_⟩
    cases hd : dispD ds with
    | none => rw [hd] at f1; exact False.elim f1
    | some es =>
      rw [hd] at f1
      unfold dispD at hd
      split at hd
      · rename_i hl
        obtain ⟨prs, e1, e2⟩ := Option.bind_eq_some_iff.mp hd
        obtain ⟨kv, rfl, rk⟩ := pairs_D (by simpa [flat2] using r1) e1 e2 .nil
        have hm : p ∉ μ1 := by
          obtain ⟨⟨ν, rfl, hν⟩, _⟩ := ev1
          intro hm
          rcases List.mem_append.mp hm with hm | hm
          · exact s.fresh hp hm
          · have := (hν p hm).2; rw [upd_same] at this; cases this
        have len : kv.length ≤ 15 := by
          have := r1.length
          simp only [flat2, List.flatMap_map, List.nil_append, List.length_flatMap, List.length_cons, List.length_nil, List.map_const', List.sum_replicate_nat] at this
          omega
        refine ⟨kv, rfl, len, ?_⟩
        have g : Gen Z H1 μ1 (upd H1 p (.dK (mergeK [] kv))) μ1 := Gen.poke (fun xs h => by
          rcases h with h | ⟨o, h⟩ <;> rw [hp1] at h <;> cases h) (fun o xs h => by rw [hp1] at h; cases h)
        have s2 := s1.gen g fun a ha => upd_ne fun e => hm (e ▸ ha)
        refine f1 (.ref p) _ (μ1 ++ [p]) ((ev1.poke hp).adopt s hp) (s2.adopt hm ⟨_, upd_same, .inl ⟨_, rfl, (rk.gen g).gen (Gen.grow _)⟩⟩) (.ref ?_)
        rw [← s1.len]
        simp
      · cases hd
  · show Pst X.prog X.w Z W (upd H p (.dK [])) μ (RL Z) (evEs C L ρ st) _
    cases hq : evEs C L ρ st with
    | bad => rw [hq] at q; exact q
    | exc c fs s1 => rw [hq] at q; exact Pst.ev ev q
    | ok ds s1 =>
      rw [hq] at q
      exact fun v H' μ' _ _ _ => q
end
end MP

set_option Elab.async false
set_option linter.all false
set_option maxRecDepth 100000
set_option maxHeartbeats 4000000
/-! MP: targets, and what is walked. -/
namespace MP
open PySem PySem.Spec L2
open PyProof.Rows hiding St

/-! ### targets -/
def gT (P : Program) (w : World) (Z : Wd) (t : Tg) : TG := fun v σ H Q => ∃ μ ρ st d ρ', ERep Z H μ σ ρ ∧ SRep P w Z H μ st ∧ Rep Z H μ v d ∧ asgT t d ρ st = some ρ' ∧
  ∀ σ', ERep Z H μ σ' ρ' → (∀ own, tgIn t own = true → wipe σ' own = wipe σ own) → Q σ' H
theorem wipe_set {v : Option V} {i : Nat} : ∀ (own : List Nat) (σ : St), i ∈ own → wipe (σ.set i v) own = wipe σ own
  | o :: own, σ, h => by
    simp only [wipe]
    by_cases hm : i ∈ own
    · rw [wipe_set own σ hm]
    · have e : i = o := (List.mem_cons.mp h).resolve_right hm
      subst e
      have gen : ∀ (own : List Nat), i ∉ own → wipe (σ.set i v) own = (wipe σ own).set i v := by
        intro own
        induction own with
        | nil => intro _; rfl
        | cons a r ih =>
          intro hn
          simp only [wipe]
          rw [ih fun q => hn (List.mem_cons_of_mem _ q)]
          exact List.set_comm _ _ fun q => hn (q ▸ List.mem_cons_self)
      rw [gen own hm]
      simp
section
variable {X : Cx} {Z : Wd} {W : XK} {C : Ctx} {pos : Pos}
theorem g_name {i : Nat} {x : Str} (hN : X.N.Nodup) (hi : X.N[i]? = some x) (hx : Loc X.env.scope x) (hf : X.fn x = true ∨ X.env.scope.names.lookup x = some .local) : PG X (.Name x pos) (gT X.prog X.w Z (.name i)) := by
  refine ⟨fun pins s σ H v u Q I r h => (pg_name (pos := pos) hN hi hx hf).run pins s σ H v u Q I r ?_⟩
  obtain ⟨μ, ρ, st, d, ρ', e, S, rd, ha, q⟩ := h
  cases ha
  exact q _ (e.set rd) fun own ho => wipe_set own σ (by simpa [tgIn] using ho)
/-- names by their slots -/
inductive Nms (X : Cx) : List Expr → List Nat → Prop
  | nil : Nms X [] []
  | cons {x : Str} {p : Pos} {i : Nat} {es : List Expr} {is : List Nat} : X.N[i]? = some x → Loc X.env.scope x → (X.fn x = true ∨ X.env.scope.names.lookup x = some .local) → Nms X es is → Nms X (.Name x p :: es) (i :: is)
def setV (σ : St) : List Nat → List V → St
  | i :: is, v :: vs => setV (σ.set i (some v)) is vs
  | _, _ => σ
def gAll (is : List Nat) : TGs := fun vs σ H Q => vs.length = is.length ∧ Q (setV σ is vs) H
theorem Nms.len {es : List Expr} {is : List Nat} (h : Nms X es is) : (assignEach es X.env).length = is.length ∧ (assignEach es X.env).findIdx? (·.1) = none := by
  induction h with
  | nil => exact ⟨rfl, rfl⟩
  | @cons x p i es is _ _ _ _ ih =>
    have e : assignEach (.Name x p :: es) X.env = (false, assign (.Name x p) X.env) :: assignEach es X.env := rfl
    rw [e]
    refine ⟨by simp [ih.1], ?_⟩
    rw [List.findIdx?_cons]
    simp [ih.2]
theorem g_all {es : List Expr} {is : List Nat} (hN : X.N.Nodup) (h : Nms X es is) : PGs X es (gAll is) := by
  induction h with
  | nil =>
    refine ⟨fun pins s σ H vs us Q I r h => pgs_nil.run pins s σ H vs us Q I r ?_⟩
    obtain ⟨h1, h2⟩ := h
    cases vs with
    | nil => exact ⟨rfl, h2⟩
    | cons v vs => simp at h1
  | @cons x p i es is h1 h2 h3 _ ih =>
    refine ⟨fun pins s σ H vs us Q I r h => (pgs_cons (pg_name (pos := p) hN h1 h2 h3) ih rfl).run pins s σ H vs us Q I r ?_⟩
    obtain ⟨q1, q2⟩ := h
    cases vs with
    | nil => simp at q1
    | cons v vs => exact ⟨v, vs, rfl, by simpa using q1, q2⟩
theorem ERep.setV {H : Hp} {μ : List Addr} : ∀ {is : List Nat} {vs : List V} {ds : List D} {σ : St} {ρ : MP.Env}, ERep Z H μ σ ρ → RepL Z H μ vs ds → ERep Z H μ (MP.setV σ is vs) (setAll ρ is ds)
  | [], _, _, _, _, e, _ => by simp only [MP.setV, setAll]; exact e
  | i :: is, [], _, _, _, e, .nil => by simp only [MP.setV, setAll]; exact e
  | i :: is, v :: vs, d :: ds, _, _, e, .cons r rs => by simp only [MP.setV, setAll]; exact ERep.setV (e.set r) rs
theorem wipe_setV (own : List Nat) : ∀ (is : List Nat) (vs : List V) (σ : St), (∀ i ∈ is, i ∈ own) → wipe (setV σ is vs) own = wipe σ own
  | [], _, _, _ => by simp only [setV]
  | i :: is, [], _, _ => by simp only [setV]
  | i :: is, v :: vs, σ, h => by
    simp only [setV]
    rw [wipe_setV own is vs _ fun j hj => h j (List.mem_cons_of_mem _ hj)]
    exact wipe_set own σ (h i List.mem_cons_self)
theorem g_tup {es : List Expr} {is : List Nat} {k : Nat} (hZ : Z.K = X.K) (hc : X.calm = true) (hN : X.N.Nodup) (h : Nms X es is) : PG X (.Tuple es k pos) (gT X.prog X.w Z (.tup is)) := by
  have hl := h.len
  have pt := pg_tup (k := k) (pos := pos) hc (g_all hN h) hl.1 hl.2
  have pl := pg_unl (k := k) (pos := pos) hc (g_all hN h) hl.1 hl.2
  refine ⟨fun pins s σ H v u Q I r h => ?_⟩
  obtain ⟨μ, ρ, st, d, ρ', e, S, rd, ha, q⟩ := h
  simp only [asgT] at ha
  obtain ⟨ds, e1, e2⟩ := Option.bind_eq_some_iff.mp ha
  split at e2
  · rename_i hlen
    cases e2
    obtain ⟨a, xs, rfl, hs, rl⟩ := S.seqOf rd e1
    have hx : xs.length = is.length := by rw [rl.length]; exact hlen
    have fin : Q (setV σ is xs) H := q _ (e.setV rl) fun own ho => wipe_setV own is xs σ (by simpa [tgIn] using ho)
    rcases hs with hs | hs
    · exact pl.run pins s σ H _ u Q I r ⟨a, xs, rfl, hZ ▸ hs, hx, hx, fin⟩
    · exact pt.run pins s σ H _ u Q I r ⟨a, xs, rfl, hZ ▸ hs, hx, hx, fin⟩
  · cases e2
/-- a target by its slots -/
inductive Tgt (X : Cx) : Expr → Tg → Prop
  | name {x : Str} {p : Pos} {i : Nat} : X.N[i]? = some x → Loc X.env.scope x → (X.fn x = true ∨ X.env.scope.names.lookup x = some .local) → Tgt X (.Name x p) (.name i)
  | tup {es : List Expr} {k : Nat} {p : Pos} {is : List Nat} : Nms X es is → Tgt X (.Tuple es k p) (.tup is)
theorem Tgt.g {e : Expr} {t : Tg} (h : Tgt X e t) (hZ : Z.K = X.K) (hc : X.calm = true) (hN : X.N.Nodup) : PG X e (gT X.prog X.w Z t) := by
  cases h with
  | name h1 h2 h3 => exact g_name hN h1 h2 h3
  | tup h => exact g_tup hZ hc hN h
end

/-! ### what is walked -/
/-- the iterator J yields the source's items, whatever the body does -/
def RI (P : Program) (w : World) (Z : Wd) : Hp → List Addr → L2.It → Src → Prop := fun H μ J s => ∀ H' μ' st', Ev H μ H' μ' → SRep P w Z H' μ' st' → s.same st' = true →
  (∀ i d, s.items[i]? = some d → J.go i H' ∧ ∀ x H'', J.yld i H' x H'' → Ev H' μ' H'' μ' ∧ SRep P w Z H'' μ' st' ∧ Rep Z H'' μ' x d) ∧ J.stop s.items.length H'
section
variable {P : Program} {w : World} {Z : Wd} {H : Hp} {μ : List Addr} {st : Sto}
theorem ri_tup (S : SRep P w Z H μ st) {a : Addr} {xs : List V} {ds : List D} (hs : SqT Z.K H a xs) (rl : RepL Z H μ xs ds) : RI P w Z H μ (Itt Z.K a) { items := ds } := by
  intro H' μ' st' ev S' _
  have hs' := ev.sqT S.nt hs
  have rl' := rl.mono ev S.nt
  refine ⟨fun i d hi => ?_, ⟨xs, hs', by rw [rl.length]; exact Nat.le_refl _⟩⟩
  obtain ⟨y, hy, ry⟩ := rl'.get hi
  refine ⟨⟨xs, y, hs', hy⟩, fun x H'' h => ?_⟩
  obtain ⟨rfl, h2⟩ := h
  have e := h2 xs hs'
  rw [hy] at e
  cases e
  exact ⟨Ev.refl, S', ry⟩
theorem ri_cl (S : SRep P w Z H μ st) {a : Addr} {xs : List V} {ds : List D} (hs : SqC Z.K H a xs) (rl : RepL Z H μ xs ds) : RI P w Z H μ (Itl Z.K a) { items := ds } := by
  intro H' μ' st' ev S' _
  have hs' := (ev.sqC S.nt hs).sqL
  have rl' := rl.mono ev S.nt
  refine ⟨fun i d hi => ?_, ⟨xs, hs', by rw [rl.length]; exact Nat.le_refl _⟩⟩
  obtain ⟨y, hy, ry⟩ := rl'.get hi
  refine ⟨⟨xs, y, hs', hy⟩, fun x H'' h => ?_⟩
  obtain ⟨rfl, h2⟩ := h
  have e := h2 xs hs'
  rw [hy] at e
  cases e
  exact ⟨Ev.refl, S', ry⟩
/-- a list for the moment -/
theorem ri_tmp (S : SRep P w Z H μ st) {a : Addr} {xs : List V} {ds : List D} (hs : H a = some (.lst xs)) (hm : a ∉ μ) (rl : RepL Z H μ xs ds) : RI P w Z H μ (Itl Z.K a) { items := ds } := by
  intro H' μ' st' ev S' _
  have hs' : SqL Z.K H' a xs := .inl (.inl (ev.keep a _ hm hs))
  have rl' := rl.mono ev S.nt
  refine ⟨fun i d hi => ?_, ⟨xs, hs', by rw [rl.length]; exact Nat.le_refl _⟩⟩
  obtain ⟨y, hy, ry⟩ := rl'.get hi
  refine ⟨⟨xs, y, hs', hy⟩, fun x H'' h => ?_⟩
  obtain ⟨rfl, h2⟩ := h
  have e := h2 xs hs'
  rw [hy] at e
  cases e
  exact ⟨Ev.refl, S', ry⟩
theorem ri_lst {n : Nat} {a : Addr} {ds : List D} (hm : μ[n]? = some a) : RI P w Z H μ (Itl Z.K a) { items := ds, chk := some n } := by
  intro H' μ' st' ev S' hsame
  have e1 : st'[n]? = some (.lst ds) := by
    simp only [Src.same] at hsame
    split at hsame
    · rename_i ds' e
      rw [of_decide_eq_true hsame] at e
      exact e
    · cases hsame
  obtain ⟨xs, h1, rl'⟩ := S'.lst (ev.at hm) e1
  have hs' : SqL Z.K H' a xs := .inl (.inl h1)
  refine ⟨fun i d hi => ?_, ⟨xs, hs', by rw [rl'.length]; exact Nat.le_refl _⟩⟩
  obtain ⟨y, hy, ry⟩ := rl'.get hi
  refine ⟨⟨xs, y, hs', hy⟩, fun x H'' h => ?_⟩
  obtain ⟨rfl, h2⟩ := h
  have e := h2 xs hs'
  rw [hy] at e
  cases e
  exact ⟨Ev.refl, S', ry⟩
theorem ri_str {z : Str} : RI P w Z H μ (Its z) { items := z.cps.toList.map fun c => .str ⟨#[c]⟩ } := by
  intro H' μ' st' ev S' _
  refine ⟨fun i d hi => ?_, by show z.cps.size ≤ _; simp⟩
  simp only [List.getElem?_map, Option.map_eq_some_iff] at hi
  obtain ⟨c, hc, rfl⟩ := hi
  have hc' : z.cps[i]? = some c := by simpa using hc
  refine ⟨(Array.getElem?_eq_some_iff.mp hc').1, fun x H'' h => ?_⟩
  obtain ⟨rfl, c', h2, rfl⟩ := h
  rw [hc'] at h2
  cases h2
  exact ⟨Ev.refl, S', .str _⟩
theorem ri_rng {lo : Int} {n : Nat} : RI P w Z H μ (Itr lo n) { items := (List.range n).map fun (i : Nat) => .int (lo + i) } := by
  intro H' μ' st' ev S' _
  refine ⟨fun i d hi => ?_, by show n ≤ _; simp⟩
  simp only [List.getElem?_map, Option.map_eq_some_iff] at hi
  obtain ⟨c, hc, rfl⟩ := hi
  have hl : i < n := by
    have := (List.getElem?_eq_some_iff.mp hc).1
    simpa using this
  have e : c = i := by
    have := (List.getElem?_eq_some_iff.mp hc).2
    simpa using this.symm
  subst e
  refine ⟨hl, fun x H'' h => ?_⟩
  obtain ⟨rfl, rfl⟩ := h
  exact ⟨Ev.refl, S', .int _⟩
theorem RepKF.key {H : Hp} {μ : List Addr} : ∀ {es : List (Key × V)} {kvs : List (D × D)} {i : Nat} {d : D}, RepKF Z H μ es kvs → (kvs.map (·.1))[i]? = some d → ∃ k v, es[i]? = some (k, v) ∧ fkey d = some k
  | _, _, i, d, .nil, h => by simp at h
  | _, _, 0, d, .cons h1 _ _, h => by simp at h; subst h; exact ⟨_, _, rfl, h1⟩
  | _, _, i + 1, d, .cons _ _ t, h => by simpa using RepKF.key (i := i) t (by simpa using h)
theorem fkey_rep {H : Hp} {μ : List Addr} {d : D} {k : Key} (h : fkey d = some k) : Rep Z H μ (kV k) d := by
  cases d <;> simp [fkey] at h
  · subst h; exact .int _
  · subst h; exact .str _
theorem ri_dK {a : Addr} {o : Obj} {es : List (Key × V)} {kvs : List (D × D)} (hs : H a = some (.frz o (.dK es))) (rk : RepKF Z H μ es kvs) : RI P w Z H μ (Itk a o es) { items := kvs.map (·.1) } := by
  intro H' μ' st' ev S' _
  have hs' := ev.fz a o _ hs
  refine ⟨fun i d hi => ?_, ⟨hs', by simp [rk.length]⟩⟩
  obtain ⟨k, v, e1, e2⟩ := rk.key hi
  refine ⟨⟨hs', (List.getElem?_eq_some_iff.mp e1).1⟩, fun x H'' h => ?_⟩
  obtain ⟨rfl, k', v', e3, rfl⟩ := h
  rw [e1] at e3
  cases e3
  exact ⟨Ev.refl, S', fkey_rep e2⟩
/-- the keys of a locked dict whose keys are tuples -/
def Itn (P : Program) (w : World) (a : Addr) (o : Obj) (es : List (NestedKey × Addr × V)) : L2.It :=
  ⟨fun i H => H a = some (.frz o (keyedHO P w a es)) ∧ i < es.length, fun i H x H' => H' = H ∧ ∃ k q v, es[i]? = some (k, q, v) ∧ x = .ref q, fun i H => H a = some (.frz o (keyedHO P w a es)) ∧ es.length ≤ i⟩
theorem RepKN.key {H : Hp} {μ : List Addr} : ∀ {es : List (NestedKey × Addr × V)} {kvs : List (D × D)} {i : Nat} {d : D}, RepKN Z H μ es kvs → (kvs.map (·.1))[i]? = some d → ∃ k b v, es[i]? = some (k, b, v) ∧ Rep Z H μ (.ref b) d
  | _, _, i, d, .nil, h => by simp at h
  | _, _, 0, d, .cons _ h1 _ _, h => by simp at h; subst h; exact ⟨_, _, _, rfl, h1⟩
  | _, _, i + 1, d, .cons _ _ _ t, h => by simpa using RepKN.key (i := i) t (by simpa using h)
theorem ri_dN (S : SRep P w Z H μ st) {a : Addr} {o : Obj} {es : List (NestedKey × Addr × V)} {kvs : List (D × D)} (hs : H a = some (.frz o (keyedHO P w a es))) (rk : RepKN Z H μ es kvs) : RI P w Z H μ (Itn P w a o es) { items := kvs.map (·.1) } := by
  intro H' μ' st' ev S' _
  have hs' := ev.fz a o _ hs
  refine ⟨fun i d hi => ?_, ⟨hs', by simp [rk.length]⟩⟩
  obtain ⟨k, b, v, e1, e2⟩ := rk.key hi
  refine ⟨⟨hs', (List.getElem?_eq_some_iff.mp e1).1⟩, fun x H'' h => ?_⟩
  obtain ⟨rfl, k', b', v', e3, rfl⟩ := h
  rw [e1] at e3
  cases e3
  exact ⟨Ev.refl, S', e2.mono ev S.nt⟩
end
section
variable {X : Cx} {pins : List (Addr × Obj)} {σ : St} {H : Hp} {s : Shared} {a : Addr} {o : Obj}
theorem frzN {es : List (NestedKey × Addr × V)} (I : Inv X pins σ H s) (h : H a = some (.frz o (keyedHO X.prog X.w a es))) :
    (a == sysModules) = false ∧ s.heap.get? a = some o ∧ o.ExactDict ∧ ∃ (ds : Array DictEntry) (ep : Nat), o.data = .dict ds ep ∧ ds.size = es.length ∧ ∀ (i : Nat) (k : NestedKey) (q : Addr) (v : V), es[i]? = some (k, q, v) → ∃ en, ds[i]? = some en ∧ en.key = .ref q := by
  obtain ⟨hd, ko, _⟩ := I.hok a _ h
  obtain ⟨hz, hs, nd, ys, hp, o', ds, ep, ho, hx, hdt, he⟩ := ko
  rw [hd] at ho
  cases ho
  have hl := paired_length hp
  have hsz : ds.size = es.length := by
    have := congrArg List.length he
    simp at this
    omega
  refine ⟨hs, hd, hx, ds, ep, hdt, hsz, fun i k q v e => ?_⟩
  obtain ⟨b, hb, e1, e2, _⟩ := paired_get hp e
  have q1 : ds.toList[i]? = some (entryOfKey (nestedKind X.prog X.w) b) := by rw [he, List.getElem?_map, hb]; rfl
  refine ⟨_, by simpa using q1, ?_⟩
  show Value.ref b.2.1 = Value.ref q
  rw [← e2]
end
theorem turn_dN {P : Program} {w : World} {K : PySem.W.Frag} {tg : Expr} {d : Addr} {o : Obj} {ds : Array DictEntry} {ep : Nat} {es : List (NestedKey × Addr × V)} (it : Addr) (hod : o.data = .dict ds ep) : Turn P w K tg (Itn P w d o es) [it] it (fun i h => h.IsKeyIter it d i es.length ep) where
  mem := by simp
  obj := fun i h st b hb => by
    cases List.mem_singleton.mp hb
    obtain ⟨oi, h1, h2, h3⟩ := st
    exact ⟨oi, h1, fun v z => by rw [h3] at z; exact nomatch z⟩
  keep := fun i h h' st k => st.at fun oi e => k it List.mem_cons_self oi e
  item := by
    intro X hP hw hK hc i pins s σ H E I hf st hg
    subst hP hw hK
    obtain ⟨g1, g2⟩ := hg
    obtain ⟨f0, f1, f2, f3, f4, f5⟩ := hf it List.mem_cons_self
    obtain ⟨c1, c2, c3, ds', ep', c4, c5, c6⟩ := frzN I g1
    obtain ⟨rfl, rfl⟩ := dict_ep hod c4
    obtain ⟨⟨k, q, v⟩, e1⟩ : ∃ p, es[i]? = some p := ⟨es[i], List.getElem?_eq_getElem g2⟩
    obtain ⟨en, e2, e3⟩ := c6 i k q v e1
    refine next_key_item st c2 hod c5 e2 fun h' st' sb => ?_
    obtain ⟨oi, i1, i2, i3⟩ := id st'
    have I1 : Inv X pins σ H { s with heap := h' } := I.turned (t' := s.toks) (fun b ob hb e => (sb.2 b hb).trans e) f0 f1 f3 f4 f5
    exact ⟨en.key, rfl, go_of (s := { s with heap := h' }) i1 i2 i3 (by decide) ⟨.ref q, H, I1, e3, ⟨rfl, k, q, v, e1, rfl⟩, st', fun b hb => (hf b hb).1⟩⟩
  done := by
    intro X hP hw hK hc i pins s σ H E I hf st hg
    subst hP hw hK
    obtain ⟨g1, g2⟩ := hg
    obtain ⟨f0, f1, f2, f3, f4, f5⟩ := hf it List.mem_cons_self
    obtain ⟨c1, c2, c3, ds', ep', c4, c5, c6⟩ := frzN I g1
    obtain ⟨rfl, rfl⟩ := dict_ep hod c4
    exact next_key_end (I.ok.hd hc) st c2 hod c5 g2 fun h' eb => ⟨rfl, I.turned (t' := s.toks) (fun b ob hb e => eb b ob hb e) f0 f1 f3 f4 f5⟩
  self := fun A i s Q E st h => by
    refine wpAny_pyIter_slot st.typeIs PySem.F.slot_dict_keyiterator_iter (wpAny_call_entry PySem.F.slot_dict_keyiterator_iter st.typeIs PySem.F.entry_dict_keyiterator_iter ?_ (PySem.F.args_dict_keyiterator_iter_1 _))
    exact wpAny_pure ⟨_, rfl, "dict_keyiterator", _, st.typeIs, PySem.F.slot_dict_keyiterator_next.lookup, h⟩
section
variable {X : Cx} {Z : Wd} {W : XK} {C : Ctx} {tg e : Expr} {pos : Pos}
abbrev tI (P : Program) (w : World) (Z : Wd) (W : XK) (f : MP.Env → Sto → R Src) : TI := tG P w Z W (RI P w Z) f
/-- a value is walked -/
theorem i_val {σ : St} {H : Hp} {pins : List (Addr × Obj)} {s : Shared} {R' : L2.It → Hp → Prop} {x : V} {u : Value} {μ : List Addr} {d : D} {st : Sto} (hZ : Z.K = X.K) (I : Inv X pins σ H s) (rx : RelV x u) (S : SRep X.prog X.w Z H μ st) (rd : Rep Z H μ x d)
    (h : Pst X.prog X.w Z W H μ (RI X.prog X.w Z) (R.opt (srcOf d st) st) fun _ _ J H' _ => R' J H') : wpAny (model X.prog X.w) X.A (pyIter u) (PIE X pins σ tg R') X.xe s := by
  have use : ∀ {src : Src} {J : L2.It}, srcOf d st = some src → RI X.prog X.w Z H μ J src → R' J H := fun e ri => by
    rw [e] at h
    exact h _ H μ Ev.refl S ri
  have wl : ∀ {xs : List V} {a : Addr}, u = .ref a → SqL Z.K H a xs → R' (Itl X.K a) H → wpAny (model X.prog X.w) X.A (pyIter u) (PIE X pins σ tg R') X.xe s := fun e hs q => by
    subst e
    obtain ⟨its, rv, p, hz⟩ := I.list (hZ ▸ hs)
    exact wpAny_pyIter_list p.isList (pi_one (tk := s.toks) I _ (turn_list _ _) ⟨_, Heap.get?_push_size _ rfl, rfl, rfl⟩ q)
  cases d with
  | tup ds =>
    cases rd with
    | @tup a xs _ hs rl =>
      cases (show u = Value.ref a from rx)
      have q := use rfl (ri_tup S hs rl)
      rw [hZ] at q
      obtain ⟨its, rv, p, hz⟩ := I.tuple (hZ ▸ hs)
      exact wpAny_pyIter_tuple (show s.heap.IsTuple a its.toArray from p) (pi_one (tk := s.toks) I _ (turn_tuple _ _) ⟨_, Heap.get?_push_size _ rfl, rfl, rfl⟩ q)
  | cl ds =>
    cases rd with
    | @cl a xs _ hs rl => exact wl rx hs.sqL (hZ ▸ use rfl (ri_cl S hs rl))
  | str z =>
    cases rd
    by_cases hl : z.length ≤ LINE
    · have q := use (src := { items := z.cps.toList.map fun c => .str ⟨#[c]⟩ }) (by simp only [srcOf, if_pos hl]) ri_str
      obtain ⟨t, rfl⟩ := rx
      cases ha : z.cps.all (· < 128)
      · exact wpAny_pyIter_wide ha (pi_one (tk := s.toks) I _ (turn_str _ z t "str_iterator" (.inr rfl)) ⟨_, Heap.get?_push_size _ rfl, rfl, rfl⟩ q)
      · exact wpAny_pyIter_ascii ha (pi_one (tk := s.toks) I _ (turn_str _ z t "str_ascii_iterator" (.inl rfl)) ⟨_, Heap.get?_push_size _ rfl, rfl, rfl⟩ q)
    · simp only [srcOf, if_neg hl] at h
      exact False.elim h
  | ref n =>
    cases rd with
    | @ref _ a hm =>
      cases ho : st[n]? with
      | none => simp only [srcOf, ho] at h; exact False.elim h
      | some ob =>
        cases ob with
        | lst ds =>
          obtain ⟨xs, h1, rl⟩ := S.lst hm ho
          exact wl rx (.inl (.inl h1)) (hZ ▸ use (src := { items := ds, chk := some n }) (by simp only [srcOf, ho]) (ri_lst hm))
        | fdct kvs =>
          obtain ⟨o, u', h1, hd⟩ := S.ob n _ a ho hm
          cases (show u = Value.ref a from rx)
          rcases hd with ⟨es, rfl, rk⟩ | ⟨es, rfl, ne, rk⟩
          · have q := use (src := { items := kvs.map (·.1) }) (by simp only [srcOf, ho]) (ri_dK h1 rk)
            obtain ⟨hs, hgd, hx, es', ep, vs, hdt, hsz, kv, hm'⟩ := I.frzK h1
            refine iter_keys hs hgd hx hdt (pi_one (tk := s.toks) I _ (turn_keys _ hdt) ⟨_, Heap.get?_push_size _ rfl, rfl, ?_⟩ q)
            rw [hsz] <;> rfl
          · have q := use (src := { items := kvs.map (·.1) }) (by simp only [srcOf, ho]) (ri_dN S h1 rk)
            obtain ⟨c1, c2, c3, ds', ep', c4, c5, c6⟩ := frzN I h1
            refine iter_keys c1 c2 c3 c4 (pi_one (tk := s.toks) I _ (turn_dN _ c4) ⟨_, Heap.get?_push_size _ rfl, rfl, ?_⟩ q)
            rw [c5] <;> rfl
        | dct kvs => simp only [srcOf, ho] at h; exact False.elim h
        | ins c fs => simp only [srcOf, ho] at h; exact False.elim h
  | _ => exact False.elim h
theorem i_ofE {A : E} (hZ : Z.K = X.K) (he : SE X Z W C e A) : PI X tg e (tI X.prog X.w Z W fun ρ st => (evE C A ρ st).bind fun x st => R.opt (srcOf x st) st) := by
  refine ⟨fun pins s σ H R' I h => ?_⟩
  refine thn (he.run pins s σ H _ I (tG_1 (RR := RV Z) (G := fun x st => R.opt (srcOf x st) st) h)) fun u s1 ⟨x, H1, I1, rx, μ, d, st, S, rd, q⟩ => ?_
  exact i_val hZ I1 rx S rd q
theorem i_ofQ {q : Q} (hZ : Z.K = X.K) (hq : q.fresh = true) (he : SQ X Z W C e q) : PI X tg e (tI X.prog X.w Z W fun ρ st => (evQ C q ρ st).bind fun ds st => .ok { items := ds } st) := by
  refine ⟨fun pins s σ H R' I h => ?_⟩
  have z := tG_1 (RR := q.rel Z H) (G := fun ds st => R.ok ({ items := ds } : Src) st) h
  refine thn (he.run pins s σ H _ I z) fun u s1 ⟨x, H1, I1, rx, μ, ds, st, S, rd, p⟩ => ?_
  rw [rel_fresh hq] at rd
  obtain ⟨a, xs, rfl, h1, hm, _, rl⟩ := rd
  cases (show u = Value.ref a from rx)
  obtain ⟨its, rv, pl, hz⟩ := I1.list (xs := xs) (.inl (.inl h1))
  exact wpAny_pyIter_list pl.isList (pi_one (tk := s1.toks) I1 _ (turn_list _ _) ⟨_, Heap.get?_push_size _ rfl, rfl, rfl⟩ (hZ ▸ p _ H1 μ Ev.refl S (ri_tmp S h1 hm rl)))
theorem rngOf_k {ds : List D} {s : Src} (h : rngOf ds = some s) : (∃ j, ds = [.int j] ∧ -(2 ^ 62) ≤ j ∧ j < 2 ^ 62 ∧ s = { items := (List.range j.toNat).map fun (i : Nat) => .int (0 + i) }) ∨
    ∃ i j, ds = [.int i, .int j] ∧ (-(2 ^ 62) ≤ i ∧ i < 2 ^ 62 ∧ -(2 ^ 62) ≤ j ∧ j < 2 ^ 62) ∧ s = { items := (List.range (j - i).toNat).map fun (k : Nat) => .int (i + k) } := by
  unfold rngOf at h
  split at h
  · split at h
    · rename_i j hj; exact .inl ⟨j, rfl, hj.1, hj.2, (Option.some.inj h).symm⟩
    · cases h
  · split at h
    · rename_i i j hj; exact .inr ⟨i, j, rfl, hj, (Option.some.inj h).symm⟩
    · cases h
  · cases h
theorem i_rng1 {a : Expr} {A : E} {p : Pos} (hg : Gl X "range") (hm : X.mg "range" = none) (ha : SE X Z W C a A) (hs : starEach [a] X.env = [(false, eval a X.env)]) : PI X tg (.Call (.Name "range" p) [a] [] pos) (tI X.prog X.w Z W fun ρ st => (evEs C (.cons A .nil) ρ st).bind fun ds st => R.opt (rngOf ds) st) := by
  refine ⟨fun pins s σ H R' I h => (pi_range1 (tg := tg) (p := p) (pos := pos) hg hm (pa_cons ha pa_nil (by rw [hs]; rfl)) hs).run pins s σ H R' I ?_⟩
  have h : tI X.prog X.w Z W (fun ρ st => (evE C A ρ st).bind fun x st => R.opt (rngOf [x]) st) σ H R' := by
    obtain ⟨μ, ρ, st, e, s, p⟩ := h
    refine ⟨μ, ρ, st, e, s, ?_⟩
    have eq : ((evEs C (.cons A .nil) ρ st).bind fun ds st => R.opt (rngOf ds) st) = (evE C A ρ st).bind fun x st => R.opt (rngOf [x]) st := by
      simp only [evEs]
      cases evE C A ρ st <;> rfl
    show Pst X.prog X.w Z W H μ (RI X.prog X.w Z) ((evE C A ρ st).bind fun x st => R.opt (rngOf [x]) st) _
    rw [← eq]
    exact p
  have z := tG_1 (RR := RV Z) (G := fun x st => R.opt (rngOf [x]) st) h
  obtain ⟨μ, ρ, st, e, s, p⟩ := z
  refine ⟨μ, ρ, st, e, s, p.mono fun d st1 v H1 μ1 ⟨μ2, d2, st2, s2, r2, p2⟩ => ?_⟩
  cases hr : rngOf [d2] with
  | none => rw [hr] at p2; exact False.elim p2
  | some src =>
    rw [hr] at p2
    rcases rngOf_k hr with ⟨j, e1, e2, e3, rfl⟩ | ⟨i, j, e1, _⟩
    · cases e1
      cases r2
      exact ⟨j, rfl, e2, e3, p2 _ H1 μ2 Ev.refl s2 ri_rng⟩
    · cases e1
theorem i_rng2 {a b : Expr} {A B : E} {p : Pos} (hg : Gl X "range") (hm : X.mg "range" = none) (ha : SE X Z W C a A) (hb : SE X Z W C b B) (hs : starEach [a, b] X.env = [(false, eval a X.env), (false, eval b X.env)]) (hs2 : starEach [b] X.env = [(false, eval b X.env)]) :
    PI X tg (.Call (.Name "range" p) [a, b] [] pos) (tI X.prog X.w Z W fun ρ st => (evEs C (.cons A (.cons B .nil)) ρ st).bind fun ds st => R.opt (rngOf ds) st) := by
  refine ⟨fun pins s σ H R' I h => (pi_range2 (tg := tg) (p := p) (pos := pos) hg hm (pa_cons ha (pa_cons hb pa_nil (by rw [hs2]; rfl)) (by rw [hs, hs2])) hs hs2).run pins s σ H R' I ?_⟩
  have h : tI X.prog X.w Z W (fun ρ st => (evE C A ρ st).bind fun x st => (evE C B ρ st).bind fun y st => R.opt (rngOf [x, y]) st) σ H R' := by
    obtain ⟨μ, ρ, st, e, s, p⟩ := h
    refine ⟨μ, ρ, st, e, s, ?_⟩
    have eq : ((evEs C (.cons A (.cons B .nil)) ρ st).bind fun ds st => R.opt (rngOf ds) st) = (evE C A ρ st).bind fun x st => (evE C B ρ st).bind fun y st => R.opt (rngOf [x, y]) st := by
      simp only [evEs]
      cases evE C A ρ st with
      | bad => rfl
      | exc c fs s1 => rfl
      | ok x s1 =>
        simp only [R.bind_ok]
        cases evE C B ρ s1 <;> rfl
    show Pst X.prog X.w Z W H μ (RI X.prog X.w Z) ((evE C A ρ st).bind fun x st => (evE C B ρ st).bind fun y st => R.opt (rngOf [x, y]) st) _
    rw [← eq]
    exact p
  have z := tG_2 (sta_V (Z := Z)) (RU := RV Z) (A := evE C A) (B := evE C B) (G := fun x y st => R.opt (rngOf [x, y]) st) h
  obtain ⟨μ, ρ, st, e, s, p⟩ := z
  refine ⟨μ, ρ, st, e, s, p.mono fun d st1 v H1 μ1 ⟨μ2, ρ2, st2, e2, s2, p2⟩ => ⟨μ2, ρ2, st2, e2, s2, p2.mono fun d3 st3 v3 H3 μ3 ⟨μ4, d4, d5, st4, s4, r4, r5, p4⟩ => ?_⟩⟩
  cases hr : rngOf [d4, d5] with
  | none => rw [hr] at p4; exact False.elim p4
  | some src =>
    rw [hr] at p4
    rcases rngOf_k hr with ⟨j, e1, _⟩ | ⟨i, j, e1, e3, rfl⟩
    · cases e1
    · cases e1
      cases r4
      cases r5
      exact ⟨i, j, rfl, e3, p4 _ H3 μ4 Ev.refl s4 ri_rng⟩
end
end MP

set_option Elab.async false
set_option linter.all false
set_option maxRecDepth 100000
set_option maxHeartbeats 4000000
/-! MP: comprehensions; dicts locked while they are walked. -/
namespace MP
open PySem PySem.Spec L2
open PyProof.Rows hiding St

section
variable {P : Program} {w : World} {Z : Wd} {W : XK} {H H1 H2 : Hp} {μ μ1 μ2 : List Addr} {st : Sto}
/-- a thing that is new may be written -/
theorem Ev.poke' {p : Addr} {o1 : HO} (hp : H p = none) (e : Ev H μ H2 μ2) : Ev H μ (upd H2 p o1) μ2 := by
  obtain ⟨x, k, z⟩ := e
  refine ⟨x, fun a o hm h => ?_, fun a o u h => ?_⟩
  · rw [upd_ne (ne_of_none h hp)]; exact k a o hm h
  · rw [upd_ne (ne_of_none h hp)]; exact z a o u h
theorem ERep.gen {σ : St} {ρ : MP.Env} (r : ERep Z H μ σ ρ) (g : Gen Z H μ H1 μ1) : ERep Z H1 μ1 σ ρ := ⟨r.len, fun i d h => let ⟨v, q, p⟩ := r.at_ i d h; ⟨v, q, p.gen g⟩⟩

/-! ### the lock -/
structure Lk (P : Program) (w : World) (Z : Wd) (H : Hp) (μ : List Addr) (st : Sto) (n : Nat) (kvs : List (D × D)) (d : Addr) (u : HO) : Prop where
  at_ : μ[n]? = some d
  ob : st[n]? = some (.dct kvs)
  hu : H d = some u
  rep : RepDct P w Z H μ d kvs u
theorem Lk.of (S : SRep P w Z H μ st) {n : Nat} {kvs : List (D × D)} (h : st[n]? = some (.dct kvs)) : ∃ d u, Lk P w Z H μ st n kvs d u := by
  obtain ⟨a, h1, u, h2, h3⟩ := S.at h
  exact ⟨a, u, h1, h, h2, h3⟩
section
variable {n : Nat} {kvs : List (D × D)} {d : Addr} {u : HO} {od : Obj}
theorem Lk.nofrz (L : Lk P w Z H μ st n kvs d u) : ∀ o v, u ≠ .frz o v := by
  rcases L.rep with ⟨es, rfl, _⟩ | ⟨es, rfl, _, _⟩ <;> intro o v e <;> cases e
theorem Lk.notup (L : Lk P w Z H μ st n kvs d u) : ∀ xs, u ≠ .tup xs := by
  rcases L.rep with ⟨es, rfl, _⟩ | ⟨es, rfl, _, _⟩ <;> intro v e <;> cases e
theorem Lk.nolst (L : Lk P w Z H μ st n kvs d u) : ∀ xs, u ≠ .lst xs := by
  rcases L.rep with ⟨es, rfl, _⟩ | ⟨es, rfl, _, _⟩ <;> intro v e <;> cases e
theorem Lk.mut (L : Lk P w Z H μ st n kvs d u) : Mut (some u) := by
  rcases L.rep with ⟨es, rfl, _⟩ | ⟨es, rfl, _, _⟩ <;> trivial
theorem Lk.ev (L : Lk P w Z H μ st n kvs d u) : Ev H μ (upd H d (.frz od u)) μ := Ev.write (List.mem_of_getElem? L.at_) (.of L.hu L.nofrz)
theorem Lk.lock (L : Lk P w Z H μ st n kvs d u) (S : SRep P w Z H μ st) : SRep P w Z (upd H d (.frz od u)) μ (st.set n (.fdct kvs)) :=
  S.write L.at_ (.of L.hu L.nofrz) ⟨od, u, upd_same, by
    rcases L.rep with ⟨es, rfl, r⟩ | ⟨es, rfl, ne, r⟩
    · exact .inl ⟨es, rfl, r.mono L.ev S.nt⟩
    · exact .inr ⟨es, rfl, ne, r.mono L.ev S.nt⟩⟩
/-- back -/
theorem Lk.gen (L : Lk P w Z H μ st n kvs d u) {H' : Hp} {μ' : List Addr} (hd : H' d = some (.frz od u)) : Gen Z H' μ' (upd H' d u) μ' := Gen.poke (fun xs h => by
    rcases h with h | ⟨o, h⟩
    · rw [hd] at h; cases h
    · rw [hd] at h; cases h; exact L.notup xs rfl) (fun o xs h => by rw [hd] at h; cases h; exact L.nolst xs rfl)
theorem Lk.back (L : Lk P w Z H μ st n kvs d u) {H' : Hp} {μ' : List Addr} (e : Ev (upd H d (.frz od u)) μ H' μ') : Ev H μ (upd H' d u) μ' := by
  have hm := List.mem_of_getElem? L.at_
  obtain ⟨⟨ν, rfl, hν⟩, k, z⟩ := e
  refine ⟨⟨ν, rfl, fun a ha => ⟨(hν a ha).1, ?_⟩⟩, fun a o ha h => ?_, fun a o v h => ?_⟩
  · have q := (hν a ha).2
    have na : a ≠ d := fun e => (hν a ha).1 (by rw [e]; exact hm)
    rw [upd_ne na] at q
    exact q
  · have na : a ≠ d := fun e => ha (e ▸ hm)
    rw [upd_ne na]
    exact k a o ha (by rw [upd_ne na]; exact h)
  · have na : a ≠ d := fun e => by rw [e, L.hu] at h; exact L.nofrz o v (Option.some.inj h)
    rw [upd_ne na]
    exact z a o v (by rw [upd_ne na]; exact h)
theorem Lk.thaw (L : Lk P w Z H μ st n kvs d u) (S : SRep P w Z H μ st) {H' : Hp} {μ' : List Addr} {st' : Sto} (e : Ev (upd H d (.frz od u)) μ H' μ') (hd : H' d = some (.frz od u)) (S' : SRep P w Z H' μ' st') : SRep P w Z (upd H' d u) μ' (st'.set n (.dct kvs)) := by
  have g := L.gen (μ' := μ') hd
  have at' := e.at L.at_
  refine ⟨by simp [S'.len], S'.nd, fun m o a h1 h2 => ?_⟩
  by_cases hmn : n = m
  · subst hmn
    rw [at'] at h2; cases h2
    have hlt : n < st'.length := by have := (List.getElem?_eq_some_iff.mp h1).1; simpa using this
    rw [List.getElem?_set_self hlt] at h1
    cases h1
    refine ⟨u, upd_same, ?_⟩
    have ev := L.back e
    rcases L.rep with ⟨es, rfl, r⟩ | ⟨es, rfl, ne, r⟩
    · exact .inl ⟨es, rfl, r.mono ev S.nt⟩
    · exact .inr ⟨es, rfl, ne, r.mono ev S.nt⟩
  · rw [List.getElem?_set_ne hmn] at h1
    have hab : a ≠ d := by
      rintro rfl
      obtain ⟨q1, e1⟩ := List.getElem?_eq_some_iff.mp at'
      obtain ⟨q2, e2⟩ := List.getElem?_eq_some_iff.mp h2
      exact hmn ((List.getElem_inj S'.nd).mp (e1.trans e2.symm))
    exact (S'.ob m o a h1 h2).gen g (upd_ne hab)
theorem Lk.stays (L : Lk P w Z H μ st n kvs d u) {H' : Hp} {μ' : List Addr} (e : Ev (upd H d (.frz od u)) μ H' μ') : H' d = some (.frz od u) := e.fz d od u upd_same
theorem Pst.held (L : Lk P w Z H μ st n kvs d u) (S : SRep P w Z H μ st) {α β : Type} {RR : Hp → List Addr → β → α → Prop} (hRR : ∀ H' μ' v x, Ev (upd H d (.frz od u)) μ H' μ' → H' d = some (.frz od u) → RR H' μ' v x → RR (upd H' d u) μ' v x) {k : Sto → R α} {Q : α → Sto → β → Hp → List Addr → Prop} (h : Pst P w Z W H μ RR (MP.held (some (n, kvs)) k st) Q) :
    Pst P w Z W (upd H d (.frz od u)) μ RR (k (st.set n (.fdct kvs))) fun x st' v H' μ' => H' d = some (.frz od u) ∧ Q x (st'.set n (.dct kvs)) v (upd H' d u) μ' := by
  simp only [MP.held] at h
  cases hk : k (st.set n (.fdct kvs)) with
  | bad => rw [hk] at h; exact h
  | exc c fs s1 => rw [hk] at h; exact False.elim h
  | ok x st' =>
    rw [hk] at h
    intro v H' μ' e s' r
    have hd := L.stays e
    exact ⟨hd, h v _ μ' (L.back e) (L.thaw S e hd s') (hRR _ _ _ _ e hd r)⟩
end
theorem lockD_k {r : R D} {n : Nat} {kvs : List (D × D)} (h : lockD r st = some (n, kvs)) : st[n]? = some (.dct kvs) := by
  unfold lockD at h
  split at h
  · split at h
    · rename_i e; cases h; exact e
    · cases h
  · cases h
theorem evLk_k {C : Ctx} {src : It} {ρ : MP.Env} {n : Nat} {kvs : List (D × D)} (h : evLk C src ρ st = some (n, kvs)) : st[n]? = some (.dct kvs) := by
  cases src with
  | ofP e => simp only [evLk] at h; exact lockD_k h
  | _ => simp [evLk] at h
end
theorem _root_.L2.PE.or {X : Cx} {e : Expr} {t t' : TE} (h : PE X e t) (h' : PE X e t') : PE X e (fun σ H Q => t σ H Q ∨ t' σ H Q) := ⟨fun pins s σ H Q I q => q.elim (h.run pins s σ H Q I) (h'.run pins s σ H Q I)⟩
theorem _root_.L2.PTs.imp {X : Cx} {e : List Expr} {t t' : TT} (h : PTs X e t) (hi : ∀ σ H Q, t' σ H Q → t σ H Q) : PTs X e t' := ⟨fun pins s σ H Q I q => h.run pins s σ H Q I (hi σ H Q q)⟩
theorem _root_.L2.PI.imp {X : Cx} {tg e : Expr} {t t' : TI} (h : PI X tg e t) (hi : ∀ σ H R, t' σ H R → t σ H R) : PI X tg e t' := ⟨fun pins s σ H Q I q => h.run pins s σ H Q I (hi σ H Q q)⟩

/-! ### comprehensions -/
section
variable {X : Cx} {Z : Wd} {W W' : XK} {C : Ctx} {elt tg iter : Expr} {scope : Scope} {pos : Pos} {own : List (Str × Nat)} {t : Tg} {A : E} {src : It}
/-- a turn -/
def turnF (C : Ctx) (t : Tg) (own : List Nat) (c : MP.Env → Sto → R Bool) (A : E) (ρ : MP.Env) (x : D) (st : Sto) : R (Option D) := match asgT t x (wipeE ρ own) st with
  | some ρ' => (c ρ' st).bind fun b st => if b = true then (evE C A ρ' st).bind fun y st => .ok (some y) st else .ok none st
  | none => .bad
/-- the loop, behind the iterator -/
def compL (C : Ctx) (t : Tg) (own : List Nat) (c : MP.Env → Sto → R Bool) (A : E) (src : It) (ρ : MP.Env) (st : Sto) : R (List D) :=
  (evIt C src ρ st).bind fun s st => lcL (turnF C t own c A ρ) s.same s.items [] st
def tU (P : Program) (w : World) (Z : Wd) (W : XK) (f : MP.Env → Sto → R (List D)) : TE := fun σ H Q => ∃ H0, (∀ p, H p = none → H0 p = none) ∧ tG P w Z W (RQL Z H0) f σ H Q
theorem lc_imp {c : MP.Env → Sto → R Bool} (hin : tgIn t (own.map (·.2)) = true) {σ : St} {H : Hp} {Q : VK} (h : tU X.prog X.w Z W (compL C t (own.map (·.2)) c A src) σ H Q) :
    tLc (tI X.prog X.w Z W (evIt C src)) (gT X.prog X.w Z t) (tT X.prog X.w Z W' c) (tE X.prog X.w Z W' (evE C A)) (own.map (·.2)) σ H Q := by
  obtain ⟨H0, h0, μ, ρ, st, e, S, p⟩ := h
  refine ⟨μ, ρ, st, e, S, (Pst.bind (RR := RI X.prog X.w Z) p).mono fun s1 st1 J H1 μ1 ⟨ev1, S1, ri, p1⟩ => ?_⟩
  have e1 := e.mono ev1 S.nt
  have hn1 : ∀ p, H1 p = none → H0 p = none := fun p hp => h0 p (ev1.back S1 hp)
  intro D hD
  have hDm := S1.fresh hD
  refine ⟨fun i m H2 => ∃ μ2 st2 accD accV, i ≤ s1.items.length ∧ m = s1.items.length - i ∧ Ev H1 μ1 H2 μ2 ∧ SRep X.prog X.w Z H2 μ2 st2 ∧ D ∉ μ2 ∧ H2 D = some (.lst accV) ∧ RepL Z H2 μ2 accV accD ∧
    Pst X.prog X.w Z W H1 μ1 (RQL Z H0) (lcL (turnF C t (own.map (·.2)) c A ρ) s1.same (s1.items.drop i) accD st2) fun _ _ v H' _ => Q v H', ⟨_, μ1, st1, [], [], Nat.zero_le _, rfl, Ev.tmp hD, S1.tmp hD, hDm, upd_same, .nil, p1⟩, ?_⟩
  rintro i m H2 ⟨μ2, st2, accD, accV, hi, rfl, ev2, S2, hm2, h2, racc, p2⟩
  have e2 := e1.mono ev2 S1.nt
  cases hd : s1.items.drop i with
  | nil =>
    have hlen : i = s1.items.length := by
      have := congrArg List.length hd
      simp at this
      omega
    rw [hd] at p2
    simp only [lcL] at p2
    split at p2
    · rename_i hsame
      refine .inl ⟨hlen ▸ (ri H2 μ2 st2 ev2 S2 hsame).2, ?_⟩
      exact p2 (.ref D) H2 μ2 ev2 S2 ⟨D, accV, rfl, h2, hm2, hn1 D hD, racc⟩
    · exact False.elim p2
  | cons x xs =>
    have hx : s1.items[i]? = some x := by
      have := congrArg (·[0]?) hd
      simpa using this
    have hxs : s1.items.drop (i + 1) = xs := by
      have := congrArg (List.drop 1) hd
      simpa [List.drop_drop] using this
    have hlt : i < s1.items.length := (List.getElem?_eq_some_iff.mp hx).1
    rw [hd] at p2
    simp only [lcL] at p2
    split at p2
    · rename_i hsame
      obtain ⟨go, yl⟩ := (ri H2 μ2 st2 ev2 S2 hsame).1 i x hx
      refine .inr ⟨go, _, fun H' h => ⟨s1.items.length - (i + 1), by omega, h⟩, fun v H3 hy => ?_⟩
      obtain ⟨ev3, S3, rx⟩ := yl v H3 hy
      have ev13 := ev2.trans ev3
      have e3 := e1.mono ev13 S1.nt
      have h3 : H3 D = some (.lst accV) := ev3.keep D _ hm2 h2
      have racc3 := racc.mono ev3 S2.nt
      cases ha : asgT t x (wipeE ρ (own.map (·.2))) st2 with
      | none =>
        simp only [turnF, ha] at p2
        exact False.elim p2
      | some ρ' =>
        simp only [turnF, ha] at p2
        refine ⟨μ2, wipeE ρ (own.map (·.2)), st2, x, ρ', e3.wipe _, S3, rx, ha, fun σ' e' agree => ⟨?_, ?_⟩⟩
        · rw [agree _ hin]
          have idem : ∀ (own : List Nat) (σ : St), wipe (wipe σ own) own = wipe σ own := by
            intro own
            induction own with
            | nil => intro σ; rfl
            | cons o r ih =>
              intro σ
              simp only [wipe]
              have gen : ∀ (r : List Nat) (σ : St), wipe (σ.set o none) r = (wipe σ r).set o none := by
                intro r
                induction r with
                | nil => intro σ; rfl
                | cons q r ih =>
                  intro σ
                  simp only [wipe, ih]
                  by_cases hq : o = q
                  · subst hq; simp
                  · exact List.set_comm _ _ hq
              rw [gen, ih]
              simp
          exact idem _ _
        · -- the test
          refine ⟨μ2, ρ', st2, e', S3, ?_⟩
          cases hcr : c ρ' st2 with
          | bad => rw [hcr] at p2; exact False.elim p2
          | exc cc fs s3 => rw [hcr] at p2; exact False.elim p2
          | ok b st3 =>
            intro b' H4 μ4 ev4 S4 hb
            have hb : b' = b := hb
            subst hb
            simp only [hcr, R.bind_ok] at p2
            have ev14 := ev13.trans ev4
            have h4 : H4 D = some (.lst accV) := ev4.keep D _ hm2 h3
            have hm4 : D ∉ μ4 := fun hm => by
              obtain ⟨⟨ν, rfl, hν⟩, _⟩ := ev4
              rcases List.mem_append.mp hm with hm | hm
              · exact hm2 hm
              · have := (hν D hm).2; rw [h3] at this; cases this
            have racc4 := racc3.mono ev4 S3.nt
            cases b' with
            | false =>
              simp only [Bool.false_eq_true, if_false] at p2 ⊢
              exact ⟨μ4, st3, accD, accV, hlt, trivial, ev14, S4, hm4, h4, racc4, by rw [hxs]; exact p2⟩
            | true =>
              simp only [if_true] at p2 ⊢
              refine ⟨μ4, ρ', st3, e'.mono ev4 S3.nt, S4, ?_⟩
              cases her : evE C A ρ' st3 with
              | bad => rw [her] at p2; exact False.elim p2
              | exc cc fs s3 => rw [her] at p2; exact False.elim p2
              | ok y st5 =>
                intro yv H5 μ5 ev5 S5 ry
                simp only [her, R.bind_ok] at p2
                have h5 : H5 D = some (.lst accV) := ev5.keep D _ hm4 h4
                have hm5 : D ∉ μ5 := fun hm => by
                  obtain ⟨⟨ν, rfl, hν⟩, _⟩ := ev5
                  rcases List.mem_append.mp hm with hm | hm
                  · exact hm4 hm
                  · have := (hν D hm).2; rw [h4] at this; cases this
                have racc5 := racc4.mono ev5 S4.nt
                split at p2
                · rename_i hl
                  refine ⟨accV, h5, by rw [racc5.length, ← LINE_eq]; exact hl, ?_⟩
                  have g : Gen Z H5 μ5 (upd H5 D (.lst (accV ++ [yv]))) μ5 := Gen.poke (fun xs h => by
                    rcases h with h | ⟨o, h⟩ <;> rw [h5] at h <;> cases h) (fun o xs h => by rw [h5] at h; cases h)
                  exact ⟨μ5, st5, accD ++ [y], accV ++ [yv], hlt, trivial, (ev14.trans ev5).poke' hD, S5.gen g fun a ha => upd_ne fun e => hm5 (e ▸ ha), hm5, upd_same, (racc5.snoc ry).gen g, by rw [hxs]; exact p2⟩
                · exact False.elim p2
    · exact False.elim p2
theorem u_lc {ifs : List Expr} {c : MP.Env → Sto → R Bool} (hZ : Z.K = X.K) (hc : X.calm = true) (hN : X.N.Nodup) (hi : PI X tg iter (tI X.prog X.w Z W (evIt C src))) (ok : BlkOk X.N X.env.scope scope own) (hin : tgIn t (own.map (·.2)) = true)
    (hg : ∀ (s : Shared) (H : Hp) (C : Addr) (cl : List (Str × Addr)) (fp : List Addr), PG (X.blk s H scope (compEnvC scope cl C X.env) fp) tg (gT X.prog X.w Z t))
    (ht : ∀ (s : Shared) (H : Hp) (C' : Addr) (cl : List (Str × Addr)) (fp : List Addr), PTs (X.blk s H scope (compEnvC scope cl C' X.env) fp) ifs (tT X.prog X.w Z W' c))
    (he : ∀ (s : Shared) (H : Hp) (C' : Addr) (cl : List (Str × Addr)) (fp : List Addr), SE (X.blk s H scope (compEnvC scope cl C' X.env) fp) Z W' C elt A)
    (hs : ∀ x, foldedSetIterable iter X.env x = pure x) : PE X (.ListComp elt [⟨tg, iter, ifs, 0⟩] scope pos) (tU X.prog X.w Z W (compL C t (own.map (·.2)) c A src)) := by
  exact (pe_lc (te := tE X.prog X.w Z W' (evE C A)) hc hN hi ok hg ht he hs).imp fun σ H Q h => lc_imp hin h
theorem u_setLc {i : Nat} {y : Str} {py spos : Pos} {ifs : List Expr} {c : MP.Env → Sto → R Bool} (hZ : Z.K = X.K) (hc : X.calm = true) (hN : X.N.Nodup) (hy : X.N[i]? = some y) (hyl : X.env.scope.names.lookup y = some .local)
    (hsw : swapsWith (.ListComp elt [⟨tg, iter, ifs, 0⟩] scope pos) (some (.Name y py)) spos.line X.env = pure true) (hi : PI X tg iter (tI X.prog X.w Z W (evIt C src))) (ok : BlkOk X.N X.env.scope scope own) (hin : tgIn t (own.map (·.2)) = true)
    (hg : ∀ (s : Shared) (H : Hp) (C : Addr) (cl : List (Str × Addr)) (fp : List Addr), PG (X.blk s H scope (compEnvC scope cl C X.env) fp) tg (gT X.prog X.w Z t))
    (ht : ∀ (s : Shared) (H : Hp) (C' : Addr) (cl : List (Str × Addr)) (fp : List Addr), PTs (X.blk s H scope (compEnvC scope cl C' X.env) fp) ifs (tT X.prog X.w Z W' c))
    (he : ∀ (s : Shared) (H : Hp) (C' : Addr) (cl : List (Str × Addr)) (fp : List Addr), SE (X.blk s H scope (compEnvC scope cl C' X.env) fp) Z W' C elt A)
    (hs : ∀ x, foldedSetIterable iter X.env x = pure x) : PS X (.Assign [.Name y py] (.ListComp elt [⟨tg, iter, ifs, 0⟩] scope pos) spos) (tAsg (tU X.prog X.w Z W (compL C t (own.map (·.2)) c A src)) (gName i)) := by
  exact (ps_setLc (te := tE X.prog X.w Z W' (evE C A)) hc hN hy hyl hsw hi ok hg ht he hs).imp fun D σ H h => lc_imp hin h
theorem rql_back {P : Program} {w : World} {H H0 : Hp} {μ : List Addr} {st : Sto} {n : Nat} {kvs : List (D × D)} {d : Addr} {u : HO} {od : Obj} (L : Lk P w Z H μ st n kvs d u) : ∀ H' μ' v x, Ev (upd H d (.frz od u)) μ H' μ' → H' d = some (.frz od u) → RQL Z H0 H' μ' v x → RQL Z H0 (upd H' d u) μ' v x := by
  intro H' μ' v x ev hd r
  obtain ⟨a, xs, e, h1, hm, h0, rl⟩ := r
  have na : a ≠ d := fun e => by rw [e, hd] at h1; cases h1
  exact ⟨a, xs, e, by rw [upd_ne na]; exact h1, hm, h0, rl.gen (L.gen hd)⟩
/-- with the lock -/
theorem q_held {e : Expr} {f : MP.Env → Sto → R (List D)} (h : PE X e (tU X.prog X.w Z W f)) : PE X e (fun σ H Q => tG X.prog X.w Z W (RQL Z H) (fun ρ st => held (evLk C src ρ st) (f ρ) st) σ H Q) := by
  refine (h.or (pe_lock h)).imp fun σ H Q h => ?_
  obtain ⟨μ, ρ, st, e, S, p⟩ := h
  have p : Pst X.prog X.w Z W H μ (RQL Z H) (held (evLk C src ρ st) (f ρ) st) fun _ _ v H' _ => Q v H' := p
  cases hl : evLk C src ρ st with
  | none => rw [hl] at p; exact .inl ⟨H, fun _ hp => hp, μ, ρ, st, e, S, p⟩
  | some nk =>
    obtain ⟨n, kvs⟩ := nk
    rw [hl] at p
    obtain ⟨d, u, L⟩ := Lk.of S (evLk_k hl)
    refine .inr ⟨d, u, L.hu, L.mut, fun od => ⟨H, fun p hp => ?_, μ, ρ, st.set n (.fdct kvs), e.mono L.ev S.nt, L.lock S, (Pst.held L S (rql_back L) p).mono fun x st' v H' μ' q => q⟩⟩
    by_cases hpd : p = d
    · rw [hpd, upd_same] at hp; cases hp
    · rw [upd_ne hpd] at hp; exact hp
theorem _root_.L2.PS.or {X : Cx} {e : Stmt} {t t' : TS} (h : PS X e t) (h' : PS X e t') : PS X e (fun D σ H => t D σ H ∨ t' D σ H) := ⟨fun pins s σ H D I q => q.elim (h.run pins s σ H D I) (h'.run pins s σ H D I)⟩
theorem q_heldS {i : Nat} {e : Stmt} {f : MP.Env → Sto → R (List D)} (h : PS X e (tAsg (tU X.prog X.w Z W f) (gName i))) : PS X e (tAsg (fun σ H Q => tG X.prog X.w Z W (RQL Z H) (fun ρ st => held (evLk C src ρ st) (f ρ) st) σ H Q) (gName i)) := by
  refine (h.or (ps_lock h)).imp fun D σ H h => ?_
  obtain ⟨μ, ρ, st, e, S, p⟩ := h
  have p : Pst X.prog X.w Z W H μ (RQL Z H) (held (evLk C src ρ st) (f ρ) st) fun _ _ v H' _ => gName i v σ H' D.nx := p
  cases hl : evLk C src ρ st with
  | none => rw [hl] at p; exact .inl ⟨H, fun _ hp => hp, μ, ρ, st, e, S, p⟩
  | some nk =>
    obtain ⟨n, kvs⟩ := nk
    rw [hl] at p
    obtain ⟨d, u, L⟩ := Lk.of S (evLk_k hl)
    refine .inr ⟨d, u, L.hu, L.mut, fun od => ⟨H, fun p hp => ?_, μ, ρ, st.set n (.fdct kvs), e.mono L.ev S.nt, L.lock S, (Pst.held L S (rql_back L) p).mono fun x st' v H' μ' q => q⟩⟩
    by_cases hpd : p = d
    · rw [hpd, upd_same] at hp; cases hp
    · rw [upd_ne hpd] at hp; exact hp
/-- the two comprehensions of MP -/
theorem ev_lc {t : Tg} {own : List Nat} {A : E} {src : It} (ρ : MP.Env) (st : Sto) : evQ C (.lc A own t src) ρ st = held (evLk C src ρ st) (compL C t own (fun _ st => .ok true st) A src ρ) st := by
  simp only [evQ]
  rfl
theorem ev_lci {t : Tg} {own : List Nat} {A : E} {src : It} {c : Cd} (ρ : MP.Env) (st : Sto) : evQ C (.lci A own t src c) ρ st = held (evLk C src ρ st) (compL C t own (evC C c) A src ρ) st := by
  simp only [evQ]
  rfl
end
end MP

set_option Elab.async false
set_option linter.all false
set_option maxRecDepth 100000
set_option maxHeartbeats 4000000
/-! MP: statements. -/
namespace MP
open PySem PySem.Spec L2
open PyProof.Rows hiding St

/-- how a statement ends -/
inductive FV where
  | nx (σ : St) | rt (v : V) | bk (σ : St) | ct (σ : St)
def RF (Z : Wd) : Hp → List Addr → FV → Fl × MP.Env → Prop := fun H μ v r => match v, r.1 with
  | .nx σ, .next => ERep Z H μ σ r.2
  | .rt v, .ret d => Rep Z H μ v d
  | .bk σ, .brk => ERep Z H μ σ r.2
  | .ct σ, .cont => ERep Z H μ σ r.2
  | _, _ => False
def endK (D : Ends) : FV → Hp → Prop
  | .nx σ, H => D.nx σ H
  | .rt v, H => D.rt v H
  | .bk σ, H => D.bk σ H
  | .ct σ, H => D.ct σ H
abbrev tS (P : Program) (w : World) (Z : Wd) (W : XK) (f : MP.Env → Sto → R (Fl × MP.Env)) : TS := fun D σ H => tG P w Z W (RF Z) f σ H (endK D)
section
variable {X : Cx} {Z : Wd} {W W' : XK} {C : Ctx} {st : Stmt} {pos : Pos}
abbrev SS (X : Cx) (Z : Wd) (W : XK) (C : Ctx) (s : Stmt) (A : S) : Prop := PS X s (tS X.prog X.w Z W (evS C A))
abbrev SSs (X : Cx) (Z : Wd) (W : XK) (C : Ctx) (s : List Stmt) (A : Ss) : Prop := PSs X s (tS X.prog X.w Z W (evSs C A))
theorem Pst.nxt {P : Program} {w : World} {H : Hp} {μ : List Addr} {st : Sto} {ρ : MP.Env} {σ : St} {Q : Fl × MP.Env → Sto → FV → Hp → List Addr → Prop} (h : Pst P w Z W H μ (RF Z) (.ok (.next, ρ) st) Q) (S : SRep P w Z H μ st) (e : ERep Z H μ σ ρ) : Q (.next, ρ) st (.nx σ) H μ := h _ H μ Ev.refl S e
/-- .. and so on -/
theorem ss_nil : SSs X Z W C [] .nil := pss_nil.imp fun D σ H h => by
  obtain ⟨μ, ρ, st, e, s, p⟩ := h
  simp only [evSs] at p
  exact p.nxt s e
theorem rf_next {H : Hp} {μ : List Addr} {σ : St} {r : Fl × MP.Env} (h : RF Z H μ (.nx σ) r) : r.1 = .next ∧ ERep Z H μ σ r.2 := by
  unfold RF at h
  split at h <;> first | (rename_i e1 e2; cases e1; exact ⟨e2, h⟩) | (rename_i e1 e2; cases e1; done) | exact False.elim h
theorem ss_cons {s : Stmt} {r : List Stmt} {A : S} {B : Ss} (ha : SS X Z W C s A) (hb : SSs X Z W C r B) : SSs X Z W C (s :: r) (.cons A B) := (pss_cons ha hb).imp fun D σ H h => by
  obtain ⟨μ, ρ, st, e, s, p⟩ := h
  simp only [evSs] at p
  refine ⟨μ, ρ, st, e, s, (Pst.bind (RR := RF Z) p).mono fun f st1 v H1 μ1 ⟨ev, s1, rf, p1⟩ => ?_⟩
  obtain ⟨fl, ρ1⟩ := f
  cases v with
  | nx σ1 =>
    cases fl with
    | next => exact ⟨μ1, ρ1, st1, rf, s1, p1⟩
    | _ => exact False.elim rf
  | rt v =>
    cases fl with
    | ret d => exact p1 (.rt v) H1 μ1 Ev.refl s1 rf
    | _ => exact False.elim rf
  | bk σ1 =>
    cases fl with
    | brk => exact p1 (.bk σ1) H1 μ1 Ev.refl s1 rf
    | _ => exact False.elim rf
  | ct σ1 =>
    cases fl with
    | cont => exact p1 (.ct σ1) H1 μ1 Ev.refl s1 rf
    | _ => exact False.elim rf
theorem ss_pass : SS X Z W C (.Pass pos) .pass := ps_pass.imp fun D σ H h => by
  obtain ⟨μ, ρ, st, e, s, p⟩ := h
  simp only [evS] at p
  exact p.nxt s e
theorem ss_brk : SS X Z W C (.Break pos) .brk := ps_break.imp fun D σ H h => by
  obtain ⟨μ, ρ, st, e, s, p⟩ := h
  simp only [evS] at p
  exact p (.bk σ) H μ Ev.refl s e
theorem ss_cont : SS X Z W C (.Continue pos) .cont := ps_continue.imp fun D σ H h => by
  obtain ⟨μ, ρ, st, e, s, p⟩ := h
  simp only [evS] at p
  exact p (.ct σ) H μ Ev.refl s e
theorem ss_retN : SS X Z W C (.Return none pos) .retN := ps_retN.imp fun D σ H h => by
  obtain ⟨μ, ρ, st, e, s, p⟩ := h
  simp only [evS] at p
  exact p (.rt .non) H μ Ev.refl s .non
theorem ss_ret {e : Expr} {A : E} (ha : SE X Z W C e A) : SS X Z W C (.Return (some e) pos) (.ret A) := (ps_ret ha).imp fun D σ H h => by
  obtain ⟨μ, ρ, st, e, s, p⟩ := h
  simp only [evS] at p
  exact ⟨μ, ρ, st, e, s, (Pst.bind (RR := RV Z) p).mono fun d st1 v H1 μ1 ⟨ev, s1, r1, p1⟩ => p1 (.rt v) H1 μ1 Ev.refl s1 r1⟩
theorem ss_exp {e : Expr} {A : E} (ha : SE X Z W C e A) (hs : swapsWith e none pos.line X.env = pure false) : SS X Z W C (.Expr e pos) (.exp A) := (ps_expr ha hs).imp fun D σ H h => by
  obtain ⟨μ, ρ, st, e, s, p⟩ := h
  simp only [evS] at p
  exact ⟨μ, ρ, st, e, s, (Pst.bind (RR := RV Z) p).mono fun d st1 v H1 μ1 ⟨ev, s1, r1, p1⟩ => p1.nxt s1 (e.mono ev s.nt)⟩
theorem ss_if {c : Expr} {a b : List Stmt} {K : Cd} {A B : Ss} (hc : ST X Z W C c K) (ha : SSs X Z W C a A) (hb : SSs X Z W C b B) : SS X Z W C (.If c a b pos) (.ite K A B) := (ps_if hc ha hb).imp fun D σ H h => by
  obtain ⟨μ, ρ, st, e, s, p⟩ := h
  simp only [evS] at p
  refine ⟨μ, ρ, st, e, s, (Pst.bind (RR := RB) p).mono fun t st1 v H1 μ1 ⟨ev, s1, r1, p1⟩ => ?_⟩
  have r1 : v = t := r1
  subst r1
  cases v with
  | true => simp only [if_true] at p1 ⊢; exact ⟨μ1, ρ, st1, e.mono ev s.nt, s1, p1⟩
  | false => simp only [Bool.false_eq_true, if_false] at p1 ⊢; exact ⟨μ1, ρ, st1, e.mono ev s.nt, s1, p1⟩
theorem asg_imp {t : Tg} {A : E} {D : Ends} {σ : St} {H : Hp} (h : tS X.prog X.w Z W (evS C (.asg t A)) D σ H) : tAsg (tE X.prog X.w Z W (evE C A)) (gT X.prog X.w Z t) D σ H := by
  obtain ⟨μ, ρ, st, e, s, p⟩ := h
  simp only [evS] at p
  refine ⟨μ, ρ, st, e, s, (Pst.bind (RR := RV Z) p).mono fun d st1 v H1 μ1 ⟨ev, s1, r1, p1⟩ => ?_⟩
  cases ha : asgT t d ρ st1 with
  | none => rw [ha] at p1; exact False.elim p1
  | some ρ' =>
    rw [ha] at p1
    exact ⟨μ1, ρ, st1, d, ρ', e.mono ev s.nt, s1, r1, ha, fun σ' e' _ => p1 (.nx σ') H1 μ1 Ev.refl s1 e'⟩
theorem ss_asg {tg e : Expr} {t : Tg} {A : E} (hg : PG X tg (gT X.prog X.w Z t)) (he : SE X Z W C e A) (hs : swapsWithSole [tg] e pos.line X.env = pure false) (hw : swappedStores [tg] e X.env = pure none) (h1 : (assignEach [tg] X.env).map (·.2) = [assign tg X.env]) : SS X Z W C (.Assign [tg] e pos) (.asg t A) :=
  (ps_asg he hg hs hw h1).imp fun _ _ _ h => asg_imp h
/-- name = [..] -/
theorem ss_asgQ {s : Stmt} {i : Nat} {q : Q} (hq : q.fresh = true) (h : PS X s (tAsg (fun σ H Q => tG X.prog X.w Z W (RQL Z H) (evQ C q) σ H Q) (gName i))) : SS X Z W C s (.asg (.name i) (.ofQ q)) := h.imp fun D σ H h => by
  have h := asg_imp h
  have h2 : tE X.prog X.w Z W (evE C (.ofQ q)) σ H fun x H1 => gName i x σ H1 D.nx := by
    obtain ⟨μ, ρ, st, e, s, p⟩ := h
    refine ⟨μ, ρ, st, e, s, p.mono fun d st1 v H1 μ1 g => ?_⟩
    obtain ⟨μ2, ρ2, st2, d2, ρ', e2, s2, r2, ha, q2⟩ := g
    cases ha
    exact q2 _ (e2.set r2) fun own ho => wipe_set own σ (by simpa [tgIn] using ho)
  have h3 := ofQ_imp hq h2
  have h3 : tG X.prog X.w Z W (q.rel Z H) (evQ C q) σ H fun x H1 => gName i x σ H1 D.nx := h3
  rw [rel_fresh hq] at h3
  exact h3
/-! ### o[i] = v -/
def rSet (P : Program) (w : World) (Z : Wd) : TSet := fun o i v H Q => ∃ μ d1 d2 d3 st st', SRep P w Z H μ st ∧ Rep Z H μ o d1 ∧ Rep Z H μ i d2 ∧ Rep Z H μ v d3 ∧ setIxD d1 d2 d3 st = some st' ∧ ∀ H', Ev H μ H' μ → SRep P w Z H' μ st' → Q H'
theorem set_ok (hZ : Z.K = X.K) (hu : X.A.units + 64 < cLine) : PSet X (rSet X.prog X.w Z) := by
  intro pins s σ H o i v ov iv u Q I ro ri rv ⟨μ, d1, d2, d3, st, st', S, q1, q2, q3, hs, hq⟩
  cases d1 with
  | ref n =>
    cases q1 with
    | @ref _ a hm =>
      simp only [setIxD] at hs
      split at hs
      · rename_i ds e
        obtain ⟨xs, h1, rl⟩ := S.lst hm e
        split at hs
        · rename_i j
          obtain ⟨k, e1, e2⟩ := Option.map_eq_some_iff.mp hs
          subst e2
          cases q2
          have ev : Ev H μ (upd H a (.lst (xs.set k v))) μ := Ev.write (List.mem_of_getElem? hm) (.of h1 (by simp))
          refine set_list pins s σ H _ _ _ ov iv u Q I ro ri rv ⟨a, xs, j, k, rfl, rfl, h1, by rw [rl.length]; exact e1, ?_⟩
          exact hq _ ev (S.write hm (.of h1 (by simp)) ⟨_, upd_same, (rl.set q3 k).mono ev S.nt⟩)
        · cases hs
      · rename_i kvs e
        obtain ⟨k, e1, e2⟩ := Option.bind_eq_some_iff.mp hs
        split at e2
        · rename_i hk
          simp only [Bool.and_eq_true, decide_eq_true_eq] at hk
          cases e2
          obtain ⟨u', h1, hd⟩ := S.ob n _ a e hm
          cases (show ov = Value.ref a from ro)
          have nf : ∀ o v, u' ≠ .frz o v := by
            rcases hd with ⟨es, rfl, _⟩ | ⟨es, rfl, _, _⟩ <;> intro o v e <;> cases e
          refine q_set hZ hu I h1 hd q2 ri q3 rv e1 hk.1 hk.2 fun s' u2 I' hd' => ⟨_, I', ?_⟩
          have ev : Ev H μ (upd H a u2) μ := Ev.write (List.mem_of_getElem? hm) (.of h1 nf)
          refine hq _ ev (S.write hm (.of h1 nf) ⟨u2, upd_same, ?_⟩)
          rcases hd' with ⟨es, rfl, r⟩ | ⟨es, rfl, ne, r⟩
          · exact .inl ⟨es, rfl, r.mono ev S.nt⟩
          · exact .inr ⟨es, rfl, ne, r.mono ev S.nt⟩
        · cases e2
      · cases hs
  | _ => simp [setIxD] at hs
theorem ss_setIx {o i v : Expr} {O I' V' : E} {p : Pos} (hZ : Z.K = X.K) (hu : X.A.units + 64 < cLine) (ho : SE X Z W C o O) (hi : SE X Z W C i I') (hv : SE X Z W C v V')
    (ha : ∀ u, assign (.Subscript o i p) X.env u = (do
      let ov ← holding [u] (eval o X.env)
      let iv ← holding [u, ov] (eval i X.env)
      standAt p
      holding [u, ov, iv] (setItem ov iv u)
      release [u, ov, iv] []))
    (hs : swapsWithSole [.Subscript o i p] v pos.line X.env = pure false) (hw : swappedStores [.Subscript o i p] v X.env = pure none) (h1 : (assignEach [.Subscript o i p] X.env).map (·.2) = [assign (.Subscript o i p) X.env]) : SS X Z W C (.Assign [.Subscript o i p] v pos) (.setIx O I' V') :=
  (ps_asg hv (pg_sub ho hi (set_ok hZ hu) ha) hs hw h1).imp fun D σ H h => by
    obtain ⟨μ, ρ, st, e, s, p⟩ := h
    simp only [evS] at p
    refine ⟨μ, ρ, st, e, s, (Pst.bind (RR := RV Z) p).mono fun d1 st1 v1 H1 μ1 ⟨ev1, s1, r1, p1⟩ => ?_⟩
    have e1 := e.mono ev1 s.nt
    refine ⟨μ1, ρ, st1, e1, s1, (Pst.bind (RR := RV Z) p1).mono fun d2 st2 v2 H2 μ2 ⟨ev2, s2, r2, p2⟩ => ?_⟩
    have e2 := e1.mono ev2 s1.nt
    refine ⟨μ2, ρ, st2, e2, s2, (Pst.bind (RR := RV Z) p2).mono fun d3 st3 v3 H3 μ3 ⟨ev3, s3, r3, p3⟩ => ?_⟩
    have e3 := e2.mono ev3 s2.nt
    cases hx : setIxD d2 d3 d1 st3 with
    | none => rw [hx] at p3; exact False.elim p3
    | some st' =>
      rw [hx] at p3
      exact ⟨μ3, d2, d3, d1, st3, st', s3, r2.mono ev3 s2.nt, r3, (r1.mono ev2 s1.nt).mono ev3 s2.nt, hx, fun H' ev s' => p3 (.nx σ) H' μ3 ev s' (e3.mono ev s3.nt)⟩
/-! ### in place -/
def rAug (P : Program) (w : World) (Z : Wd) (W : XK) (o : Op2) : TIp := fun x y H Q => ∃ μ d1 d2 st, SRep P w Z H μ st ∧ Rep Z H μ x d1 ∧ Rep Z H μ y d2 ∧ Pst P w Z W H μ (RV Z) (augD o d1 d2 st) fun _ _ v H' _ => Q v H'
theorem augD_k {o : Op2} {a b : D} {st : Sto} : augD o a b st = .bad ∨ (∃ i j, o = .add ∧ a = .int i ∧ b = .int j ∧ augD o a b st = .ok (.int (i + j)) st) ∨ (∃ x y, o = .add ∧ a = .str x ∧ b = .str y ∧ augD o a b st = addD a b st) ∨
    (∃ i j, o = .sub ∧ a = .int i ∧ b = .int j ∧ augD o a b st = .ok (.int (i - j)) st) ∨ (∃ i j, o = .mul ∧ a = .int i ∧ b = .int j ∧ augD o a b st = mulD a b st) := by
  unfold augD
  split
  · exact .inr (.inl ⟨_, _, rfl, rfl, rfl, rfl⟩)
  · exact .inr (.inr (.inl ⟨_, _, rfl, rfl, rfl, rfl⟩))
  · exact .inr (.inr (.inr (.inl ⟨_, _, rfl, rfl, rfl, rfl⟩)))
  · exact .inr (.inr (.inr (.inr ⟨_, _, rfl, rfl, rfl, rfl⟩)))
  · exact .inl rfl
theorem aug_add : PIp X .Add (rAug X.prog X.w Z W .add) := by
  intro pins s σ H x y v u Q I rx ry ⟨μ, d1, d2, st, S, q1, q2, h⟩
  rcases augD_k (o := .add) (a := d1) (b := d2) (st := st) with e | ⟨i, j, _, rfl, rfl, e⟩ | ⟨i, j, _, rfl, rfl, e⟩ | ⟨_, _, z, _⟩ | ⟨_, _, z, _⟩
  · rw [e] at h; exact False.elim h
  · rw [e] at h
    cases q1
    cases q2
    exact iop_add pins s σ H _ _ v u Q I rx ry ⟨i, j, rfl, rfl, Pst.fin h S (.int _)⟩
  · rw [e] at h
    cases q1
    cases q2
    simp only [addD] at h
    split at h
    · rename_i hl
      exact iop_add_str pins s σ H _ _ v u Q I rx ry ⟨i, j, rfl, rfl, by rw [← LINE_eq]; exact hl, Pst.fin h S (.str _)⟩
    · exact False.elim h
  · cases z
  · cases z
theorem aug_sub : PIp X .Sub (rAug X.prog X.w Z W .sub) := by
  intro pins s σ H x y v u Q I rx ry ⟨μ, d1, d2, st, S, q1, q2, h⟩
  rcases augD_k (o := .sub) (a := d1) (b := d2) (st := st) with e | ⟨_, _, z, _⟩ | ⟨_, _, z, _⟩ | ⟨i, j, _, rfl, rfl, e⟩ | ⟨_, _, z, _⟩
  · rw [e] at h; exact False.elim h
  · cases z
  · cases z
  · rw [e] at h
    cases q1
    cases q2
    exact iop_sub pins s σ H _ _ v u Q I rx ry ⟨i, j, rfl, rfl, Pst.fin h S (.int _)⟩
  · cases z
theorem aug_mul : PIp X .Mult (rAug X.prog X.w Z W .mul) := by
  intro pins s σ H x y v u Q I rx ry ⟨μ, d1, d2, st, S, q1, q2, h⟩
  rcases augD_k (o := .mul) (a := d1) (b := d2) (st := st) with e | ⟨_, _, z, _⟩ | ⟨_, _, z, _⟩ | ⟨_, _, z, _⟩ | ⟨i, j, _, rfl, rfl, e⟩
  · rw [e] at h; exact False.elim h
  · cases z
  · cases z
  · cases z
  · rw [e] at h
    cases q1
    cases q2
    simp only [mulD] at h
    split at h
    · rename_i hk
      exact iop_mul pins s σ H _ _ v u Q I rx ry ⟨i, j, rfl, rfl, mulOk_iff hk, Pst.fin h S (.int _)⟩
    · exact False.elim h
theorem ss_aug {i : Nat} {x : Str} {e : Expr} {A : E} {o : Op2} {op : Operator} {p : Pos} (hN : X.N.Nodup) (hi : X.N[i]? = some x) (hx : Loc X.env.scope x) (hf : X.fn x = true ∨ X.env.scope.names.lookup x = some .local) (ho : PIp X op (rAug X.prog X.w Z W o)) (he : SE X Z W C e A) : SS X Z W C (.AugAssign (.Name x p) op e pos) (.aug i o A) :=
  (ps_aug hN hi hx he ho hf).imp fun D σ H h => by
    obtain ⟨μ, ρ, st, e, s, p⟩ := h
    simp only [evS] at p
    split at p
    · rename_i a ha
      obtain ⟨v, h1, h2⟩ := e.at_ i a ha
      refine ⟨v, h1, μ, ρ, st, e, s, (Pst.bind (RR := RV Z) p).mono fun d1 st1 v1 H1 μ1 ⟨ev1, s1, r1, p1⟩ => ?_⟩
      exact ⟨μ1, a, d1, st1, s1, h2.mono ev1 s.nt, r1, (Pst.bind (RR := RV Z) p1).mono fun d2 st2 v2 H2 μ2 ⟨ev2, s2, r2, p2⟩ => p2.nxt s2 (((e.mono ev1 s.nt).mono ev2 s1.nt).set r2)⟩
    · exact False.elim p
/-- name += [..] -/
theorem ss_ext {i : Nat} {x : Str} {e : Expr} {q : Q} {p : Pos} (hN : X.N.Nodup) (hi : X.N[i]? = some x) (hx : Loc X.env.scope x) (hf : X.fn x = true ∨ X.env.scope.names.lookup x = some .local) (hq : q.fresh = true) (he : SQ X Z W C e q) : SS X Z W C (.AugAssign (.Name x p) .Add e pos) (.ext i q) :=
  (ps_aug hN hi hx he (iop_ext : OpR X (inplaceOp .Add) rExt2) hf).imp fun D σ H h => by
    obtain ⟨μ, ρ, st, e, s, p⟩ := h
    simp only [evS] at p
    split at p
    · rename_i a ha
      obtain ⟨v, h1, h2⟩ := e.at_ i a ha
      refine ⟨v, h1, μ, ρ, st, e, s, ?_⟩
      rw [rel_fresh hq]
      refine (Pst.bind (RR := RQL Z H) p).mono fun ds st1 v1 H1 μ1 ⟨ev1, s1, r1, p1⟩ => ?_
      obtain ⟨b, zs, rfl, hb, hm, _, rl⟩ := r1
      have h2' := h2.mono ev1 s.nt
      cases a with
      | ref n =>
        cases h2' with
        | @ref _ l hl =>
          simp only [extD] at p1
          cases ho : st1[n]? with
          | none => rw [ho] at p1; exact False.elim p1
          | some ob =>
            rw [ho] at p1
            cases ob with
            | lst xs =>
              obtain ⟨ys, h3, rl3⟩ := s1.lst hl ho
              by_cases hlen : xs.length + ds.length ≤ LINE
              · simp only [if_pos hlen] at p1
                have ev : Ev H1 μ1 (upd H1 l (.lst (ys ++ zs))) μ1 := Ev.write (List.mem_of_getElem? hl) (.of h3 (by simp))
                refine ⟨l, b, ys, zs, rfl, rfl, h3, hb, by rw [rl3.length, rl.length, ← LINE_eq]; exact hlen, ?_⟩
                have er := (e.mono ev1 s.nt).mono ev s1.nt
                have hset : σ.set i (some (.ref l)) = σ := by
                  apply List.ext_getElem?
                  intro j
                  by_cases hj : i = j
                  · subst hj
                    rw [List.getElem?_set_self (List.getElem?_eq_some_iff.mp h1).1, h1]
                  · rw [List.getElem?_set_ne hj]
                show D.nx (σ.set i (some (.ref l))) _
                rw [hset]
                exact p1 (.nx σ) _ μ1 ev (s1.write hl (.of h3 (by simp)) ⟨_, upd_same, (rl3.append rl).mono ev s1.nt⟩) er
              · simp only [if_neg hlen] at p1; exact False.elim p1
            | _ => exact False.elim p1
      | _ => exact False.elim p1
    · exact False.elim p
/-- a, b = x, y -/
theorem ss_par {i j : Nat} {x y : Str} {a b : Expr} {A B : E} {px py pt : Pos} {kt k2 pt2} (hc : X.calm = true) (hN : X.N.Nodup) (hi : X.N[i]? = some x) (hj : X.N[j]? = some y) (hij : i ≠ j)
    (hx : X.env.scope.names.lookup x = some .local) (hy : X.env.scope.names.lookup y = some .local) (ha : SA X Z W C [a, b] (.cons A (.cons B .nil)))
    (hw : swappedStores [.Tuple [.Name x px, .Name y py] kt pt] (.Tuple [a, b] k2 pt2) X.env = pure (some [x, y])) : SS X Z W C (.Assign [.Tuple [.Name x px, .Name y py] kt pt] (.Tuple [a, b] k2 pt2) pos) (.par [i, j] (.cons A (.cons B .nil))) :=
  (ps_par hc hN hi hj hij hx hy ha hw rfl).imp fun D σ H h => by
    obtain ⟨μ, ρ, st, e, s, p⟩ := h
    simp only [evS] at p
    refine ⟨μ, ρ, st, e, s, (Pst.bind (RR := RL Z) p).mono fun ds st1 vs H1 μ1 ⟨ev1, s1, r1, p1⟩ => ?_⟩
    have e1 := e.mono ev1 s.nt
    split at p1
    · rename_i hl
      match vs, ds, r1, hl with
      | [v, w], [d1, d2], .cons q1 (.cons q2 .nil), _ =>
        exact ⟨v, w, rfl, p1.nxt s1 ((e1.set q1).set q2)⟩
      | [], [], .nil, hl => simp at hl
      | [_], [_], .cons _ .nil, hl => simp at hl
      | _ :: _ :: _ :: _, _ :: _ :: _ :: _, _, hl => simp at hl
    · exact False.elim p1
/-! ### loops -/
theorem ss_while {c : Expr} {b : List Stmt} {K : Cd} {B : Ss} (hp : PassesOwn (model X.prog X.w) X.A X.env X.xe) (hc : ST X Z W C c K) (hb : SSs X Z W C b B) : SS X Z W C (.While c b [] pos) (.while K B) := (ps_while hp hc hb).imp fun D σ H h => by
  obtain ⟨μ, ρ, st, e, s, p⟩ := h
  simp only [evS] at p
  refine ⟨fun m σ H => ∃ μ ρ st, ERep Z H μ σ ρ ∧ SRep X.prog X.w Z H μ st ∧ Pst X.prog X.w Z W H μ (RF Z) (whileL (fun ρ st => evC C K ρ st) (fun ρ st => evSs C B ρ st) m ρ st) fun _ _ v H' _ => endK D v H', ⟨WF, μ, ρ, st, e, s, p⟩, ?_⟩
  rintro m σ H ⟨μ, ρ, st, e, s, p⟩
  cases m with
  | zero => exact False.elim p
  | succ m =>
    simp only [whileL] at p
    refine ⟨μ, ρ, st, e, s, (Pst.bind (RR := RB) p).mono fun t st1 v H1 μ1 ⟨ev1, s1, r1, p1⟩ => ?_⟩
    have r1 : v = t := r1
    subst r1
    have e1 := e.mono ev1 s.nt
    cases v with
    | false => simp only [Bool.false_eq_true, if_false] at p1 ⊢; exact p1.nxt s1 e1
    | true =>
      simp only [if_true] at p1 ⊢
      refine ⟨_, fun σ' H' h => ⟨m, Nat.lt_succ_self m, h⟩, μ1, ρ, st1, e1, s1, (Pst.bind (RR := RF Z) p1).mono fun f st2 v H2 μ2 ⟨ev2, s2, rf, p2⟩ => ?_⟩
      obtain ⟨fl, ρ2⟩ := f
      cases v with
      | nx σ2 =>
        cases fl with
        | next => exact ⟨μ2, ρ2, st2, rf, s2, p2⟩
        | _ => exact False.elim rf
      | ct σ2 =>
        cases fl with
        | cont => exact ⟨μ2, ρ2, st2, rf, s2, p2⟩
        | _ => exact False.elim rf
      | bk σ2 =>
        cases fl with
        | brk => exact p2.nxt s2 rf
        | _ => exact False.elim rf
      | rt v =>
        cases fl with
        | ret d => exact p2 (.rt v) H2 μ2 Ev.refl s2 rf
        | _ => exact False.elim rf
def forB (C : Ctx) (t : Tg) (B : Ss) (src : It) (ρ : MP.Env) (st : Sto) : R (Fl × MP.Env) := (evIt C src ρ st).bind fun s st => forL (fun x ρ st => match asgT t x ρ st with
  | some ρ' => evSs C B ρ' st
  | none => .bad) s.same s.items ρ st
theorem for_imp {t : Tg} {B : Ss} {src : It} {D : Ends} {σ : St} {H : Hp} (h : tS X.prog X.w Z W (forB C t B src) D σ H) : tFor (tI X.prog X.w Z W (evIt C src)) (gT X.prog X.w Z t) (tS X.prog X.w Z W (evSs C B)) D σ H := by
  obtain ⟨μ, ρ, st, e, s, p⟩ := h
  refine ⟨μ, ρ, st, e, s, (Pst.bind (RR := RI X.prog X.w Z) p).mono fun s1 st1 J H1 μ1 ⟨ev1, S1, ri, p1⟩ => ?_⟩
  have e1 := e.mono ev1 s.nt
  refine ⟨fun i m σ H2 => ∃ μ2 ρ2 st2, i ≤ s1.items.length ∧ m = s1.items.length - i ∧ Ev H1 μ1 H2 μ2 ∧ ERep Z H2 μ2 σ ρ2 ∧ SRep X.prog X.w Z H2 μ2 st2 ∧
    Pst X.prog X.w Z W H2 μ2 (RF Z) (forL (fun x ρ st => match asgT t x ρ st with
      | some ρ' => evSs C B ρ' st
      | none => .bad) s1.same (s1.items.drop i) ρ2 st2) fun _ _ v H' _ => endK D v H', ⟨_, μ1, ρ, st1, Nat.zero_le _, rfl, Ev.refl, e1, S1, p1⟩, ?_⟩
  rintro i m σ2 H2 ⟨μ2, ρ2, st2, hi, rfl, ev2, e2, S2, p2⟩
  cases hd : s1.items.drop i with
  | nil =>
    have hlen : i = s1.items.length := by
      have := congrArg List.length hd
      simp at this
      omega
    rw [hd] at p2
    simp only [forL] at p2
    split at p2
    · rename_i hsame
      exact .inl ⟨hlen ▸ (ri H2 μ2 st2 ev2 S2 hsame).2, p2.nxt S2 e2⟩
    · exact False.elim p2
  | cons x xs =>
    have hx : s1.items[i]? = some x := by
      have := congrArg (·[0]?) hd
      simpa using this
    have hxs : s1.items.drop (i + 1) = xs := by
      have := congrArg (List.drop 1) hd
      simpa [List.drop_drop] using this
    have hlt : i < s1.items.length := (List.getElem?_eq_some_iff.mp hx).1
    rw [hd] at p2
    simp only [forL] at p2
    split at p2
    · rename_i hsame
      obtain ⟨go, yl⟩ := (ri H2 μ2 st2 ev2 S2 hsame).1 i x hx
      refine .inr ⟨go, _, fun σ' H' h => ⟨s1.items.length - (i + 1), by omega, h⟩, fun v H3 hy => ?_⟩
      obtain ⟨ev3, S3, rx⟩ := yl v H3 hy
      have p3 := Pst.ev ev3 p2
      have e3 := e2.mono ev3 S2.nt
      cases ha : asgT t x ρ2 st2 with
      | none => rw [ha] at p3; exact False.elim p3
      | some ρ' =>
        rw [ha] at p3
        refine ⟨μ2, ρ2, st2, x, ρ', e3, S3, rx, ha, fun σ' e' _ => ⟨μ2, ρ', st2, e', S3, (Pst.bind (RR := RF Z) p3).mono fun f st4 v H4 μ4 ⟨ev4, s4, rf, p4⟩ => ?_⟩⟩
        obtain ⟨fl, ρ4⟩ := f
        have ev14 := (ev2.trans ev3).trans ev4
        cases v with
        | nx σ4 =>
          cases fl with
          | next => exact ⟨μ4, ρ4, st4, hlt, rfl, ev14, rf, s4, by rw [hxs]; exact p4⟩
          | _ => exact False.elim rf
        | ct σ4 =>
          cases fl with
          | cont => exact ⟨μ4, ρ4, st4, hlt, rfl, ev14, rf, s4, by rw [hxs]; exact p4⟩
          | _ => exact False.elim rf
        | bk σ4 =>
          cases fl with
          | brk => exact p4.nxt s4 rf
          | _ => exact False.elim rf
        | rt v =>
          cases fl with
          | ret d => exact p4 (.rt v) H4 μ4 Ev.refl s4 rf
          | _ => exact False.elim rf
    · exact False.elim p2
theorem rf_back {P : Program} {w : World} {H : Hp} {μ : List Addr} {st : Sto} {n : Nat} {kvs : List (D × D)} {d : Addr} {u : HO} {od : Obj} (L : Lk P w Z H μ st n kvs d u) : ∀ H' μ' v x, Ev (upd H d (.frz od u)) μ H' μ' → H' d = some (.frz od u) → RF Z H' μ' v x → RF Z (upd H' d u) μ' v x := by
  intro H' μ' v x ev hd r
  have g := L.gen (μ' := μ') hd
  obtain ⟨fl, ρ⟩ := x
  cases v <;> cases fl <;> first | exact ERep.gen r g | exact Rep.gen g r | exact False.elim r
theorem ss_for {tg iter : Expr} {b : List Stmt} {t : Tg} {B : Ss} {src : It} (hp : PassesOwn (model X.prog X.w) X.A X.env X.xe) (hc : X.calm = true) (hi : PI X tg iter (tI X.prog X.w Z W (evIt C src))) (hg : PG X tg (gT X.prog X.w Z t)) (hb : SSs X Z W C b B) (hs : ∀ x, foldedSetIterable iter X.env x = pure x) : SS X Z W C (.For tg iter b [] pos) (.for t src B) := by
  have h0 : PS X (.For tg iter b [] pos) (tS X.prog X.w Z W (forB C t B src)) := (ps_for hp hc hi hg hb hs).imp fun D σ H h => for_imp h
  refine (h0.or (ps_lock h0)).imp fun D σ H h => ?_
  obtain ⟨μ, ρ, st, e, S, p⟩ := h
  simp only [evS] at p
  have p : Pst X.prog X.w Z W H μ (RF Z) (held (evLk C src ρ st) (forB C t B src ρ) st) fun _ _ v H' _ => endK D v H' := p
  cases hl : evLk C src ρ st with
  | none => rw [hl] at p; exact .inl ⟨μ, ρ, st, e, S, p⟩
  | some nk =>
    obtain ⟨n, kvs⟩ := nk
    rw [hl] at p
    obtain ⟨d, u, L⟩ := Lk.of S (evLk_k hl)
    refine .inr ⟨d, u, L.hu, L.mut, fun od => ⟨μ, ρ, st.set n (.fdct kvs), e.mono L.ev S.nt, L.lock S, (Pst.held L S (rf_back L) p).mono fun x st' v H' μ' q => ?_⟩⟩
    cases v <;> exact q
end
end MP

set_option Elab.async false
set_option linter.all false
set_option maxRecDepth 100000
set_option maxHeartbeats 4000000
/-! MP: the translator is sound. -/
namespace MP
open PySem PySem.Spec L2
open PyProof.Rows hiding St

/-- what MP says of a call -/
def spF (P : Program) (w : World) (Z : Wd) (C : Ctx) (g : Nat) : Sp := fun vs H Q E => ∃ μ ds st, SRep P w Z H μ st ∧ RepL Z H μ vs ds ∧ Pst P w Z E H μ (RV Z) (C.call g ds st) fun _ _ v H' _ => Q v H'
/-- a def under its name -/
def FnE (CX : CXT) (k : Nat) (X : Cx) (Z : Wd) (C : Ctx) (x : Str) (g : Nat) : Prop := ∃ (f : Addr) (fd : FuncData) (ps : List Str), X.mg x = some (.ref f) ∧ PySem.W.keepIn X.K (.ref f) = true ∧
  FnOk X.prog X.w X.K X.mg X.base CX k f fd ps (spF X.prog X.w Z C g) ∧ Binds X.K fd ps []
def NoX (CX : CXT) : Prop := ∀ l H s e s', ¬ CX l H s (fun _ _ _ => False) e s'
structure Fit (CX : CXT) (k : Nat) (T : TC) (X : Cx) (Z : Wd) (W : XK) (C : Ctx) : Prop where
  N : X.N = T.N
  sc : X.env.scope = T.sc
  kind : T.sc.kind = .function
  nd : T.N.Nodup
  calm : X.calm = true
  K : Z.K = X.K
  room : Room k X.A
  nb : ∀ x ∈ T.nb, X.mg x = none
  gl : ∀ (i : Nat) (x : Str), ixOf x T.gls = some i → ∃ d v u, C.glob i = some d ∧ X.mg x = some u ∧ RelV v u ∧ ∀ H μ, Rep Z H μ v d
  fns : ∀ (x : Str) (g : Nat), ixOf x T.fns = some g → FnE CX k X Z C x g
  pass : Passes CX X W
theorem ixOf_get {x : Str} : ∀ {l : List Str} {i : Nat}, ixOf x l = some i → l[i]? = some x
  | [], _, h => by simp [ixOf] at h
  | y :: r, i, h => by
    unfold ixOf at h
    split at h
    · rename_i e; cases h; simp [e]
    · obtain ⟨j, hj, rfl⟩ := Option.map_eq_some_iff.mp h
      simpa using ixOf_get hj
theorem ixOf_mem {x : Str} {l : List Str} {i : Nat} (h : ixOf x l = some i) : x ∈ l := List.mem_of_getElem? (ixOf_get h)
theorem okName_k {x : Str} (h : okName x = true) : (x == ("__debug__" : Str)) = false ∧ (x == ("__classdict__" : Str)) = false := by
  simpa [okName] using h
section
variable {CX : CXT} {k : Nat} {T : TC} {X : Cx} {Z : Wd} {W : XK} {C : Ctx}
theorem slot_k {x : Str} {i : Nat} (h : T.slot x = some i) : okName x = true ∧ Vis T.sc x ∧ T.N[i]? = some x := by
  unfold TC.slot at h
  split at h
  · rename_i ok
    split at h
    · rename_i e; exact ⟨ok, .inl e, ixOf_get h⟩
    · rename_i e; exact ⟨ok, .inr (.inl e), ixOf_get h⟩
    · rename_i e; exact ⟨ok, .inr (.inr e), ixOf_get h⟩
    · cases h
  · cases h
theorem tslot_k {x : Str} {i : Nat} (h : T.tslot x = some i) : okName x = true ∧ Loc T.sc x ∧ T.N[i]? = some x := by
  unfold TC.tslot at h
  split at h
  · rename_i ok
    split at h
    · rename_i e; exact ⟨ok, .inl e, ixOf_get h⟩
    · rename_i e; exact ⟨ok, .inr e, ixOf_get h⟩
    · cases h
  · cases h
theorem isGl_k {x : Str} (F : Fit CX k T X Z W C) (h : T.isGl x = true) : Gl X x ∧ (x == ("__debug__" : Str)) = false := by
  simp only [TC.isGl, Bool.and_eq_true, decide_eq_true_eq] at h
  exact ⟨by show X.env.scope.names.lookup x = _; rw [F.sc]; exact h.2, (okName_k h.1).1⟩
theorem isNb_k {x : Str} (F : Fit CX k T X Z W C) (h : T.isNb x = true) : Gl X x ∧ X.mg x = none := by
  simp only [TC.isNb, Bool.and_eq_true, decide_eq_true_eq] at h
  exact ⟨(isGl_k F h.1).1, F.nb x h.2⟩
theorem Fit.un (F : Fit CX k T X Z W C) : X.A.units + 100 < cLine := by have := F.room.un; omega
theorem Fit.un' (F : Fit CX k T X Z W C) : X.A.units + 64 < cLine := by have := F.room.un; omega
theorem t_name {x : Str} {pos : Pos} {A : E} (F : Fit CX k T X Z W C) (h : trName T x = some A) : SE X Z W C (.Name x pos) A := by
  unfold trName at h
  split at h
  · rename_i i hi
    cases h
    obtain ⟨h1, h2, h3⟩ := slot_k hi
    obtain ⟨h4, h5⟩ := okName_k h1
    exact s_var (by rw [F.N]; exact h3) (by rw [F.sc]; exact h2) h4 h5
  · split at h
    · rename_i hg
      obtain ⟨i, hi, rfl⟩ := Option.map_eq_some_iff.mp h
      obtain ⟨g1, g2⟩ := isGl_k F hg
      obtain ⟨d, v, u, e1, e2, e3, e4⟩ := F.gl i x hi
      exact s_glob (pe_glob g1 e2 e3 g2) e1 e4
    · cases h
theorem t_const {c : Const} {j : Nat} {pos : Pos} {A : E} (h : trConst c = some A) : SE X Z W C (.Constant c j pos) A := by
  unfold trConst at h
  split at h <;> cases h
  · exact s_con pe_non fun _ _ => .non
  · exact s_con pe_bl fun _ _ => .bl _
  · exact s_con pe_int fun _ _ => .int _
  · exact s_con pe_str fun _ _ => .str _
theorem t_bop {op : Operator} {o : Op2} (F : Fit CX k T X Z W C) (h : trBop op = some o) : OpR X (binaryOp op) (r2 X.prog X.w Z W o) := by
  unfold trBop at h
  split at h <;> cases h
  · exact o_add F.K
  · exact o_sub
  · exact o_mul F.K
  · exact o_fdiv
  · exact o_mod
  · exact o_pow
theorem t_cop (F : Fit CX k T X Z W C) (op : CmpOp) : OpR X (compareOp op) (r2 X.prog X.w Z W (trCop op)) := by
  cases op
  · exact o_eq F.K F.un'
  · exact o_ne F.K F.un'
  · exact o_lt F.K F.un'
  · exact o_le F.K F.un'
  · exact o_gt F.K F.un'
  · exact o_ge F.K F.un'
  · exact o_is
  · exact o_isnot
  · exact o_in F.K F.un
  · exact o_notIn F.K F.un
theorem isCop_tr (op : CmpOp) : isCop (trCop op) = true := by cases op <;> rfl
/-- no star -/
inductive NoStar (env : PySem.Env) : List Expr → Prop
  | nil : NoStar env []
  | cons {e : Expr} {es : List Expr} : (∀ es, starEach (e :: es) env = (false, eval e env) :: starEach es env) → NoStar env es → NoStar env (e :: es)
theorem nostar_any {env : PySem.Env} {es : List Expr} (h : NoStar env es) (pos : Pos) : (backTo pos (starEach es env)).any (·.1) = false := by
  induction h with
  | nil => rfl
  | @cons e es h _ ih =>
    rw [h es]
    simp only [backTo, List.map_cons, List.any_cons, Bool.false_or]
    exact ih
theorem tr_star {n : Nat} {e : Expr} {A : E} (h : trE n T e = some A) (env : PySem.Env) : ∀ es, starEach (e :: es) env = (false, eval e env) :: starEach es env := by
  cases n with
  | zero => simp [trE] at h
  | succ n =>
    cases e <;> first | exact fun _ => rfl | (simp [trE] at h)
theorem trQ_star {n : Nat} {e : Expr} {A : Q} (h : trQ n T e = some A) (env : PySem.Env) : ∀ es, starEach (e :: es) env = (false, eval e env) :: starEach es env := by
  cases n with
  | zero => simp [trQ] at h
  | succ n =>
    cases e <;> first | exact fun _ => rfl | (simp [trQ, isQ] at h; obtain ⟨a, h, _⟩ := h; exact tr_star h env)
/-- all that is proved by induction on the fuel -/
structure Snd (CX : CXT) (k : Nat) (n : Nat) : Prop where
  e : ∀ {T X Z W C}, Fit CX k T X Z W C → ∀ {e : Expr} {A : E}, trE n T e = some A → SE X Z W C e A
  es : ∀ {T X Z W C}, Fit CX k T X Z W C → ∀ {es : List Expr} {L : Es}, trEs n T es = some L → SA X Z W C es L ∧ NoStar X.env es
  cmp : ∀ {T X Z W C}, Fit CX k T X Z W C → ∀ {a : Expr} {ops : List CmpOp} {bs : List Expr} {pos : Pos} {A : E}, trCmp n T a ops bs = some A → SE X Z W C (.Compare a ops bs pos) A ∧ ST X Z W C (.Compare a ops bs pos) (.ofE A)
  ps : ∀ {T X Z W C}, Fit CX k T X Z W C → ∀ {pos : Pos} {ks : List (Option Expr)} {vs : List Expr} {L : Es}, trPs n T ks vs = some L → SPs X Z W C pos ks vs L
  b : ∀ {T X Z W C}, Fit CX k T X Z W C → ∀ {f : Str} {args : List Expr} {A : E} {p pos : Pos}, T.isNb f = true → trB n T f args = some A → SE X Z W C (.Call (.Name f p) args [] pos) A
  m : ∀ {T X Z W C}, Fit CX k T X Z W C → ∀ {o : Expr} {m : Str} {args : List Expr} {A : E} {ap pos : Pos}, (ap.endLine == pos.line) = true → isCall0 o = false → trM n T o m args = some A → SE X Z W C (.Call (.Attribute o m ap) args [] pos) A
  c : ∀ {T X Z W C}, Fit CX k T X Z W C → ∀ {e : Expr} {A : Cd}, trC n T e = some A → ST X Z W C e A
  w : ∀ {T X Z W C}, Fit CX k T X Z W C → ∀ {op : BoolOp} {vs : List Expr} {pos : Pos} {A : Cd}, trC n T (.BoolOp op vs pos) = some A → SW X Z W C (.BoolOp op vs pos) A
  q : ∀ {T X Z W C}, Fit CX k T X Z W C → ∀ {e : Expr} {A : Q}, trQ n T e = some A → SQ X Z W C e A
  l : ∀ {T X Z W C}, Fit CX k T X Z W C → ∀ {e : Expr} {A : Q}, trL n T e = some A → SQ X Z W C e A ∧ A.isL = true
  i : ∀ {T X Z W C}, Fit CX k T X Z W C → ∀ {tg e : Expr} {A : It}, trIt n T e = some A → isSet e = false → PI X tg e (tI X.prog X.w Z W (evIt C A))
theorem snd_zero : Snd CX k 0 := by
  constructor <;> intro T X Z W C F <;> intros <;> simp_all [trE, trCmp, trEs, trPs, trB, trM, trC, trQ, trL, trIt]
theorem mkE_k {q : Option Q} {A : E} (h : q.bind mkE = some A) : ∃ a, q = some a ∧ a.fresh = true ∧ A = .ofQ a := by
  obtain ⟨a, h1, h2⟩ := Option.bind_eq_some_iff.mp h
  unfold mkE at h2
  split at h2
  · rename_i hf; cases h2; exact ⟨a, h1, hf, rfl⟩
  · cases h2
theorem mkI_k {q : Option Q} {A : It} (h : q.bind mkI = some A) : ∃ a, q = some a ∧ a.fresh = true ∧ A = .ofQ a := by
  obtain ⟨a, h1, h2⟩ := Option.bind_eq_some_iff.mp h
  unfold mkI at h2
  split at h2
  · rename_i hf; cases h2; exact ⟨a, h1, hf, rfl⟩
  · cases h2
theorem mkL_k {q : Option Q} {A : Q} (h : q.bind mkL = some A) : q = some A ∧ A.isL = true := by
  obtain ⟨a, h1, h2⟩ := Option.bind_eq_some_iff.mp h
  unfold mkL at h2
  split at h2
  · rename_i hf; cases h2; exact ⟨h1, hf⟩
  · cases h2
theorem mkF_k {q : Option Q} {A : Q} (h : q.bind mkF = some A) : q = some A ∧ A.fresh = true := by
  obtain ⟨a, h1, h2⟩ := Option.bind_eq_some_iff.mp h
  unfold mkF at h2
  split at h2
  · rename_i hf; cases h2; exact ⟨h1, hf⟩
  · cases h2
theorem t_call {x : Str} {g : Nat} {p pos : Pos} {es : List Expr} {L : Es} (F : Fit CX k T X Z W C) (hg : T.isGl x = true) (hi : ixOf x T.fns = some g) (ha : SA X Z W C es L) (ns : NoStar X.env es) (hL : es = [] → L = .nil) : SE X Z W C (.Call (.Name x p) es [] pos) (.call g L) := by
  obtain ⟨f, fd, ps, h1, h2, h3, h4⟩ := F.fns x g hi
  obtain ⟨g1, g2⟩ := isGl_k F hg
  refine s_call (x := x) (p := p) (es := es) (f := g) (r := fun vs H Q => spF X.prog X.w Z C g (vs ++ []) H Q W) ?_ fun vs H Q h => by rw [List.append_nil]; exact h
  cases es with
  | nil =>
    refine (pe_call0 (dvs := []) h3 F.room g1 h1 h2 h4 .nil F.pass g2).imp fun σ H Q h => ?_
    obtain ⟨μ, ρ, st, e, s, q⟩ := h
    rw [hL rfl] at q
    simp only [evEs] at q
    exact q [] H μ Ev.refl s .nil
  | cons e es =>
    cases ns with
    | cons n1 n2 => exact pe_call (dvs := []) h3 F.room g1 h1 h2 h4 .nil F.pass ha g2 (n1 es) (nostar_any n2 pos)
theorem t_es {n : Nat} (S : Snd CX k n) (F : Fit CX k T X Z W C) {es : List Expr} {L : Es} (h : trEs (n + 1) T es = some L) : SA X Z W C es L ∧ NoStar X.env es := by
  cases es with
  | nil =>
    simp only [trEs, Option.some.injEq] at h
    subst h
    exact ⟨a_nil, .nil⟩
  | cons e r =>
    simp only [trEs] at h
    obtain ⟨A, h1, h2⟩ := Option.bind_eq_some_iff.mp h
    obtain ⟨R', h3, rfl⟩ := Option.map_eq_some_iff.mp h2
    obtain ⟨i1, i2⟩ := S.es F h3
    exact ⟨a_cons (S.e F h1) i1 (tr_star h1 X.env r), .cons (tr_star h1 X.env) i2⟩
theorem t_ps {n : Nat} (S : Snd CX k n) (F : Fit CX k T X Z W C) {pos : Pos} {ks : List (Option Expr)} {vs : List Expr} {L : Es} (h : trPs (n + 1) T ks vs = some L) : SPs X Z W C pos ks vs L := by
  cases ks with
  | nil =>
    cases vs with
    | nil => simp only [trPs, Option.some.injEq] at h; subst h; exact .nil
    | cons v vs => simp [trPs] at h
  | cons kx ks =>
    cases kx with
    | none => simp [trPs] at h
    | some kx =>
      cases vs with
      | nil => simp [trPs] at h
      | cons v vs =>
        simp only [trPs] at h
        obtain ⟨A, h1, h2⟩ := Option.bind_eq_some_iff.mp h
        obtain ⟨B, h3, h4⟩ := Option.bind_eq_some_iff.mp h2
        obtain ⟨R', h5, rfl⟩ := Option.map_eq_some_iff.mp h4
        exact .cons (S.e F h1) (S.e F h3) (S.ps F h5)
theorem t_l {n : Nat} (S : Snd CX k n) (F : Fit CX k T X Z W C) {e : Expr} {A : Q} (h : trL (n + 1) T e = some A) : SQ X Z W C e A ∧ A.isL = true := by
  simp only [trL] at h
  split at h
  · obtain ⟨h1, h2⟩ := mkL_k h
    exact ⟨S.q F h1, h2⟩
  · obtain ⟨a, h1, rfl⟩ := Option.map_eq_some_iff.mp h
    exact ⟨q_ofL (S.e F h1), rfl⟩
theorem isB_k {f : Str} {n : String} (h : isB f n = true) : f = Str.ofString n := of_decide_eq_true h
theorem trL_star {n : Nat} {e : Expr} {A : Q} (h : trL n T e = some A) (env : PySem.Env) : ∀ es, starEach (e :: es) env = (false, eval e env) :: starEach es env := by
  cases n with
  | zero => simp [trL] at h
  | succ n =>
    simp only [trL] at h
    split at h
    · exact trQ_star (mkL_k h).1 env
    · obtain ⟨a, h1, rfl⟩ := Option.map_eq_some_iff.mp h
      exact tr_star h1 env
theorem t_b {n : Nat} (S : Snd CX k n) (F : Fit CX k T X Z W C) {f : Str} {args : List Expr} {A : E} {p pos : Pos} (hn : T.isNb f = true) (h : trB (n + 1) T f args = some A) : SE X Z W C (.Call (.Name f p) args [] pos) A := by
  obtain ⟨g1, g2⟩ := isNb_k F hn
  simp only [trB] at h
  split at h
  · rename_i a
    split at h
    · rename_i hf
      cases isB_k hf
      split at h
      · obtain ⟨q, h1, rfl⟩ := Option.map_eq_some_iff.mp h
        have st := trQ_star h1 X.env
        exact s_bQ (RQ Z) (fun _ _ _ _ _ r => rel_q r) (fun t ht => pe_callB (cq_len (W := W) F.K) g1 g2 boot_len ht (by decide) (by decide) (st []) rfl) (S.q F h1) (st [])
      · obtain ⟨q, h1, rfl⟩ := Option.map_eq_some_iff.mp h
        have st := tr_star h1 X.env
        exact s_b1 (fun t ht => pe_callB (c_len (W := W) F.K) g1 g2 boot_len ht (by decide) (by decide) (st []) rfl) (S.e F h1) (st [])
    split at h
    · rename_i hf
      cases isB_k hf
      obtain ⟨q, h1, rfl⟩ := Option.map_eq_some_iff.mp h
      have st := tr_star h1 X.env
      exact s_b1 (fun t ht => pe_callB c_abs g1 g2 (by decide +kernel) ht (by decide) (by decide) (st []) rfl) (S.e F h1) (st [])
    split at h
    · rename_i hf
      cases isB_k hf
      obtain ⟨q, h1, rfl⟩ := Option.map_eq_some_iff.mp h
      have st := tr_star h1 X.env
      exact s_b1 (fun t ht => pe_callTy c_int g1 g2 (by decide +kernel) ht (by decide) (by decide) (st []) rfl) (S.e F h1) (st [])
    split at h
    · rename_i hf
      cases isB_k hf
      obtain ⟨q, h1, rfl⟩ := Option.map_eq_some_iff.mp h
      have st := trQ_star h1 X.env
      exact s_bQ (RQ Z) (fun _ _ _ _ _ r => rel_q r) (fun t ht => pe_callTy (cq_tuple (W := W) F.K) g1 g2 (by decide +kernel) ht (by decide) (by decide) (st []) rfl) (S.q F h1) (st [])
    split at h
    · rename_i hf
      cases isB_k hf
      obtain ⟨q, h1, rfl⟩ := Option.map_eq_some_iff.mp h
      have st := trL_star h1 X.env
      obtain ⟨i1, i2⟩ := S.l F h1
      exact s_bQ (RQS Z) (fun _ _ _ _ _ r => rel_s i2 r) (fun t ht => pe_callB (cq_all (W := W) F.K F.calm) g1 g2 (by decide +kernel) ht (by decide) (by decide) (st []) rfl) i1 (st [])
    split at h
    · rename_i hf
      cases isB_k hf
      obtain ⟨q, h1, rfl⟩ := Option.map_eq_some_iff.mp h
      have st := trL_star h1 X.env
      obtain ⟨i1, i2⟩ := S.l F h1
      exact s_bQ (RQS Z) (fun _ _ _ _ _ r => rel_s i2 r) (fun t ht => pe_callB (cq_any (W := W) F.K F.calm) g1 g2 (by decide +kernel) ht (by decide) (by decide) (st []) rfl) i1 (st [])
    split at h
    · rename_i hf
      cases isB_k hf
      obtain ⟨q, h1, rfl⟩ := Option.map_eq_some_iff.mp h
      have st := trL_star h1 X.env
      obtain ⟨i1, i2⟩ := S.l F h1
      exact s_bQ (RQS Z) (fun _ _ _ _ _ r => rel_s i2 r) (fun t ht => pe_callB (cq_sum (W := W) F.K F.calm) g1 g2 (by decide +kernel) ht (by decide) (by decide) (st []) rfl) i1 (st [])
    split at h
    · rename_i hf
      cases isB_k hf
      split at h
      · obtain ⟨q, h0, rfl⟩ := Option.map_eq_some_iff.mp h
        obtain ⟨h1, h2⟩ := mkF_k h0
        have st := trQ_star h1 X.env
        exact s_bQ (RQS Z) (fun _ _ _ _ _ r => by rw [rel_fresh h2] at r; exact r.s) (fun t ht => pe_callTy (cq_dict (W := W) F.K F.calm F.un) g1 g2 (by decide +kernel) ht (by decide) (by decide) (st []) rfl) (S.q F h1) (st [])
      · obtain ⟨q, h1, rfl⟩ := Option.map_eq_some_iff.mp h
        have st := tr_star h1 X.env
        exact s_b1 (fun t ht => pe_callTy (c_dcopy (W := W) F.K) g1 g2 (by decide +kernel) ht (by decide) (by decide) (st []) rfl) (S.e F h1) (st [])
    · cases h
  · rename_i a b
    split at h
    · rename_i hf
      cases isB_k hf
      split at h
      · rename_i t p2
        split at h
        · rename_i hb
          obtain ⟨ty, e1, h2⟩ := Option.bind_eq_some_iff.mp h
          obtain ⟨A', h1, rfl⟩ := Option.map_eq_some_iff.mp h2
          obtain ⟨b1, b2⟩ := isNb_k F hb
          have st := tr_star h1 X.env
          have ht : t = Str.ofString (tyN ty) := by
            unfold trTy at e1
            repeat' (split at e1; · rename_i e2; cases e1; exact e2)
            cases e1
          subst ht
          have hboot : bootBuiltins (Str.ofString (tyN ty)) = some (.type (tyN ty)) := by cases ty <;> decide +kernel
          have hnn : Str.ofString (tyN ty) ≠ ("__name__" : Str) := by cases ty <;> decide
          have hdd : (Str.ofString (tyN ty) == ("__debug__" : Str)) = false := by cases ty <;> decide
          exact s_isi (fun t ht => pe_callB (c_isi (W := W) F.K ty) g1 g2 (by decide +kernel) ht (by decide) (by decide) (st _) rfl) (S.e F h1) (pe_bltn b1 b2 hboot rfl hnn hdd) (st _) rfl
        · cases h
      · cases h
    split at h
    · rename_i hf
      cases isB_k hf
      obtain ⟨A', h1, h2⟩ := Option.bind_eq_some_iff.mp h
      obtain ⟨B', h3, rfl⟩ := Option.map_eq_some_iff.mp h2
      have st := tr_star h1 X.env
      have st2 := tr_star h3 X.env
      exact s_b2 (fun t ht => pe_callB (c_max (W := W) F.calm) g1 g2 (by decide +kernel) ht (by decide) (by decide) (st _) (by rw [st2]; rfl)) (S.e F h1) (S.e F h3) (st _) (st2 _)
    split at h
    · rename_i hf
      cases isB_k hf
      obtain ⟨A', h1, h2⟩ := Option.bind_eq_some_iff.mp h
      obtain ⟨B', h3, rfl⟩ := Option.map_eq_some_iff.mp h2
      have st := tr_star h1 X.env
      have st2 := tr_star h3 X.env
      exact s_b2 (fun t ht => pe_callB (c_min (W := W) F.calm) g1 g2 (by decide +kernel) ht (by decide) (by decide) (st _) (by rw [st2]; rfl)) (S.e F h1) (S.e F h3) (st _) (st2 _)
    · cases h
  · cases h
theorem base_plain {o : Expr} (h : isCall0 o = false) (m : Str) (env : PySem.Env) : attributeBase o m env (eval o env) = eval o env := by
  unfold attributeBase
  split
  · simp [isCall0] at h
  · rfl
theorem t_m {n : Nat} (S : Snd CX k n) (F : Fit CX k T X Z W C) {o : Expr} {m : Str} {args : List Expr} {A : E} {ap pos : Pos} (hl : (ap.endLine == pos.line) = true) (h0 : isCall0 o = false) (h : trM (n + 1) T o m args = some A) : SE X Z W C (.Call (.Attribute o m ap) args [] pos) A := by
  simp only [trM] at h
  split at h
  · split at h
    · rename_i hf
      cases isB_k hf
      obtain ⟨A', h1, rfl⟩ := Option.map_eq_some_iff.mp h
      exact s_pop PySem.F.slot_list_pop (S.e F h1) (base_plain h0 _ _) hl
    · cases h
  · rename_i a
    split at h
    · rename_i hf
      cases isB_k hf
      obtain ⟨A', h1, h2⟩ := Option.bind_eq_some_iff.mp h
      obtain ⟨B', h3, rfl⟩ := Option.map_eq_some_iff.mp h2
      have st := tr_star h3 X.env
      exact s_mt2 (ty := tyL) (fun t ht => pe_m1 tyL_ok PySem.F.plainAttrs_list PySem.F.slot_list_append PySem.F.type_list_append (m_append (W := W)) (S.e F h1) ht (base_plain h0 _ _) (by rw [st]; rfl) hl (st [])) (fun s r h => mt_app s r h) (S.e F h3) (st [])
    split at h
    · rename_i hf
      cases isB_k hf
      obtain ⟨A', h1, h2⟩ := Option.bind_eq_some_iff.mp h
      obtain ⟨B', h3, rfl⟩ := Option.map_eq_some_iff.mp h2
      have st := tr_star h3 X.env
      exact s_mt2 (ty := tyD X.prog X.w Z) (fun t ht => pe_m1 (tyD_ok F.K) PySem.F.plainAttrs_dict PySem.F.slot_dict_get PySem.F.type_dict_get (m_get (W := W) F.K F.un') (S.e F h1) ht (base_plain h0 _ _) (by rw [st]; rfl) hl (st [])) (fun s r h => mt_get s r h) (S.e F h3) (st [])
    · cases h
  · cases h
theorem t_e {n : Nat} (S : Snd CX k n) (F : Fit CX k T X Z W C) {e : Expr} {A : E} (h : trE (n + 1) T e = some A) : SE X Z W C e A := by
  cases e with
  | Name x p => simp only [trE] at h; exact t_name F h
  | Constant c j p => simp only [trE] at h; exact t_const h
  | BinOp a op b p =>
    simp only [trE] at h
    obtain ⟨o, h1, h2⟩ := Option.bind_eq_some_iff.mp h
    obtain ⟨A', h3, h4⟩ := Option.bind_eq_some_iff.mp h2
    obtain ⟨B', h5, rfl⟩ := Option.map_eq_some_iff.mp h4
    exact s_bin (t_bop F h1) (S.e F h3) (S.e F h5)
  | UnaryOp op a p =>
    cases op <;> simp only [trE] at h
    · cases h
    · obtain ⟨A', h3, rfl⟩ := Option.map_eq_some_iff.mp h
      exact s_not F.K (S.e F h3)
    · cases h
    · obtain ⟨A', h3, rfl⟩ := Option.map_eq_some_iff.mp h
      exact s_neg (S.e F h3)
  | BoolOp op vs p =>
    simp only [trE] at h
    split at h
    · cases h
    · exact s_one (S.e F h)
    · obtain ⟨A', h3, h4⟩ := Option.bind_eq_some_iff.mp h
      obtain ⟨B', h5, rfl⟩ := Option.map_eq_some_iff.mp h4
      exact s_and F.K (S.e F h3) (S.e F h5)
    · obtain ⟨A', h3, h4⟩ := Option.bind_eq_some_iff.mp h
      obtain ⟨B', h5, rfl⟩ := Option.map_eq_some_iff.mp h4
      exact s_or F.K (S.e F h3) (S.e F h5)
  | Compare a ops bs p => simp only [trE] at h; exact (S.cmp F h).1
  | IfExp c a b p =>
    simp only [trE] at h
    obtain ⟨A', h3, h4⟩ := Option.bind_eq_some_iff.mp h
    obtain ⟨B', h5, h6⟩ := Option.bind_eq_some_iff.mp h4
    obtain ⟨C', h7, rfl⟩ := Option.map_eq_some_iff.mp h6
    exact s_ite (S.c F h3) (S.e F h5) (S.e F h7)
  | Tuple es j p =>
    simp only [trE] at h
    obtain ⟨L, h3, rfl⟩ := Option.map_eq_some_iff.mp h
    exact s_tup (S.es F h3).1
  | List es p =>
    simp only [trE] at h
    obtain ⟨q, h1, h2, rfl⟩ := mkE_k h
    exact s_ofQ (S.q F h1) h2
  | ListComp a b c d =>
    simp only [trE] at h
    obtain ⟨q, h1, h2, rfl⟩ := mkE_k h
    exact s_ofQ (S.q F h1) h2
  | Dict ks vs p =>
    unfold trE at h
    split at h <;> first | (rename_i e; cases e; done) | skip
    all_goals (try (rename_i e; injection e with e1 e2 e3; subst e1 e2 e3))
    all_goals (try (simp at h; done))
    · cases h
      exact s_dnew
    · split at h
      · rename_i hne hl
        obtain ⟨L, h3, rfl⟩ := Option.map_eq_some_iff.mp h
        refine s_ddisp (S.ps F h3) (fun e => ?_) hl
        subst e
        cases vs with
        | nil => exact hne rfl rfl
        | cons v vs => cases n <;> simp [trPs] at h3
      · cases h
  | Subscript a i p =>
    simp only [trE] at h
    split at h
    · obtain ⟨q, h1, h2, rfl⟩ := mkE_k h
      exact s_ofQ (S.q F h1) h2
    · split at h
      · obtain ⟨A', h3, h4⟩ := Option.bind_eq_some_iff.mp h
        obtain ⟨B', h5, h6⟩ := Option.bind_eq_some_iff.mp h4
        obtain ⟨C', h7, rfl⟩ := Option.map_eq_some_iff.mp h6
        exact s_slice F.K (S.e F h3) (S.e F h5) (S.e F h7)
      · obtain ⟨A', h3, h4⟩ := Option.bind_eq_some_iff.mp h
        obtain ⟨B', h5, rfl⟩ := Option.map_eq_some_iff.mp h4
        exact s_slFrom F.K (S.e F h3) (S.e F h5)
      · obtain ⟨A', h3, h4⟩ := Option.bind_eq_some_iff.mp h
        obtain ⟨B', h5, rfl⟩ := Option.map_eq_some_iff.mp h4
        exact s_slTo F.K (S.e F h3) (S.e F h5)
      · obtain ⟨A', h3, rfl⟩ := Option.map_eq_some_iff.mp h
        exact s_slAll F.K (S.e F h3)
      · cases h
      · rename_i n1 n2 n3 n4 n5
        obtain ⟨A', h3, h4⟩ := Option.bind_eq_some_iff.mp h
        obtain ⟨B', h5, rfl⟩ := Option.map_eq_some_iff.mp h4
        refine s_idx (o_idx F.K F.un') (S.e F h3) (S.e F h5) ?_
        cases i <;> first | exact fun _ _ => rfl | (cases n <;> simp [trE] at h5)
  | Call f args kws p =>
    unfold trE at h
    split at h <;> first | (rename_i e; cases e; done) | skip
    all_goals (try (rename_i e; injection e with e1 e2 e3 e4; subst e1 e2 e3 e4))
    all_goals (try (simp at h; done))
    · rename_i f p1
      split at h
      · rename_i g hg
        split at h
        · rename_i hgl
          obtain ⟨L, h3, rfl⟩ := Option.map_eq_some_iff.mp h
          obtain ⟨i1, i2⟩ := S.es F h3
          refine t_call F hgl hg i1 i2 fun e => ?_
          subst e
          cases n <;> simp [trEs] at h3
          exact h3.symm
        · cases h
      · split at h
        · rename_i hn
          split at h
          · obtain ⟨q, h1, h2, rfl⟩ := mkE_k h
            exact s_ofQ (S.q F h1) h2
          · exact S.b F hn h
        · cases h
    · rename_i o m ap
      split at h
      · rename_i hl
        simp only [Bool.and_eq_true, Bool.not_eq_true'] at hl
        exact S.m F hl.1 hl.2 h
      · cases h
  | _ => simp [trE] at h
theorem t_w {n : Nat} (S : Snd CX k n) (F : Fit CX k T X Z W C) {op : BoolOp} {vs : List Expr} {pos : Pos} {A : Cd} (h : trC (n + 1) T (.BoolOp op vs pos) = some A) : SW X Z W C (.BoolOp op vs pos) A := by
  simp only [trC] at h
  split at h
  · cases h
  · cases op
    · exact c_and1 (S.c F h)
    · exact c_or1 (S.c F h)
  · obtain ⟨A', h3, h4⟩ := Option.bind_eq_some_iff.mp h
    obtain ⟨B', h5, rfl⟩ := Option.map_eq_some_iff.mp h4
    exact c_and (S.c F h3) (S.w F h5)
  · obtain ⟨A', h3, h4⟩ := Option.bind_eq_some_iff.mp h
    obtain ⟨B', h5, rfl⟩ := Option.map_eq_some_iff.mp h4
    exact c_or (S.c F h3) (S.w F h5)
theorem op_q0 (F : Fit CX k T X Z W C) : OpR X (compareOp .Eq) (rEqQ X.K false) := fun pins s σ H x y v u Q I rx ry ⟨d, e, g1, g2, g3, g4, q⟩ => op_eqD F.un' pins s σ H x y v u Q I rx ry ⟨d, e, g1, g2, g3, g4, by simpa using q⟩
theorem op_q1 (F : Fit CX k T X Z W C) : OpR X (compareOp .NotEq) (rEqQ X.K true) := fun pins s σ H x y v u Q I rx ry ⟨d, e, g1, g2, g3, g4, q⟩ => op_neD F.un' pins s σ H x y v u Q I rx ry ⟨d, e, g1, g2, g3, g4, by simpa using q⟩
theorem t_cmp {n : Nat} (S : Snd CX k n) (F : Fit CX k T X Z W C) {a : Expr} {ops : List CmpOp} {bs : List Expr} {pos : Pos} {A : E} (h : trCmp (n + 1) T a ops bs = some A) : SE X Z W C (.Compare a ops bs pos) A ∧ ST X Z W C (.Compare a ops bs pos) (.ofE A) := by
  unfold trCmp at h
  split at h <;> first | (rename_i e; cases e; done) | skip
  all_goals (try (simp at h; done))
  · rename_i m T' a' op b e1
    cases e1
    split at h
    · cases h
    · rename_i hm
      have hm : behindInMarks op b = false := by simpa using hm
      split at h
      · split at h
        · obtain ⟨A', h3, h4⟩ := Option.bind_eq_some_iff.mp h
          obtain ⟨B', h5, rfl⟩ := Option.map_eq_some_iff.mp h4
          obtain ⟨h3, f3⟩ := mkF_k h3
          obtain ⟨h5, f5⟩ := mkF_k h5
          exact ⟨s_eqQ F.K (op_q0 F) (S.q F h3) (S.q F h5) f3 f5 hm, c_eqQ F.K (op_q0 F) (S.q F h3) (S.q F h5) f3 f5 hm⟩
        · obtain ⟨A', h3, h4⟩ := Option.bind_eq_some_iff.mp h
          obtain ⟨B', h5, rfl⟩ := Option.map_eq_some_iff.mp h4
          obtain ⟨h3, f3⟩ := mkF_k h3
          obtain ⟨h5, f5⟩ := mkF_k h5
          exact ⟨s_eqQ F.K (op_q1 F) (S.q F h3) (S.q F h5) f3 f5 hm, c_eqQ F.K (op_q1 F) (S.q F h3) (S.q F h5) f3 f5 hm⟩
        · cases h
      · obtain ⟨A', h3, h4⟩ := Option.bind_eq_some_iff.mp h
        obtain ⟨B', h5, rfl⟩ := Option.map_eq_some_iff.mp h4
        exact ⟨s_cmp (t_cop F op) (S.e F h3) (S.e F h5) hm, c_cmp (isCop_tr op) (t_cop F op) (S.e F h3) (S.e F h5) hm⟩
  · rename_i m T' a' o1 o2 b c e1
    cases e1
    split at h
    · cases h
    · rename_i hm
      have hm : lastMarks [o1, o2] [b, c] = false := by simpa using hm
      obtain ⟨A', h3, h4⟩ := Option.bind_eq_some_iff.mp h
      obtain ⟨B', h5, h6⟩ := Option.bind_eq_some_iff.mp h4
      obtain ⟨C', h7, rfl⟩ := Option.map_eq_some_iff.mp h6
      exact ⟨s_chain (isCop_tr o1) (t_cop F o1) (t_cop F o2) (S.e F h3) (S.e F h5) (S.e F h7) hm, c_chain (isCop_tr o1) (isCop_tr o2) (t_cop F o1) (t_cop F o2) (S.e F h3) (S.e F h5) (S.e F h7) hm⟩
theorem t_c {n : Nat} (S : Snd CX k n) (F : Fit CX k T X Z W C) {e : Expr} {A : Cd} (h : trC (n + 1) T e = some A) : ST X Z W C e A := by
  cases e with
  | BoolOp op vs p => exact (t_w S F h).pt
  | UnaryOp op a p =>
    cases op <;> simp only [trC] at h
    · cases h
    · obtain ⟨A', h3, rfl⟩ := Option.map_eq_some_iff.mp h
      exact c_not (S.c F h3)
    · cases h
    · cases h
  | Compare a ops bs p =>
    simp only [trC] at h
    obtain ⟨A', h3, rfl⟩ := Option.map_eq_some_iff.mp h
    exact (S.cmp F h3).2
  | Name x p =>
    simp only [trC] at h
    obtain ⟨A', h3, rfl⟩ := Option.map_eq_some_iff.mp h
    exact c_of F.K (S.e F h3) fun _ => rfl
  | Call a b c d =>
    simp only [trC] at h
    obtain ⟨A', h3, rfl⟩ := Option.map_eq_some_iff.mp h
    exact c_of F.K (S.e F h3) fun _ => rfl
  | Subscript a b c =>
    simp only [trC] at h
    obtain ⟨A', h3, rfl⟩ := Option.map_eq_some_iff.mp h
    exact c_of F.K (S.e F h3) fun _ => rfl
  | Attribute a b c =>
    simp only [trC] at h
    obtain ⟨A', h3, rfl⟩ := Option.map_eq_some_iff.mp h
    exact c_of F.K (S.e F h3) fun _ => rfl
  | _ => simp [trC] at h
theorem set_fold {e : Expr} (h : isSet e = false) (env : PySem.Env) : ∀ x, foldedSetIterable e env x = pure x := by
  intro x
  cases e <;> first | rfl | (simp [isSet] at h; done)
theorem t_i {n : Nat} (S : Snd CX k n) (F : Fit CX k T X Z W C) {tg e : Expr} {A : It} (h : trIt (n + 1) T e = some A) (hs : isSet e = false) : PI X tg e (tI X.prog X.w Z W (evIt C A)) := by
  simp only [trIt] at h
  split at h
  · obtain ⟨q, h1, h2, rfl⟩ := mkI_k h
    refine (i_ofQ F.K h2 (S.q F h1)).imp fun σ H R h => ?_
    obtain ⟨μ, ρ, st, e, s, p⟩ := h
    simp only [evIt] at p
    exact ⟨μ, ρ, st, e, s, p⟩
  · have ofE : ∀ {e : Expr} {A : E}, trE n T e = some A → PI X tg e (tI X.prog X.w Z W (evIt C (.ofE A))) := fun h1 => (i_ofE F.K (S.e F h1)).imp fun σ H R h => by
      obtain ⟨μ, ρ, st, e, s, p⟩ := h
      simp only [evIt] at p
      exact ⟨μ, ρ, st, e, s, p⟩
    split at h
    · rename_i f p args pos
      split at h
      · rename_i hr
        simp only [Bool.and_eq_true] at hr
        obtain ⟨⟨hr1, hr2⟩, hr3⟩ := hr
        cases isB_k hr1
        obtain ⟨g1, g2⟩ := isNb_k F hr2
        split at h
        · obtain ⟨A', h3, rfl⟩ := Option.map_eq_some_iff.mp h
          refine (i_rng1 g1 g2 (S.e F h3) (tr_star h3 X.env [])).imp fun σ H R h => ?_
          obtain ⟨μ, ρ, st, e, s, p⟩ := h
          simp only [evIt] at p
          exact ⟨μ, ρ, st, e, s, p⟩
        · obtain ⟨A', h3, h4⟩ := Option.bind_eq_some_iff.mp h
          obtain ⟨B', h5, rfl⟩ := Option.map_eq_some_iff.mp h4
          have s2 := tr_star h5 X.env []
          refine (i_rng2 g1 g2 (S.e F h3) (S.e F h5) ((tr_star h3 X.env _).trans (by rw [s2]; rfl)) s2).imp fun σ H R h => ?_
          obtain ⟨μ, ρ, st, e, s, p⟩ := h
          simp only [evIt] at p
          exact ⟨μ, ρ, st, e, s, p⟩
        · cases h
      · obtain ⟨A', h3, rfl⟩ := Option.map_eq_some_iff.mp h
        exact ofE h3
    · obtain ⟨A', h3, rfl⟩ := Option.map_eq_some_iff.mp h
      refine (i_ofE F.K (S.e F h3)).imp fun σ H R h => ?_
      obtain ⟨μ, ρ, st, e, s, p⟩ := h
      simp only [evIt] at p
      exact ⟨μ, ρ, st, e, s, p⟩
    · obtain ⟨A', h3, rfl⟩ := Option.map_eq_some_iff.mp h
      exact ofE h3
/-! ### comprehensions -/
theorem Fit.blk (hX : NoX CX) (F : Fit CX k T X Z W C) {scope : Scope} {own : List (Str × Nat)} (ok : BlkOk T.N T.sc scope own) (s : Shared) (H : Hp) (C' : Addr) (cl : List (Str × Addr)) (fp : List Addr) :
    Fit CX k { T with sc := relS scope T.sc } (X.blk s H scope (compEnvC scope cl C' X.env) fp) Z (fun _ _ _ => False) C where
  N := F.N
  sc := by rw [← F.sc]; rfl
  kind := ok.kind
  nd := F.nd
  calm := F.calm
  K := F.K
  room := F.room
  nb := F.nb
  gl := F.gl
  fns := F.fns
  pass := fun _ _ _ _ _ _ _ h => absurd h (hX _ _ _ _ _)
theorem own_mem {scope : Scope} {i : Nat} (h : i ∈ (ownOf T scope).map (·.2)) : ∃ y kd, (y, kd) ∈ scope.names ∧ (kd = .local ∨ kd = .cell) ∧ ixOf y T.N = some i := by
  obtain ⟨p, hp, e⟩ := List.mem_map.mp h
  unfold ownOf at hp
  obtain ⟨y, hy, e2⟩ := List.mem_filterMap.mp hp
  obtain ⟨y, kd⟩ := y
  cases kd <;> simp at e2
  · obtain ⟨j, h1, h2⟩ := e2
    subst h2; subst e
    exact ⟨y, _, hy, .inl rfl, h1⟩
  · obtain ⟨j, h1, h2⟩ := e2
    subst h2; subst e
    exact ⟨y, _, hy, .inr rfl, h1⟩
/-- a name that the block may store -/
theorem blk_name (F : Fit CX k T X Z W C) {scope : Scope} {own : List (Str × Nat)} (ok : BlkOk T.N T.sc scope own) {x : Str} {i : Nat} (hx : ({ T with sc := relS scope T.sc } : TC).tslot x = some i) (hi : i ∈ (ownOf T scope).map (·.2)) (s : Shared) (H : Hp) (C' : Addr) (cl : List (Str × Addr)) (fp : List Addr) :
    (X.blk s H scope (compEnvC scope cl C' X.env) fp).N[i]? = some x ∧ Loc (X.blk s H scope (compEnvC scope cl C' X.env) fp).env.scope x ∧ ((X.blk s H scope (compEnvC scope cl C' X.env) fp).fn x = true ∨ (X.blk s H scope (compEnvC scope cl C' X.env) fp).env.scope.names.lookup x = some .local) := by
  obtain ⟨_, h2, h3⟩ := tslot_k hx
  have h3 : T.N[i]? = some x := h3
  obtain ⟨y, kd, hy, hk, hj⟩ := own_mem hi
  have e : y = x := by have := ixOf_get hj; rw [h3] at this; exact (Option.some.inj this).symm
  subst e
  have hl := ok.uniq _ hy
  have esc : (X.blk s H scope (compEnvC scope cl C' X.env) fp).env.scope = relS scope T.sc := by rw [← F.sc]; rfl
  refine ⟨by show X.N[i]? = _; rw [F.N]; exact h3, by rw [esc]; exact h2, ?_⟩
  rcases hk with rfl | rfl
  · refine .inr ?_
    show (relabel scope X.env).names.lookup y = _
    exact lookup_relabel_local hl
  · refine .inl ?_
    show (scope.names.lookup y == some .cell) = true
    rw [hl]
    rfl
theorem blk_nms (F : Fit CX k T X Z W C) {scope : Scope} {own : List (Str × Nat)} (ok : BlkOk T.N T.sc scope own) (s : Shared) (H : Hp) (C' : Addr) (cl : List (Str × Addr)) (fp : List Addr) : ∀ {es : List Expr} {is : List Nat}, trTg.go ({ T with sc := relS scope T.sc } : TC) es = some is → (∀ i ∈ is, i ∈ (ownOf T scope).map (·.2)) →
    Nms (X.blk s H scope (compEnvC scope cl C' X.env) fp) es is
  | [], is, h, _ => by simp only [trTg.go, Option.some.injEq] at h; subst h; exact .nil
  | e :: es, is, h, hi => by
    cases e <;> try (simp [trTg.go] at h; done)
    rename_i x p
    simp only [trTg.go] at h
    obtain ⟨i, h1, h2⟩ := Option.bind_eq_some_iff.mp h
    obtain ⟨is', h3, rfl⟩ := Option.map_eq_some_iff.mp h2
    obtain ⟨q1, q2, q3⟩ := blk_name F ok h1 (hi i List.mem_cons_self) s H C' cl fp
    exact .cons q1 q2 q3 (blk_nms F ok s H C' cl fp h3 fun j hj => hi j (List.mem_cons_of_mem _ hj))
theorem blk_tg (F : Fit CX k T X Z W C) {scope : Scope} {own : List (Str × Nat)} (ok : BlkOk T.N T.sc scope own) (s : Shared) (H : Hp) (C' : Addr) (cl : List (Str × Addr)) (fp : List Addr) {tg : Expr} {t : Tg} (h : trTg ({ T with sc := relS scope T.sc } : TC) tg = some t) (hi : tgIn t ((ownOf T scope).map (·.2)) = true) :
    PG (X.blk s H scope (compEnvC scope cl C' X.env) fp) tg (gT X.prog X.w Z t) := by
  have hN : (X.blk s H scope (compEnvC scope cl C' X.env) fp).N.Nodup := by show X.N.Nodup; rw [F.N]; exact F.nd
  refine Tgt.g (X := X.blk s H scope (compEnvC scope cl C' X.env) fp) ?_ F.K F.calm hN
  cases tg <;> try (simp [trTg] at h; done)
  · rename_i x p
    simp only [trTg] at h
    obtain ⟨i, h1, rfl⟩ := Option.map_eq_some_iff.mp h
    obtain ⟨q1, q2, q3⟩ := blk_name F ok h1 (by simpa [tgIn] using hi) s H C' cl fp
    exact .name q1 q2 q3
  · rename_i es j p
    simp only [trTg] at h
    obtain ⟨is, h1, rfl⟩ := Option.map_eq_some_iff.mp h
    exact .tup (blk_nms F ok s H C' cl fp h1 (by simpa [tgIn] using hi))
/-- what a translated comprehension is -/
inductive LcTr (n : Nat) (T : TC) (elt tg iter : Expr) (scope : Scope) : List Expr → Q → Prop
  | none {S' : It} {G : Tg} {A : E} : trIt n T iter = some S' → trTg { T with sc := relS scope T.sc } tg = some G → tgIn G ((ownOf T scope).map (·.2)) = true → trE n { T with sc := relS scope T.sc } elt = some A → LcTr n T elt tg iter scope [] (.lc A ((ownOf T scope).map (·.2)) G S')
  | one {S' : It} {G : Tg} {A : E} {c : Expr} {K : Cd} : trIt n T iter = some S' → trTg { T with sc := relS scope T.sc } tg = some G → tgIn G ((ownOf T scope).map (·.2)) = true → trC n { T with sc := relS scope T.sc } c = some K → trE n { T with sc := relS scope T.sc } elt = some A → LcTr n T elt tg iter scope [c] (.lci A ((ownOf T scope).map (·.2)) G S' K)
theorem lc_tr {n : Nat} {elt tg iter : Expr} {ifs : List Expr} {scope : Scope} {pos : Pos} {A : Q} (h : trQ (n + 1) T (.ListComp elt [⟨tg, iter, ifs, 0⟩] scope pos) = some A) : blkC T.N T.sc scope (ownOf T scope) = true ∧ isSet iter = false ∧ LcTr n T elt tg iter scope ifs A := by
  simp only [trQ] at h
  split at h
  · rename_i hb
    simp only [Bool.and_eq_true, Bool.not_eq_true'] at hb
    obtain ⟨S', h1, h2⟩ := Option.bind_eq_some_iff.mp h
    obtain ⟨G, h3, h4⟩ := Option.bind_eq_some_iff.mp h2
    split at h4
    · cases h4
    · rename_i hin
      have hin : tgIn G ((ownOf T scope).map (·.2)) = true := by simpa using hin
      refine ⟨hb.1, hb.2, ?_⟩
      split at h4
      · obtain ⟨A', h5, rfl⟩ := Option.map_eq_some_iff.mp h4
        exact .none h1 h3 hin h5
      · obtain ⟨K, h6, h7⟩ := Option.bind_eq_some_iff.mp h4
        obtain ⟨A', h5, rfl⟩ := Option.map_eq_some_iff.mp h7
        exact .one h1 h3 hin h6 h5
      · cases h4
  · cases h
theorem t_lc {n : Nat} (hX : NoX CX) (S : Snd CX k n) (F : Fit CX k T X Z W C) {elt tg iter : Expr} {ifs : List Expr} {scope : Scope} {pos : Pos} {A : Q} (h : trQ (n + 1) T (.ListComp elt [⟨tg, iter, ifs, 0⟩] scope pos) = some A) : SQ X Z W C (.ListComp elt [⟨tg, iter, ifs, 0⟩] scope pos) A := by
  obtain ⟨hb, hs, ht⟩ := lc_tr h
  have ok : BlkOk T.N T.sc scope (ownOf T scope) := blkOk_by hb
  have ok' : BlkOk X.N X.env.scope scope (ownOf T scope) := by rw [F.N, F.sc]; exact ok
  have hN : X.N.Nodup := by rw [F.N]; exact F.nd
  cases ht with
  | @none S' G A' h1 h3 hin h5 =>
    refine (q_held (C := C) (src := S') (u_lc (W' := fun _ _ _ => False) (c := fun _ st => .ok true st) F.K F.calm hN (S.i F h1 hs) ok' hin (fun s H C' cl fp => blk_tg F ok s H C' cl fp h3 hin) (fun s H C' cl fp => pts_nil.imp fun σ H Q h => ?_) (fun s H C' cl fp => S.e (F.blk hX ok s H C' cl fp) h5) (set_fold hs X.env))).imp fun σ H Q h => ?_
    · obtain ⟨μ, ρ, st, e, s, p⟩ := h
      exact p true H μ Ev.refl s rfl
    · obtain ⟨μ, ρ, st, e, s, p⟩ := h
      rw [ev_lc] at p
      exact ⟨μ, ρ, st, e, s, p⟩
  | @one S' G A' c K h1 h3 hin h6 h5 =>
    refine (q_held (C := C) (src := S') (u_lc (W' := fun _ _ _ => False) (c := evC C K) F.K F.calm hN (S.i F h1 hs) ok' hin (fun s H C' cl fp => blk_tg F ok s H C' cl fp h3 hin) (fun s H C' cl fp => pts_one (S.c (F.blk hX ok s H C' cl fp) h6)) (fun s H C' cl fp => S.e (F.blk hX ok s H C' cl fp) h5) (set_fold hs X.env))).imp fun σ H Q h => ?_
    obtain ⟨μ, ρ, st, e, s, p⟩ := h
    rw [ev_lci] at p
    exact ⟨μ, ρ, st, e, s, p⟩
theorem t_q {n : Nat} (hX : NoX CX) (S : Snd CX k n) (F : Fit CX k T X Z W C) {e : Expr} {A : Q} (h : trQ (n + 1) T e = some A) : SQ X Z W C e A := by
  have h0 := h
  unfold trQ at h
  split at h <;> first | (rename_i e; cases e; done) | skip
  · obtain ⟨L, h1, rfl⟩ := Option.map_eq_some_iff.mp h
    exact q_disp (S.es F h1).1
  · exact t_lc hX S F h0
  · rename_i f p a pos
    split at h
    · rename_i hc
      simp only [Bool.and_eq_true] at hc
      obtain ⟨⟨c1, c2⟩, c3⟩ := hc
      obtain ⟨g1, g2⟩ := isNb_k F c2
      split at h
      · rename_i hf
        cases isB_k hf
        obtain ⟨q, h1, rfl⟩ := Option.map_eq_some_iff.mp h
        have st := trL_star h1 X.env
        obtain ⟨i1, i2⟩ := S.l F h1
        exact q_bL rfl (fun ρ st => by simp only [evQ]) (RQS Z) (fun _ _ _ _ _ r => rel_s i2 r) (fun t ht => pe_callB (cq_sorted (W := W) F.K F.un) g1 g2 (by decide +kernel) ht (by decide) (by decide) (st []) rfl) i1 (st [])
      · split at h
        · rename_i hf
          cases isB_k hf
          obtain ⟨q, h1, rfl⟩ := Option.map_eq_some_iff.mp h
          have st := trQ_star h1 X.env
          exact q_bL rfl (fun ρ st => by simp only [evQ]) (RQ Z) (fun _ _ _ _ _ r => rel_q r) (fun t ht => pe_callTy (cq_list (W := W) F.K) g1 g2 (by decide +kernel) ht (by decide) (by decide) (st []) rfl) (S.q F h1) (st [])
        · cases h
    · obtain ⟨q, h1, rfl⟩ := Option.map_eq_some_iff.mp h
      exact q_ofE (S.e F h1)
  · obtain ⟨q, h1, rfl⟩ := Option.map_eq_some_iff.mp h
    obtain ⟨i1, i2⟩ := S.l F h1
    exact q_rev F.K i1 i2
  · split at h
    · cases h
    · obtain ⟨q, h1, rfl⟩ := Option.map_eq_some_iff.mp h
      exact q_ofE (S.e F h1)
theorem snd_all (hX : NoX CX) : ∀ n, Snd CX k n
  | 0 => snd_zero
  | n + 1 => by
    have S := snd_all hX n
    exact ⟨fun F _ _ h => t_e S F h, fun F _ _ h => t_es S F h, fun F _ _ _ _ _ h => t_cmp S F h, fun F _ _ _ _ h => t_ps S F h, fun F _ _ _ _ _ hn h => t_b S F hn h, fun F _ _ _ _ _ _ hl h0 h => t_m S F hl h0 h, fun F _ _ h => t_c S F h, fun F _ _ _ _ h => t_w S F h, fun F _ _ h => t_q hX S F h, fun F _ _ h => t_l S F h, fun F _ _ _ h hs => t_i S F h hs⟩
end
end MP

set_option Elab.async false
set_option linter.all false
set_option maxRecDepth 100000
set_option maxHeartbeats 4000000
/-! MP: translated statements, defs. -/
namespace MP
open PySem PySem.Spec L2
open PyProof.Rows hiding St

structure FitS (CX : CXT) (k : Nat) (T : TC) (X : Cx) (Z : Wd) (W : XK) (C : Ctx) : Prop extends Fit CX k T X Z W C where
  fn : ∀ x, X.fn x = true
  own : PassesOwn (model X.prog X.w) X.A X.env X.xe
section
variable {CX : CXT} {k : Nat} {T : TC} {X : Cx} {Z : Wd} {W : XK} {C : Ctx}
theorem FitS.hN (F : FitS CX k T X Z W C) : X.N.Nodup := by rw [F.N]; exact F.nd
theorem FitS.name (F : FitS CX k T X Z W C) {x : Str} {i : Nat} (h : T.tslot x = some i) : X.N[i]? = some x ∧ Loc X.env.scope x ∧ (X.fn x = true ∨ X.env.scope.names.lookup x = some .local) := by
  obtain ⟨_, h2, h3⟩ := tslot_k h
  exact ⟨by rw [F.N]; exact h3, by rw [F.sc]; exact h2, .inl (F.fn x)⟩
theorem FitS.nms (F : FitS CX k T X Z W C) : ∀ {es : List Expr} {is : List Nat}, trTg.go T es = some is → Nms X es is
  | [], is, h => by simp only [trTg.go, Option.some.injEq] at h; subst h; exact .nil
  | e :: es, is, h => by
    cases e <;> try (simp [trTg.go] at h; done)
    rename_i x p
    simp only [trTg.go] at h
    obtain ⟨i, h1, h2⟩ := Option.bind_eq_some_iff.mp h
    obtain ⟨is', h3, rfl⟩ := Option.map_eq_some_iff.mp h2
    obtain ⟨q1, q2, q3⟩ := F.name h1
    exact .cons q1 q2 q3 (F.nms h3)
theorem FitS.tg (F : FitS CX k T X Z W C) {tg : Expr} {t : Tg} (h : trTg T tg = some t) : PG X tg (gT X.prog X.w Z t) := by
  refine Tgt.g ?_ F.K F.calm F.hN
  cases tg <;> try (simp [trTg] at h; done)
  · rename_i x p
    simp only [trTg] at h
    obtain ⟨i, h1, rfl⟩ := Option.map_eq_some_iff.mp h
    obtain ⟨q1, q2, q3⟩ := F.name h1
    exact .name q1 q2 q3
  · rename_i es j p
    simp only [trTg] at h
    obtain ⟨is, h1, rfl⟩ := Option.map_eq_some_iff.mp h
    exact .tup (F.nms h1)
theorem block_fn {env : PySem.Env} (hk : env.scope.kind = .function) : env.blockKind = .function := by
  unfold PySem.Env.blockKind
  rw [hk]
  rfl
theorem swp_eq {env : PySem.Env} {ts vs : List Expr} {j j2 : Nat} {p p2 : Pos} (hk : env.scope.kind = .function) : (parOf env.scope ts vs = none → swappedStores [.Tuple ts j p] (.Tuple vs j2 p2) env = pure none) ∧
    ∀ ns, ns ≠ [] → parOf env.scope ts vs = some ns → swappedStores [.Tuple ts j p] (.Tuple vs j2 p2) env = pure (some ns) := by
  have hb := block_fn hk
  have kd : ∀ id, env.kindOf id = List.lookup id env.scope.names := fun _ => rfl
  unfold parOf
  unfold swappedStores
  simp only [hb, bne_self_eq_false, kd]
  generalize (List.filterMap _ ts) = names
  generalize (!(ts.length == 2 || ts.length == 3) || vs.length != ts.length || false) = b1
  generalize (vs.any _) = b2
  generalize (names.length != ts.length || names.eraseDups.length != names.length) = b3
  generalize vs.all (foldedForSure 8) = b4
  generalize vs.all (constantsAlone 8) = b5
  cases b1 <;> cases b2 <;> cases b3 <;> cases b4 <;> cases b5 <;> simp
  · intro ns h1 h2; rw [h2]
  · intro ns h1 h2; exact absurd h2 h1
theorem par_mem {sc : Scope} {ts vs : List Expr} {ns : List Str} (h : parOf sc ts vs = some ns) {z : Str} (hz : z ∈ ns) : sc.names.lookup z = some .local := by
  unfold parOf at h
  have mem : ∀ {l : Nat}, z ∈ (ts.filterMap fun | .Name id pos => if sc.names.lookup id == some .local && pos.line == l then some id else none | _ => none) → sc.names.lookup z = some .local := fun hm => by
    obtain ⟨ex, hex, he⟩ := List.mem_filterMap.mp hm
    cases ex <;> simp at he
    exact he.2 ▸ he.1.1
  revert mem
  simp only [] at h
  generalize ((Option.map (fun x => (Expr.pos x).line) ts.head?).getD 0) = l at h
  intro mem
  have mem := @mem l
  revert h mem
  generalize (List.filterMap _ ts) = names
  generalize (!(ts.length == 2 || ts.length == 3) || vs.length != ts.length || false) = b1
  generalize (vs.any _) = b2
  generalize (names.length != ts.length || names.eraseDups.length != names.length) = b3
  generalize vs.all (foldedForSure 8) = b4
  generalize vs.all (constantsAlone 8) = b5
  intro h mem
  cases b1 <;> cases b2 <;> cases b3 <;> cases b4 <;> cases b5 <;> simp at h
  · subst h; exact mem hz
  · subst h; cases hz
theorem swp_T (F : FitS CX k T X Z W C) {ts : List Expr} {j : Nat} {p : Pos} {v : Expr} (h : parT T ts v = none) : swappedStores [.Tuple ts j p] v X.env = pure none := by
  have hk : X.env.scope.kind = .function := by rw [F.sc]; exact F.kind
  cases v <;> first | rfl | skip
  rename_i vs j2 p2
  exact (swp_eq hk).1 (by rw [F.sc]; exact h)
theorem sole_plain {tg v : Expr} (hv : isComp v = false) (l : Nat) (env : PySem.Env) : swapsWithSole [tg] v l env = pure false ∧ swapsWith v none l env = pure false := by
  cases v <;> first | exact ⟨rfl, rfl⟩ | (simp [isComp] at hv; done)
theorem lc_shape {n : Nat} {elt : Expr} {gs : List Comprehension} {scope : Scope} {pos : Pos} {A : Q} (h : trQ n T (.ListComp elt gs scope pos) = some A) (hf : A.fresh = true) : ∃ m tg iter ifs, n = m + 1 ∧ gs = [⟨tg, iter, ifs, 0⟩] := by
  cases n with
  | zero => simp [trQ] at h
  | succ n =>
    unfold trQ at h
    split at h <;> first | (rename_i e; cases e; done) | skip
    · rename_i e; cases e; exact ⟨_, _, _, _, rfl, rfl⟩
    · split at h
      · cases h
      · obtain ⟨q, h1, rfl⟩ := Option.map_eq_some_iff.mp h
        simp [Q.fresh] at hf
theorem t_lcS {n : Nat} (hX : NoX CX) (S : Snd CX k n) (F : FitS CX k T X Z W C) {i : Nat} {y : Str} {py spos : Pos} {elt tg iter : Expr} {ifs : List Expr} {scope : Scope} {pos : Pos} {A : Q} (hy : X.N[i]? = some y) (hyl : X.env.scope.names.lookup y = some .local)
    (hsw : swapsWith (.ListComp elt [⟨tg, iter, ifs, 0⟩] scope pos) (some (.Name y py)) spos.line X.env = pure true) (h : trQ (n + 1) T (.ListComp elt [⟨tg, iter, ifs, 0⟩] scope pos) = some A) :
    PS X (.Assign [.Name y py] (.ListComp elt [⟨tg, iter, ifs, 0⟩] scope pos) spos) (tAsg (fun σ H Q => tG X.prog X.w Z W (RQL Z H) (evQ C A) σ H Q) (gName i)) := by
  obtain ⟨hb, hs, ht⟩ := lc_tr h
  have ok : BlkOk T.N T.sc scope (ownOf T scope) := blkOk_by hb
  have ok' : BlkOk X.N X.env.scope scope (ownOf T scope) := by rw [F.N, F.sc]; exact ok
  have F0 := F.toFit
  cases ht with
  | @none S' G A' h1 h3 hin h5 =>
    have z := q_heldS (C := C) (src := S') (u_setLc (W' := fun _ _ _ => False) (c := fun _ st => .ok true st) F.K F.calm F.hN hy hyl hsw (S.i F0 h1 hs) ok' hin (fun s H C' cl fp => blk_tg F0 ok s H C' cl fp h3 hin) (fun s H C' cl fp => pts_nil.imp fun σ H Q h => by
      obtain ⟨μ, ρ, st, e, s, p⟩ := h
      exact p true H μ Ev.refl s rfl) (fun s H C' cl fp => S.e (F0.blk hX ok s H C' cl fp) h5) (set_fold hs X.env))
    have e : evQ C (.lc A' ((ownOf T scope).map (·.2)) G S') = fun ρ st => held (evLk C S' ρ st) (compL C G ((ownOf T scope).map (·.2)) (fun _ st => .ok true st) A' S' ρ) st := funext fun ρ => funext fun st => ev_lc ρ st
    rw [e]
    exact z
  | @one S' G A' c K h1 h3 hin h6 h5 =>
    have z := q_heldS (C := C) (src := S') (u_setLc (W' := fun _ _ _ => False) (c := evC C K) F.K F.calm F.hN hy hyl hsw (S.i F0 h1 hs) ok' hin (fun s H C' cl fp => blk_tg F0 ok s H C' cl fp h3 hin) (fun s H C' cl fp => pts_one (S.c (F0.blk hX ok s H C' cl fp) h6)) (fun s H C' cl fp => S.e (F0.blk hX ok s H C' cl fp) h5) (set_fold hs X.env))
    have e : evQ C (.lci A' ((ownOf T scope).map (·.2)) G S' K) = fun ρ st => held (evLk C S' ρ st) (compL C G ((ownOf T scope).map (·.2)) (evC C K) A' S' ρ) st := funext fun ρ => funext fun st => ev_lci ρ st
    rw [e]
    exact z
/-- name = e -/
theorem t_set {n : Nat} (hX : NoX CX) (F : FitS CX k T X Z W C) {x : Str} {i : Nat} {p pos : Pos} {v : Expr} {V' : E} (hx : T.tslot x = some i) (hv : trE n T v = some V') : SS X Z W C (.Assign [.Name x p] v pos) (.asg (.name i) V') := by
  obtain ⟨q1, q2, q3⟩ := F.name hx
  have S := snd_all (k := k) hX n
  have plain : swapsWithSole [.Name x p] v pos.line X.env = pure false → SS X Z W C (.Assign [.Name x p] v pos) (.asg (.name i) V') := fun hs =>
    ss_asg (g_name F.hN q1 q2 q3) (S.e F.toFit hv) hs (by cases v <;> rfl) rfl
  cases v with
  | ListComp elt gs scope lp =>
    cases n with
    | zero => simp [trE] at hv
    | succ n =>
      simp only [trE] at hv
      obtain ⟨q, h1, h2, rfl⟩ := mkE_k hv
      obtain ⟨m, tg, iter, ifs, rfl, rfl⟩ := lc_shape h1 h2
      have e : ∀ b, (X.env.blockKind == .function && X.env.kindOf x == some .local && p.line == lp.line && !(scope.names.any fun (n, k) => n == x && (k == .local || k == .cell))) = b → swapsWithSole [.Name x p] (.ListComp elt [⟨tg, iter, ifs, 0⟩] scope lp) pos.line X.env = pure b := fun b hb => by rw [← hb]; rfl
      cases hb : (X.env.blockKind == .function && X.env.kindOf x == some .local && p.line == lp.line && !(scope.names.any fun (n, k) => n == x && (k == .local || k == .cell))) with
      | false => exact plain (e _ hb)
      | true =>
        have hl : X.env.scope.names.lookup x = some .local := by
          simp only [Bool.and_eq_true, beq_iff_eq] at hb
          exact hb.1.1.2
        exact ss_asgQ h2 (t_lcS hX (snd_all hX m) F q1 hl (e _ hb) h1)
  | SetComp a b c d => cases n <;> simp [trE] at hv
  | DictComp a b c d => cases n <;> simp [trE] at hv
  | _ => exact plain rfl
/-- statements -/
structure SndS (CX : CXT) (k : Nat) (n : Nat) : Prop where
  s : ∀ {T X Z W C}, FitS CX k T X Z W C → ∀ {s : Stmt} {A : S}, trS n T s = some A → SS X Z W C s A
  ss : ∀ {T X Z W C}, FitS CX k T X Z W C → ∀ {s : List Stmt} {A : Ss}, trSs n T s = some A → SSs X Z W C s A
theorem t_s {n : Nat} (hX : NoX CX) (S : SndS CX k n) (F : FitS CX k T X Z W C) {s : Stmt} {A : MP.S} (h : trS (n + 1) T s = some A) : SS X Z W C s A := by
  have E := snd_all (k := k) hX n
  have F0 := F.toFit
  unfold trS at h
  split at h <;> first | (rename_i e; cases e; done) | skip
  · split at h
    · cases h
    · rename_i hc
      obtain ⟨A', h1, rfl⟩ := Option.map_eq_some_iff.mp h
      exact ss_exp (E.e F0 h1) (sole_plain (tg := .Name ⟨#[]⟩ default) (by simpa using hc) _ _).2
  · obtain ⟨A', h1, rfl⟩ := Option.map_eq_some_iff.mp h
    exact ss_ret (E.e F0 h1)
  · cases h; exact ss_retN
  · cases h; exact ss_pass
  · cases h; exact ss_brk
  · cases h; exact ss_cont
  · rename_i tg v pos
    split at h
    · obtain ⟨i, h1, h2⟩ := Option.bind_eq_some_iff.mp h
      obtain ⟨V', h3, rfl⟩ := Option.map_eq_some_iff.mp h2
      exact t_set hX F h1 h3
    · split at h
      · cases h
      · rename_i hc
        have hc : isComp v = false := by simpa using hc
        split at h
        · rename_i hp
          obtain ⟨G, h1, h2⟩ := Option.bind_eq_some_iff.mp h
          obtain ⟨V', h3, rfl⟩ := Option.map_eq_some_iff.mp h2
          exact ss_asg (F.tg h1) (E.e F0 h3) (sole_plain hc _ _).1 (swp_T F hp) rfl
        · rename_i names hp
          split at h
          · rename_i x px y py a b j2 p2 hh
            split at h
            · rename_i hn
              subst hn
              obtain ⟨i, h1, h2⟩ := Option.bind_eq_some_iff.mp h
              obtain ⟨j, h3, h4⟩ := Option.bind_eq_some_iff.mp h2
              split at h4
              · cases h4
              · rename_i hij
                obtain ⟨L, h5, rfl⟩ := Option.map_eq_some_iff.mp h4
                have hk : X.env.scope.kind = .function := by rw [F.sc]; exact F.kind
                have hp' : parOf X.env.scope [.Name x px, .Name y py] [a, b] = some [x, y] := by rw [F.sc]; exact hp
                have loc : ∀ z ∈ [x, y], X.env.scope.names.lookup z = some .local := by
                  exact fun z hz => par_mem hp' hz
                have ha := E.es F0 h5
                obtain ⟨A1, A2, rfl⟩ : ∃ A1 A2, L = .cons A1 (.cons A2 .nil) := by
                  match n, h5 with
                  | 0, h5 => simp [trEs] at h5
                  | n + 1, h5 =>
                    simp only [trEs] at h5
                    obtain ⟨A1, _, h6⟩ := Option.bind_eq_some_iff.mp h5
                    obtain ⟨R1, h7, rfl⟩ := Option.map_eq_some_iff.mp h6
                    match n, h7 with
                    | 0, h7 => simp [trEs] at h7
                    | n + 1, h7 =>
                      simp only [trEs] at h7
                      obtain ⟨A2, _, h8⟩ := Option.bind_eq_some_iff.mp h7
                      obtain ⟨R2, h9, rfl⟩ := Option.map_eq_some_iff.mp h8
                      match n, h9 with
                      | 0, h9 => simp [trEs] at h9
                      | n + 1, h9 =>
                        simp only [trEs, Option.some.injEq] at h9
                        subst h9
                        exact ⟨A1, A2, rfl⟩
                exact ss_par F.calm F.hN (by rw [F.N]; exact ixOf_get h1) (by rw [F.N]; exact ixOf_get h3) hij (loc x (by simp)) (loc y (by simp)) ha.1 ((swp_eq hk).2 [x, y] (by simp) hp')
            · cases h
          · cases h
    · rename_i o i p
      split at h
      · cases h
      · rename_i hsl
        obtain ⟨O, h1, h2⟩ := Option.bind_eq_some_iff.mp h
        obtain ⟨I', h3, h4⟩ := Option.bind_eq_some_iff.mp h2
        obtain ⟨V', h5, rfl⟩ := Option.map_eq_some_iff.mp h4
        refine ss_setIx F.K F.un' (E.e F0 h1) (E.e F0 h3) (E.e F0 h5) (fun _ => by cases i <;> first | rfl | exact absurd rfl hsl) ?_ ?_ rfl
        · cases v <;> rfl
        · cases v <;> rfl
    · cases h
  · rename_i x p op e pos
    obtain ⟨i, h1, h2⟩ := Option.bind_eq_some_iff.mp h
    obtain ⟨q1, q2, q3⟩ := F.name h1
    split at h2
    · split at h2
      · obtain ⟨q, h3, rfl⟩ := Option.map_eq_some_iff.mp h2
        obtain ⟨h3, h4⟩ := mkF_k h3
        exact ss_ext F.hN q1 q2 q3 h4 (E.q F0 h3)
      · obtain ⟨q, h3, rfl⟩ := Option.map_eq_some_iff.mp h2
        exact ss_aug F.hN q1 q2 q3 aug_add (E.e F0 h3)
    · obtain ⟨q, h3, rfl⟩ := Option.map_eq_some_iff.mp h2
      exact ss_aug F.hN q1 q2 q3 aug_sub (E.e F0 h3)
    · obtain ⟨q, h3, rfl⟩ := Option.map_eq_some_iff.mp h2
      exact ss_aug F.hN q1 q2 q3 aug_mul (E.e F0 h3)
    · cases h2
  · obtain ⟨K, h1, h2⟩ := Option.bind_eq_some_iff.mp h
    obtain ⟨A', h3, h4⟩ := Option.bind_eq_some_iff.mp h2
    obtain ⟨B', h5, rfl⟩ := Option.map_eq_some_iff.mp h4
    exact ss_if (E.c F0 h1) (S.ss F h3) (S.ss F h5)
  · obtain ⟨K, h1, h2⟩ := Option.bind_eq_some_iff.mp h
    obtain ⟨B', h5, rfl⟩ := Option.map_eq_some_iff.mp h2
    exact ss_while F.own (E.c F0 h1) (S.ss F h5)
  · split at h
    · cases h
    · rename_i hs
      have hs := by simpa using hs
      obtain ⟨I', h1, h2⟩ := Option.bind_eq_some_iff.mp h
      obtain ⟨G, h3, h4⟩ := Option.bind_eq_some_iff.mp h2
      obtain ⟨B', h5, rfl⟩ := Option.map_eq_some_iff.mp h4
      exact ss_for F.own F.calm (E.i F0 h1 hs) (F.tg h3) (S.ss F h5) (set_fold hs X.env)
  · cases h
theorem sndS_all (hX : NoX CX) : ∀ n, SndS CX k n
  | 0 => by constructor <;> intro T X Z W C F <;> intros <;> simp_all [trS, trSs]
  | n + 1 => by
    have S := sndS_all hX n
    refine ⟨fun F _ _ h => t_s hX S F h, fun F s A h => ?_⟩
    cases s with
    | nil => simp only [trSs, Option.some.injEq] at h; subst h; exact ss_nil
    | cons s r =>
      simp only [trSs] at h
      obtain ⟨A', h1, h2⟩ := Option.bind_eq_some_iff.mp h
      obtain ⟨R', h3, rfl⟩ := Option.map_eq_some_iff.mp h2
      exact ss_cons (S.s F h1) (S.ss F h3)
end
end MP

set_option Elab.async false
set_option linter.all false
set_option maxRecDepth 100000
set_option maxHeartbeats 4000000
/-! MP: defs, by induction on the depth of calls. -/
namespace MP
open PySem PySem.Spec L2
open PyProof.Rows hiding St

mutual
/-- all objects in it are among the first m -/
def D.bnd (m : Nat) : D → Prop
  | .tup ds => D.bndL m ds
  | .cl ds => D.bndL m ds
  | .ref n => n < m
  | .lam _ ds => D.bndL m ds
  | .non | .bl _ | .int _ | .str _ | .fn _ | .kls _ => True
def D.bndL (m : Nat) : List D → Prop
  | [] => True
  | d :: ds => D.bnd m d ∧ D.bndL m ds
end
section
variable {Z : Wd} {H H' : Hp} {μ ν : List Addr}
mutual
theorem Rep.bnd : ∀ {v : V} {d : D}, Rep Z H μ v d → D.bnd μ.length d
  | _, _, .non => by simp [D.bnd]
  | _, _, .bl b => by simp [D.bnd]
  | _, _, .int b => by simp [D.bnd]
  | _, _, .str b => by simp [D.bnd]
  | _, _, .tup h r => by simp only [D.bnd]; exact RepL.bnd r
  | _, _, .cl h r => by simp only [D.bnd]; exact RepL.bnd r
  | _, _, .ref h => by simp only [D.bnd]; exact (List.getElem?_eq_some_iff.mp h).1
  | _, _, .fn h => by simp [D.bnd]
  | _, _, .kls h => by simp [D.bnd]
theorem RepL.bnd : ∀ {v : List V} {d : List D}, RepL Z H μ v d → D.bndL μ.length d
  | _, _, .nil => by simp [D.bndL]
  | _, _, .cons h r => by simp only [D.bndL]; exact ⟨Rep.bnd h, RepL.bnd r⟩
end
mutual
theorem Rep.down : ∀ {v : V} {d : D}, Rep Z H (μ ++ ν) v d → D.bnd μ.length d → Rep Z H μ v d
  | _, _, .non, _ => .non
  | _, _, .bl b, _ => .bl b
  | _, _, .int b, _ => .int b
  | _, _, .str b, _ => .str b
  | _, _, .tup h r, b => .tup h (RepL.down r (by simpa only [D.bnd] using b))
  | _, _, .cl h r, b => .cl h (RepL.down r (by simpa only [D.bnd] using b))
  | _, _, .ref h, b => .ref (by
    rw [List.getElem?_append_left (by simpa only [D.bnd] using b)] at h
    exact h)
  | _, _, .fn h, _ => .fn h
  | _, _, .kls h, _ => .kls h
theorem RepL.down : ∀ {v : List V} {d : List D}, RepL Z H (μ ++ ν) v d → D.bndL μ.length d → RepL Z H μ v d
  | _, _, .nil, _ => .nil
  | _, _, .cons h r, b => .cons (Rep.down h (by simp only [D.bndL] at b; exact b.1)) (RepL.down r (by simp only [D.bndL] at b; exact b.2))
end
mutual
theorem flat_bnd (m : Nat) : ∀ d : D, d.flat = true → D.bnd m d
  | .non, _ => by simp [D.bnd]
  | .bl _, _ => by simp [D.bnd]
  | .int _, _ => by simp [D.bnd]
  | .str _, _ => by simp [D.bnd]
  | .tup ds, h => by simp only [D.bnd]; exact flat_bndL m ds (by simpa [D.flat] using h)
  | .cl ds, h => by simp only [D.bnd]; exact flat_bndL m ds (by simpa [D.flat] using h)
  | .ref _, h => by simp [D.flat] at h
  | .fn _, h => by simp [D.flat] at h
  | .kls _, h => by simp [D.flat] at h
  | .lam _ _, h => by simp [D.flat] at h
theorem flat_bndL (m : Nat) : ∀ d : List D, D.flatL d = true → D.bndL m d
  | [], _ => by simp [D.bndL]
  | d :: ds, h => by
    simp only [D.flatL, Bool.and_eq_true] at h
    simp only [D.bndL]
    exact ⟨flat_bnd m d h.1, flat_bndL m ds h.2⟩
end
theorem RepKF.down {H0 : Hp} : ∀ {es0 es : List (Key × V)} {kvs : List (D × D)}, RepKF Z H0 μ es0 kvs → RepKF Z H (μ ++ ν) es kvs → RepKF Z H μ es kvs
  | _, _, _, .nil, .nil => .nil
  | _, _, _, .cons _ r t, .cons k r' t' => .cons k (r'.down r.bnd) (RepKF.down t t')
/-- keys and values among the first m -/
inductive KvB (m : Nat) : List (D × D) → Prop
  | nil : KvB m []
  | cons {d e : D} {r : List (D × D)} : (D.bnd m d) → D.bnd m e → KvB m r → KvB m ((d, e) :: r)
theorem fkey_bnd {d : D} {k : Key} (m : Nat) (h : fkey d = some k) : D.bnd m d := by
  cases d <;> simp [fkey] at h <;> simp [D.bnd]
theorem RepKF.kb : ∀ {es : List (Key × V)} {kvs : List (D × D)}, RepKF Z H μ es kvs → KvB μ.length kvs
  | _, _, .nil => .nil
  | _, _, .cons k r t => .cons (fkey_bnd _ k) r.bnd (RepKF.kb t)
theorem RepKN.kb : ∀ {es : List (NestedKey × Addr × V)} {kvs : List (D × D)}, RepKN Z H μ es kvs → KvB μ.length kvs
  | _, _, .nil => .nil
  | _, _, .cons k q r t => .cons q.bnd r.bnd (RepKN.kb t)
theorem RepKF.down' : ∀ {es : List (Key × V)} {kvs : List (D × D)}, KvB μ.length kvs → RepKF Z H (μ ++ ν) es kvs → RepKF Z H μ es kvs
  | _, _, .nil, .nil => .nil
  | _, _, .cons _ r t, .cons k r' t' => .cons k (r'.down r) (RepKF.down' t t')
theorem RepKN.down' : ∀ {es : List (NestedKey × Addr × V)} {kvs : List (D × D)}, KvB μ.length kvs → RepKN Z H (μ ++ ν) es kvs → RepKN Z H μ es kvs
  | _, _, .nil, .nil => .nil
  | _, _, .cons q r t, .cons k q' r' t' => .cons k (q'.down q) (r'.down r) (RepKN.down' t t')
theorem RepDct.kb {P : Program} {w : World} {a : Addr} {kvs : List (D × D)} {u : HO} (h : RepDct P w Z H μ a kvs u) : KvB μ.length kvs := by
  rcases h with ⟨es, rfl, r⟩ | ⟨es, rfl, _, r⟩
  · exact r.kb
  · exact r.kb
theorem RepDct.down {P : Program} {w : World} {a : Addr} {kvs : List (D × D)} {u : HO} (b : KvB μ.length kvs) (h : RepDct P w Z H (μ ++ ν) a kvs u) : RepDct P w Z H μ a kvs u := by
  rcases h with ⟨es, rfl, r⟩ | ⟨es, rfl, ne, r⟩
  · exact .inl ⟨es, rfl, r.down' b⟩
  · exact .inr ⟨es, rfl, ne, r.down' b⟩
theorem RepO.down {P : Program} {w : World} {H0 : Hp} {a a0 : Addr} {o : Ob} (h0 : RepO P w Z H0 μ a0 o) (h : RepO P w Z H (μ ++ ν) a o) : RepO P w Z H μ a o := by
  cases o with
  | lst ds =>
    obtain ⟨_, _, r0⟩ := h0
    obtain ⟨xs, q, r⟩ := h
    exact ⟨xs, q, r.down r0.bnd⟩
  | dct kvs =>
    obtain ⟨_, _, r0⟩ := h0
    obtain ⟨u, q, r⟩ := h
    exact ⟨u, q, r.down r0.kb⟩
  | fdct kvs =>
    obtain ⟨_, _, _, r0⟩ := h0
    obtain ⟨o, u, q, r⟩ := h
    exact ⟨o, u, q, r.down r0.kb⟩
  | ins c fs => exact h
/-- what nothing can reach is dropped -/
theorem SRep.trunc {P : Program} {w : World} {H0 : Hp} {st st' : Sto} (S0 : SRep P w Z H0 μ st) (S : SRep P w Z H (μ ++ ν) st') (h : st'.take st.length = st) : SRep P w Z H μ st := by
  refine ⟨S0.len, S0.nd, fun n o a h1 h2 => ?_⟩
  have hn : n < st.length := (List.getElem?_eq_some_iff.mp h1).1
  have e1 : st'[n]? = some o := by
    have : (st'.take st.length)[n]? = some o := by rw [h]; exact h1
    rwa [List.getElem?_take_of_lt hn] at this
  have e2 : (μ ++ ν)[n]? = some a := by rw [List.getElem?_append_left (by rw [S0.len]; exact hn)]; exact h2
  exact (S0.ob n o a h1 h2).down (S.ob n o a e1 e2)
end
/-- a translated def -/
structure DefOk (K : PySem.W.Frag) (mg : Str → Option Value) (fns gls nb : List Str) (FT : Nat → Option FD) (x : Str) (g : Nat) : Prop where
  ex : ∃ (f : Addr) (name qual : Str) (params : Arguments) (body : List Stmt) (scope : Scope) (dV kV doc pm cdv ct oc : Value) (an od : Option Addr) (osl : Array (Option Value)) (N ps : List Str) (n : Nat) (A : Ss),
    FT g = some ⟨ps.length, N.length, A⟩ ∧ trSs n ⟨N, scope, fns, gls, nb⟩ body = some A ∧ FnScope N ps scope ∧ mg x = some (.ref f) ∧ PySem.W.keepIn K (.ref f) = true ∧
    K.lookup f = some ⟨oc, od, .func (PySem.W.fnOf name qual params body scope dV kV doc pm an cdv ct), osl⟩ ∧ PySem.W.codeIn K cdv qual = true ∧ ∀ us : List Value, us.length = ps.length → bindArgs (PySem.W.fnOf name qual params body scope dV kV doc pm an cdv ct) ⟨us, []⟩ = pure (ps.zip us)
/-- the module's names -/
structure ModOk (K : PySem.W.Frag) (mg : Str → Option Value) (fns gls nb : List Str) (FT : Nat → Option FD) (G : Nat → Option D) (Z : Wd) : Prop where
  k : Z.K = K
  mb : ∀ x ∈ nb, mg x = none
  ml : ∀ (i : Nat) (x : Str), ixOf x gls = some i → ∃ d v u, G i = some d ∧ mg x = some u ∧ RelV v u ∧ ∀ H μ, Rep Z H μ v d
  mf : ∀ (x : Str) (g : Nat), ixOf x fns = some g → DefOk K mg fns gls nb FT x g
theorem erep_start {Z : Wd} {H : Hp} {μ : List Addr} {N : List Str} {vs : List V} {ds : List D} {m : Nat} (r : RepL Z H μ vs ds) (hm : vs.length ≤ N.length) (he : m = N.length - ds.length) : ERep Z H μ (L2.start N vs) (ds.map some ++ List.replicate m none) := by
  refine ⟨by simp [L2.start, r.length, he] <;> omega, fun i d h => ?_⟩
  have hi : i < ds.length := by
    rw [List.getElem?_append] at h
    split at h
    · rename_i hi; simpa using hi
    · rw [List.getElem?_replicate] at h
      split at h <;> simp at h
  rw [List.getElem?_append_left (by simpa using hi)] at h
  simp only [List.getElem?_map, Option.map_eq_some_iff] at h
  obtain ⟨d', h1, h2⟩ := h
  cases h2
  obtain ⟨v, h3, h4⟩ := r.get h1
  refine ⟨v, ?_, h4⟩
  unfold L2.start
  rw [List.getElem?_append_left (by rw [List.length_map, r.length]; exact hi), List.getElem?_map, h3]
  rfl
section
variable {P : Program} {w : World} {K : PySem.W.Frag} {mg : Str → Option Value} {base : Heap} {fns gls nb : List Str} {FT : Nat → Option FD} {G : Nat → Option D} {Z : Wd}
theorem nox0 : NoX CX0 := fun _ _ _ _ _ h => h
/-- the end of a body is the end of the call -/
theorem gc_ok {W : XK} {H : Hp} {μ : List Addr} {st : Sto} {r : R (Fl × MP.Env)} {Q : VK} (S : SRep P w Z H μ st) (h : Pst P w Z W H μ (RV Z) (gc st (retOf r)) fun _ _ v H' _ => Q v H') : Pst P w Z W H μ (RF Z) r fun _ _ v H' _ => endK { nx := fun _ H' => Q .non H', rt := Q } v H' := by
  have fin : ∀ {d : D} {st' : Sto} {v : V} {H' : Hp} {μ' : List Addr}, Pst P w Z W H μ (RV Z) (gc st (.ok d st')) (fun _ _ v H' _ => Q v H') → Ev H μ H' μ' → SRep P w Z H' μ' st' → Rep Z H' μ' v d → Q v H' := by
    intro d st' v H' μ' h ev S' rv
    simp only [gc] at h
    split at h
    · rename_i hc
      obtain ⟨⟨ν, rfl, hν⟩, kp, fz⟩ := ev
      exact h v H' μ ⟨⟨[], by simp, by simp⟩, kp, fz⟩ (S.trunc S' hc.2) (rv.down (flat_bnd _ d hc.1))
    · exact h v H' μ' ev S' rv
  cases r with
  | bad => exact h
  | exc c fs st' => exact h
  | ok fr st' =>
    obtain ⟨fl, ρ⟩ := fr
    intro v H' μ' ev S' rf
    cases fl with
    | next =>
      cases v with
      | nx σ => exact fin (d := .non) h ev S' .non
      | _ => exact False.elim rf
    | ret d =>
      cases v with
      | rt v => exact fin h ev S' rf
      | _ => exact False.elim rf
    | brk => exact False.elim h
    | cont => exact False.elim h
theorem fn_ok (M : ModOk K mg fns gls nb FT G Z) : ∀ (k : Nat) (x : Str) (g : Nat), ixOf x fns = some g → ∃ (f : Addr) (fd : FuncData) (ps : List Str), mg x = some (.ref f) ∧ PySem.W.keepIn K (.ref f) = true ∧
    (∀ base, FnOk P w K mg base CX0 k f fd ps (spF P w Z ⟨run FT G k, G⟩ g)) ∧ (∀ us : List Value, us.length = ps.length → bindArgs fd ⟨us, []⟩ = pure (ps.zip us)) ∧ ∃ m A, FT g = some ⟨ps.length, m, A⟩
  | 0, x, g, hx => by
    obtain ⟨f, name, qual, params, body, scope, dV, kV, doc, pm, cdv, ct, oc, an, od, osl, N, ps, n, A, h1, h2, h3, h4, h5, h6, h7, h8⟩ := (M.mf x g hx).ex
    refine ⟨f, _, ps, h4, h5, fun base => ⟨fun vs H Q E h => ?_, fun Ar outer s H args us vs Q E hr e0 hb hv h => ?_⟩, h8, _, _, h1⟩
    · obtain ⟨μ, ds, st, _, _, p⟩ := h
      exact False.elim p
    · obtain ⟨μ, ds, st, _, _, p⟩ := h
      exact False.elim p
  | k + 1, x, g, hx => by
    obtain ⟨f, name, qual, params, body, scope, dV, kV, doc, pm, cdv, ct, oc, an, od, osl, N, ps, n, A, h1, h2, h3, h4, h5, h6, h7, h8⟩ := (M.mf x g hx).ex
    have hlen : ∀ vs H Q E, spF P w Z ⟨run FT G (k + 1), G⟩ g vs H Q E → vs.length = ps.length := fun vs H Q E h => by
      obtain ⟨μ, ds, st, _, rl, p⟩ := h
      simp only [run, h1] at p
      split at p
      · rename_i hl; rw [rl.length]; exact hl.1
      · exact False.elim p
    refine ⟨f, _, ps, h4, h5, fun base => fn_of h6 h7 h3 hlen fun Ar outer s H vs Q E hr h => ?_, h8, _, _, h1⟩
    obtain ⟨μ, ds, st, S, rl, p⟩ := h
    simp only [run, h1] at p
    split at p
    · rename_i hl
      have fit : FitS CX0 k ⟨N, scope, fns, gls, nb⟩ (cxOf CX0 P w K mg base N qual scope f cdv Ar outer s H E).nox Z E ⟨run FT G k, G⟩ :=
        { N := rfl
          sc := rfl
          kind := h3.kind
          nd := h3.nd
          calm := rfl
          K := M.k
          room := hr
          nb := M.mb
          gl := M.ml
          fns := fun x g hg => by
            obtain ⟨f, fd, ps, q1, q2, q3, q4, _⟩ := fn_ok M k x g hg
            exact ⟨f, fd, ps, q1, q2, q3 base, Binds.all q4⟩
          pass := pass0
          fn := fun _ => rfl
          own := PassesOwn.never }
      refine ⟨_, ((sndS_all nox0 n).ss fit (A := A) h2).nox, μ, _, st, erep_start rl ?_ rfl, S, gc_ok S ?_⟩
      · rw [rl.length, hl.1]; exact hl.2
      · rw [hl.1]; exact p
    · exact False.elim p
end
end MP

set_option Elab.async false
set_option linter.all false
set_option maxRecDepth 100000
set_option maxHeartbeats 4000000
/-! MP: the law's row. -/
namespace MP
open PySem PySem.Spec L2
open PyProof.Rows hiding St

section
variable {K : PySem.W.Frag} {mg : Str → Option Value} {h : Heap} {fns gls nb : List Str} {FT : Nat → Option FD} {G : Nat → Option D} {Z : Wd} {x : Str} {g : Nat}
theorem mkDef (X : K.In h) (Gm : h.Ns mainGlobals mg) {f : Addr} {oc : Value} {od : Option Addr} {osl : Array (Option Value)} {name qual : Str} {params : Arguments} {body : List Stmt} {scope : Scope} {kV doc pm cdv ct : Value} {an : Option Addr} {N ps : List Str} {n : Nat} {A : Ss}
    (S : C8.scC N ps scope = true) (t : trSs n ⟨N, scope, fns, gls, nb⟩ body = some A) (hF : FT g = some ⟨ps.length, N.length, A⟩)
    (hb : ∀ (name qual : Str) (body : List Stmt) (scope : Scope) (kV doc pm cdv ct : Value) (an : Option Addr) (us : List Value), us.length = ps.length → bindArgs (PySem.W.fnOf name qual params body scope .none kV doc pm an cdv ct) ⟨us, []⟩ = pure (ps.zip us))
    (a : PySem.W.nsIn K mainGlobals x = some (some (.ref f))) (kp : PySem.W.keepIn K (.ref f) = true) (l : K.lookup f = some ⟨oc, od, .func (PySem.W.fnOf name qual params body scope .none kV doc pm an cdv ct), osl⟩) (c : PySem.W.codeIn K cdv qual = true) : DefOk K mg fns gls nb FT x g :=
  ⟨f, name, qual, params, body, scope, .none, kV, doc, pm, cdv, ct, oc, an, od, osl, N, ps, n, A, hF, t, C8.fnScope_by S, PySem.W.mg_of X Gm a, kp, l, c, hb _ _ _ _ _ _ _ _ _ _⟩
/-- the defs in their order -/
inductive Defs (K : PySem.W.Frag) (mg : Str → Option Value) (fns gls nb : List Str) (FT : Nat → Option FD) : Nat → List Str → Prop
  | nil {i : Nat} : Defs K mg fns gls nb FT i []
  | cons {i : Nat} {x : Str} {r : List Str} : DefOk K mg fns gls nb FT x i → Defs K mg fns gls nb FT (i + 1) r → Defs K mg fns gls nb FT i (x :: r)
theorem Defs.at {i : Nat} {r : List Str} (d : Defs K mg fns gls nb FT i r) : ∀ (x : Str) (g : Nat), ixOf x r = some g → DefOk K mg fns gls nb FT x (i + g) := by
  induction d with
  | nil => intro x g h; simp [ixOf] at h
  | @cons i y r h _ ih =>
    intro x g hx
    unfold ixOf at hx
    split at hx
    · rename_i e; cases hx; subst e; exact h
    · obtain ⟨j, hj, rfl⟩ := Option.map_eq_some_iff.mp hx
      have := ih x j hj
      rw [show i + (j + 1) = i + 1 + j by omega]
      exact this
/-- a value of a module's name -/
def GlOk (mg : Str → Option Value) (G : Nat → Option D) (Z : Wd) (i : Nat) (x : Str) : Prop := ∃ d v u, G i = some d ∧ mg x = some u ∧ RelV v u ∧ ∀ H μ, Rep Z H μ v d
inductive Gls (mg : Str → Option Value) (G : Nat → Option D) (Z : Wd) : Nat → List Str → Prop
  | nil {i : Nat} : Gls mg G Z i []
  | cons {i : Nat} {x : Str} {r : List Str} : GlOk mg G Z i x → Gls mg G Z (i + 1) r → Gls mg G Z i (x :: r)
theorem Gls.at {i : Nat} {r : List Str} (d : Gls mg G Z i r) : ∀ (j : Nat) (x : Str), ixOf x r = some j → GlOk mg G Z (i + j) x := by
  induction d with
  | nil => intro j x h; simp [ixOf] at h
  | @cons i y r h _ ih =>
    intro g x hx
    unfold ixOf at hx
    split at hx
    · rename_i e; cases hx; subst e; exact h
    · obtain ⟨j, hj, rfl⟩ := Option.map_eq_some_iff.mp hx
      have := ih j x hj
      rw [show i + (j + 1) = i + 1 + j by omega]
      exact this
theorem glStr {i : Nat} {s : Str} {t : Tok} (e : G i = some (.str s)) (m : mg x = some (.str s t)) : GlOk mg G Z i x := ⟨_, .str s, _, e, m, ⟨t, rfl⟩, fun _ _ => .str s⟩
theorem glInt {i : Nat} {s : Int} {t : Tok} (e : G i = some (.int s)) (m : mg x = some (.int s t)) : GlOk mg G Z i x := ⟨_, .int s, _, e, m, ⟨t, rfl⟩, fun _ _ => .int s⟩
/-- plain values -/
def readV : Value → Option (D × V)
  | .none => some (.non, .non)
  | .bool b => some (.bl b, .bl b)
  | .int i _ => some (.int i, .int i)
  | .str s _ => some (.str s, .str s)
  | _ => none
def readVs : List Value → Option (List D)
  | [] => some []
  | v :: r => (readV v).bind fun d => (readVs r).map fun ds => d.1 :: ds
theorem readV_ok {v : Value} {d : D} {x : V} (h : readV v = some (d, x)) : RelV x v ∧ ∀ H μ, Rep Z H μ x d := by
  unfold readV at h
  split at h <;> cases h
  · exact ⟨rfl, fun _ _ => .non⟩
  · exact ⟨rfl, fun _ _ => .bl _⟩
  · exact ⟨⟨_, rfl⟩, fun _ _ => .int _⟩
  · exact ⟨⟨_, rfl⟩, fun _ _ => .str _⟩
theorem readVs_ok : ∀ {vs : List Value} {ds : List D}, readVs vs = some ds → ∃ xs, Vals xs vs ∧ ∀ H μ, RepL Z H μ xs ds
  | [], ds, h => by cases h; exact ⟨[], .nil, fun _ _ => .nil⟩
  | v :: r, ds, h => by
    simp only [readVs] at h
    obtain ⟨⟨d, x⟩, h1, h2⟩ := Option.bind_eq_some_iff.mp h
    obtain ⟨es, h3, rfl⟩ := Option.map_eq_some_iff.mp h2
    obtain ⟨xs, r1, r2⟩ := readVs_ok h3
    obtain ⟨q1, q2⟩ := readV_ok (Z := Z) h1
    exact ⟨x :: xs, .cons q1 r1, fun H μ => .cons (q2 H μ) (r2 H μ)⟩
theorem glTup (hZ : Z.K = K) {i : Nat} {a : Addr} {ds : List D} {od : Option Addr} {its : Array Value} {n : Nat} {osl : Array (Option Value)} (e : G i = some (.tup ds)) (m : mg x = some (.ref a)) (l : K.lookup a = some ⟨.type "tuple", od, .seq its n, osl⟩) (hr : readVs its.toList = some ds) (hs : its.size ≤ sizeLine) : GlOk mg G Z i x := by
  obtain ⟨xs, r1, r2⟩ := readVs_ok (Z := Z) hr
  exact ⟨_, .ref a, _, e, m, rfl, fun H μ => .tup (.inr ⟨_, its, n, hZ ▸ l, rfl, rfl, hs, r1⟩) (r2 H μ)⟩
theorem glLooseStr {lv : List (Str × PySem.W.WData)} {i : Nat} {s : Str} (L : PySem.W.LooseAre lv mg h) (q : (x, PySem.W.WData.str s) ∈ lv) (e : G i = some (.str s)) : GlOk mg G Z i x := by
  obtain ⟨v, h1, h2⟩ := L.val _ q
  cases h2
  exact glStr e h1
theorem glLooseInt {lv : List (Str × PySem.W.WData)} {i : Nat} {s : Int} (L : PySem.W.LooseAre lv mg h) (q : (x, PySem.W.WData.int s) ∈ lv) (e : G i = some (.int s)) : GlOk mg G Z i x := by
  obtain ⟨v, h1, h2⟩ := L.val _ q
  cases h2
  exact glInt e h1
end
theorem ints_rep {Z : Wd} {H : Hp} {μ : List Addr} : ∀ ns : List Int, RepL Z H μ (ns.map V.int) (ns.map D.int)
  | [] => .nil
  | i :: r => .cons (.int i) (ints_rep r)
/-- what the law's call gives, said by MP's run -/
theorem walkM {l : PySem.W.OpenLaw} {n k m : Nat} {A : Ss} {q : Program} {loose : List Str} {XP : (Str → Option Value) → Heap → Prop} {YP : World → Heap → Prop} {d : DefRec} {K : Params → PySem.W.Frag} {fns gls nb : List Str} {FT : Nat → Option FD} {G : Nat → Option D} {g : Nat}
    (hn : l.most = some n) (hn2 : n ≤ sizeLine) (hdf : d.params.defaults = []) (hr : Room k callerA) (hY : ∀ (w : World) (h : Heap), YP w h → (K w.params).In h) (hg : ixOf d.name fns = some g) (hx : FT g = some ⟨1, m, A⟩)
    (F : ∀ (w : World) (mg : Str → Option Value) (h : Heap), (K w.params).In h → h.Ns mainGlobals mg → XP mg h → ModOk (K w.params) mg fns gls nb FT G ⟨K w.params, fun _ => none, fun _ => none⟩)
    (hm : ∀ ns : List Int, ns.length ≤ n → ∃ st, run FT G k g [.cl (ns.map .int)] [] = .ok (.bl true) st) :
    PySem.W.WalkO q loose XP YP l.row.toRowW d [] (fun f vs => PySem.call f vs) := by
  refine Att.attach_call hn hdf fun w s₀ s₁ mg mb fa o pm cd doc a vs ns Gr Y ho hd hcd hmg hobj hints hlen hgen => ?_
  have KX := hY w _ Y
  have M := F w mg _ KX Gr.T.g Gr.X
  obtain ⟨f, fd, ps, h1, h2, h3, h4, m', A', h5⟩ := fn_ok (P := l.prog) (w := w) M k d.name g hg
  have ef : f = fa := by
    have e := hmg.symm.trans h1
    cases e; rfl
  subst ef
  have e1 : ps.length = 1 := by
    have e := hx.symm.trans h5
    injection e with e
    injection e with e
    exact e.symm
  obtain ⟨x, rfl⟩ := List.length_eq_one_iff.mp e1
  refine law_call KX Gr.T.g Gr.T.b Gr.T.builtins Gr.T.nolimit hgen hobj hints (Nat.le_trans hlen hn2) hr (fun base _ _ => h3 base) (fun s u => .of_eq (h4 [u] rfl)) (fun H hO hS => ?_) fun _ _ _ z => z
  obtain ⟨st, hrun⟩ := hm ns hlen
  refine ⟨[], [.cl (ns.map .int)], [], ⟨rfl, .nil, fun n o a h _ => by simp at h⟩, .cons (.cl (xs := ns.map V.int) ?_ ?_) .nil, ?_⟩
  · rcases hS with (z | ⟨ob, z⟩) | z
    · rcases hO a with e | ⟨ob, xs, e⟩ <;> rw [z] at e <;> cases e
    · exact .inl ⟨ob, z⟩
    · exact .inr z
  · exact ints_rep ns
  · show Pst _ _ _ _ _ _ _ (run FT G k g [.cl (ns.map .int)] []) _
    rw [hrun]
    intro v H' μ' _ _ r
    cases r
    rfl
end MP

set_option Elab.async false
set_option linter.all false
set_option maxRecDepth 100000
set_option maxHeartbeats 0
/-! The law's defs in MP. -/
namespace K00
open MP PySem L2 C8
def fns : List PySem.Str := ["is_whole", "is_name", "is_letter", "is_value", "is_row", "value_key", "row_key", "ordered", "fact_key", "ordered_facts", "is_fact", "is_term", "is_sum", "is_terms", "is_part", "is_group", "is_rule", "worth", "_law_cell", "_law_digits", "_law_draw", "_law_pick", "_law_key", "_law_row_key", "_law_ordered", "_law_facts_ordered", "_law_worth", "_law_any", "_law_sum", "law"]
def gls : List PySem.Str := ["SMALL", "GREAT", "MORE", "NUMBER_MOST", "WIDE_MOST", "WORDS", "GROUPS", "TESTS", "SUMS", "BODY_MOST", "DEEP_MOST"]
def nb : List PySem.Str := ["len", "abs", "int", "bool", "str", "tuple", "list", "dict", "all", "any", "sum", "max", "min", "sorted", "isinstance", "range"]
def top (i : Nat) : Stmt := PySem.Challenge.pw_factsay_k00_values_ordered.main.body.getD i (.Pass ⟨0, 0, 0, 0⟩)
/-- is_whole -/
def n0 : List PySem.Str := ["shape"]
def b0 : Ss := (.cons (.ret (.and (.isi (.var 0) .int) (.not (.isi (.var 0) .bool)))) .nil)
theorem t0 : trSs 200 ⟨n0, defScope (top 7), fns, gls, nb⟩ (defBody (top 7)) = some b0 := by kernel_rfl
theorem s0 : scC n0 ["shape"] (defScope (top 7)) = true := by kernel_rfl
theorem a0 : defArgs (top 7) = { posonlyargs := [], args := [{ arg := "shape", annotation := none, pos := ⟨8, 13, 8, 18⟩ }], vararg := none, kwonlyargs := [], kw_defaults := [], kwarg := none, defaults := [] } := by kernel_rfl
theorem ar0 (name qual : PySem.Str) (body : List Stmt) (scope : Scope) (kV doc pm cdv ct : Value) (an : Option Addr) (us : List Value) (hl : us.length = ["shape"].length) : bindArgs (PySem.W.fnOf name qual (defArgs (top 7)) body scope .none kV doc pm an cdv ct) ⟨us, []⟩ = pure ((["shape"] : List PySem.Str).zip us) := by
  rw [a0]
  match us, hl with
  | [_], _ => rfl
/-- is_name -/
def n1 : List PySem.Str := ["shape", ".0", "sign"]
def b1 : Ss := (.cons (.ite (.or (.not (.ofE (.isi (.var 0) .str))) (.or (.not (.ofE (.chain .le .le (.con (.int 1)) (.op1 .len (.var 0)) (.con (.int 24))))) (.or (.ofE (.op2 .notin (.op2 .idx (.var 0) (.con (.int 0))) (.glob 0))) (.ofE (.op2 .in_ (.var 0) (.glob 5)))))) (.cons (.ret (.con (.bl false))) .nil) .nil) (.cons (.ret (.fold .all (.lc (.op2 .in_ (.var 2) (.glob 2)) [1, 2] (.name 2) (.ofP (.var 0))))) .nil))
theorem t1 : trSs 200 ⟨n1, defScope (top 8), fns, gls, nb⟩ (defBody (top 8)) = some b1 := by kernel_rfl
theorem s1 : scC n1 ["shape"] (defScope (top 8)) = true := by kernel_rfl
theorem a1 : defArgs (top 8) = { posonlyargs := [], args := [{ arg := "shape", annotation := none, pos := ⟨10, 12, 10, 17⟩ }], vararg := none, kwonlyargs := [], kw_defaults := [], kwarg := none, defaults := [] } := by kernel_rfl
theorem ar1 (name qual : PySem.Str) (body : List Stmt) (scope : Scope) (kV doc pm cdv ct : Value) (an : Option Addr) (us : List Value) (hl : us.length = ["shape"].length) : bindArgs (PySem.W.fnOf name qual (defArgs (top 8)) body scope .none kV doc pm an cdv ct) ⟨us, []⟩ = pure ((["shape"] : List PySem.Str).zip us) := by
  rw [a1]
  match us, hl with
  | [_], _ => rfl
/-- is_letter -/
def n2 : List PySem.Str := ["shape", ".0", "sign"]
def b2 : Ss := (.cons (.ite (.or (.not (.ofE (.isi (.var 0) .str))) (.or (.not (.ofE (.chain .le .le (.con (.int 1)) (.op1 .len (.var 0)) (.con (.int 24))))) (.ofE (.op2 .notin (.op2 .idx (.var 0) (.con (.int 0))) (.glob 1))))) (.cons (.ret (.con (.bl false))) .nil) .nil) (.cons (.ret (.fold .all (.lc (.op2 .in_ (.var 2) (.glob 2)) [1, 2] (.name 2) (.ofP (.var 0))))) .nil))
theorem t2 : trSs 200 ⟨n2, defScope (top 9), fns, gls, nb⟩ (defBody (top 9)) = some b2 := by kernel_rfl
theorem s2 : scC n2 ["shape"] (defScope (top 9)) = true := by kernel_rfl
theorem a2 : defArgs (top 9) = { posonlyargs := [], args := [{ arg := "shape", annotation := none, pos := ⟨14, 14, 14, 19⟩ }], vararg := none, kwonlyargs := [], kw_defaults := [], kwarg := none, defaults := [] } := by kernel_rfl
theorem ar2 (name qual : PySem.Str) (body : List Stmt) (scope : Scope) (kV doc pm cdv ct : Value) (an : Option Addr) (us : List Value) (hl : us.length = ["shape"].length) : bindArgs (PySem.W.fnOf name qual (defArgs (top 9)) body scope .none kV doc pm an cdv ct) ⟨us, []⟩ = pure ((["shape"] : List PySem.Str).zip us) := by
  rw [a2]
  match us, hl with
  | [_], _ => rfl
/-- is_value -/
def n3 : List PySem.Str := ["shape"]
def b3 : Ss := (.cons (.ite (.ofE (.call 0 (.cons (.var 0) .nil))) (.cons (.ret (.chain .le .le (.op1 .neg (.glob 3)) (.var 0) (.glob 3))) .nil) .nil) (.cons (.ret (.call 1 (.cons (.var 0) .nil))) .nil))
theorem t3 : trSs 200 ⟨n3, defScope (top 10), fns, gls, nb⟩ (defBody (top 10)) = some b3 := by kernel_rfl
theorem s3 : scC n3 ["shape"] (defScope (top 10)) = true := by kernel_rfl
theorem a3 : defArgs (top 10) = { posonlyargs := [], args := [{ arg := "shape", annotation := none, pos := ⟨18, 13, 18, 18⟩ }], vararg := none, kwonlyargs := [], kw_defaults := [], kwarg := none, defaults := [] } := by kernel_rfl
theorem ar3 (name qual : PySem.Str) (body : List Stmt) (scope : Scope) (kV doc pm cdv ct : Value) (an : Option Addr) (us : List Value) (hl : us.length = ["shape"].length) : bindArgs (PySem.W.fnOf name qual (defArgs (top 10)) body scope .none kV doc pm an cdv ct) ⟨us, []⟩ = pure ((["shape"] : List PySem.Str).zip us) := by
  rw [a3]
  match us, hl with
  | [_], _ => rfl
/-- is_row -/
def n4 : List PySem.Str := ["shape", ".0", "one"]
def b4 : Ss := (.cons (.ret (.and (.isi (.var 0) .tuple) (.and (.op2 .le (.op1 .len (.var 0)) (.glob 4)) (.fold .all (.lc (.call 3 (.cons (.var 2) .nil)) [1, 2] (.name 2) (.ofP (.var 0))))))) .nil)
theorem t4 : trSs 200 ⟨n4, defScope (top 11), fns, gls, nb⟩ (defBody (top 11)) = some b4 := by kernel_rfl
theorem s4 : scC n4 ["shape"] (defScope (top 11)) = true := by kernel_rfl
theorem a4 : defArgs (top 11) = { posonlyargs := [], args := [{ arg := "shape", annotation := none, pos := ⟨22, 11, 22, 16⟩ }], vararg := none, kwonlyargs := [], kw_defaults := [], kwarg := none, defaults := [] } := by kernel_rfl
theorem ar4 (name qual : PySem.Str) (body : List Stmt) (scope : Scope) (kV doc pm cdv ct : Value) (an : Option Addr) (us : List Value) (hl : us.length = ["shape"].length) : bindArgs (PySem.W.fnOf name qual (defArgs (top 11)) body scope .none kV doc pm an cdv ct) ⟨us, []⟩ = pure ((["shape"] : List PySem.Str).zip us) := by
  rw [a4]
  match us, hl with
  | [_], _ => rfl
/-- value_key -/
def n5 : List PySem.Str := ["value"]
def b5 : Ss := (.cons (.ret (.ite (.ofE (.call 0 (.cons (.var 0) .nil))) (.tup (.cons (.con (.int 0)) (.cons (.var 0) (.cons (.con (.str (PySem.Str.ofString ""))) .nil)))) (.tup (.cons (.con (.int 1)) (.cons (.con (.int 0)) (.cons (.var 0) .nil)))))) .nil)
theorem t5 : trSs 200 ⟨n5, defScope (top 12), fns, gls, nb⟩ (defBody (top 12)) = some b5 := by kernel_rfl
theorem s5 : scC n5 ["value"] (defScope (top 12)) = true := by kernel_rfl
theorem a5 : defArgs (top 12) = { posonlyargs := [], args := [{ arg := "value", annotation := none, pos := ⟨24, 14, 24, 19⟩ }], vararg := none, kwonlyargs := [], kw_defaults := [], kwarg := none, defaults := [] } := by kernel_rfl
theorem ar5 (name qual : PySem.Str) (body : List Stmt) (scope : Scope) (kV doc pm cdv ct : Value) (an : Option Addr) (us : List Value) (hl : us.length = ["value"].length) : bindArgs (PySem.W.fnOf name qual (defArgs (top 12)) body scope .none kV doc pm an cdv ct) ⟨us, []⟩ = pure ((["value"] : List PySem.Str).zip us) := by
  rw [a5]
  match us, hl with
  | [_], _ => rfl
/-- row_key -/
def n6 : List PySem.Str := ["row", ".0", "value"]
def b6 : Ss := (.cons (.ret (.fold .tuple (.lc (.call 5 (.cons (.var 2) .nil)) [1, 2] (.name 2) (.ofP (.var 0))))) .nil)
theorem t6 : trSs 200 ⟨n6, defScope (top 13), fns, gls, nb⟩ (defBody (top 13)) = some b6 := by kernel_rfl
theorem s6 : scC n6 ["row"] (defScope (top 13)) = true := by kernel_rfl
theorem a6 : defArgs (top 13) = { posonlyargs := [], args := [{ arg := "row", annotation := none, pos := ⟨26, 12, 26, 15⟩ }], vararg := none, kwonlyargs := [], kw_defaults := [], kwarg := none, defaults := [] } := by kernel_rfl
theorem ar6 (name qual : PySem.Str) (body : List Stmt) (scope : Scope) (kV doc pm cdv ct : Value) (an : Option Addr) (us : List Value) (hl : us.length = ["row"].length) : bindArgs (PySem.W.fnOf name qual (defArgs (top 13)) body scope .none kV doc pm an cdv ct) ⟨us, []⟩ = pure ((["row"] : List PySem.Str).zip us) := by
  rw [a6]
  match us, hl with
  | [_], _ => rfl
/-- ordered -/
def n7 : List PySem.Str := ["rows", "unlike", ".0", "row", "key"]
def b7 : Ss := (.cons (.asg (.name 1) (.fold .dict (.lc (.tup (.cons (.var 3) (.cons (.con (.bl true)) .nil))) [2, 3] (.name 3) (.ofP (.var 0))))) (.cons (.ret (.fold .tuple (.lc (.var 3) [2, 4, 3] (.tup [4, 3]) (.ofQ (.sorted (.lc (.tup (.cons (.call 6 (.cons (.var 3) .nil)) (.cons (.var 3) .nil))) [2, 3] (.name 3) (.ofP (.var 1)))))))) .nil))
theorem t7 : trSs 200 ⟨n7, defScope (top 14), fns, gls, nb⟩ (defBody (top 14)) = some b7 := by kernel_rfl
theorem s7 : scC n7 ["rows"] (defScope (top 14)) = true := by kernel_rfl
theorem a7 : defArgs (top 14) = { posonlyargs := [], args := [{ arg := "rows", annotation := none, pos := ⟨28, 12, 28, 16⟩ }], vararg := none, kwonlyargs := [], kw_defaults := [], kwarg := none, defaults := [] } := by kernel_rfl
theorem ar7 (name qual : PySem.Str) (body : List Stmt) (scope : Scope) (kV doc pm cdv ct : Value) (an : Option Addr) (us : List Value) (hl : us.length = ["rows"].length) : bindArgs (PySem.W.fnOf name qual (defArgs (top 14)) body scope .none kV doc pm an cdv ct) ⟨us, []⟩ = pure ((["rows"] : List PySem.Str).zip us) := by
  rw [a7]
  match us, hl with
  | [_], _ => rfl
/-- fact_key -/
def n8 : List PySem.Str := ["fact"]
def b8 : Ss := (.cons (.ret (.tup (.cons (.op2 .idx (.var 0) (.con (.int 0))) (.cons (.call 6 (.cons (.op2 .idx (.var 0) (.con (.int 1))) .nil)) .nil)))) .nil)
theorem t8 : trSs 200 ⟨n8, defScope (top 15), fns, gls, nb⟩ (defBody (top 15)) = some b8 := by kernel_rfl
theorem s8 : scC n8 ["fact"] (defScope (top 15)) = true := by kernel_rfl
theorem a8 : defArgs (top 15) = { posonlyargs := [], args := [{ arg := "fact", annotation := none, pos := ⟨31, 13, 31, 17⟩ }], vararg := none, kwonlyargs := [], kw_defaults := [], kwarg := none, defaults := [] } := by kernel_rfl
theorem ar8 (name qual : PySem.Str) (body : List Stmt) (scope : Scope) (kV doc pm cdv ct : Value) (an : Option Addr) (us : List Value) (hl : us.length = ["fact"].length) : bindArgs (PySem.W.fnOf name qual (defArgs (top 15)) body scope .none kV doc pm an cdv ct) ⟨us, []⟩ = pure ((["fact"] : List PySem.Str).zip us) := by
  rw [a8]
  match us, hl with
  | [_], _ => rfl
/-- ordered_facts -/
def n9 : List PySem.Str := ["facts", "unlike", ".0", "fact", "key"]
def b9 : Ss := (.cons (.asg (.name 1) (.fold .dict (.lc (.tup (.cons (.var 3) (.cons (.con (.bl true)) .nil))) [2, 3] (.name 3) (.ofP (.var 0))))) (.cons (.ret (.fold .tuple (.lc (.var 3) [2, 4, 3] (.tup [4, 3]) (.ofQ (.sorted (.lc (.tup (.cons (.call 8 (.cons (.var 3) .nil)) (.cons (.var 3) .nil))) [2, 3] (.name 3) (.ofP (.var 1)))))))) .nil))
theorem t9 : trSs 200 ⟨n9, defScope (top 16), fns, gls, nb⟩ (defBody (top 16)) = some b9 := by kernel_rfl
theorem s9 : scC n9 ["facts"] (defScope (top 16)) = true := by kernel_rfl
theorem a9 : defArgs (top 16) = { posonlyargs := [], args := [{ arg := "facts", annotation := none, pos := ⟨33, 18, 33, 23⟩ }], vararg := none, kwonlyargs := [], kw_defaults := [], kwarg := none, defaults := [] } := by kernel_rfl
theorem ar9 (name qual : PySem.Str) (body : List Stmt) (scope : Scope) (kV doc pm cdv ct : Value) (an : Option Addr) (us : List Value) (hl : us.length = ["facts"].length) : bindArgs (PySem.W.fnOf name qual (defArgs (top 16)) body scope .none kV doc pm an cdv ct) ⟨us, []⟩ = pure ((["facts"] : List PySem.Str).zip us) := by
  rw [a9]
  match us, hl with
  | [_], _ => rfl
/-- is_fact -/
def n10 : List PySem.Str := ["shape"]
def b10 : Ss := (.cons (.ret (.and (.isi (.var 0) .tuple) (.and (.op2 .eq (.op1 .len (.var 0)) (.con (.int 2))) (.and (.call 1 (.cons (.op2 .idx (.var 0) (.con (.int 0))) .nil)) (.call 4 (.cons (.op2 .idx (.var 0) (.con (.int 1))) .nil)))))) .nil)
theorem t10 : trSs 200 ⟨n10, defScope (top 17), fns, gls, nb⟩ (defBody (top 17)) = some b10 := by kernel_rfl
theorem s10 : scC n10 ["shape"] (defScope (top 17)) = true := by kernel_rfl
theorem a10 : defArgs (top 17) = { posonlyargs := [], args := [{ arg := "shape", annotation := none, pos := ⟨36, 12, 36, 17⟩ }], vararg := none, kwonlyargs := [], kw_defaults := [], kwarg := none, defaults := [] } := by kernel_rfl
theorem ar10 (name qual : PySem.Str) (body : List Stmt) (scope : Scope) (kV doc pm cdv ct : Value) (an : Option Addr) (us : List Value) (hl : us.length = ["shape"].length) : bindArgs (PySem.W.fnOf name qual (defArgs (top 17)) body scope .none kV doc pm an cdv ct) ⟨us, []⟩ = pure ((["shape"] : List PySem.Str).zip us) := by
  rw [a10]
  match us, hl with
  | [_], _ => rfl
/-- is_term -/
def n11 : List PySem.Str := ["shape"]
def b11 : Ss := (.cons (.ite (.or (.not (.ofE (.isi (.var 0) .tuple))) (.ofE (.op2 .ne (.op1 .len (.var 0)) (.con (.int 2))))) (.cons (.ret (.con (.bl false))) .nil) .nil) (.cons (.ret (.or (.and (.op2 .eq (.op2 .idx (.var 0) (.con (.int 0))) (.con (.str (PySem.Str.ofString "var")))) (.call 2 (.cons (.op2 .idx (.var 0) (.con (.int 1))) .nil))) (.and (.op2 .eq (.op2 .idx (.var 0) (.con (.int 0))) (.con (.str (PySem.Str.ofString "value")))) (.call 3 (.cons (.op2 .idx (.var 0) (.con (.int 1))) .nil))))) .nil))
theorem t11 : trSs 200 ⟨n11, defScope (top 24), fns, gls, nb⟩ (defBody (top 24)) = some b11 := by kernel_rfl
theorem s11 : scC n11 ["shape"] (defScope (top 24)) = true := by kernel_rfl
theorem a11 : defArgs (top 24) = { posonlyargs := [], args := [{ arg := "shape", annotation := none, pos := ⟨44, 12, 44, 17⟩ }], vararg := none, kwonlyargs := [], kw_defaults := [], kwarg := none, defaults := [] } := by kernel_rfl
theorem ar11 (name qual : PySem.Str) (body : List Stmt) (scope : Scope) (kV doc pm cdv ct : Value) (an : Option Addr) (us : List Value) (hl : us.length = ["shape"].length) : bindArgs (PySem.W.fnOf name qual (defArgs (top 24)) body scope .none kV doc pm an cdv ct) ⟨us, []⟩ = pure ((["shape"] : List PySem.Str).zip us) := by
  rw [a11]
  match us, hl with
  | [_], _ => rfl
/-- is_sum -/
def n12 : List PySem.Str := ["shape", "todo", "here", "deep"]
def b12 : Ss := (.cons (.asg (.name 1) (.ofQ (.disp (.cons (.tup (.cons (.var 0) (.cons (.con (.int 1)) .nil))) .nil)))) (.cons (.while (.ofE (.var 1)) (.cons (.asg (.tup [2, 3]) (.op1 .pop (.var 1))) (.cons (.ite (.ofE (.call 11 (.cons (.var 2) .nil))) (.cons .cont .nil) .nil) (.cons (.ite (.or (.not (.ofE (.isi (.var 2) .tuple))) (.or (.ofE (.op2 .ne (.op1 .len (.var 2)) (.con (.int 3)))) (.or (.ofE (.op2 .notin (.op2 .idx (.var 2) (.con (.int 0))) (.glob 8))) (.ofE (.op2 .gt (.var 3) (.glob 10)))))) (.cons (.ret (.con (.bl false))) .nil) .nil) (.cons (.ext 1 (.disp (.cons (.tup (.cons (.op2 .idx (.var 2) (.con (.int 1))) (.cons (.op2 .add (.var 3) (.con (.int 1))) .nil))) (.cons (.tup (.cons (.op2 .idx (.var 2) (.con (.int 2))) (.cons (.op2 .add (.var 3) (.con (.int 1))) .nil))) .nil)))) .nil))))) (.cons (.ret (.con (.bl true))) .nil)))
theorem t12 : trSs 200 ⟨n12, defScope (top 25), fns, gls, nb⟩ (defBody (top 25)) = some b12 := by kernel_rfl
theorem s12 : scC n12 ["shape"] (defScope (top 25)) = true := by kernel_rfl
theorem a12 : defArgs (top 25) = { posonlyargs := [], args := [{ arg := "shape", annotation := none, pos := ⟨48, 11, 48, 16⟩ }], vararg := none, kwonlyargs := [], kw_defaults := [], kwarg := none, defaults := [] } := by kernel_rfl
theorem ar12 (name qual : PySem.Str) (body : List Stmt) (scope : Scope) (kV doc pm cdv ct : Value) (an : Option Addr) (us : List Value) (hl : us.length = ["shape"].length) : bindArgs (PySem.W.fnOf name qual (defArgs (top 25)) body scope .none kV doc pm an cdv ct) ⟨us, []⟩ = pure ((["shape"] : List PySem.Str).zip us) := by
  rw [a12]
  match us, hl with
  | [_], _ => rfl
/-- is_terms -/
def n13 : List PySem.Str := ["shape", ".0", "one"]
def b13 : Ss := (.cons (.ret (.and (.isi (.var 0) .tuple) (.and (.op2 .le (.op1 .len (.var 0)) (.glob 4)) (.fold .all (.lc (.call 11 (.cons (.var 2) .nil)) [1, 2] (.name 2) (.ofP (.var 0))))))) .nil)
theorem t13 : trSs 200 ⟨n13, defScope (top 26), fns, gls, nb⟩ (defBody (top 26)) = some b13 := by kernel_rfl
theorem s13 : scC n13 ["shape"] (defScope (top 26)) = true := by kernel_rfl
theorem a13 : defArgs (top 26) = { posonlyargs := [], args := [{ arg := "shape", annotation := none, pos := ⟨58, 13, 58, 18⟩ }], vararg := none, kwonlyargs := [], kw_defaults := [], kwarg := none, defaults := [] } := by kernel_rfl
theorem ar13 (name qual : PySem.Str) (body : List Stmt) (scope : Scope) (kV doc pm cdv ct : Value) (an : Option Addr) (us : List Value) (hl : us.length = ["shape"].length) : bindArgs (PySem.W.fnOf name qual (defArgs (top 26)) body scope .none kV doc pm an cdv ct) ⟨us, []⟩ = pure ((["shape"] : List PySem.Str).zip us) := by
  rw [a13]
  match us, hl with
  | [_], _ => rfl
/-- is_part -/
def n14 : List PySem.Str := ["shape"]
def b14 : Ss := (.cons (.ite (.or (.not (.ofE (.isi (.var 0) .tuple))) (.not (.ofE (.var 0)))) (.cons (.ret (.con (.bl false))) .nil) .nil) (.cons (.ite (.ofE (.op2 .in_ (.op2 .idx (.var 0) (.con (.int 0))) (.tup (.cons (.con (.str (PySem.Str.ofString "is"))) (.cons (.con (.str (PySem.Str.ofString "not"))) .nil))))) (.cons (.ret (.and (.op2 .eq (.op1 .len (.var 0)) (.con (.int 3))) (.and (.call 1 (.cons (.op2 .idx (.var 0) (.con (.int 1))) .nil)) (.call 13 (.cons (.op2 .idx (.var 0) (.con (.int 2))) .nil))))) .nil) .nil) (.cons (.ite (.ofE (.op2 .eq (.op2 .idx (.var 0) (.con (.int 0))) (.con (.str (PySem.Str.ofString "test"))))) (.cons (.ret (.and (.op2 .eq (.op1 .len (.var 0)) (.con (.int 4))) (.and (.op2 .in_ (.op2 .idx (.var 0) (.con (.int 1))) (.glob 7)) (.and (.call 12 (.cons (.op2 .idx (.var 0) (.con (.int 2))) .nil)) (.call 12 (.cons (.op2 .idx (.var 0) (.con (.int 3))) .nil)))))) .nil) .nil) (.cons (.ret (.con (.bl false))) .nil))))
theorem t14 : trSs 200 ⟨n14, defScope (top 27), fns, gls, nb⟩ (defBody (top 27)) = some b14 := by kernel_rfl
theorem s14 : scC n14 ["shape"] (defScope (top 27)) = true := by kernel_rfl
theorem a14 : defArgs (top 27) = { posonlyargs := [], args := [{ arg := "shape", annotation := none, pos := ⟨60, 12, 60, 17⟩ }], vararg := none, kwonlyargs := [], kw_defaults := [], kwarg := none, defaults := [] } := by kernel_rfl
theorem ar14 (name qual : PySem.Str) (body : List Stmt) (scope : Scope) (kV doc pm cdv ct : Value) (an : Option Addr) (us : List Value) (hl : us.length = ["shape"].length) : bindArgs (PySem.W.fnOf name qual (defArgs (top 27)) body scope .none kV doc pm an cdv ct) ⟨us, []⟩ = pure ((["shape"] : List PySem.Str).zip us) := by
  rw [a14]
  match us, hl with
  | [_], _ => rfl
/-- is_group -/
def n15 : List PySem.Str := ["shape"]
def b15 : Ss := (.cons (.ret (.and (.isi (.var 0) .tuple) (.and (.op2 .eq (.op1 .len (.var 0)) (.con (.int 2))) (.and (.op2 .in_ (.op2 .idx (.var 0) (.con (.int 0))) (.glob 6)) (.call 2 (.cons (.op2 .idx (.var 0) (.con (.int 1))) .nil)))))) .nil)
theorem t15 : trSs 200 ⟨n15, defScope (top 28), fns, gls, nb⟩ (defBody (top 28)) = some b15 := by kernel_rfl
theorem s15 : scC n15 ["shape"] (defScope (top 28)) = true := by kernel_rfl
theorem a15 : defArgs (top 28) = { posonlyargs := [], args := [{ arg := "shape", annotation := none, pos := ⟨68, 13, 68, 18⟩ }], vararg := none, kwonlyargs := [], kw_defaults := [], kwarg := none, defaults := [] } := by kernel_rfl
theorem ar15 (name qual : PySem.Str) (body : List Stmt) (scope : Scope) (kV doc pm cdv ct : Value) (an : Option Addr) (us : List Value) (hl : us.length = ["shape"].length) : bindArgs (PySem.W.fnOf name qual (defArgs (top 28)) body scope .none kV doc pm an cdv ct) ⟨us, []⟩ = pure ((["shape"] : List PySem.Str).zip us) := by
  rw [a15]
  match us, hl with
  | [_], _ => rfl
/-- is_rule -/
def n16 : List PySem.Str := ["shape", ".0", "one"]
def b16 : Ss := (.cons (.ite (.or (.not (.ofE (.isi (.var 0) .tuple))) (.or (.ofE (.op2 .ne (.op1 .len (.var 0)) (.con (.int 3)))) (.or (.not (.ofE (.call 1 (.cons (.op2 .idx (.var 0) (.con (.int 0))) .nil)))) (.not (.ofE (.isi (.op2 .idx (.var 0) (.con (.int 1))) .tuple)))))) (.cons (.ret (.con (.bl false))) .nil) .nil) (.cons (.ite (.or (.ofE (.op2 .gt (.op1 .len (.op2 .idx (.var 0) (.con (.int 1)))) (.glob 4))) (.or (.not (.ofE (.isi (.op2 .idx (.var 0) (.con (.int 2))) .tuple))) (.ofE (.op2 .gt (.op1 .len (.op2 .idx (.var 0) (.con (.int 2)))) (.glob 9))))) (.cons (.ret (.con (.bl false))) .nil) .nil) (.cons (.ite (.or (.not (.ofE (.fold .all (.lc (.or (.call 11 (.cons (.var 2) .nil)) (.call 15 (.cons (.var 2) .nil))) [1, 2] (.name 2) (.ofE (.op2 .idx (.var 0) (.con (.int 1)))))))) (.not (.ofE (.fold .all (.lc (.call 14 (.cons (.var 2) .nil)) [1, 2] (.name 2) (.ofE (.op2 .idx (.var 0) (.con (.int 2))))))))) (.cons (.ret (.con (.bl false))) .nil) .nil) (.cons (.ret (.op2 .le (.fold .len (.lci (.var 2) [1, 2] (.name 2) (.ofE (.op2 .idx (.var 0) (.con (.int 1)))) (.ofE (.call 15 (.cons (.var 2) .nil))))) (.con (.int 1)))) .nil))))
theorem t16 : trSs 200 ⟨n16, defScope (top 29), fns, gls, nb⟩ (defBody (top 29)) = some b16 := by kernel_rfl
theorem s16 : scC n16 ["shape"] (defScope (top 29)) = true := by kernel_rfl
theorem a16 : defArgs (top 29) = { posonlyargs := [], args := [{ arg := "shape", annotation := none, pos := ⟨70, 12, 70, 17⟩ }], vararg := none, kwonlyargs := [], kw_defaults := [], kwarg := none, defaults := [] } := by kernel_rfl
theorem ar16 (name qual : PySem.Str) (body : List Stmt) (scope : Scope) (kV doc pm cdv ct : Value) (an : Option Addr) (us : List Value) (hl : us.length = ["shape"].length) : bindArgs (PySem.W.fnOf name qual (defArgs (top 29)) body scope .none kV doc pm an cdv ct) ⟨us, []⟩ = pure ((["shape"] : List PySem.Str).zip us) := by
  rw [a16]
  match us, hl with
  | [_], _ => rfl
/-- worth -/
def n17 : List PySem.Str := ["one", "values", "first", "second", "found"]
def b17 : Ss := (.cons (.ite (.ofE (.op2 .eq (.op2 .idx (.var 0) (.con (.int 0))) (.con (.str (PySem.Str.ofString "value"))))) (.cons (.ret (.op2 .idx (.var 0) (.con (.int 1)))) .nil) .nil) (.cons (.ite (.ofE (.op2 .eq (.op2 .idx (.var 0) (.con (.int 0))) (.con (.str (PySem.Str.ofString "var"))))) (.cons (.ret (.mt2 .get (.var 1) (.op2 .idx (.var 0) (.con (.int 1))))) .nil) .nil) (.cons (.par [2, 3] (.cons (.call 17 (.cons (.op2 .idx (.var 0) (.con (.int 1))) (.cons (.var 1) .nil))) (.cons (.call 17 (.cons (.op2 .idx (.var 0) (.con (.int 2))) (.cons (.var 1) .nil))) .nil))) (.cons (.ite (.or (.not (.ofE (.isi (.var 2) .int))) (.not (.ofE (.isi (.var 3) .int)))) (.cons (.ret (.con .non)) .nil) .nil) (.cons (.ite (.ofE (.op2 .eq (.op2 .idx (.var 0) (.con (.int 0))) (.con (.str (PySem.Str.ofString "plus"))))) (.cons (.asg (.name 4) (.op2 .add (.var 2) (.var 3))) .nil) (.cons (.ite (.ofE (.op2 .eq (.op2 .idx (.var 0) (.con (.int 0))) (.con (.str (PySem.Str.ofString "minus"))))) (.cons (.asg (.name 4) (.op2 .sub (.var 2) (.var 3))) .nil) (.cons (.asg (.name 4) (.op2 .mul (.var 2) (.var 3))) .nil)) .nil)) (.cons (.ret (.ite (.ofE (.call 3 (.cons (.var 4) .nil))) (.var 4) (.con .non))) .nil))))))
theorem t17 : trSs 200 ⟨n17, defScope (top 30), fns, gls, nb⟩ (defBody (top 30)) = some b17 := by kernel_rfl
theorem s17 : scC n17 ["one", "values"] (defScope (top 30)) = true := by kernel_rfl
theorem a17 : defArgs (top 30) = { posonlyargs := [], args := [{ arg := "one", annotation := none, pos := ⟨78, 10, 78, 13⟩ }, { arg := "values", annotation := none, pos := ⟨78, 15, 78, 21⟩ }], vararg := none, kwonlyargs := [], kw_defaults := [], kwarg := none, defaults := [] } := by kernel_rfl
theorem ar17 (name qual : PySem.Str) (body : List Stmt) (scope : Scope) (kV doc pm cdv ct : Value) (an : Option Addr) (us : List Value) (hl : us.length = ["one", "values"].length) : bindArgs (PySem.W.fnOf name qual (defArgs (top 30)) body scope .none kV doc pm an cdv ct) ⟨us, []⟩ = pure ((["one", "values"] : List PySem.Str).zip us) := by
  rw [a17]
  match us, hl with
  | [_, _], _ => rfl
/-- _law_cell -/
def n18 : List PySem.Str := ["script", "k"]
def b18 : Ss := (.cons (.ite (.ofE (.op2 .lt (.var 1) (.op1 .len (.var 0)))) (.cons (.ret (.op2 .idx (.var 0) (.var 1))) .nil) .nil) (.cons (.ret (.con (.int 0))) .nil))
theorem t18 : trSs 200 ⟨n18, defScope (top 32), fns, gls, nb⟩ (defBody (top 32)) = some b18 := by kernel_rfl
theorem s18 : scC n18 ["script", "k"] (defScope (top 32)) = true := by kernel_rfl
theorem a18 : defArgs (top 32) = { posonlyargs := [], args := [{ arg := "script", annotation := none, pos := ⟨94, 14, 94, 20⟩ }, { arg := "k", annotation := none, pos := ⟨94, 22, 94, 23⟩ }], vararg := none, kwonlyargs := [], kw_defaults := [], kwarg := none, defaults := [] } := by kernel_rfl
theorem ar18 (name qual : PySem.Str) (body : List Stmt) (scope : Scope) (kV doc pm cdv ct : Value) (an : Option Addr) (us : List Value) (hl : us.length = ["script", "k"].length) : bindArgs (PySem.W.fnOf name qual (defArgs (top 32)) body scope .none kV doc pm an cdv ct) ⟨us, []⟩ = pure ((["script", "k"] : List PySem.Str).zip us) := by
  rw [a18]
  match us, hl with
  | [_, _], _ => rfl
/-- _law_digits -/
def n19 : List PySem.Str := ["script", "first", "last", "found", "k", "c", "n", "turn", "s"]
def b19 : Ss := (.cons (.asg (.name 3) (.ofQ (.disp .nil))) (.cons (.for (.name 4) (.rng (.cons (.var 1) (.cons (.var 2) .nil))) (.cons (.asg (.name 5) (.call 18 (.cons (.var 0) (.cons (.var 4) .nil)))) (.cons (.ite (.ofE (.op2 .lt (.var 5) (.con (.int 0)))) (.cons (.asg (.name 5) (.op2 .sub (.con (.int 1)) (.op2 .mul (.var 5) (.con (.int 2))))) .nil) .nil) (.cons (.ite (.ofE (.op2 .ge (.var 5) (.op2 .pow (.con (.int 10)) (.con (.int 18))))) (.cons (.asg (.name 6) (.var 5)) (.cons (.for (.name 7) (.rng (.cons (.con (.int 60)) .nil)) (.cons (.ite (.ofE (.op2 .gt (.var 6) (.con (.int 0)))) (.cons (.exp (.mt2 .append (.var 3) (.op2 .mod (.var 6) (.con (.int 1009))))) (.cons (.asg (.name 6) (.op2 .fdiv (.var 6) (.con (.int 1009)))) .nil)) .nil) .nil)) .nil)) (.cons (.asg (.name 8) (.op2 .mod (.op2 .add (.op2 .add (.op2 .mul (.var 5) (.con (.int 48271))) (.op2 .mul (.op1 .int_ (.op2 .add (.var 4) (.con (.int 1)))) (.con (.int 69621)))) (.con (.int 11))) (.con (.int 2147483647)))) (.cons (.for (.name 7) (.rng (.cons (.con (.int 12)) .nil)) (.cons (.asg (.name 8) (.op2 .mod (.op2 .add (.op2 .add (.op2 .mul (.var 8) (.con (.int 16807))) (.op2 .mul (.var 7) (.con (.int 7)))) (.con (.int 1))) (.con (.int 2147483647)))) (.cons (.exp (.mt2 .append (.var 3) (.op2 .mod (.op2 .fdiv (.var 8) (.con (.int 997))) (.con (.int 1009))))) .nil))) .nil))) .nil)))) (.cons (.ret (.var 3)) .nil)))
theorem t19 : trSs 200 ⟨n19, defScope (top 33), fns, gls, nb⟩ (defBody (top 33)) = some b19 := by kernel_rfl
theorem s19 : scC n19 ["script", "first", "last"] (defScope (top 33)) = true := by kernel_rfl
theorem a19 : defArgs (top 33) = { posonlyargs := [], args := [{ arg := "script", annotation := none, pos := ⟨98, 16, 98, 22⟩ }, { arg := "first", annotation := none, pos := ⟨98, 24, 98, 29⟩ }, { arg := "last", annotation := none, pos := ⟨98, 31, 98, 35⟩ }], vararg := none, kwonlyargs := [], kw_defaults := [], kwarg := none, defaults := [] } := by kernel_rfl
theorem ar19 (name qual : PySem.Str) (body : List Stmt) (scope : Scope) (kV doc pm cdv ct : Value) (an : Option Addr) (us : List Value) (hl : us.length = ["script", "first", "last"].length) : bindArgs (PySem.W.fnOf name qual (defArgs (top 33)) body scope .none kV doc pm an cdv ct) ⟨us, []⟩ = pure ((["script", "first", "last"] : List PySem.Str).zip us) := by
  rw [a19]
  match us, hl with
  | [_, _, _], _ => rfl
/-- _law_draw -/
def n20 : List PySem.Str := ["box", "m", "digits", "at"]
def b20 : Ss := (.cons (.asg (.tup [2, 3]) (.var 0)) (.cons (.setIx (.var 0) (.con (.int 1)) (.op2 .add (.var 3) (.con (.int 1)))) (.cons (.ite (.ofE (.op2 .lt (.var 3) (.op1 .len (.var 2)))) (.cons (.ret (.op2 .mod (.op2 .idx (.var 2) (.var 3)) (.var 1))) .nil) .nil) (.cons (.ret (.op2 .mod (.op2 .add (.op2 .add (.op2 .add (.op2 .mul (.op2 .mul (.var 3) (.var 3)) (.con (.int 3))) (.op2 .mul (.var 3) (.con (.int 4)))) (.op2 .fdiv (.var 3) (.con (.int 3)))) (.con (.int 1))) (.var 1))) .nil))))
theorem t20 : trSs 200 ⟨n20, defScope (top 34), fns, gls, nb⟩ (defBody (top 34)) = some b20 := by kernel_rfl
theorem s20 : scC n20 ["box", "m"] (defScope (top 34)) = true := by kernel_rfl
theorem a20 : defArgs (top 34) = { posonlyargs := [], args := [{ arg := "box", annotation := none, pos := ⟨116, 14, 116, 17⟩ }, { arg := "m", annotation := none, pos := ⟨116, 19, 116, 20⟩ }], vararg := none, kwonlyargs := [], kw_defaults := [], kwarg := none, defaults := [] } := by kernel_rfl
theorem ar20 (name qual : PySem.Str) (body : List Stmt) (scope : Scope) (kV doc pm cdv ct : Value) (an : Option Addr) (us : List Value) (hl : us.length = ["box", "m"].length) : bindArgs (PySem.W.fnOf name qual (defArgs (top 34)) body scope .none kV doc pm an cdv ct) ⟨us, []⟩ = pure ((["box", "m"] : List PySem.Str).zip us) := by
  rw [a20]
  match us, hl with
  | [_, _], _ => rfl
/-- _law_pick -/
def n21 : List PySem.Str := ["box", "rows"]
def b21 : Ss := (.cons (.ret (.op2 .idx (.var 1) (.call 20 (.cons (.var 0) (.cons (.op1 .len (.var 1)) .nil))))) .nil)
theorem t21 : trSs 200 ⟨n21, defScope (top 35), fns, gls, nb⟩ (defBody (top 35)) = some b21 := by kernel_rfl
theorem s21 : scC n21 ["box", "rows"] (defScope (top 35)) = true := by kernel_rfl
theorem a21 : defArgs (top 35) = { posonlyargs := [], args := [{ arg := "box", annotation := none, pos := ⟨122, 14, 122, 17⟩ }, { arg := "rows", annotation := none, pos := ⟨122, 19, 122, 23⟩ }], vararg := none, kwonlyargs := [], kw_defaults := [], kwarg := none, defaults := [] } := by kernel_rfl
theorem ar21 (name qual : PySem.Str) (body : List Stmt) (scope : Scope) (kV doc pm cdv ct : Value) (an : Option Addr) (us : List Value) (hl : us.length = ["box", "rows"].length) : bindArgs (PySem.W.fnOf name qual (defArgs (top 35)) body scope .none kV doc pm an cdv ct) ⟨us, []⟩ = pure ((["box", "rows"] : List PySem.Str).zip us) := by
  rw [a21]
  match us, hl with
  | [_, _], _ => rfl
/-- _law_key -/
def n22 : List PySem.Str := ["value"]
def b22 : Ss := (.cons (.ret (.ite (.ofE (.isi (.var 0) .int)) (.tup (.cons (.con (.int 0)) (.cons (.var 0) (.cons (.con (.str (PySem.Str.ofString ""))) .nil)))) (.tup (.cons (.con (.int 1)) (.cons (.con (.int 0)) (.cons (.var 0) .nil)))))) .nil)
theorem t22 : trSs 200 ⟨n22, defScope (top 36), fns, gls, nb⟩ (defBody (top 36)) = some b22 := by kernel_rfl
theorem s22 : scC n22 ["value"] (defScope (top 36)) = true := by kernel_rfl
theorem a22 : defArgs (top 36) = { posonlyargs := [], args := [{ arg := "value", annotation := none, pos := ⟨124, 13, 124, 18⟩ }], vararg := none, kwonlyargs := [], kw_defaults := [], kwarg := none, defaults := [] } := by kernel_rfl
theorem ar22 (name qual : PySem.Str) (body : List Stmt) (scope : Scope) (kV doc pm cdv ct : Value) (an : Option Addr) (us : List Value) (hl : us.length = ["value"].length) : bindArgs (PySem.W.fnOf name qual (defArgs (top 36)) body scope .none kV doc pm an cdv ct) ⟨us, []⟩ = pure ((["value"] : List PySem.Str).zip us) := by
  rw [a22]
  match us, hl with
  | [_], _ => rfl
/-- _law_row_key -/
def n23 : List PySem.Str := ["row", ".0", "value"]
def b23 : Ss := (.cons (.ret (.fold .tuple (.lc (.call 22 (.cons (.var 2) .nil)) [1, 2] (.name 2) (.ofP (.var 0))))) .nil)
theorem t23 : trSs 200 ⟨n23, defScope (top 37), fns, gls, nb⟩ (defBody (top 37)) = some b23 := by kernel_rfl
theorem s23 : scC n23 ["row"] (defScope (top 37)) = true := by kernel_rfl
theorem a23 : defArgs (top 37) = { posonlyargs := [], args := [{ arg := "row", annotation := none, pos := ⟨126, 17, 126, 20⟩ }], vararg := none, kwonlyargs := [], kw_defaults := [], kwarg := none, defaults := [] } := by kernel_rfl
theorem ar23 (name qual : PySem.Str) (body : List Stmt) (scope : Scope) (kV doc pm cdv ct : Value) (an : Option Addr) (us : List Value) (hl : us.length = ["row"].length) : bindArgs (PySem.W.fnOf name qual (defArgs (top 37)) body scope .none kV doc pm an cdv ct) ⟨us, []⟩ = pure ((["row"] : List PySem.Str).zip us) := by
  rw [a23]
  match us, hl with
  | [_], _ => rfl
/-- _law_ordered -/
def n24 : List PySem.Str := ["rows", "table", ".0", "row", "pair"]
def b24 : Ss := (.cons (.asg (.name 1) (.fold .dict (.lc (.tup (.cons (.var 3) (.cons (.con (.int 1)) .nil))) [2, 3] (.name 3) (.ofP (.var 0))))) (.cons (.ret (.fold .tuple (.lc (.op2 .idx (.var 4) (.con (.int 1))) [2, 4] (.name 4) (.ofQ (.sorted (.lc (.tup (.cons (.call 23 (.cons (.var 3) .nil)) (.cons (.var 3) .nil))) [2, 3] (.name 3) (.ofP (.var 1)))))))) .nil))
theorem t24 : trSs 200 ⟨n24, defScope (top 38), fns, gls, nb⟩ (defBody (top 38)) = some b24 := by kernel_rfl
theorem s24 : scC n24 ["rows"] (defScope (top 38)) = true := by kernel_rfl
theorem a24 : defArgs (top 38) = { posonlyargs := [], args := [{ arg := "rows", annotation := none, pos := ⟨128, 17, 128, 21⟩ }], vararg := none, kwonlyargs := [], kw_defaults := [], kwarg := none, defaults := [] } := by kernel_rfl
theorem ar24 (name qual : PySem.Str) (body : List Stmt) (scope : Scope) (kV doc pm cdv ct : Value) (an : Option Addr) (us : List Value) (hl : us.length = ["rows"].length) : bindArgs (PySem.W.fnOf name qual (defArgs (top 38)) body scope .none kV doc pm an cdv ct) ⟨us, []⟩ = pure ((["rows"] : List PySem.Str).zip us) := by
  rw [a24]
  match us, hl with
  | [_], _ => rfl
/-- _law_facts_ordered -/
def n25 : List PySem.Str := ["facts", "table", ".0", "fact", "pair"]
def b25 : Ss := (.cons (.asg (.name 1) (.fold .dict (.lc (.tup (.cons (.var 3) (.cons (.con (.int 1)) .nil))) [2, 3] (.name 3) (.ofP (.var 0))))) (.cons (.ret (.fold .tuple (.lc (.op2 .idx (.var 4) (.con (.int 1))) [2, 4] (.name 4) (.ofQ (.sorted (.lc (.tup (.cons (.tup (.cons (.op2 .idx (.var 3) (.con (.int 0))) (.cons (.call 23 (.cons (.op2 .idx (.var 3) (.con (.int 1))) .nil)) .nil))) (.cons (.var 3) .nil))) [2, 3] (.name 3) (.ofP (.var 1)))))))) .nil))
theorem t25 : trSs 200 ⟨n25, defScope (top 39), fns, gls, nb⟩ (defBody (top 39)) = some b25 := by kernel_rfl
theorem s25 : scC n25 ["facts"] (defScope (top 39)) = true := by kernel_rfl
theorem a25 : defArgs (top 39) = { posonlyargs := [], args := [{ arg := "facts", annotation := none, pos := ⟨131, 23, 131, 28⟩ }], vararg := none, kwonlyargs := [], kw_defaults := [], kwarg := none, defaults := [] } := by kernel_rfl
theorem ar25 (name qual : PySem.Str) (body : List Stmt) (scope : Scope) (kV doc pm cdv ct : Value) (an : Option Addr) (us : List Value) (hl : us.length = ["facts"].length) : bindArgs (PySem.W.fnOf name qual (defArgs (top 39)) body scope .none kV doc pm an cdv ct) ⟨us, []⟩ = pure ((["facts"] : List PySem.Str).zip us) := by
  rw [a25]
  match us, hl with
  | [_], _ => rfl
/-- _law_worth -/
def n26 : List PySem.Str := ["one", "values", "first", "second", "found"]
def b26 : Ss := (.cons (.ite (.ofE (.op2 .eq (.op2 .idx (.var 0) (.con (.int 0))) (.con (.str (PySem.Str.ofString "value"))))) (.cons (.ret (.op2 .idx (.var 0) (.con (.int 1)))) .nil) .nil) (.cons (.ite (.ofE (.op2 .eq (.op2 .idx (.var 0) (.con (.int 0))) (.con (.str (PySem.Str.ofString "var"))))) (.cons (.ret (.op2 .idx (.var 1) (.op2 .idx (.var 0) (.con (.int 1))))) .nil) .nil) (.cons (.par [2, 3] (.cons (.call 26 (.cons (.op2 .idx (.var 0) (.con (.int 1))) (.cons (.var 1) .nil))) (.cons (.call 26 (.cons (.op2 .idx (.var 0) (.con (.int 2))) (.cons (.var 1) .nil))) .nil))) (.cons (.ite (.or (.not (.ofE (.isi (.var 2) .int))) (.not (.ofE (.isi (.var 3) .int)))) (.cons (.ret (.con .non)) .nil) .nil) (.cons (.asg (.name 4) (.ite (.ofE (.op2 .eq (.op2 .idx (.var 0) (.con (.int 0))) (.con (.str (PySem.Str.ofString "plus"))))) (.op2 .add (.var 2) (.var 3)) (.ite (.ofE (.op2 .eq (.op2 .idx (.var 0) (.con (.int 0))) (.con (.str (PySem.Str.ofString "minus"))))) (.op2 .sub (.var 2) (.var 3)) (.op2 .mul (.var 2) (.var 3))))) (.cons (.ret (.ite (.ofE (.op2 .le (.op1 .abs (.var 4)) (.op2 .pow (.con (.int 10)) (.con (.int 12))))) (.var 4) (.con .non))) .nil))))))
theorem t26 : trSs 200 ⟨n26, defScope (top 40), fns, gls, nb⟩ (defBody (top 40)) = some b26 := by kernel_rfl
theorem s26 : scC n26 ["one", "values"] (defScope (top 40)) = true := by kernel_rfl
theorem a26 : defArgs (top 40) = { posonlyargs := [], args := [{ arg := "one", annotation := none, pos := ⟨134, 15, 134, 18⟩ }, { arg := "values", annotation := none, pos := ⟨134, 20, 134, 26⟩ }], vararg := none, kwonlyargs := [], kw_defaults := [], kwarg := none, defaults := [] } := by kernel_rfl
theorem ar26 (name qual : PySem.Str) (body : List Stmt) (scope : Scope) (kV doc pm cdv ct : Value) (an : Option Addr) (us : List Value) (hl : us.length = ["one", "values"].length) : bindArgs (PySem.W.fnOf name qual (defArgs (top 40)) body scope .none kV doc pm an cdv ct) ⟨us, []⟩ = pure ((["one", "values"] : List PySem.Str).zip us) := by
  rw [a26]
  match us, hl with
  | [_, _], _ => rfl
/-- _law_any -/
def n27 : List PySem.Str := ["box"]
def b27 : Ss := (.cons (.ret (.call 21 (.cons (.var 0) (.cons (.ofQ (.disp (.cons (.con (.int 0)) (.cons (.op1 .neg (.con (.int 3))) (.cons (.con (.int 7)) (.cons (.con (.int 12)) (.cons (.con (.str (PySem.Str.ofString "a"))) (.cons (.con (.str (PySem.Str.ofString "b"))) (.cons (.con (.str (PySem.Str.ofString "ab"))) (.cons (.con (.str (PySem.Str.ofString "a_1"))) (.cons (.con (.str (PySem.Str.ofString "zZ"))) (.cons (.op2 .pow (.con (.int 10)) (.con (.int 12))) (.cons (.op1 .neg (.op2 .pow (.con (.int 10)) (.con (.int 12)))) .nil))))))))))))) .nil)))) .nil)
theorem t27 : trSs 200 ⟨n27, defScope (top 41), fns, gls, nb⟩ (defBody (top 41)) = some b27 := by kernel_rfl
theorem s27 : scC n27 ["box"] (defScope (top 41)) = true := by kernel_rfl
theorem a27 : defArgs (top 41) = { posonlyargs := [], args := [{ arg := "box", annotation := none, pos := ⟨144, 13, 144, 16⟩ }], vararg := none, kwonlyargs := [], kw_defaults := [], kwarg := none, defaults := [] } := by kernel_rfl
theorem ar27 (name qual : PySem.Str) (body : List Stmt) (scope : Scope) (kV doc pm cdv ct : Value) (an : Option Addr) (us : List Value) (hl : us.length = ["box"].length) : bindArgs (PySem.W.fnOf name qual (defArgs (top 41)) body scope .none kV doc pm an cdv ct) ⟨us, []⟩ = pure ((["box"] : List PySem.Str).zip us) := by
  rw [a27]
  match us, hl with
  | [_], _ => rfl
/-- _law_sum -/
def n28 : List PySem.Str := ["box", "depth"]
def b28 : Ss := (.cons (.ite (.or (.ofE (.op2 .eq (.var 1) (.con (.int 0)))) (.ofE (.op2 .eq (.call 20 (.cons (.var 0) (.cons (.con (.int 3)) .nil))) (.con (.int 0))))) (.cons (.ret (.ite (.ofE (.op2 .eq (.call 20 (.cons (.var 0) (.cons (.con (.int 2)) .nil))) (.con (.int 0)))) (.tup (.cons (.con (.str (PySem.Str.ofString "var"))) (.cons (.call 21 (.cons (.var 0) (.cons (.ofQ (.disp (.cons (.con (.str (PySem.Str.ofString "X"))) (.cons (.con (.str (PySem.Str.ofString "Y"))) (.cons (.con (.str (PySem.Str.ofString "Z"))) .nil))))) .nil))) .nil))) (.tup (.cons (.con (.str (PySem.Str.ofString "value"))) (.cons (.call 27 (.cons (.var 0) .nil)) .nil))))) .nil) .nil) (.cons (.ret (.tup (.cons (.call 21 (.cons (.var 0) (.cons (.ofQ (.disp (.cons (.con (.str (PySem.Str.ofString "plus"))) (.cons (.con (.str (PySem.Str.ofString "minus"))) (.cons (.con (.str (PySem.Str.ofString "times"))) .nil))))) .nil))) (.cons (.call 28 (.cons (.var 0) (.cons (.op2 .sub (.var 1) (.con (.int 1))) .nil))) (.cons (.call 28 (.cons (.var 0) (.cons (.op2 .sub (.var 1) (.con (.int 1))) .nil))) .nil))))) .nil))
theorem t28 : trSs 200 ⟨n28, defScope (top 42), fns, gls, nb⟩ (defBody (top 42)) = some b28 := by kernel_rfl
theorem s28 : scC n28 ["box", "depth"] (defScope (top 42)) = true := by kernel_rfl
theorem a28 : defArgs (top 42) = { posonlyargs := [], args := [{ arg := "box", annotation := none, pos := ⟨146, 13, 146, 16⟩ }, { arg := "depth", annotation := none, pos := ⟨146, 18, 146, 23⟩ }], vararg := none, kwonlyargs := [], kw_defaults := [], kwarg := none, defaults := [] } := by kernel_rfl
theorem ar28 (name qual : PySem.Str) (body : List Stmt) (scope : Scope) (kV doc pm cdv ct : Value) (an : Option Addr) (us : List Value) (hl : us.length = ["box", "depth"].length) : bindArgs (PySem.W.fnOf name qual (defArgs (top 42)) body scope .none kV doc pm an cdv ct) ⟨us, []⟩ = pure ((["box", "depth"] : List PySem.Str).zip us) := by
  rw [a28]
  match us, hl with
  | [_, _], _ => rfl
/-- law -/
def n29 : List PySem.Str := ["script", "box", "rows", "facts", "good", "bad", "one", "values", "rule", "wrong", ".0", "k", "j", "row", "fact", "shape"]
def b29 : Ss := (.cons (.asg (.name 1) (.ofQ (.disp (.cons (.call 19 (.cons (.var 0) (.cons (.con (.int 0)) (.cons (.con (.int 63)) .nil)))) (.cons (.con (.int 0)) .nil))))) (.cons (.asg (.name 2) (.ofQ (.lc (.fold .tuple (.lc (.call 27 (.cons (.var 1) .nil)) [10, 12] (.name 12) (.rng (.cons (.call 20 (.cons (.var 1) (.cons (.con (.int 4)) .nil))) .nil)))) [10, 11] (.name 11) (.rng (.cons (.call 20 (.cons (.var 1) (.cons (.con (.int 8)) .nil))) .nil))))) (.cons (.ite (.or (.ofE (.op2 .ne (.call 7 (.cons (.var 2) .nil)) (.call 24 (.cons (.var 2) .nil)))) (.ofE (.op2 .ne (.call 7 (.cons (.ofQ (.rev (.list (.ofE (.call 7 (.cons (.var 2) .nil)))))) .nil)) (.call 7 (.cons (.var 2) .nil))))) (.cons (.ret (.con (.bl false))) .nil) .nil) (.cons (.asg (.name 3) (.ofQ (.lc (.tup (.cons (.call 21 (.cons (.var 1) (.cons (.ofQ (.disp (.cons (.con (.str (PySem.Str.ofString "p"))) (.cons (.con (.str (PySem.Str.ofString "q"))) (.cons (.con (.str (PySem.Str.ofString "p1"))) .nil))))) .nil))) (.cons (.var 13) .nil))) [10, 13] (.name 13) (.ofP (.var 2))))) (.cons (.ite (.or (.ofE (.op2 .ne (.call 9 (.cons (.var 3) .nil)) (.call 25 (.cons (.var 3) .nil)))) (.ofE (.eqQ true (.lci (.var 14) [10, 14] (.name 14) (.ofP (.var 3)) (.ofE (.op2 .isnot (.call 10 (.cons (.var 14) .nil)) (.con (.bl true))))) (.disp .nil)))) (.cons (.ret (.con (.bl false))) .nil) .nil) (.cons (.ite (.or (.ofE (.eqQ true (.lci (.var 13) [10, 13] (.name 13) (.ofP (.var 2)) (.ofE (.op2 .isnot (.call 4 (.cons (.var 13) .nil)) (.con (.bl true))))) (.disp .nil))) (.ofE (.op2 .isnot (.call 4 (.cons (.fold .tuple (.ofE (.op2 .mul (.ofQ (.disp (.cons (.con (.int 1)) .nil))) (.con (.int 9))))) .nil)) (.con (.bl false))))) (.cons (.ret (.con (.bl false))) .nil) .nil) (.cons (.asg (.name 4) (.ofQ (.disp (.cons (.con (.str (PySem.Str.ofString "a"))) (.cons (.con (.str (PySem.Str.ofString "zed"))) (.cons (.op2 .mul (.con (.str (PySem.Str.ofString "a"))) (.con (.int 24))) (.cons (.con (.str (PySem.Str.ofString "xY_9"))) (.cons (.con (.str (PySem.Str.ofString "counts"))) .nil)))))))) (.cons (.asg (.name 5) (.ofQ (.disp (.cons (.con (.str (PySem.Str.ofString ""))) (.cons (.con (.str (PySem.Str.ofString "A"))) (.cons (.con (.str (PySem.Str.ofString "_a"))) (.cons (.con (.str (PySem.Str.ofString "9a"))) (.cons (.con (.str (PySem.Str.ofString "not"))) (.cons (.con (.str (PySem.Str.ofString "count"))) (.cons (.con (.str (PySem.Str.ofString "sum"))) (.cons (.con (.str (PySem.Str.ofString "least"))) (.cons (.con (.str (PySem.Str.ofString "greatest"))) (.cons (.con (.str (PySem.Str.ofString "a b"))) (.cons (.op2 .mul (.con (.str (PySem.Str.ofString "a"))) (.con (.int 25))) (.cons (.con .non) (.cons (.con (.int 5)) (.cons (.con (.str (PySem.Str.ofString "a-b"))) .nil))))))))))))))))) (.cons (.ite (.or (.ofE (.eqQ true (.lci (.var 6) [10, 6] (.name 6) (.ofP (.var 4)) (.ofE (.op2 .isnot (.call 1 (.cons (.var 6) .nil)) (.con (.bl true))))) (.disp .nil))) (.ofE (.eqQ true (.lci (.var 6) [10, 6] (.name 6) (.ofP (.var 5)) (.ofE (.op2 .isnot (.call 1 (.cons (.var 6) .nil)) (.con (.bl false))))) (.disp .nil)))) (.cons (.ret (.con (.bl false))) .nil) .nil) (.cons (.ite (.or (.ofE (.eqQ true (.lci (.var 6) [10, 6] (.name 6) (.ofQ (.disp (.cons (.con (.str (PySem.Str.ofString "X"))) (.cons (.con (.str (PySem.Str.ofString "Any0_"))) (.cons (.con (.str (PySem.Str.ofString "Zz9"))) .nil))))) (.ofE (.op2 .isnot (.call 2 (.cons (.var 6) .nil)) (.con (.bl true))))) (.disp .nil))) (.ofE (.eqQ true (.lci (.var 6) [10, 6] (.name 6) (.ofQ (.disp (.cons (.con (.str (PySem.Str.ofString "x"))) (.cons (.con (.str (PySem.Str.ofString ""))) (.cons (.con (.str (PySem.Str.ofString "9"))) (.cons (.con (.str (PySem.Str.ofString "_"))) (.cons (.con .non) (.cons (.op2 .mul (.con (.str (PySem.Str.ofString "X"))) (.con (.int 25))) .nil)))))))) (.ofE (.op2 .isnot (.call 2 (.cons (.var 6) .nil)) (.con (.bl false))))) (.disp .nil)))) (.cons (.ret (.con (.bl false))) .nil) .nil) (.cons (.ite (.ofE (.eqQ true (.lci (.var 6) [10, 6] (.name 6) (.ofQ (.disp (.cons (.op2 .add (.op2 .pow (.con (.int 10)) (.con (.int 12))) (.con (.int 1))) (.cons (.con (.bl true)) (.cons (.con .non) (.cons (.con (.str (PySem.Str.ofString "X"))) (.cons (.tup .nil) (.cons (.op2 .sub (.op1 .neg (.op2 .pow (.con (.int 10)) (.con (.int 12)))) (.con (.int 1))) .nil)))))))) (.ofE (.op2 .isnot (.call 3 (.cons (.var 6) .nil)) (.con (.bl false))))) (.disp .nil))) (.cons (.ret (.con (.bl false))) .nil) .nil) (.cons (.ite (.ofE (.eqQ true (.lci (.var 6) [10, 6] (.name 6) (.ofQ (.disp (.cons (.tup (.cons (.con (.str (PySem.Str.ofString "p"))) .nil)) (.cons (.tup (.cons (.con (.str (PySem.Str.ofString "P"))) (.cons (.tup .nil) .nil))) (.cons (.tup (.cons (.con (.str (PySem.Str.ofString "p"))) (.cons (.ofQ (.disp (.cons (.con (.int 1)) .nil))) .nil))) (.cons (.tup (.cons (.con (.str (PySem.Str.ofString "p"))) (.cons (.tup (.cons (.con (.bl true)) .nil)) .nil))) (.cons (.con .non) (.cons (.tup (.cons (.con (.str (PySem.Str.ofString "p"))) (.cons (.tup (.cons (.con (.int 1)) .nil)) (.cons (.con (.int 2)) .nil)))) .nil)))))))) (.ofE (.op2 .isnot (.call 10 (.cons (.var 6) .nil)) (.con (.bl false))))) (.disp .nil))) (.cons (.ret (.con (.bl false))) .nil) .nil) (.cons (.asg (.name 6) (.call 28 (.cons (.var 1) (.cons (.con (.int 3)) .nil)))) (.cons (.asg (.name 7) (.ddisp (.cons (.con (.str (PySem.Str.ofString "X"))) (.cons (.call 27 (.cons (.var 1) .nil)) (.cons (.con (.str (PySem.Str.ofString "Y"))) (.cons (.call 27 (.cons (.var 1) .nil)) (.cons (.con (.str (PySem.Str.ofString "Z"))) (.cons (.call 27 (.cons (.var 1) .nil)) .nil)))))))) (.cons (.ite (.or (.ofE (.op2 .ne (.call 17 (.cons (.var 6) (.cons (.op1 .dcopy (.var 7)) .nil))) (.call 26 (.cons (.var 6) (.cons (.var 7) .nil))))) (.ofE (.op2 .isnot (.call 17 (.cons (.tup (.cons (.con (.str (PySem.Str.ofString "var"))) (.cons (.con (.str (PySem.Str.ofString "Q"))) .nil))) (.cons (.op1 .dcopy (.var 7)) .nil))) (.con .non)))) (.cons (.ret (.con (.bl false))) .nil) .nil) (.cons (.asg (.name 8) (.tup (.cons (.con (.str (PySem.Str.ofString "p"))) (.cons (.tup (.cons (.tup (.cons (.con (.str (PySem.Str.ofString "var"))) (.cons (.con (.str (PySem.Str.ofString "X"))) .nil))) (.cons (.tup (.cons (.con (.str (PySem.Str.ofString "count"))) (.cons (.con (.str (PySem.Str.ofString "Y"))) .nil))) .nil))) (.cons (.tup (.cons (.tup (.cons (.con (.str (PySem.Str.ofString "is"))) (.cons (.con (.str (PySem.Str.ofString "q"))) (.cons (.tup (.cons (.tup (.cons (.con (.str (PySem.Str.ofString "var"))) (.cons (.con (.str (PySem.Str.ofString "X"))) .nil))) (.cons (.tup (.cons (.con (.str (PySem.Str.ofString "var"))) (.cons (.con (.str (PySem.Str.ofString "Y"))) .nil))) .nil))) .nil)))) (.cons (.tup (.cons (.con (.str (PySem.Str.ofString "test"))) (.cons (.con (.str (PySem.Str.ofString "<"))) (.cons (.var 6) (.cons (.tup (.cons (.con (.str (PySem.Str.ofString "value"))) (.cons (.con (.int 3)) .nil))) .nil))))) .nil))) .nil))))) (.cons (.ite (.or (.ofE (.op2 .isnot (.call 16 (.cons (.var 8) .nil)) (.con (.bl true)))) (.ofE (.op2 .isnot (.call 16 (.cons (.tup (.cons (.con (.str (PySem.Str.ofString "p"))) (.cons (.tup .nil) (.cons (.tup .nil) .nil)))) .nil)) (.con (.bl true))))) (.cons (.ret (.con (.bl false))) .nil) .nil) (.cons (.asg (.name 9) (.ofQ (.disp (.cons (.con .non) (.cons (.tup .nil) (.cons (.tup (.cons (.con (.str (PySem.Str.ofString "P"))) (.cons (.tup .nil) (.cons (.tup .nil) .nil)))) (.cons (.tup (.cons (.con (.str (PySem.Str.ofString "p"))) (.cons (.tup (.cons (.tup (.cons (.con (.str (PySem.Str.ofString "count"))) (.cons (.con (.str (PySem.Str.ofString "X"))) .nil))) (.cons (.tup (.cons (.con (.str (PySem.Str.ofString "sum"))) (.cons (.con (.str (PySem.Str.ofString "Y"))) .nil))) .nil))) (.cons (.tup .nil) .nil)))) (.cons (.tup (.cons (.con (.str (PySem.Str.ofString "p"))) (.cons (.tup (.cons (.tup (.cons (.con (.str (PySem.Str.ofString "count"))) (.cons (.con (.str (PySem.Str.ofString "x"))) .nil))) .nil)) (.cons (.tup .nil) .nil)))) (.cons (.tup (.cons (.con (.str (PySem.Str.ofString "p"))) (.cons (.ofQ (.disp .nil)) (.cons (.tup .nil) .nil)))) (.cons (.tup (.cons (.con (.str (PySem.Str.ofString "p"))) (.cons (.tup .nil) (.cons (.tup (.cons (.tup (.cons (.con (.str (PySem.Str.ofString "is"))) (.cons (.con (.str (PySem.Str.ofString "q"))) .nil))) .nil)) .nil)))) (.cons (.tup (.cons (.con (.str (PySem.Str.ofString "p"))) (.cons (.tup .nil) (.cons (.tup (.cons (.tup (.cons (.con (.str (PySem.Str.ofString "maybe"))) (.cons (.con (.str (PySem.Str.ofString "q"))) (.cons (.tup .nil) .nil)))) .nil)) .nil)))) .nil))))))))))) (.cons (.asg (.name 9) (.op2 .add (.var 9) (.ofQ (.disp (.cons (.tup (.cons (.con (.str (PySem.Str.ofString "p"))) (.cons (.tup .nil) (.cons (.tup (.cons (.tup (.cons (.con (.str (PySem.Str.ofString "test"))) (.cons (.con (.str (PySem.Str.ofString "=<"))) (.cons (.tup (.cons (.con (.str (PySem.Str.ofString "value"))) (.cons (.con (.int 1)) .nil))) (.cons (.tup (.cons (.con (.str (PySem.Str.ofString "value"))) (.cons (.con (.int 2)) .nil))) .nil))))) .nil)) .nil)))) (.cons (.tup (.cons (.con (.str (PySem.Str.ofString "p"))) (.cons (.tup (.cons (.tup (.cons (.con (.str (PySem.Str.ofString "value"))) (.cons (.con .non) .nil))) .nil)) (.cons (.tup .nil) .nil)))) (.cons (.tup (.cons (.con (.str (PySem.Str.ofString "p"))) (.cons (.tup .nil) (.cons (.tup (.cons (.tup (.cons (.con (.str (PySem.Str.ofString "is"))) (.cons (.con (.str (PySem.Str.ofString "q"))) (.cons (.tup (.cons (.tup (.cons (.con (.str (PySem.Str.ofString "value"))) (.cons (.tup .nil) .nil))) .nil)) .nil)))) .nil)) .nil)))) .nil))))))) (.cons (.asg (.name 9) (.op2 .add (.var 9) (.ofQ (.disp (.cons (.tup (.cons (.con (.str (PySem.Str.ofString "p"))) (.cons (.fold .tuple (.ofE (.op2 .mul (.ofQ (.disp (.cons (.tup (.cons (.con (.str (PySem.Str.ofString "value"))) (.cons (.con (.int 1)) .nil))) .nil))) (.con (.int 9))))) (.cons (.tup .nil) .nil)))) (.cons (.tup (.cons (.con (.str (PySem.Str.ofString "p"))) (.cons (.tup .nil) (.cons (.op2 .mul (.tup (.cons (.tup (.cons (.con (.str (PySem.Str.ofString "is"))) (.cons (.con (.str (PySem.Str.ofString "q"))) (.cons (.tup .nil) .nil)))) .nil)) (.con (.int 13))) .nil)))) .nil)))))) (.cons (.ret (.and (.op2 .is_ (.call 16 (.cons (.call 21 (.cons (.var 1) (.cons (.var 9) .nil))) .nil)) (.con (.bl false))) (.eqQ false (.lci (.var 15) [10, 15] (.name 15) (.ofP (.var 9)) (.ofE (.op2 .isnot (.call 16 (.cons (.var 15) .nil)) (.con (.bl false))))) (.disp .nil)))) .nil)))))))))))))))))))))
theorem t29 : trSs 200 ⟨n29, defScope (top 43), fns, gls, nb⟩ (defBody (top 43)) = some b29 := by kernel_rfl
theorem s29 : scC n29 ["script"] (defScope (top 43)) = true := by kernel_rfl
theorem a29 : defArgs (top 43) = { posonlyargs := [], args := [{ arg := "script", annotation := none, pos := ⟨150, 8, 150, 14⟩ }], vararg := none, kwonlyargs := [], kw_defaults := [], kwarg := none, defaults := [] } := by kernel_rfl
theorem ar29 (name qual : PySem.Str) (body : List Stmt) (scope : Scope) (kV doc pm cdv ct : Value) (an : Option Addr) (us : List Value) (hl : us.length = ["script"].length) : bindArgs (PySem.W.fnOf name qual (defArgs (top 43)) body scope .none kV doc pm an cdv ct) ⟨us, []⟩ = pure ((["script"] : List PySem.Str).zip us) := by
  rw [a29]
  match us, hl with
  | [_], _ => rfl
def FT : Nat → Option FD
  | 0 => some ⟨1, n0.length, b0⟩
  | 1 => some ⟨1, n1.length, b1⟩
  | 2 => some ⟨1, n2.length, b2⟩
  | 3 => some ⟨1, n3.length, b3⟩
  | 4 => some ⟨1, n4.length, b4⟩
  | 5 => some ⟨1, n5.length, b5⟩
  | 6 => some ⟨1, n6.length, b6⟩
  | 7 => some ⟨1, n7.length, b7⟩
  | 8 => some ⟨1, n8.length, b8⟩
  | 9 => some ⟨1, n9.length, b9⟩
  | 10 => some ⟨1, n10.length, b10⟩
  | 11 => some ⟨1, n11.length, b11⟩
  | 12 => some ⟨1, n12.length, b12⟩
  | 13 => some ⟨1, n13.length, b13⟩
  | 14 => some ⟨1, n14.length, b14⟩
  | 15 => some ⟨1, n15.length, b15⟩
  | 16 => some ⟨1, n16.length, b16⟩
  | 17 => some ⟨2, n17.length, b17⟩
  | 18 => some ⟨2, n18.length, b18⟩
  | 19 => some ⟨3, n19.length, b19⟩
  | 20 => some ⟨2, n20.length, b20⟩
  | 21 => some ⟨2, n21.length, b21⟩
  | 22 => some ⟨1, n22.length, b22⟩
  | 23 => some ⟨1, n23.length, b23⟩
  | 24 => some ⟨1, n24.length, b24⟩
  | 25 => some ⟨1, n25.length, b25⟩
  | 26 => some ⟨2, n26.length, b26⟩
  | 27 => some ⟨1, n27.length, b27⟩
  | 28 => some ⟨2, n28.length, b28⟩
  | 29 => some ⟨1, n29.length, b29⟩
  | _ => none
end K00

set_option Elab.async false
set_option linter.all false
set_option maxRecDepth 100000
set_option maxHeartbeats 0
/-! The law's row: the module's names as MP knows them. -/
namespace K00
open MP PySem PySem.Spec L2 C8
def GL : Nat → Option D
  | 0 => some (.str (PySem.Str.ofString "abcdefghijklmnopqrstuvwxyz"))
  | 1 => some (.str (PySem.Str.ofString "ABCDEFGHIJKLMNOPQRSTUVWXYZ"))
  | 2 => some (.str (PySem.Str.ofString "abcdefghijklmnopqrstuvwxyzABCDEFGHIJKLMNOPQRSTUVWXYZ0123456789_"))
  | 3 => some (.int 1000000000000)
  | 4 => some (.int 8)
  | 5 => some (.tup [(.str (PySem.Str.ofString "not")), (.str (PySem.Str.ofString "count")), (.str (PySem.Str.ofString "sum")), (.str (PySem.Str.ofString "least")), (.str (PySem.Str.ofString "greatest"))])
  | 6 => some (.tup [(.str (PySem.Str.ofString "count")), (.str (PySem.Str.ofString "sum")), (.str (PySem.Str.ofString "least")), (.str (PySem.Str.ofString "greatest"))])
  | 7 => some (.tup [(.str (PySem.Str.ofString "<")), (.str (PySem.Str.ofString "<=")), (.str (PySem.Str.ofString "=")), (.str (PySem.Str.ofString "!="))])
  | 8 => some (.tup [(.str (PySem.Str.ofString "plus")), (.str (PySem.Str.ofString "minus")), (.str (PySem.Str.ofString "times"))])
  | 9 => some (.int 12)
  | 10 => some (.int 12)
  | _ => none
theorem mod_mk {K : PySem.W.Frag} {h : Heap} {mg : PySem.Str → Option Value} (X : K.In h) (G : h.Ns mainGlobals mg) (L : PySem.W.LooseAre [(PySem.Str.ofString "MORE", PySem.W.WData.str (PySem.Str.ofString "abcdefghijklmnopqrstuvwxyzABCDEFGHIJKLMNOPQRSTUVWXYZ0123456789_")), (PySem.Str.ofString "NUMBER_MOST", PySem.W.WData.int 1000000000000)] mg h)
    {f0 : Addr} {oc0 : Value} {od0 : Option Addr} {ol0 : Array (Option Value)} {m0 q0 : PySem.Str} {kV0 dc0 pm0 cd0 ct0 : Value} {an0 : Option Addr} (a0 : PySem.W.nsIn K mainGlobals "is_whole" = some (some (.ref f0))) (k0 : PySem.W.keepIn K (.ref f0) = true) (l0 : K.lookup f0 = some ⟨oc0, od0, .func (PySem.W.fnOf m0 q0 (defArgs (top 7)) (defBody (top 7)) (defScope (top 7)) .none kV0 dc0 pm0 an0 cd0 ct0), ol0⟩) (c0 : PySem.W.codeIn K cd0 q0 = true)
    {f1 : Addr} {oc1 : Value} {od1 : Option Addr} {ol1 : Array (Option Value)} {m1 q1 : PySem.Str} {kV1 dc1 pm1 cd1 ct1 : Value} {an1 : Option Addr} (a1 : PySem.W.nsIn K mainGlobals "is_name" = some (some (.ref f1))) (k1 : PySem.W.keepIn K (.ref f1) = true) (l1 : K.lookup f1 = some ⟨oc1, od1, .func (PySem.W.fnOf m1 q1 (defArgs (top 8)) (defBody (top 8)) (defScope (top 8)) .none kV1 dc1 pm1 an1 cd1 ct1), ol1⟩) (c1 : PySem.W.codeIn K cd1 q1 = true)
    {f2 : Addr} {oc2 : Value} {od2 : Option Addr} {ol2 : Array (Option Value)} {m2 q2 : PySem.Str} {kV2 dc2 pm2 cd2 ct2 : Value} {an2 : Option Addr} (a2 : PySem.W.nsIn K mainGlobals "is_letter" = some (some (.ref f2))) (k2 : PySem.W.keepIn K (.ref f2) = true) (l2 : K.lookup f2 = some ⟨oc2, od2, .func (PySem.W.fnOf m2 q2 (defArgs (top 9)) (defBody (top 9)) (defScope (top 9)) .none kV2 dc2 pm2 an2 cd2 ct2), ol2⟩) (c2 : PySem.W.codeIn K cd2 q2 = true)
    {f3 : Addr} {oc3 : Value} {od3 : Option Addr} {ol3 : Array (Option Value)} {m3 q3 : PySem.Str} {kV3 dc3 pm3 cd3 ct3 : Value} {an3 : Option Addr} (a3 : PySem.W.nsIn K mainGlobals "is_value" = some (some (.ref f3))) (k3 : PySem.W.keepIn K (.ref f3) = true) (l3 : K.lookup f3 = some ⟨oc3, od3, .func (PySem.W.fnOf m3 q3 (defArgs (top 10)) (defBody (top 10)) (defScope (top 10)) .none kV3 dc3 pm3 an3 cd3 ct3), ol3⟩) (c3 : PySem.W.codeIn K cd3 q3 = true)
    {f4 : Addr} {oc4 : Value} {od4 : Option Addr} {ol4 : Array (Option Value)} {m4 q4 : PySem.Str} {kV4 dc4 pm4 cd4 ct4 : Value} {an4 : Option Addr} (a4 : PySem.W.nsIn K mainGlobals "is_row" = some (some (.ref f4))) (k4 : PySem.W.keepIn K (.ref f4) = true) (l4 : K.lookup f4 = some ⟨oc4, od4, .func (PySem.W.fnOf m4 q4 (defArgs (top 11)) (defBody (top 11)) (defScope (top 11)) .none kV4 dc4 pm4 an4 cd4 ct4), ol4⟩) (c4 : PySem.W.codeIn K cd4 q4 = true)
    {f5 : Addr} {oc5 : Value} {od5 : Option Addr} {ol5 : Array (Option Value)} {m5 q5 : PySem.Str} {kV5 dc5 pm5 cd5 ct5 : Value} {an5 : Option Addr} (a5 : PySem.W.nsIn K mainGlobals "value_key" = some (some (.ref f5))) (k5 : PySem.W.keepIn K (.ref f5) = true) (l5 : K.lookup f5 = some ⟨oc5, od5, .func (PySem.W.fnOf m5 q5 (defArgs (top 12)) (defBody (top 12)) (defScope (top 12)) .none kV5 dc5 pm5 an5 cd5 ct5), ol5⟩) (c5 : PySem.W.codeIn K cd5 q5 = true)
    {f6 : Addr} {oc6 : Value} {od6 : Option Addr} {ol6 : Array (Option Value)} {m6 q6 : PySem.Str} {kV6 dc6 pm6 cd6 ct6 : Value} {an6 : Option Addr} (a6 : PySem.W.nsIn K mainGlobals "row_key" = some (some (.ref f6))) (k6 : PySem.W.keepIn K (.ref f6) = true) (l6 : K.lookup f6 = some ⟨oc6, od6, .func (PySem.W.fnOf m6 q6 (defArgs (top 13)) (defBody (top 13)) (defScope (top 13)) .none kV6 dc6 pm6 an6 cd6 ct6), ol6⟩) (c6 : PySem.W.codeIn K cd6 q6 = true)
    {f7 : Addr} {oc7 : Value} {od7 : Option Addr} {ol7 : Array (Option Value)} {m7 q7 : PySem.Str} {kV7 dc7 pm7 cd7 ct7 : Value} {an7 : Option Addr} (a7 : PySem.W.nsIn K mainGlobals "ordered" = some (some (.ref f7))) (k7 : PySem.W.keepIn K (.ref f7) = true) (l7 : K.lookup f7 = some ⟨oc7, od7, .func (PySem.W.fnOf m7 q7 (defArgs (top 14)) (defBody (top 14)) (defScope (top 14)) .none kV7 dc7 pm7 an7 cd7 ct7), ol7⟩) (c7 : PySem.W.codeIn K cd7 q7 = true)
    {f8 : Addr} {oc8 : Value} {od8 : Option Addr} {ol8 : Array (Option Value)} {m8 q8 : PySem.Str} {kV8 dc8 pm8 cd8 ct8 : Value} {an8 : Option Addr} (a8 : PySem.W.nsIn K mainGlobals "fact_key" = some (some (.ref f8))) (k8 : PySem.W.keepIn K (.ref f8) = true) (l8 : K.lookup f8 = some ⟨oc8, od8, .func (PySem.W.fnOf m8 q8 (defArgs (top 15)) (defBody (top 15)) (defScope (top 15)) .none kV8 dc8 pm8 an8 cd8 ct8), ol8⟩) (c8 : PySem.W.codeIn K cd8 q8 = true)
    {f9 : Addr} {oc9 : Value} {od9 : Option Addr} {ol9 : Array (Option Value)} {m9 q9 : PySem.Str} {kV9 dc9 pm9 cd9 ct9 : Value} {an9 : Option Addr} (a9 : PySem.W.nsIn K mainGlobals "ordered_facts" = some (some (.ref f9))) (k9 : PySem.W.keepIn K (.ref f9) = true) (l9 : K.lookup f9 = some ⟨oc9, od9, .func (PySem.W.fnOf m9 q9 (defArgs (top 16)) (defBody (top 16)) (defScope (top 16)) .none kV9 dc9 pm9 an9 cd9 ct9), ol9⟩) (c9 : PySem.W.codeIn K cd9 q9 = true)
    {f10 : Addr} {oc10 : Value} {od10 : Option Addr} {ol10 : Array (Option Value)} {m10 q10 : PySem.Str} {kV10 dc10 pm10 cd10 ct10 : Value} {an10 : Option Addr} (a10 : PySem.W.nsIn K mainGlobals "is_fact" = some (some (.ref f10))) (k10 : PySem.W.keepIn K (.ref f10) = true) (l10 : K.lookup f10 = some ⟨oc10, od10, .func (PySem.W.fnOf m10 q10 (defArgs (top 17)) (defBody (top 17)) (defScope (top 17)) .none kV10 dc10 pm10 an10 cd10 ct10), ol10⟩) (c10 : PySem.W.codeIn K cd10 q10 = true)
    {f11 : Addr} {oc11 : Value} {od11 : Option Addr} {ol11 : Array (Option Value)} {m11 q11 : PySem.Str} {kV11 dc11 pm11 cd11 ct11 : Value} {an11 : Option Addr} (a11 : PySem.W.nsIn K mainGlobals "is_term" = some (some (.ref f11))) (k11 : PySem.W.keepIn K (.ref f11) = true) (l11 : K.lookup f11 = some ⟨oc11, od11, .func (PySem.W.fnOf m11 q11 (defArgs (top 24)) (defBody (top 24)) (defScope (top 24)) .none kV11 dc11 pm11 an11 cd11 ct11), ol11⟩) (c11 : PySem.W.codeIn K cd11 q11 = true)
    {f12 : Addr} {oc12 : Value} {od12 : Option Addr} {ol12 : Array (Option Value)} {m12 q12 : PySem.Str} {kV12 dc12 pm12 cd12 ct12 : Value} {an12 : Option Addr} (a12 : PySem.W.nsIn K mainGlobals "is_sum" = some (some (.ref f12))) (k12 : PySem.W.keepIn K (.ref f12) = true) (l12 : K.lookup f12 = some ⟨oc12, od12, .func (PySem.W.fnOf m12 q12 (defArgs (top 25)) (defBody (top 25)) (defScope (top 25)) .none kV12 dc12 pm12 an12 cd12 ct12), ol12⟩) (c12 : PySem.W.codeIn K cd12 q12 = true)
    {f13 : Addr} {oc13 : Value} {od13 : Option Addr} {ol13 : Array (Option Value)} {m13 q13 : PySem.Str} {kV13 dc13 pm13 cd13 ct13 : Value} {an13 : Option Addr} (a13 : PySem.W.nsIn K mainGlobals "is_terms" = some (some (.ref f13))) (k13 : PySem.W.keepIn K (.ref f13) = true) (l13 : K.lookup f13 = some ⟨oc13, od13, .func (PySem.W.fnOf m13 q13 (defArgs (top 26)) (defBody (top 26)) (defScope (top 26)) .none kV13 dc13 pm13 an13 cd13 ct13), ol13⟩) (c13 : PySem.W.codeIn K cd13 q13 = true)
    {f14 : Addr} {oc14 : Value} {od14 : Option Addr} {ol14 : Array (Option Value)} {m14 q14 : PySem.Str} {kV14 dc14 pm14 cd14 ct14 : Value} {an14 : Option Addr} (a14 : PySem.W.nsIn K mainGlobals "is_part" = some (some (.ref f14))) (k14 : PySem.W.keepIn K (.ref f14) = true) (l14 : K.lookup f14 = some ⟨oc14, od14, .func (PySem.W.fnOf m14 q14 (defArgs (top 27)) (defBody (top 27)) (defScope (top 27)) .none kV14 dc14 pm14 an14 cd14 ct14), ol14⟩) (c14 : PySem.W.codeIn K cd14 q14 = true)
    {f15 : Addr} {oc15 : Value} {od15 : Option Addr} {ol15 : Array (Option Value)} {m15 q15 : PySem.Str} {kV15 dc15 pm15 cd15 ct15 : Value} {an15 : Option Addr} (a15 : PySem.W.nsIn K mainGlobals "is_group" = some (some (.ref f15))) (k15 : PySem.W.keepIn K (.ref f15) = true) (l15 : K.lookup f15 = some ⟨oc15, od15, .func (PySem.W.fnOf m15 q15 (defArgs (top 28)) (defBody (top 28)) (defScope (top 28)) .none kV15 dc15 pm15 an15 cd15 ct15), ol15⟩) (c15 : PySem.W.codeIn K cd15 q15 = true)
    {f16 : Addr} {oc16 : Value} {od16 : Option Addr} {ol16 : Array (Option Value)} {m16 q16 : PySem.Str} {kV16 dc16 pm16 cd16 ct16 : Value} {an16 : Option Addr} (a16 : PySem.W.nsIn K mainGlobals "is_rule" = some (some (.ref f16))) (k16 : PySem.W.keepIn K (.ref f16) = true) (l16 : K.lookup f16 = some ⟨oc16, od16, .func (PySem.W.fnOf m16 q16 (defArgs (top 29)) (defBody (top 29)) (defScope (top 29)) .none kV16 dc16 pm16 an16 cd16 ct16), ol16⟩) (c16 : PySem.W.codeIn K cd16 q16 = true)
    {f17 : Addr} {oc17 : Value} {od17 : Option Addr} {ol17 : Array (Option Value)} {m17 q17 : PySem.Str} {kV17 dc17 pm17 cd17 ct17 : Value} {an17 : Option Addr} (a17 : PySem.W.nsIn K mainGlobals "worth" = some (some (.ref f17))) (k17 : PySem.W.keepIn K (.ref f17) = true) (l17 : K.lookup f17 = some ⟨oc17, od17, .func (PySem.W.fnOf m17 q17 (defArgs (top 30)) (defBody (top 30)) (defScope (top 30)) .none kV17 dc17 pm17 an17 cd17 ct17), ol17⟩) (c17 : PySem.W.codeIn K cd17 q17 = true)
    {f18 : Addr} {oc18 : Value} {od18 : Option Addr} {ol18 : Array (Option Value)} {m18 q18 : PySem.Str} {kV18 dc18 pm18 cd18 ct18 : Value} {an18 : Option Addr} (a18 : PySem.W.nsIn K mainGlobals "_law_cell" = some (some (.ref f18))) (k18 : PySem.W.keepIn K (.ref f18) = true) (l18 : K.lookup f18 = some ⟨oc18, od18, .func (PySem.W.fnOf m18 q18 (defArgs (top 32)) (defBody (top 32)) (defScope (top 32)) .none kV18 dc18 pm18 an18 cd18 ct18), ol18⟩) (c18 : PySem.W.codeIn K cd18 q18 = true)
    {f19 : Addr} {oc19 : Value} {od19 : Option Addr} {ol19 : Array (Option Value)} {m19 q19 : PySem.Str} {kV19 dc19 pm19 cd19 ct19 : Value} {an19 : Option Addr} (a19 : PySem.W.nsIn K mainGlobals "_law_digits" = some (some (.ref f19))) (k19 : PySem.W.keepIn K (.ref f19) = true) (l19 : K.lookup f19 = some ⟨oc19, od19, .func (PySem.W.fnOf m19 q19 (defArgs (top 33)) (defBody (top 33)) (defScope (top 33)) .none kV19 dc19 pm19 an19 cd19 ct19), ol19⟩) (c19 : PySem.W.codeIn K cd19 q19 = true)
    {f20 : Addr} {oc20 : Value} {od20 : Option Addr} {ol20 : Array (Option Value)} {m20 q20 : PySem.Str} {kV20 dc20 pm20 cd20 ct20 : Value} {an20 : Option Addr} (a20 : PySem.W.nsIn K mainGlobals "_law_draw" = some (some (.ref f20))) (k20 : PySem.W.keepIn K (.ref f20) = true) (l20 : K.lookup f20 = some ⟨oc20, od20, .func (PySem.W.fnOf m20 q20 (defArgs (top 34)) (defBody (top 34)) (defScope (top 34)) .none kV20 dc20 pm20 an20 cd20 ct20), ol20⟩) (c20 : PySem.W.codeIn K cd20 q20 = true)
    {f21 : Addr} {oc21 : Value} {od21 : Option Addr} {ol21 : Array (Option Value)} {m21 q21 : PySem.Str} {kV21 dc21 pm21 cd21 ct21 : Value} {an21 : Option Addr} (a21 : PySem.W.nsIn K mainGlobals "_law_pick" = some (some (.ref f21))) (k21 : PySem.W.keepIn K (.ref f21) = true) (l21 : K.lookup f21 = some ⟨oc21, od21, .func (PySem.W.fnOf m21 q21 (defArgs (top 35)) (defBody (top 35)) (defScope (top 35)) .none kV21 dc21 pm21 an21 cd21 ct21), ol21⟩) (c21 : PySem.W.codeIn K cd21 q21 = true)
    {f22 : Addr} {oc22 : Value} {od22 : Option Addr} {ol22 : Array (Option Value)} {m22 q22 : PySem.Str} {kV22 dc22 pm22 cd22 ct22 : Value} {an22 : Option Addr} (a22 : PySem.W.nsIn K mainGlobals "_law_key" = some (some (.ref f22))) (k22 : PySem.W.keepIn K (.ref f22) = true) (l22 : K.lookup f22 = some ⟨oc22, od22, .func (PySem.W.fnOf m22 q22 (defArgs (top 36)) (defBody (top 36)) (defScope (top 36)) .none kV22 dc22 pm22 an22 cd22 ct22), ol22⟩) (c22 : PySem.W.codeIn K cd22 q22 = true)
    {f23 : Addr} {oc23 : Value} {od23 : Option Addr} {ol23 : Array (Option Value)} {m23 q23 : PySem.Str} {kV23 dc23 pm23 cd23 ct23 : Value} {an23 : Option Addr} (a23 : PySem.W.nsIn K mainGlobals "_law_row_key" = some (some (.ref f23))) (k23 : PySem.W.keepIn K (.ref f23) = true) (l23 : K.lookup f23 = some ⟨oc23, od23, .func (PySem.W.fnOf m23 q23 (defArgs (top 37)) (defBody (top 37)) (defScope (top 37)) .none kV23 dc23 pm23 an23 cd23 ct23), ol23⟩) (c23 : PySem.W.codeIn K cd23 q23 = true)
    {f24 : Addr} {oc24 : Value} {od24 : Option Addr} {ol24 : Array (Option Value)} {m24 q24 : PySem.Str} {kV24 dc24 pm24 cd24 ct24 : Value} {an24 : Option Addr} (a24 : PySem.W.nsIn K mainGlobals "_law_ordered" = some (some (.ref f24))) (k24 : PySem.W.keepIn K (.ref f24) = true) (l24 : K.lookup f24 = some ⟨oc24, od24, .func (PySem.W.fnOf m24 q24 (defArgs (top 38)) (defBody (top 38)) (defScope (top 38)) .none kV24 dc24 pm24 an24 cd24 ct24), ol24⟩) (c24 : PySem.W.codeIn K cd24 q24 = true)
    {f25 : Addr} {oc25 : Value} {od25 : Option Addr} {ol25 : Array (Option Value)} {m25 q25 : PySem.Str} {kV25 dc25 pm25 cd25 ct25 : Value} {an25 : Option Addr} (a25 : PySem.W.nsIn K mainGlobals "_law_facts_ordered" = some (some (.ref f25))) (k25 : PySem.W.keepIn K (.ref f25) = true) (l25 : K.lookup f25 = some ⟨oc25, od25, .func (PySem.W.fnOf m25 q25 (defArgs (top 39)) (defBody (top 39)) (defScope (top 39)) .none kV25 dc25 pm25 an25 cd25 ct25), ol25⟩) (c25 : PySem.W.codeIn K cd25 q25 = true)
    {f26 : Addr} {oc26 : Value} {od26 : Option Addr} {ol26 : Array (Option Value)} {m26 q26 : PySem.Str} {kV26 dc26 pm26 cd26 ct26 : Value} {an26 : Option Addr} (a26 : PySem.W.nsIn K mainGlobals "_law_worth" = some (some (.ref f26))) (k26 : PySem.W.keepIn K (.ref f26) = true) (l26 : K.lookup f26 = some ⟨oc26, od26, .func (PySem.W.fnOf m26 q26 (defArgs (top 40)) (defBody (top 40)) (defScope (top 40)) .none kV26 dc26 pm26 an26 cd26 ct26), ol26⟩) (c26 : PySem.W.codeIn K cd26 q26 = true)
    {f27 : Addr} {oc27 : Value} {od27 : Option Addr} {ol27 : Array (Option Value)} {m27 q27 : PySem.Str} {kV27 dc27 pm27 cd27 ct27 : Value} {an27 : Option Addr} (a27 : PySem.W.nsIn K mainGlobals "_law_any" = some (some (.ref f27))) (k27 : PySem.W.keepIn K (.ref f27) = true) (l27 : K.lookup f27 = some ⟨oc27, od27, .func (PySem.W.fnOf m27 q27 (defArgs (top 41)) (defBody (top 41)) (defScope (top 41)) .none kV27 dc27 pm27 an27 cd27 ct27), ol27⟩) (c27 : PySem.W.codeIn K cd27 q27 = true)
    {f28 : Addr} {oc28 : Value} {od28 : Option Addr} {ol28 : Array (Option Value)} {m28 q28 : PySem.Str} {kV28 dc28 pm28 cd28 ct28 : Value} {an28 : Option Addr} (a28 : PySem.W.nsIn K mainGlobals "_law_sum" = some (some (.ref f28))) (k28 : PySem.W.keepIn K (.ref f28) = true) (l28 : K.lookup f28 = some ⟨oc28, od28, .func (PySem.W.fnOf m28 q28 (defArgs (top 42)) (defBody (top 42)) (defScope (top 42)) .none kV28 dc28 pm28 an28 cd28 ct28), ol28⟩) (c28 : PySem.W.codeIn K cd28 q28 = true)
    {f29 : Addr} {oc29 : Value} {od29 : Option Addr} {ol29 : Array (Option Value)} {m29 q29 : PySem.Str} {kV29 dc29 pm29 cd29 ct29 : Value} {an29 : Option Addr} (a29 : PySem.W.nsIn K mainGlobals "law" = some (some (.ref f29))) (k29 : PySem.W.keepIn K (.ref f29) = true) (l29 : K.lookup f29 = some ⟨oc29, od29, .func (PySem.W.fnOf m29 q29 (defArgs (top 43)) (defBody (top 43)) (defScope (top 43)) .none kV29 dc29 pm29 an29 cd29 ct29), ol29⟩) (c29 : PySem.W.codeIn K cd29 q29 = true) (z0 : PySem.W.nsIn K mainGlobals "len" = some none) (z1 : PySem.W.nsIn K mainGlobals "abs" = some none) (z2 : PySem.W.nsIn K mainGlobals "int" = some none) (z3 : PySem.W.nsIn K mainGlobals "bool" = some none) (z4 : PySem.W.nsIn K mainGlobals "str" = some none) (z5 : PySem.W.nsIn K mainGlobals "tuple" = some none) (z6 : PySem.W.nsIn K mainGlobals "list" = some none) (z7 : PySem.W.nsIn K mainGlobals "dict" = some none) (z8 : PySem.W.nsIn K mainGlobals "all" = some none) (z9 : PySem.W.nsIn K mainGlobals "any" = some none) (z10 : PySem.W.nsIn K mainGlobals "sum" = some none) (z11 : PySem.W.nsIn K mainGlobals "max" = some none) (z12 : PySem.W.nsIn K mainGlobals "min" = some none) (z13 : PySem.W.nsIn K mainGlobals "sorted" = some none) (z14 : PySem.W.nsIn K mainGlobals "isinstance" = some none) (z15 : PySem.W.nsIn K mainGlobals "range" = some none) {gt0 : Tok} (g0 : PySem.W.nsIn K mainGlobals "SMALL" = some (some (.str (PySem.Str.ofString "abcdefghijklmnopqrstuvwxyz") gt0))) {gt1 : Tok} (g1 : PySem.W.nsIn K mainGlobals "GREAT" = some (some (.str (PySem.Str.ofString "ABCDEFGHIJKLMNOPQRSTUVWXYZ") gt1))) {gt4 : Tok} (g4 : PySem.W.nsIn K mainGlobals "WIDE_MOST" = some (some (.int 8 gt4))) {ga5 : Addr} {go5 : Option Addr} {gi5 : Array Value} {gn5 : Nat} {gs5 : Array (Option Value)} (g5 : PySem.W.nsIn K mainGlobals "WORDS" = some (some (.ref ga5))) (gl5 : K.lookup ga5 = some ⟨.type "tuple", go5, .seq gi5 gn5, gs5⟩) (gr5 : readVs gi5.toList = some  [(.str (PySem.Str.ofString "not")), (.str (PySem.Str.ofString "count")), (.str (PySem.Str.ofString "sum")), (.str (PySem.Str.ofString "least")), (.str (PySem.Str.ofString "greatest"))]) (gz5 : gi5.size ≤ sizeLine) {ga6 : Addr} {go6 : Option Addr} {gi6 : Array Value} {gn6 : Nat} {gs6 : Array (Option Value)} (g6 : PySem.W.nsIn K mainGlobals "GROUPS" = some (some (.ref ga6))) (gl6 : K.lookup ga6 = some ⟨.type "tuple", go6, .seq gi6 gn6, gs6⟩) (gr6 : readVs gi6.toList = some  [(.str (PySem.Str.ofString "count")), (.str (PySem.Str.ofString "sum")), (.str (PySem.Str.ofString "least")), (.str (PySem.Str.ofString "greatest"))]) (gz6 : gi6.size ≤ sizeLine) {ga7 : Addr} {go7 : Option Addr} {gi7 : Array Value} {gn7 : Nat} {gs7 : Array (Option Value)} (g7 : PySem.W.nsIn K mainGlobals "TESTS" = some (some (.ref ga7))) (gl7 : K.lookup ga7 = some ⟨.type "tuple", go7, .seq gi7 gn7, gs7⟩) (gr7 : readVs gi7.toList = some  [(.str (PySem.Str.ofString "<")), (.str (PySem.Str.ofString "<=")), (.str (PySem.Str.ofString "=")), (.str (PySem.Str.ofString "!="))]) (gz7 : gi7.size ≤ sizeLine) {ga8 : Addr} {go8 : Option Addr} {gi8 : Array Value} {gn8 : Nat} {gs8 : Array (Option Value)} (g8 : PySem.W.nsIn K mainGlobals "SUMS" = some (some (.ref ga8))) (gl8 : K.lookup ga8 = some ⟨.type "tuple", go8, .seq gi8 gn8, gs8⟩) (gr8 : readVs gi8.toList = some  [(.str (PySem.Str.ofString "plus")), (.str (PySem.Str.ofString "minus")), (.str (PySem.Str.ofString "times"))]) (gz8 : gi8.size ≤ sizeLine) {gt9 : Tok} (g9 : PySem.W.nsIn K mainGlobals "BODY_MOST" = some (some (.int 12 gt9))) {gt10 : Tok} (g10 : PySem.W.nsIn K mainGlobals "DEEP_MOST" = some (some (.int 12 gt10))) : ModOk K mg fns gls nb FT GL ⟨K, fun _ => none, fun _ => none⟩ := by
  have D := Defs.cons (mkDef (K := K) (fns := fns) (gls := gls) (nb := nb) (FT := FT) (g := 0) (N := n0) X G (S := s0) (t := t0) (hF := rfl) ar0 a0 k0 l0 c0) (Defs.cons (mkDef (K := K) (fns := fns) (gls := gls) (nb := nb) (FT := FT) (g := 1) (N := n1) X G (S := s1) (t := t1) (hF := rfl) ar1 a1 k1 l1 c1) (Defs.cons (mkDef (K := K) (fns := fns) (gls := gls) (nb := nb) (FT := FT) (g := 2) (N := n2) X G (S := s2) (t := t2) (hF := rfl) ar2 a2 k2 l2 c2) (Defs.cons (mkDef (K := K) (fns := fns) (gls := gls) (nb := nb) (FT := FT) (g := 3) (N := n3) X G (S := s3) (t := t3) (hF := rfl) ar3 a3 k3 l3 c3) (Defs.cons (mkDef (K := K) (fns := fns) (gls := gls) (nb := nb) (FT := FT) (g := 4) (N := n4) X G (S := s4) (t := t4) (hF := rfl) ar4 a4 k4 l4 c4) (Defs.cons (mkDef (K := K) (fns := fns) (gls := gls) (nb := nb) (FT := FT) (g := 5) (N := n5) X G (S := s5) (t := t5) (hF := rfl) ar5 a5 k5 l5 c5) (Defs.cons (mkDef (K := K) (fns := fns) (gls := gls) (nb := nb) (FT := FT) (g := 6) (N := n6) X G (S := s6) (t := t6) (hF := rfl) ar6 a6 k6 l6 c6) (Defs.cons (mkDef (K := K) (fns := fns) (gls := gls) (nb := nb) (FT := FT) (g := 7) (N := n7) X G (S := s7) (t := t7) (hF := rfl) ar7 a7 k7 l7 c7) (Defs.cons (mkDef (K := K) (fns := fns) (gls := gls) (nb := nb) (FT := FT) (g := 8) (N := n8) X G (S := s8) (t := t8) (hF := rfl) ar8 a8 k8 l8 c8) (Defs.cons (mkDef (K := K) (fns := fns) (gls := gls) (nb := nb) (FT := FT) (g := 9) (N := n9) X G (S := s9) (t := t9) (hF := rfl) ar9 a9 k9 l9 c9) (Defs.cons (mkDef (K := K) (fns := fns) (gls := gls) (nb := nb) (FT := FT) (g := 10) (N := n10) X G (S := s10) (t := t10) (hF := rfl) ar10 a10 k10 l10 c10) (Defs.cons (mkDef (K := K) (fns := fns) (gls := gls) (nb := nb) (FT := FT) (g := 11) (N := n11) X G (S := s11) (t := t11) (hF := rfl) ar11 a11 k11 l11 c11) (Defs.cons (mkDef (K := K) (fns := fns) (gls := gls) (nb := nb) (FT := FT) (g := 12) (N := n12) X G (S := s12) (t := t12) (hF := rfl) ar12 a12 k12 l12 c12) (Defs.cons (mkDef (K := K) (fns := fns) (gls := gls) (nb := nb) (FT := FT) (g := 13) (N := n13) X G (S := s13) (t := t13) (hF := rfl) ar13 a13 k13 l13 c13) (Defs.cons (mkDef (K := K) (fns := fns) (gls := gls) (nb := nb) (FT := FT) (g := 14) (N := n14) X G (S := s14) (t := t14) (hF := rfl) ar14 a14 k14 l14 c14) (Defs.cons (mkDef (K := K) (fns := fns) (gls := gls) (nb := nb) (FT := FT) (g := 15) (N := n15) X G (S := s15) (t := t15) (hF := rfl) ar15 a15 k15 l15 c15) (Defs.cons (mkDef (K := K) (fns := fns) (gls := gls) (nb := nb) (FT := FT) (g := 16) (N := n16) X G (S := s16) (t := t16) (hF := rfl) ar16 a16 k16 l16 c16) (Defs.cons (mkDef (K := K) (fns := fns) (gls := gls) (nb := nb) (FT := FT) (g := 17) (N := n17) X G (S := s17) (t := t17) (hF := rfl) ar17 a17 k17 l17 c17) (Defs.cons (mkDef (K := K) (fns := fns) (gls := gls) (nb := nb) (FT := FT) (g := 18) (N := n18) X G (S := s18) (t := t18) (hF := rfl) ar18 a18 k18 l18 c18) (Defs.cons (mkDef (K := K) (fns := fns) (gls := gls) (nb := nb) (FT := FT) (g := 19) (N := n19) X G (S := s19) (t := t19) (hF := rfl) ar19 a19 k19 l19 c19) (Defs.cons (mkDef (K := K) (fns := fns) (gls := gls) (nb := nb) (FT := FT) (g := 20) (N := n20) X G (S := s20) (t := t20) (hF := rfl) ar20 a20 k20 l20 c20) (Defs.cons (mkDef (K := K) (fns := fns) (gls := gls) (nb := nb) (FT := FT) (g := 21) (N := n21) X G (S := s21) (t := t21) (hF := rfl) ar21 a21 k21 l21 c21) (Defs.cons (mkDef (K := K) (fns := fns) (gls := gls) (nb := nb) (FT := FT) (g := 22) (N := n22) X G (S := s22) (t := t22) (hF := rfl) ar22 a22 k22 l22 c22) (Defs.cons (mkDef (K := K) (fns := fns) (gls := gls) (nb := nb) (FT := FT) (g := 23) (N := n23) X G (S := s23) (t := t23) (hF := rfl) ar23 a23 k23 l23 c23) (Defs.cons (mkDef (K := K) (fns := fns) (gls := gls) (nb := nb) (FT := FT) (g := 24) (N := n24) X G (S := s24) (t := t24) (hF := rfl) ar24 a24 k24 l24 c24) (Defs.cons (mkDef (K := K) (fns := fns) (gls := gls) (nb := nb) (FT := FT) (g := 25) (N := n25) X G (S := s25) (t := t25) (hF := rfl) ar25 a25 k25 l25 c25) (Defs.cons (mkDef (K := K) (fns := fns) (gls := gls) (nb := nb) (FT := FT) (g := 26) (N := n26) X G (S := s26) (t := t26) (hF := rfl) ar26 a26 k26 l26 c26) (Defs.cons (mkDef (K := K) (fns := fns) (gls := gls) (nb := nb) (FT := FT) (g := 27) (N := n27) X G (S := s27) (t := t27) (hF := rfl) ar27 a27 k27 l27 c27) (Defs.cons (mkDef (K := K) (fns := fns) (gls := gls) (nb := nb) (FT := FT) (g := 28) (N := n28) X G (S := s28) (t := t28) (hF := rfl) ar28 a28 k28 l28 c28) (Defs.cons (mkDef (K := K) (fns := fns) (gls := gls) (nb := nb) (FT := FT) (g := 29) (N := n29) X G (S := s29) (t := t29) (hF := rfl) ar29 a29 k29 l29 c29) (Defs.nil))))))))))))))))))))))))))))))
  have E : Gls mg GL ⟨K, fun _ => none, fun _ => none⟩ 0 ["SMALL", "GREAT", "MORE", "NUMBER_MOST", "WIDE_MOST", "WORDS", "GROUPS", "TESTS", "SUMS", "BODY_MOST", "DEEP_MOST"] := Gls.cons (glStr rfl (PySem.W.mg_of X G g0)) (Gls.cons (glStr rfl (PySem.W.mg_of X G g1)) (Gls.cons (glLooseStr L (.head _) rfl) (Gls.cons (glLooseInt L (.tail _ (.head _)) rfl) (Gls.cons (glInt rfl (PySem.W.mg_of X G g4)) (Gls.cons (glTup rfl rfl (PySem.W.mg_of X G g5) gl5 gr5 gz5) (Gls.cons (glTup rfl rfl (PySem.W.mg_of X G g6) gl6 gr6 gz6) (Gls.cons (glTup rfl rfl (PySem.W.mg_of X G g7) gl7 gr7 gz7) (Gls.cons (glTup rfl rfl (PySem.W.mg_of X G g8) gl8 gr8 gz8) (Gls.cons (glInt rfl (PySem.W.mg_of X G g9)) (Gls.cons (glInt rfl (PySem.W.mg_of X G g10)) (Gls.nil)))))))))))
  refine ⟨rfl, fun x hx => ?_, fun i x hi => ?_, fun x g hg => ?_⟩
  · simp only [nb, List.mem_cons, List.not_mem_nil, or_false] at hx
    rcases hx with rfl | rfl | rfl | rfl | rfl | rfl | rfl | rfl | rfl | rfl | rfl | rfl | rfl | rfl | rfl | rfl
    · exact PySem.W.mg_none_of X G z0
    · exact PySem.W.mg_none_of X G z1
    · exact PySem.W.mg_none_of X G z2
    · exact PySem.W.mg_none_of X G z3
    · exact PySem.W.mg_none_of X G z4
    · exact PySem.W.mg_none_of X G z5
    · exact PySem.W.mg_none_of X G z6
    · exact PySem.W.mg_none_of X G z7
    · exact PySem.W.mg_none_of X G z8
    · exact PySem.W.mg_none_of X G z9
    · exact PySem.W.mg_none_of X G z10
    · exact PySem.W.mg_none_of X G z11
    · exact PySem.W.mg_none_of X G z12
    · exact PySem.W.mg_none_of X G z13
    · exact PySem.W.mg_none_of X G z14
    · exact PySem.W.mg_none_of X G z15
  · have q := Gls.at (i := 0) (r := gls) E i x hi
    rw [Nat.zero_add] at q
    exact q
  · have q := Defs.at (i := 0) (r := fns) D x g hg
    rw [Nat.zero_add] at q
    exact q
end K00

set_option Elab.async false
set_option linter.all false
set_option maxRecDepth 100000
set_option maxHeartbeats 4000000
namespace K00
open MP
/-! ### generalities -/
theorem gc_same (d : D) (st : Sto) : gc st (.ok d st) = .ok d st := by simp [gc]
theorem retOf_ret (d : D) (ρ : MP.Env) (st : Sto) : retOf (.ok (.ret d, ρ) st) = .ok d st := rfl
theorem ev_con (C : Ctx) (d : D) (ρ : MP.Env) (st : Sto) : evE C (.con d) ρ st = .ok d st := by simp only [evE]
/-- a comprehension whose turns leave the store alone -/
theorem lcL_pure {f : D → Sto → R (Option D)} {same : Sto → Bool} {g : D → Option D} {st : Sto} (hs : same st = true) : ∀ (xs acc : List D), (∀ x ∈ xs, f x st = .ok (g x) st) → acc.length + xs.length ≤ LINE → lcL f same xs acc st = .ok (acc ++ xs.filterMap g) st
  | [], acc, _, _ => by simp [lcL, hs]
  | x :: xs, acc, hf, hl => by
    have h1 := hf x (by simp)
    simp only [List.length_cons] at hl
    simp only [lcL, hs, if_true, h1]
    cases hg : g x with
    | none =>
      simp only []
      rw [lcL_pure hs xs acc (fun y hy => hf y (by simp [hy])) (by omega)]
      simp [hg]
    | some y =>
      simp only []
      rw [if_pos (by omega), lcL_pure hs xs (acc ++ [y]) (fun y hy => hf y (by simp [hy])) (by simp; omega)]
      simp [hg]
/-- data, or a list of the store -/
def plain (st : Sto) : D → Bool
  | .ref n => (match st[n]? with | some (.lst _) => true | _ => false)
  | .fn _ | .kls _ | .lam _ _ => false
  | _ => true
def isW : D → Bool
  | .int _ => true
  | _ => false
theorem r_is_whole (k : Nat) (d : D) (st : Sto) (h : plain st d = true) : run FT GL (k + 1) 0 [d] st = .ok (.bl (isW d)) st := by
  have hF : FT 0 = some ⟨1, n0.length, b0⟩ := rfl
  cases d with
  | ref n =>
    simp only [plain] at h
    split at h
    · rename_i ds e
      simp [run, hF, b0, n0, evSs, evS, evE, isiD, cmpR, truth, retOf, gc, isW, e]
    · cases h
  | fn _ => simp [plain] at h
  | kls _ => simp [plain] at h
  | lam _ _ => simp [plain] at h
  | _ => simp [run, hF, b0, n0, evSs, evS, evE, isiD, cmpR, truth, retOf, gc, isW]
/-! ### names -/
def SMALL : PySem.Str := PySem.Str.ofString "abcdefghijklmnopqrstuvwxyz"
def GREAT : PySem.Str := PySem.Str.ofString "ABCDEFGHIJKLMNOPQRSTUVWXYZ"
def MORE : PySem.Str := PySem.Str.ofString "abcdefghijklmnopqrstuvwxyzABCDEFGHIJKLMNOPQRSTUVWXYZ0123456789_"
def WORDS : List D := [.str (PySem.Str.ofString "not"), .str (PySem.Str.ofString "count"), .str (PySem.Str.ofString "sum"), .str (PySem.Str.ofString "least"), .str (PySem.Str.ofString "greatest")]
def chIn (c : Nat) (y : PySem.Str) : Bool := decide (c ∈ y.cps.toList)
def inW (ws : List D) (s : PySem.Str) : Bool := ws.any fun d => PySem.PyData.eqv d.py (.str s)
def nameOk (s : PySem.Str) : Bool := decide (1 ≤ s.length) && decide (s.length ≤ 24) && chIn (s.cps.getD 0 0) SMALL && !inW WORDS s && s.cps.toList.all fun c => chIn c MORE
def letterOk (s : PySem.Str) : Bool := decide (1 ≤ s.length) && decide (s.length ≤ 24) && chIn (s.cps.getD 0 0) GREAT && s.cps.toList.all fun c => chIn c MORE
def isName : D → Bool
  | .str s => nameOk s
  | _ => false
def isLetter : D → Bool
  | .str s => letterOk s
  | _ => false
theorem in_char (c : Nat) (y : PySem.Str) (st : Sto) : inD (.str ⟨#[c]⟩) (.str y) st = some (chIn c y) := by
  simp [inD, inStr, PySem.Str.length, chIn]
theorem atI_zero {α : Type} {x : α} {r : List α} : L2.atI (x :: r) 0 = some x := by
  simp [L2.atI, L2.ixN]
/-- the signs of a text, each in another one -/
theorem all_signs (k : Nat) (s : PySem.Str) (st : Sto) (ρ : MP.Env) (h1 : s.length ≤ 24) (h0 : ρ = [some (.str s), none, none]) : evE ⟨run FT GL k, GL⟩ (.fold .all (.lc (.op2 .in_ (.var 2) (.glob 2)) [1, 2] (.name 2) (.ofP (.var 0)))) ρ st = .ok (.bl (s.cps.toList.all fun c => chIn c MORE)) st := by
  subst h0
  have hl : s.length ≤ LINE := by unfold LINE; omega
  have hG : GL 2 = some (.str MORE) := rfl
  simp only [evE, evQ, evLk, lockD, evIt, List.getElem?_cons_zero, R.bind_ok, srcOf, if_pos hl, R.opt_some, held]
  rw [lcL_pure (g := fun x => match x with | .str z => some (.bl (chIn (z.cps.getD 0 0) MORE)) | _ => none) rfl]
  · simp only [R.bind_ok, foldD, List.nil_append, List.filterMap_map]
    have e : ∀ l : List Nat, boolsOf (List.filterMap ((fun x => match x with | .str z => some (D.bl (chIn (z.cps.getD 0 0) MORE)) | _ => none) ∘ fun c => D.str ⟨#[c]⟩) l) = some (l.map fun c => chIn c MORE) := by
      intro l
      induction l with
      | nil => rfl
      | cons c r ih =>
        rw [List.filterMap_cons]
        show (boolsOf (List.filterMap _ r)).map (fun bs => chIn c MORE :: bs) = _
        rw [ih]
        rfl
    rw [e]
    simp [List.all_map]
  · intro x hx
    obtain ⟨c, hc, rfl⟩ := List.mem_map.mp hx
    simp [asgT, wipeE, evE, hG, p2, in_char, cmpR]
  · have := h1
    simp [PySem.Str.length] at this ⊢
    unfold LINE; omega
def sOk (d : D) : Prop := ∀ s, d = .str s → s.length ≤ LINE ∧ D.okD (.str s) = true
theorem first_char {s : PySem.Str} (c1 : 1 ≤ s.length) : ∃ c r, s.cps.toList = c :: r ∧ s.cps.getD 0 0 = c := by
  cases e : s.cps.toList with
  | nil => simp [PySem.Str.length] at c1; simp at e; simp [e] at c1
  | cons c r =>
    refine ⟨c, r, rfl, ?_⟩
    have : s.cps.toList[0]? = some c := by rw [e]; rfl
    simp at this
    simp [this]
/-- the test of the length -/
theorem len_chain (k : Nat) (s : PySem.Str) (st : Sto) (ρ : MP.Env) (hl : s.length ≤ LINE) (hρ : ρ[0]? = some (some (.str s))) : evE ⟨run FT GL k, GL⟩ (.chain .le .le (.con (.int 1)) (.op1 .len (.var 0)) (.con (.int 24))) ρ st = .ok (.bl (decide (1 ≤ s.length) && decide (s.length ≤ 24))) st := by
  have o1 : ∀ i j : Int, rcD .le (.int i) (.int j) = some (decide (i ≤ j)) := fun i j => by simp [rcD, D.okD, D.flat, D.py, PySem.PyData.canLay0, D.dep, D.like, D.rc, D.rcI]
  simp only [evE, hρ, R.bind_ok, p1, lenD, if_pos hl, Option.map_some, R.opt_some, p2, o1, cmpR]
  by_cases c1 : 1 ≤ s.length
  · have : (1 : Int) ≤ (s.length : Int) := by omega
    have e2 : decide ((s.length : Int) ≤ 24) = decide (s.length ≤ 24) := decide_eq_decide.mpr (by omega)
    simp [this, c1, o1, cmpR, e2]
  · have : ¬ (1 : Int) ≤ (s.length : Int) := by omega
    simp [this, c1]
theorem r_is_name (k : Nat) (d : D) (st : Sto) (h : plain st d = true) (hl : sOk d) : run FT GL (k + 1) 1 [d] st = .ok (.bl (isName d)) st := by
  have hF : FT 1 = some ⟨1, n1.length, b1⟩ := rfl
  cases d with
  | ref n =>
    simp only [plain] at h
    split at h
    · rename_i ds e
      simp [run, hF, b1, n1, evSs, evS, evE, evC, isiD, cmpR, truth, retOf, gc, isName, e]
    · cases h
  | fn _ => simp [plain] at h
  | kls _ => simp [plain] at h
  | lam _ _ => simp [plain] at h
  | str s =>
    obtain ⟨hl, hoks⟩ := hl s rfl
    have key0 := len_chain k s st [some (.str s), none, none] hl rfl
    have hG0 : GL 0 = some (.str SMALL) := rfl
    have hG5 : GL 5 = some (.tup WORDS) := rfl
    have hok : D.okL WORDS = true := by decide +kernel
    have un : run FT GL (k + 1) 1 [.str s] st = gc st (retOf (evSs ⟨run FT GL k, GL⟩ b1 [some (.str s), none, none] st)) := by simp [run, hF, n1]
    have isi : evE ⟨run FT GL k, GL⟩ (.isi (.var 0) .str) [some (.str s), none, none] st = .ok (.bl true) st := by simp [evE, isiD, cmpR]
    rw [un]
    simp only [b1, evSs, evS, evC, isi, key0, R.bind_ok, truth, R.opt_some, Bool.not_true, Bool.false_eq_true, if_false]
    simp only [isName, nameOk]
    by_cases c1 : 1 ≤ s.length
    · by_cases c2 : s.length ≤ 24
      · obtain ⟨c, r, hc, h0⟩ := first_char c1
        have key : evE ⟨run FT GL k, GL⟩ (.op2 .notin (.op2 .idx (.var 0) (.con (.int 0))) (.glob 0)) [some (.str s), none, none] st = .ok (.bl (!chIn c SMALL)) st := by
          simp [evE, p2, idxD, hl, hc, atI_zero, hG0, in_char, cmpR]
        have key2 : evE ⟨run FT GL k, GL⟩ (.op2 .in_ (.var 0) (.glob 5)) [some (.str s), none, none] st = .ok (.bl (inW WORDS s)) st := by
          simp [evE, p2, hG5, inD, hok, hoks, cmpR, inW, D.py]
        have key3 := all_signs k s st _ c2 rfl
        have hle : (decide (1 ≤ s.length) && decide (s.length ≤ 24)) = true := by simp [c1, c2]
        rw [hle, h0]
        simp only [Bool.not_true, Bool.false_eq_true, if_false, key, R.bind_ok, truth, R.opt_some, key2, Bool.true_and]
        cases chIn c SMALL <;> cases inW WORDS s <;> simp [key3, ev_con, retOf, gc]
      · have hle : (decide (1 ≤ s.length) && decide (s.length ≤ 24)) = false := by simp [c2]
        simp [hle, evE, retOf, gc]
    · have hle : (decide (1 ≤ s.length) && decide (s.length ≤ 24)) = false := by simp [c1]
      simp [hle, evE, retOf, gc]
  | _ => simp [run, hF, b1, n1, evSs, evS, evE, evC, isiD, cmpR, truth, retOf, gc, isName]
theorem r_is_letter (k : Nat) (d : D) (st : Sto) (h : plain st d = true) (hl : sOk d) : run FT GL (k + 1) 2 [d] st = .ok (.bl (isLetter d)) st := by
  have hF : FT 2 = some ⟨1, n2.length, b2⟩ := rfl
  cases d with
  | ref n =>
    simp only [plain] at h
    split at h
    · rename_i ds e
      simp [run, hF, b2, n2, evSs, evS, evE, evC, isiD, cmpR, truth, retOf, gc, isLetter, e]
    · cases h
  | fn _ => simp [plain] at h
  | kls _ => simp [plain] at h
  | lam _ _ => simp [plain] at h
  | str s =>
    obtain ⟨hl, hoks⟩ := hl s rfl
    have key0 := len_chain k s st [some (.str s), none, none] hl rfl
    have hG0 : GL 1 = some (.str GREAT) := rfl
    have un : run FT GL (k + 1) 2 [.str s] st = gc st (retOf (evSs ⟨run FT GL k, GL⟩ b2 [some (.str s), none, none] st)) := by simp [run, hF, n2]
    have isi : evE ⟨run FT GL k, GL⟩ (.isi (.var 0) .str) [some (.str s), none, none] st = .ok (.bl true) st := by simp [evE, isiD, cmpR]
    rw [un]
    simp only [b2, evSs, evS, evC, isi, key0, R.bind_ok, truth, R.opt_some, Bool.not_true, Bool.false_eq_true, if_false]
    simp only [isLetter, letterOk]
    by_cases c1 : 1 ≤ s.length
    · by_cases c2 : s.length ≤ 24
      · obtain ⟨c, r, hc, h0⟩ := first_char c1
        have key : evE ⟨run FT GL k, GL⟩ (.op2 .notin (.op2 .idx (.var 0) (.con (.int 0))) (.glob 1)) [some (.str s), none, none] st = .ok (.bl (!chIn c GREAT)) st := by
          simp [evE, p2, idxD, hl, hc, atI_zero, hG0, in_char, cmpR]
        have key3 := all_signs k s st _ c2 rfl
        have hle : (decide (1 ≤ s.length) && decide (s.length ≤ 24)) = true := by simp [c1, c2]
        rw [hle, h0]
        simp only [Bool.not_true, Bool.false_eq_true, if_false, key, R.bind_ok, truth, R.opt_some, Bool.true_and]
        cases chIn c GREAT <;> simp [key3, ev_con, retOf, gc]
      · have hle : (decide (1 ≤ s.length) && decide (s.length ≤ 24)) = false := by simp [c2]
        simp [hle, evE, retOf, gc]
    · have hle : (decide (1 ≤ s.length) && decide (s.length ≤ 24)) = false := by simp [c1]
      simp [hle, evE, retOf, gc]
  | _ => simp [run, hF, b2, n2, evSs, evS, evE, evC, isiD, cmpR, truth, retOf, gc, isLetter]
/-! ### values -/
def isValue : D → Bool
  | .int i => decide (-1000000000000 ≤ i) && decide (i ≤ 1000000000000)
  | d => isName d
theorem rc_int (c : D.Cp) (i j : Int) : rcD c (.int i) (.int j) = some (D.rcI c i j) := by simp [rcD, D.okD, D.flat, D.py, PySem.PyData.canLay0, D.dep, D.like, D.rc]
theorem r_is_value (k : Nat) (d : D) (st : Sto) (h : plain st d = true) (hl : sOk d) : run FT GL (k + 2) 3 [d] st = .ok (.bl (isValue d)) st := by
  have hF : FT 3 = some ⟨1, n3.length, b3⟩ := rfl
  have hG : GL 3 = some (.int 1000000000000) := rfl
  have w := r_is_whole k d st h
  have nm := r_is_name k d st h hl
  have un : run FT GL (k + 2) 3 [d] st = gc st (retOf (evSs ⟨run FT GL (k + 1), GL⟩ b3 [some d] st)) := by simp [run, hF, n3]
  rw [un]
  simp only [b3, evSs, evS, evC, evE, evEs, List.getElem?_cons_zero, R.bind_ok, w, truth, R.opt_some]
  cases d with
  | int i =>
    simp only [isW, if_true, R.bind_ok, hG, R.opt_some, p1, p2, rc_int, D.rcI, cmpR]
    by_cases c : -1000000000000 ≤ i
    · simp [c, isValue, retOf, gc, rc_int, D.rcI, cmpR]
    · simp [c, isValue, retOf, gc]
  | _ => simp [isW, nm, retOf, gc, isValue]
end K00

set_option Elab.async false
set_option linter.all false
set_option maxRecDepth 100000
set_option maxHeartbeats 4000000
namespace K00
open MP
/-! ### comprehensions whose turns leave the store alone -/
section
variable {C : Ctx} {ρ : MP.Env} {st : Sto} {elt : E} {own : List Nat} {t : Tg} {src : It} {s : Src} {c : Cd}
theorem lc_gen {g : D → D} (hk : evLk C src ρ st = none) (hi : evIt C src ρ st = .ok s st) (hs : s.same st = true) (h : ∀ x ∈ s.items, ∃ ρ', asgT t x (wipeE ρ own) st = some ρ' ∧ evE C elt ρ' st = .ok (g x) st) (hl : s.items.length ≤ LINE) :
    evQ C (.lc elt own t src) ρ st = .ok (s.items.map g) st := by
  simp only [evQ, hk, held, hi, R.bind_ok]
  rw [lcL_pure (g := fun x => some (g x)) hs]
  · simp [List.filterMap_eq_map']
  · intro x hx
    obtain ⟨ρ', h1, h2⟩ := h x hx
    simp [h1, h2]
  · simpa using hl
theorem lci_gen {g : D → D} {p : D → Bool} (hk : evLk C src ρ st = none) (hi : evIt C src ρ st = .ok s st) (hs : s.same st = true) (h : ∀ x ∈ s.items, ∃ ρ', asgT t x (wipeE ρ own) st = some ρ' ∧ evC C c ρ' st = .ok (p x) st ∧ evE C elt ρ' st = .ok (g x) st) (hl : s.items.length ≤ LINE) :
    evQ C (.lci elt own t src c) ρ st = .ok ((s.items.filter p).map g) st := by
  simp only [evQ, hk, held, hi, R.bind_ok]
  rw [lcL_pure (g := fun x => if p x = true then some (g x) else none) hs]
  · have e : ∀ l : List D, List.filterMap (fun x => if p x = true then some (g x) else none) l = (l.filter p).map g := by
      intro l
      induction l with
      | nil => rfl
      | cons x l ih =>
        rw [List.filterMap_cons]
        by_cases hp : p x = true
        · simp [hp, ih]
        · simp [hp, ih]
    simp [e]
  · intro x hx
    obtain ⟨ρ', h1, h2, h3⟩ := h x hx
    simp only [h1, h2, R.bind_ok]
    by_cases hp : p x = true
    · simp [hp, h3]
    · simp [hp]
  · simpa using hl
theorem bools_map (f : D → Bool) : ∀ l : List D, boolsOf (l.map fun x => .bl (f x)) = some (l.map f)
  | [] => rfl
  | x :: r => by simp [boolsOf, bools_map f r]
theorem all_gen {p : D → Bool} (hk : evLk C src ρ st = none) (hi : evIt C src ρ st = .ok s st) (hs : s.same st = true) (h : ∀ x ∈ s.items, ∃ ρ', asgT t x (wipeE ρ own) st = some ρ' ∧ evE C elt ρ' st = .ok (.bl (p x)) st) (hl : s.items.length ≤ LINE) :
    evE C (.fold .all (.lc elt own t src)) ρ st = .ok (.bl (s.items.all p)) st := by
  simp only [evE, lc_gen (g := fun x => .bl (p x)) hk hi hs h hl, R.bind_ok, foldD, bools_map]
  simp [List.all_map]
theorem tup_gen {g : D → D} (hk : evLk C src ρ st = none) (hi : evIt C src ρ st = .ok s st) (hs : s.same st = true) (h : ∀ x ∈ s.items, ∃ ρ', asgT t x (wipeE ρ own) st = some ρ' ∧ evE C elt ρ' st = .ok (g x) st) (hl : s.items.length ≤ LINE) :
    evE C (.fold .tuple (.lc elt own t src)) ρ st = .ok (.tup (s.items.map g)) st := by
  simp only [evE, lc_gen hk hi hs h hl, R.bind_ok, foldD]
end
/-! ### what is data, deep down -/
mutual
def wf (st : Sto) : D → Bool
  | .str s => decide (s.length ≤ LINE) && D.okD (.str s)
  | .tup ds => decide (ds.length ≤ LINE) && wfL st ds
  | .ref n => (match st[n]? with | some (.lst _) => true | _ => false)
  | .non => true
  | .bl _ => true
  | .int _ => true
  | .cl _ | .fn _ | .kls _ | .lam _ _ => false
def wfL (st : Sto) : List D → Bool
  | [] => true
  | d :: ds => wf st d && wfL st ds
end
theorem wf_plain {st : Sto} {d : D} (h : wf st d = true) : plain st d = true := by
  cases d <;> simp [wf, plain] at h ⊢
  exact h
theorem wf_sOk {st : Sto} {d : D} (h : wf st d = true) : sOk d := by
  rintro s rfl
  simpa [wf] using h
theorem wfL_mem {st : Sto} : ∀ {ds : List D}, wfL st ds = true → ∀ d ∈ ds, wf st d = true
  | x :: xs, h, d, hd => by
    simp only [wfL, Bool.and_eq_true] at h
    rcases List.mem_cons.mp hd with rfl | hd
    · exact h.1
    · exact wfL_mem h.2 d hd
theorem wf_tup {st : Sto} {ds : List D} (h : wf st (.tup ds) = true) : ds.length ≤ LINE ∧ ∀ d ∈ ds, wf st d = true := by
  simp only [wf, Bool.and_eq_true, decide_eq_true_eq] at h
  exact ⟨h.1, wfL_mem h.2⟩
/-- a predicate of the program's that takes one thing -/
theorem un1 {k g n : Nat} {b : Ss} {d : D} {st : Sto} (hF : FT g = some ⟨1, n + 1, b⟩) : run FT GL (k + 1) g [d] st = gc st (retOf (evSs ⟨run FT GL k, GL⟩ b (some d :: List.replicate n none) st)) := by
  simp [run, hF]
theorem idx0 {x : D} {r : List D} {st : Sto} : idxD (.tup (x :: r)) (.int 0) st = some x := by simp [idxD, L2.atI, L2.ixN]
theorem idx1 {x y : D} {r : List D} {st : Sto} : idxD (.tup (x :: y :: r)) (.int 1) st = some y := by
  simp only [idxD, L2.atI, L2.ixN]
  simp
  rw [if_pos (by omega)]
  rfl
theorem idx2 {x y z : D} {r : List D} {st : Sto} : idxD (.tup (x :: y :: z :: r)) (.int 2) st = some z := by
  simp only [idxD, L2.atI, L2.ixN]
  simp
  rw [if_pos (by omega)]
  rfl
theorem idx3 {x y z w : D} {r : List D} {st : Sto} : idxD (.tup (x :: y :: z :: w :: r)) (.int 3) st = some w := by
  simp only [idxD, L2.atI, L2.ixN]
  simp
  rw [if_pos (by omega)]
  rfl
theorem eq_int {i j : Int} {st : Sto} : eqD (.int i) (.int j) st = some (decide (i = j)) := by
  simp [eqD, MP.exp, D.okD, D.flat, D.py, PySem.PyData.canLay0, D.dep, PySem.PyData.eqv]
  exact Bool.beq_eq_decide_eq i j
theorem ev_and {C : Ctx} {a b : E} {ρ : MP.Env} {st st' : Sto} {p : Bool} (h : evE C a ρ st = .ok (.bl p) st') : evE C (.and a b) ρ st = if p = true then evE C b ρ st' else .ok (.bl false) st' := by
  simp only [evE, h, R.bind_ok, truth]
  cases p <;> rfl
theorem ev_or {C : Ctx} {a b : E} {ρ : MP.Env} {st st' : Sto} {p : Bool} (h : evE C a ρ st = .ok (.bl p) st') : evE C (.or a b) ρ st = if p = true then .ok (.bl true) st' else evE C b ρ st' := by
  simp only [evE, h, R.bind_ok, truth]
  cases p <;> rfl
theorem ec_e {C : Ctx} {a : E} {ρ : MP.Env} {st st' : Sto} {p : Bool} (h : evE C a ρ st = .ok (.bl p) st') : evC C (.ofE a) ρ st = .ok p st' := by
  simp only [evC, h, R.bind_ok, truth, R.opt_some]
theorem ec_not {C : Ctx} {a : Cd} {ρ : MP.Env} {st st' : Sto} {p : Bool} (h : evC C a ρ st = .ok p st') : evC C (.not a) ρ st = .ok (!p) st' := by
  simp only [evC, h, R.bind_ok]
theorem ec_or {C : Ctx} {a b : Cd} {ρ : MP.Env} {st st' : Sto} {p : Bool} (h : evC C a ρ st = .ok p st') : evC C (.or a b) ρ st = if p = true then .ok true st' else evC C b ρ st' := by
  simp only [evC, h, R.bind_ok]
theorem es_ret {C : Ctx} {a : E} {ρ : MP.Env} {st st' : Sto} {d : D} (h : evE C a ρ st = .ok d st') {r : Ss} : evSs C (.cons (.ret a) r) ρ st = .ok (.ret d, ρ) st' := by
  simp only [evSs, evS, h, R.bind_ok]
theorem es_if {C : Ctx} {c : Cd} {a b r : Ss} {ρ : MP.Env} {st st' : Sto} {p : Bool} (h : evC C c ρ st = .ok p st') : evSs C (.cons (.ite c a b) r) ρ st = (if p = true then evSs C a ρ st' else evSs C b ρ st').bind fun f st => (match f.1 with
    | .next => evSs C r f.2 st
    | _ => .ok f st) := by
  simp only [evSs, evS, h, R.bind_ok]
  all_goals rfl
/-! ### rows -/
def isRow : D → Bool
  | .tup ds => decide (ds.length ≤ 8) && ds.all isValue
  | _ => false
theorem r_is_row (k : Nat) (d : D) (st : Sto) (h : wf st d = true) : run FT GL (k + 3) 4 [d] st = .ok (.bl (isRow d)) st := by
  have hF : FT 4 = some ⟨1, 2 + 1, b4⟩ := rfl
  have hG : GL 4 = some (.int 8) := rfl
  rw [un1 hF]
  cases d with
  | tup ds =>
    obtain ⟨hl, hw⟩ := wf_tup h
    have key := all_gen (C := ⟨run FT GL (k + 2), GL⟩) (ρ := [some (.tup ds), none, none]) (st := st) (elt := .call 3 (.cons (.var 2) .nil)) (own := [1, 2]) (t := .name 2) (src := .ofP (.var 0)) (s := { items := ds }) (p := isValue)
      (by simp [evLk, lockD, evE]) (by simp [evIt, evE, srcOf]) rfl (fun x hx => ⟨_, rfl, by simp [evE, evEs, wipeE, r_is_value k x st (wf_plain (hw x hx)) (wf_sOk (hw x hx))]⟩) hl
    have e1 : evE ⟨run FT GL (k + 2), GL⟩ (.isi (.var 0) .tuple) [some (.tup ds), none, none] st = .ok (.bl true) st := by simp [evE, isiD, cmpR]
    have e2 : evE ⟨run FT GL (k + 2), GL⟩ (.op2 .le (.op1 .len (.var 0)) (.glob 4)) [some (.tup ds), none, none] st = .ok (.bl (decide (ds.length ≤ 8))) st := by
      have e2 : decide ((ds.length : Int) ≤ 8) = decide (ds.length ≤ 8) := decide_eq_decide.mpr (by omega)
      simp [evE, p1, lenD, p2, hG, rc_int, D.rcI, cmpR, e2]
    simp only [b4, List.replicate]
    have r1 : evE ⟨run FT GL (k + 2), GL⟩ (.and (.isi (.var 0) .tuple) (.and (.op2 .le (.op1 .len (.var 0)) (.glob 4)) (.fold .all (.lc (.call 3 (.cons (.var 2) .nil)) [1, 2] (.name 2) (.ofP (.var 0)))))) [some (.tup ds), none, none] st = .ok (.bl (isRow (.tup ds))) st := by
      rw [ev_and e1, if_pos rfl, ev_and e2]
      by_cases c : ds.length ≤ 8
      · simp only [c, decide_true, if_true, key, isRow, Bool.true_and]
      · simp [c, isRow]
    rw [es_ret r1, retOf_ret, gc_same]
  | ref n =>
    have h := wf_plain h
    simp only [plain] at h
    split at h
    · rename_i ds e
      simp [b4, evSs, evS, evE, isiD, e, cmpR, truth, retOf, gc, isRow]
    · cases h
  | cl _ => simp [wf] at h
  | fn _ => simp [wf] at h
  | kls _ => simp [wf] at h
  | lam _ _ => simp [wf] at h
  | _ => simp [b4, evSs, evS, evE, isiD, cmpR, truth, retOf, gc, isRow]
end K00

set_option Elab.async false
set_option linter.all false
set_option maxRecDepth 100000
set_option maxHeartbeats 4000000
namespace K00
open MP
/-! ### data, deep down -/
/-- data that can be compared; no text, no tuple too long -/
def dt (d : D) : Bool := D.okD d && wf [] d
mutual
theorem wf_any (st : Sto) : ∀ d : D, wf [] d = true → wf st d = true
  | .non, _ => by simp [wf]
  | .bl _, _ => by simp [wf]
  | .int _, _ => by simp [wf]
  | .str s, h => by simpa [wf] using h
  | .tup ds, h => by
    simp only [wf, Bool.and_eq_true] at h ⊢
    exact ⟨h.1, wfL_any st ds h.2⟩
  | .ref n, h => by simp [wf] at h
  | .cl _, h => by simp [wf] at h
  | .fn _, h => by simp [wf] at h
  | .kls _, h => by simp [wf] at h
  | .lam _ _, h => by simp [wf] at h
theorem wfL_any (st : Sto) : ∀ ds : List D, wfL [] ds = true → wfL st ds = true
  | [], _ => by simp [wfL]
  | d :: ds, h => by
    simp only [wfL, Bool.and_eq_true] at h ⊢
    exact ⟨wf_any st d h.1, wfL_any st ds h.2⟩
end
theorem dt_wf {d : D} (h : dt d = true) (st : Sto) : wf st d = true := by
  simp only [dt, Bool.and_eq_true] at h
  exact wf_any st d h.2
theorem dt_ok {d : D} (h : dt d = true) : D.okD d = true := by
  simp only [dt, Bool.and_eq_true] at h
  exact h.1
theorem okL_mem : ∀ {ds : List D}, D.flatL ds = true → PySem.PyData.canLayAll0 (D.pyL ds) = true → D.depL ds ≤ 59 → ∀ d ∈ ds, D.okD d = true
  | x :: xs, h1, h2, h3, d, hd => by
    simp only [D.flatL, Bool.and_eq_true] at h1
    simp only [D.pyL, PySem.PyData.canLayAll0, Bool.and_eq_true] at h2
    simp only [D.depL] at h3
    rcases List.mem_cons.mp hd with rfl | hd
    · simp only [D.okD, Bool.and_eq_true, decide_eq_true_eq]
      exact ⟨⟨h1.1, h2.1⟩, by omega⟩
    · exact okL_mem h1.2 h2.2 (by omega) d hd
theorem dt_tup {ds : List D} (h : dt (.tup ds) = true) : ds.length ≤ LINE ∧ ∀ d ∈ ds, dt d = true := by
  simp only [dt, Bool.and_eq_true] at h
  obtain ⟨h1, h2⟩ := h
  simp only [wf, Bool.and_eq_true, decide_eq_true_eq] at h2
  simp only [D.okD, Bool.and_eq_true, decide_eq_true_eq, D.flat, D.py, PySem.PyData.canLay0, D.dep] at h1
  refine ⟨h2.1, fun d hd => ?_⟩
  simp only [dt, Bool.and_eq_true]
  have h3 : D.depL ds + 1 ≤ 60 := of_decide_eq_true h1.2
  exact ⟨okL_mem h1.1.1 h1.1.2 (by omega) d hd, wfL_mem h2.2 d hd⟩
theorem exp_ok {d : D} (st : Sto) (h : D.okD d = true) : MP.exp d st = some d.py := by
  cases d <;> simp [MP.exp, h]
  simp [D.okD, D.flat] at h
/-- a is the text s -/
def isS (a : D) (s : PySem.Str) : Bool := PySem.PyData.eqv a.py (.str s)
theorem eq_str {a : D} {s : PySem.Str} {st : Sto} (ha : D.okD a = true) (hs : D.okD (.str s) = true) : eqD a (.str s) st = some (isS a s) := by
  simp only [eqD, exp_ok st ha, exp_ok st hs]
  rfl
abbrev sVar : PySem.Str := PySem.Str.ofString "var"
abbrev sVal : PySem.Str := PySem.Str.ofString "value"
abbrev sTest : PySem.Str := PySem.Str.ofString "test"
def IsNot : List D := [.str (PySem.Str.ofString "is"), .str (PySem.Str.ofString "not")]
def GROUPS : List D := [.str (PySem.Str.ofString "count"), .str (PySem.Str.ofString "sum"), .str (PySem.Str.ofString "least"), .str (PySem.Str.ofString "greatest")]
def TESTS : List D := [.str (PySem.Str.ofString "<"), .str (PySem.Str.ofString "<="), .str (PySem.Str.ofString "="), .str (PySem.Str.ofString "!=")]
def SUMS : List D := [.str (PySem.Str.ofString "plus"), .str (PySem.Str.ofString "minus"), .str (PySem.Str.ofString "times")]
def inL (ws : List D) (a : D) : Bool := ws.any fun d => PySem.PyData.eqv d.py a.py
theorem in_tup {ws : List D} {a : D} {st : Sto} (ha : D.okD a = true) (hw : D.okL ws = true) : inD a (.tup ws) st = some (inL ws a) := by
  simp [inD, ha, hw, inL]
theorem ok_var : D.okD (.str sVar) = true := by decide +kernel
theorem ok_val : D.okD (.str sVal) = true := by decide +kernel
theorem ok_test : D.okD (.str sTest) = true := by decide +kernel
/-! ### small readings -/
section
variable {k : Nat} {ρ : MP.Env} {st : Sto} {i : Nat} {d : D}
theorem ev_var (C : Ctx) (h : ρ[i]? = some (some d)) : evE C (.var i) ρ st = .ok d st := by simp only [evE, h]
@[simp] def isTup : D → Bool
  | .tup _ => true
  | _ => false
theorem ev_isT (C : Ctx) (h : ρ[i]? = some (some d)) (hw : wf st d = true) : evE C (.isi (.var i) .tuple) ρ st = .ok (.bl (isTup d)) st := by
  simp only [evE, h, R.bind_ok]
  cases d with
  | ref n =>
    have hw := wf_plain hw
    simp only [plain] at hw
    split at hw
    · rename_i ds e
      simp [isiD, e, cmpR]
    · cases hw
  | cl _ => simp [wf] at hw
  | fn _ => simp [wf] at hw
  | kls _ => simp [wf] at hw
  | lam _ _ => simp [wf] at hw
  | _ => simp [isiD, cmpR]
theorem ev_lenT (C : Ctx) {ds : List D} (h : ρ[i]? = some (some (.tup ds))) : evE C (.op1 .len (.var i)) ρ st = .ok (.int ds.length) st := by
  simp [evE, h, p1, lenD]
theorem ev_idx (C : Ctx) {ds : List D} {j : Int} {x : D} (h : ρ[i]? = some (some (.tup ds))) (hx : idxD (.tup ds) (.int j) st = some x) : evE C (.op2 .idx (.var i) (.con (.int j))) ρ st = .ok x st := by
  simp [evE, h, p2, hx]
theorem dec_len {n m : Nat} : decide ((n : Int) = (m : Int)) = decide (n = m) := decide_eq_decide.mpr (by omega)
theorem ev_call1 {g : Nat} {a : E} {x r : D} (ha : evE ⟨run FT GL k, GL⟩ a ρ st = .ok x st) (hr : run FT GL k g [x] st = .ok r st) : evE ⟨run FT GL k, GL⟩ (.call g (.cons a .nil)) ρ st = .ok r st := by
  simp only [evE, evEs, ha, R.bind_ok, hr]
end
/-! ### facts -/
def isFact : D → Bool
  | .tup [a, b] => isName a && isRow b
  | _ => false
theorem r_is_fact (k : Nat) (d : D) (st : Sto) (h : wf st d = true) : run FT GL (k + 4) 10 [d] st = .ok (.bl (isFact d)) st := by
  have hF : FT 10 = some ⟨1, 0 + 1, b10⟩ := rfl
  rw [un1 hF]
  have e1 := ev_isT (ρ := some d :: List.replicate 0 none) (i := 0) ⟨run FT GL (k + 3), GL⟩ rfl h
  have fin : ∀ {r : D}, evE ⟨run FT GL (k + 3), GL⟩ (.and (.isi (.var 0) .tuple) (.and (.op2 .eq (.op1 .len (.var 0)) (.con (.int 2))) (.and (.call 1 (.cons (.op2 .idx (.var 0) (.con (.int 0))) .nil)) (.call 4 (.cons (.op2 .idx (.var 0) (.con (.int 1))) .nil))))) (some d :: List.replicate 0 none) st = .ok r st →
      gc st (retOf (evSs ⟨run FT GL (k + 3), GL⟩ b10 (some d :: List.replicate 0 none) st)) = .ok r st := fun hr => by
    simp only [b10]
    rw [es_ret hr, retOf_ret, gc_same]
  apply fin
  rw [ev_and e1]
  cases d with
  | tup ds =>
    obtain ⟨hl, hw⟩ := wf_tup h
    simp only [isTup, if_true]
    have e2 : evE ⟨run FT GL (k + 3), GL⟩ (.op2 .eq (.op1 .len (.var 0)) (.con (.int 2))) (some (.tup ds) :: List.replicate 0 none) st = .ok (.bl (decide (ds.length = 2))) st := by
      have := dec_len (n := ds.length) (m := 2)
      simp [evE, p1, lenD, p2, eq_int, cmpR, ← this]
    rw [ev_and e2]
    by_cases c : ds.length = 2
    · obtain ⟨a, b, rfl⟩ : ∃ a b, ds = [a, b] := by
        match ds, c with
        | [a, b], _ => exact ⟨a, b, rfl⟩
      have wa := hw a (by simp)
      have wb := hw b (by simp)
      simp only [c, decide_true, if_true]
      rw [ev_and (ev_call1 (ev_idx _ rfl idx0) (r_is_name (k + 2) a st (wf_plain wa) (wf_sOk wa)))]
      have rr := ev_call1 (k := k + 3) (g := 4) (a := .op2 .idx (.var 0) (.con (.int 1))) (ρ := some (.tup [a, b]) :: List.replicate 0 none) (ev_idx _ rfl idx1) (r_is_row k b st wb)
      cases hn : isName a
      · simp [isFact, hn]
      · simp only [if_true, rr, isFact, hn, Bool.true_and]
    · have e : isFact (.tup ds) = false := by
        match ds, c with
        | [], _ => rfl
        | [_], _ => rfl
        | [_, _], c => exact absurd rfl c
        | _ :: _ :: _ :: _, _ => rfl
      simp [c, e]
  | _ => simp [isFact]
/-! ### terms -/
def isTerm : D → Bool
  | .tup [a, b] => (isS a sVar && isLetter b) || (isS a sVal && isValue b)
  | _ => false
theorem r_is_term (k : Nat) (d : D) (st : Sto) (h : dt d = true) : run FT GL (k + 3) 11 [d] st = .ok (.bl (isTerm d)) st := by
  have hF : FT 11 = some ⟨1, 0 + 1, b11⟩ := rfl
  have hw0 := dt_wf h st
  rw [un1 hF]
  have e1 := ev_isT (ρ := some d :: List.replicate 0 none) (i := 0) ⟨run FT GL (k + 2), GL⟩ rfl hw0
  cases d with
  | tup ds =>
    obtain ⟨hl, hd⟩ := dt_tup h
    have e2 : evE ⟨run FT GL (k + 2), GL⟩ (.op2 .ne (.op1 .len (.var 0)) (.con (.int 2))) (some (.tup ds) :: List.replicate 0 none) st = .ok (.bl (!decide (ds.length = 2))) st := by
      have := dec_len (n := ds.length) (m := 2)
      simp [evE, p1, lenD, p2, eq_int, cmpR, ← this]
    have c1 : evC ⟨run FT GL (k + 2), GL⟩ (.or (.not (.ofE (.isi (.var 0) .tuple))) (.ofE (.op2 .ne (.op1 .len (.var 0)) (.con (.int 2))))) (some (.tup ds) :: List.replicate 0 none) st = .ok (!decide (ds.length = 2)) st := by
      rw [ec_or (ec_not (ec_e e1))]
      exact ec_e e2
    simp only [b11]
    rw [es_if c1]
    by_cases c : ds.length = 2
    · obtain ⟨a, b, rfl⟩ : ∃ a b, ds = [a, b] := by
        match ds, c with
        | [a, b], _ => exact ⟨a, b, rfl⟩
      have da := hd a (by simp)
      have db := hd b (by simp)
      have wb := dt_wf db st
      have q : ∀ (s : PySem.Str), D.okD (.str s) = true → evE ⟨run FT GL (k + 2), GL⟩ (.op2 .eq (.op2 .idx (.var 0) (.con (.int 0))) (.con (.str s))) (some (.tup [a, b]) :: List.replicate 0 none) st = .ok (.bl (isS a s)) st := fun s hs => by
        have i0 := ev_idx (ρ := some (.tup [a, b]) :: List.replicate 0 none) (i := 0) ⟨run FT GL (k + 2), GL⟩ rfl (idx0 (x := a) (r := [b]) (st := st))
        show (evE _ _ _ _).bind _ = _
        rw [i0]
        simp only [R.bind_ok, evE, p2, eq_str (dt_ok da) hs, cmpR]
      have v1 := ev_call1 (k := k + 2) (g := 2) (a := .op2 .idx (.var 0) (.con (.int 1))) (ρ := some (.tup [a, b]) :: List.replicate 0 none) (ev_idx _ rfl idx1) (r_is_letter (k + 1) b st (wf_plain wb) (wf_sOk wb))
      have v2 := ev_call1 (k := k + 2) (g := 3) (a := .op2 .idx (.var 0) (.con (.int 1))) (ρ := some (.tup [a, b]) :: List.replicate 0 none) (ev_idx _ rfl idx1) (r_is_value k b st (wf_plain wb) (wf_sOk wb))
      have x1 : evE ⟨run FT GL (k + 2), GL⟩ (.and (.op2 .eq (.op2 .idx (.var 0) (.con (.int 0))) (.con (.str (PySem.Str.ofString "var")))) (.call 2 (.cons (.op2 .idx (.var 0) (.con (.int 1))) .nil))) (some (.tup [a, b]) :: List.replicate 0 none) st = .ok (.bl (isS a sVar && isLetter b)) st := by
        rw [ev_and (q _ ok_var), v1]
        cases isS a sVar <;> simp
      have x2 : evE ⟨run FT GL (k + 2), GL⟩ (.and (.op2 .eq (.op2 .idx (.var 0) (.con (.int 0))) (.con (.str (PySem.Str.ofString "value")))) (.call 3 (.cons (.op2 .idx (.var 0) (.con (.int 1))) .nil))) (some (.tup [a, b]) :: List.replicate 0 none) st = .ok (.bl (isS a sVal && isValue b)) st := by
        rw [ev_and (q _ ok_val), v2]
        cases isS a sVal <;> simp
      have x3 : evE ⟨run FT GL (k + 2), GL⟩ (.or (.and (.op2 .eq (.op2 .idx (.var 0) (.con (.int 0))) (.con (.str (PySem.Str.ofString "var")))) (.call 2 (.cons (.op2 .idx (.var 0) (.con (.int 1))) .nil))) (.and (.op2 .eq (.op2 .idx (.var 0) (.con (.int 0))) (.con (.str (PySem.Str.ofString "value")))) (.call 3 (.cons (.op2 .idx (.var 0) (.con (.int 1))) .nil)))) (some (.tup [a, b]) :: List.replicate 0 none) st = .ok (.bl (isTerm (.tup [a, b]))) st := by
        rw [ev_or x1, x2]
        simp only [isTerm]
        cases (isS a sVar && isLetter b) <;> simp
      simp only [c, decide_true, Bool.not_true, Bool.false_eq_true, if_false]
      simp only [evSs, R.bind_ok]
      have := es_ret (r := .nil) x3
      simp only [evSs] at this
      rw [this, retOf_ret, gc_same]
    · have e : isTerm (.tup ds) = false := by
        match ds, c with
        | [], _ => rfl
        | [_], _ => rfl
        | [_, _], c => exact absurd rfl c
        | _ :: _ :: _ :: _, _ => rfl
      simp [c, e, evSs, evS, evE, retOf, gc]
  | _ =>
    have c1 := ec_or (b := .ofE (.op2 .ne (.op1 .len (.var 0)) (.con (.int 2)))) (ec_not (ec_e e1))
    simp only [isTup, Bool.not_false, if_true] at c1
    simp only [b11]
    rw [es_if c1]
    simp [isTerm, evSs, evS, evE, retOf, gc]
end K00

set_option Elab.async false
set_option linter.all false
set_option maxRecDepth 100000
set_option maxHeartbeats 4000000
namespace K00
open MP
theorem es_if_ret {C : Ctx} {c : Cd} {x : D} {r : Ss} {ρ : MP.Env} {st : Sto} {p : Bool} (h : evC C c ρ st = .ok p st) : evSs C (.cons (.ite c (.cons (.ret (.con x)) .nil) .nil) r) ρ st = if p = true then .ok (.ret x, ρ) st else evSs C r ρ st := by
  rw [es_if h]
  cases p <;> simp [evSs, evS, evE]
theorem es_if_retE {C : Ctx} {c : Cd} {e : E} {r : Ss} {ρ : MP.Env} {st st' : Sto} {p : Bool} (h : evC C c ρ st = .ok p st') : evSs C (.cons (.ite c (.cons (.ret e) .nil) .nil) r) ρ st = if p = true then (evE C e ρ st').bind fun x st => .ok (.ret x, ρ) st else evSs C r ρ st' := by
  rw [es_if h]
  cases p
  · simp [evSs]
  · simp only [if_true, evSs, evS]
    cases evE C e ρ st' <;> rfl
/-- all of a tuple's things -/
theorem all_calls {k g : Nat} {p : D → Bool} {ds : List D} {st : Sto} (hl : ds.length ≤ LINE) (h : ∀ x ∈ ds, run FT GL k g [x] st = .ok (.bl (p x)) st) :
    evE ⟨run FT GL k, GL⟩ (.fold .all (.lc (.call g (.cons (.var 2) .nil)) [1, 2] (.name 2) (.ofP (.var 0)))) (some (.tup ds) :: List.replicate 2 none) st = .ok (.bl (ds.all p)) st := by
  exact all_gen (s := { items := ds }) (by simp [evLk, lockD, evE]) (by simp [evIt, evE, srcOf]) rfl (fun x hx => ⟨_, rfl, by simp [evE, evEs, wipeE, h x hx]⟩) hl
def isTerms : D → Bool
  | .tup ds => decide (ds.length ≤ 8) && ds.all isTerm
  | _ => false
theorem ev_le8 (C : Ctx) {ds : List D} {ρ : MP.Env} {st : Sto} (h : ρ[0]? = some (some (.tup ds))) (hG : C.glob 4 = some (.int 8)) : evE C (.op2 .le (.op1 .len (.var 0)) (.glob 4)) ρ st = .ok (.bl (decide (ds.length ≤ 8))) st := by
  have e2 : decide ((ds.length : Int) ≤ 8) = decide (ds.length ≤ 8) := decide_eq_decide.mpr (by omega)
  simp [evE, h, p1, lenD, p2, hG, rc_int, D.rcI, cmpR, e2]
theorem ev_eqlen (C : Ctx) {ds : List D} {ρ : MP.Env} {st : Sto} {i : Nat} (m : Nat) {j : Int} (hj : j = m) (h : ρ[i]? = some (some (.tup ds))) : evE C (.op2 .eq (.op1 .len (.var i)) (.con (.int j))) ρ st = .ok (.bl (decide (ds.length = m))) st := by
  subst hj
  have := dec_len (n := ds.length) (m := m)
  simp [evE, h, p1, lenD, p2, eq_int, cmpR, ← this]
theorem ev_nelen (C : Ctx) {ds : List D} {ρ : MP.Env} {st : Sto} {i : Nat} (m : Nat) {j : Int} (hj : j = m) (h : ρ[i]? = some (some (.tup ds))) : evE C (.op2 .ne (.op1 .len (.var i)) (.con (.int j))) ρ st = .ok (.bl (!decide (ds.length = m))) st := by
  subst hj
  have := dec_len (n := ds.length) (m := m)
  simp [evE, h, p1, lenD, p2, eq_int, cmpR, ← this]
theorem r_is_terms (k : Nat) (d : D) (st : Sto) (h : dt d = true) : run FT GL (k + 4) 13 [d] st = .ok (.bl (isTerms d)) st := by
  have hF : FT 13 = some ⟨1, 2 + 1, b13⟩ := rfl
  have hw0 := dt_wf h st
  rw [un1 hF]
  have e1 := ev_isT (ρ := some d :: List.replicate 2 none) (i := 0) ⟨run FT GL (k + 3), GL⟩ rfl hw0
  have r : evE ⟨run FT GL (k + 3), GL⟩ (.and (.isi (.var 0) .tuple) (.and (.op2 .le (.op1 .len (.var 0)) (.glob 4)) (.fold .all (.lc (.call 11 (.cons (.var 2) .nil)) [1, 2] (.name 2) (.ofP (.var 0)))))) (some d :: List.replicate 2 none) st = .ok (.bl (isTerms d)) st := by
    rw [ev_and e1]
    cases d with
    | tup ds =>
      obtain ⟨hl, hd⟩ := dt_tup h
      rw [if_pos (show isTup (.tup ds) = true from rfl), ev_and (ev_le8 _ rfl rfl), all_calls (p := isTerm) hl fun x hx => r_is_term k x st (hd x hx)]
      simp only [isTerms]
      cases decide (ds.length ≤ 8) <;> simp
    | _ => simp [isTerms]
  simp only [b13]
  rw [es_ret r, retOf_ret, gc_same]
def isGroup : D → Bool
  | .tup [a, b] => inL GROUPS a && isLetter b
  | _ => false
theorem ev_in0 (C : Ctx) {ds ws : List D} {x : D} {ρ : MP.Env} {st : Sto} {i : Nat} {e : E} (h : ρ[i]? = some (some (.tup ds))) (hx : idxD (.tup ds) (.int 0) st = some x) (he : evE C e ρ st = .ok (.tup ws) st) (ha : D.okD x = true) (hw : D.okL ws = true) :
    evE C (.op2 .in_ (.op2 .idx (.var i) (.con (.int 0))) e) ρ st = .ok (.bl (inL ws x)) st := by
  have i0 := ev_idx C h hx
  show (evE _ _ _ _).bind _ = _
  rw [i0]
  simp only [R.bind_ok, he, p2, in_tup ha hw, cmpR]
theorem ev_eq0 (C : Ctx) {ds : List D} {x : D} {ρ : MP.Env} {st : Sto} {i : Nat} {s : PySem.Str} (h : ρ[i]? = some (some (.tup ds))) (hx : idxD (.tup ds) (.int 0) st = some x) (ha : D.okD x = true) (hs : D.okD (.str s) = true) :
    evE C (.op2 .eq (.op2 .idx (.var i) (.con (.int 0))) (.con (.str s))) ρ st = .ok (.bl (isS x s)) st := by
  have i0 := ev_idx C h hx
  show (evE _ _ _ _).bind _ = _
  rw [i0]
  simp only [R.bind_ok, ev_con, p2, eq_str ha hs, cmpR]
theorem ok_GROUPS : D.okL GROUPS = true := by decide +kernel
theorem ok_TESTS : D.okL TESTS = true := by decide +kernel
theorem ok_SUMS : D.okL SUMS = true := by decide +kernel
theorem ok_IsNot : D.okL IsNot = true := by decide +kernel
theorem ev_glob (C : Ctx) {g : Nat} {d : D} {ρ : MP.Env} {st : Sto} (h : C.glob g = some d) : evE C (.glob g) ρ st = .ok d st := by simp [evE, h]
theorem r_is_group (k : Nat) (d : D) (st : Sto) (h : dt d = true) : run FT GL (k + 2) 15 [d] st = .ok (.bl (isGroup d)) st := by
  have hF : FT 15 = some ⟨1, 0 + 1, b15⟩ := rfl
  have hw0 := dt_wf h st
  rw [un1 hF]
  have e1 := ev_isT (ρ := some d :: List.replicate 0 none) (i := 0) ⟨run FT GL (k + 1), GL⟩ rfl hw0
  have r : evE ⟨run FT GL (k + 1), GL⟩ (.and (.isi (.var 0) .tuple) (.and (.op2 .eq (.op1 .len (.var 0)) (.con (.int 2))) (.and (.op2 .in_ (.op2 .idx (.var 0) (.con (.int 0))) (.glob 6)) (.call 2 (.cons (.op2 .idx (.var 0) (.con (.int 1))) .nil))))) (some d :: List.replicate 0 none) st = .ok (.bl (isGroup d)) st := by
    rw [ev_and e1]
    cases d with
    | tup ds =>
      obtain ⟨hl, hd⟩ := dt_tup h
      rw [if_pos (show isTup (.tup ds) = true from rfl), ev_and (ev_eqlen (ds := ds) (ρ := some (.tup ds) :: List.replicate 0 none) (st := st) (i := 0) (j := 2) ⟨run FT GL (k + 1), GL⟩ 2 rfl rfl)]
      match ds, hd with
      | [a, b], hd =>
        have da := hd a (by simp)
        have db := hd b (by simp)
        have wb := dt_wf db st
        simp only [List.length_cons, List.length_nil, decide_true, if_true]
        rw [ev_and (ev_in0 _ rfl idx0 (ev_glob _ rfl) (dt_ok da) ok_GROUPS), ev_call1 (ev_idx _ rfl idx1) (r_is_letter k b st (wf_plain wb) (wf_sOk wb))]
        simp only [isGroup]
        cases inL GROUPS a <;> simp
      | [], _ => rfl
      | [_], _ => rfl
      | _ :: _ :: _ :: _, _ => simp [isGroup]
    | _ => simp [isGroup]
  simp only [b15]
  rw [es_ret r, retOf_ret, gc_same]
/-! ### sums -/
def sumOk : Nat → D → Bool
  | 0, d => isTerm d
  | f + 1, d => isTerm d || (match d with
    | .tup [a, b, c] => inL SUMS a && sumOk f b && sumOk f c
    | _ => false)
def wt : Nat → Nat
  | 0 => 1
  | f + 1 => 1 + wt f + wt f
def pr (x : D × Nat) : D := .tup [x.1, .int (13 - x.2 : Int)]
def wts (l : List (D × Nat)) : Nat := (l.map fun x => wt x.2).sum
/-- the body of is_sum's loop -/
def lpB : Ss := (.cons (.asg (.tup [2, 3]) (.op1 .pop (.var 1))) (.cons (.ite (.ofE (.call 11 (.cons (.var 2) .nil))) (.cons .cont .nil) .nil) (.cons (.ite (.or (.not (.ofE (.isi (.var 2) .tuple))) (.or (.ofE (.op2 .ne (.op1 .len (.var 2)) (.con (.int 3)))) (.or (.ofE (.op2 .notin (.op2 .idx (.var 2) (.con (.int 0))) (.glob 8))) (.ofE (.op2 .gt (.var 3) (.glob 10)))))) (.cons (.ret (.con (.bl false))) .nil) .nil) (.cons (.ext 1 (.disp (.cons (.tup (.cons (.op2 .idx (.var 2) (.con (.int 1))) (.cons (.op2 .add (.var 3) (.con (.int 1))) .nil))) (.cons (.tup (.cons (.op2 .idx (.var 2) (.con (.int 2))) (.cons (.op2 .add (.var 3) (.con (.int 1))) .nil))) .nil)))) .nil))))
theorem get_last {α : Type} (st : List α) (o : α) : (st ++ [o])[st.length]? = some o := by simp
theorem set_last {α : Type} (st : List α) (o p : α) : (st ++ [o]).set st.length p = st ++ [p] := by simp
/-- one turn -/
theorem turn_sum (k : Nat) (st : Sto) (s0 h0 : D) (dp : Option D) (l : List (D × Nat)) (d : D) (f : Nat) (hd : dt d = true) (hf : f ≤ 12) (oh : Option D) (hlen : l.length ≤ 100000) :
    evSs ⟨run FT GL (k + 3), GL⟩ lpB [some s0, some (.ref st.length), oh, dp] (st ++ [.lst ((l ++ [(d, f)]).map pr)]) =
      if isTerm d = true then .ok (.cont, [some s0, some (.ref st.length), some d, some (.int (13 - f : Int))]) (st ++ [.lst (l.map pr)])
      else match f, d with
        | f' + 1, .tup [a, b, c] => if inL SUMS a = true then .ok (.next, [some s0, some (.ref st.length), some d, some (.int (13 - f : Int))]) (st ++ [.lst ((l ++ [(b, f'), (c, f')]).map pr)])
          else .ok (.ret (.bl false), [some s0, some (.ref st.length), some d, some (.int (13 - f : Int))]) (st ++ [.lst (l.map pr)])
        | _, _ => .ok (.ret (.bl false), [some s0, some (.ref st.length), some d, some (.int (13 - f : Int))]) (st ++ [.lst (l.map pr)]) := by
  have pop : evE ⟨run FT GL (k + 3), GL⟩ (.op1 .pop (.var 1)) [some s0, some (.ref st.length), oh, dp] (st ++ [.lst ((l ++ [(d, f)]).map pr)]) = .ok (pr (d, f)) (st ++ [.lst (l.map pr)]) := by
    simp [evE, p1, pr]
  have asg : evS ⟨run FT GL (k + 3), GL⟩ (.asg (.tup [2, 3]) (.op1 .pop (.var 1))) [some s0, some (.ref st.length), oh, dp] (st ++ [.lst ((l ++ [(d, f)]).map pr)]) = .ok (.next, [some s0, some (.ref st.length), some d, some (.int (13 - f : Int))]) (st ++ [.lst (l.map pr)]) := by
    simp only [evS, pop, R.bind_ok]
    simp [pr, asgT, seqOf, setAll]
  have st1n : (st ++ [.lst (l.map pr)])[st.length]? = some (.lst (l.map pr)) := get_last _ _
  generalize hst : st ++ [.lst (l.map pr)] = st1 at asg st1n ⊢
  generalize hρ : [some s0, some (.ref st.length), some d, some (.int (13 - f : Int))] = ρ at asg ⊢
  have r1 : ρ[1]? = some (some (.ref st.length)) := by rw [← hρ]; rfl
  have r2 : ρ[2]? = some (some d) := by rw [← hρ]; rfl
  have r3 : ρ[3]? = some (some (.int (13 - f : Int))) := by rw [← hρ]; rfl
  have tm := ev_call1 (k := k + 3) (g := 11) (a := .var 2) (ρ := ρ) (ev_var _ r2) (r_is_term k d st1 hd)
  have hw := dt_wf hd st1
  have e1 := ev_isT (ρ := ρ) (i := 2) (st := st1) ⟨run FT GL (k + 3), GL⟩ r2 hw
  have step : evSs ⟨run FT GL (k + 3), GL⟩ lpB [some s0, some (.ref st.length), oh, dp] (st ++ [.lst ((l ++ [(d, f)]).map pr)]) = if isTerm d = true then .ok (.cont, ρ) st1 else evSs ⟨run FT GL (k + 3), GL⟩ (.cons (.ite (.or (.not (.ofE (.isi (.var 2) .tuple))) (.or (.ofE (.op2 .ne (.op1 .len (.var 2)) (.con (.int 3)))) (.or (.ofE (.op2 .notin (.op2 .idx (.var 2) (.con (.int 0))) (.glob 8))) (.ofE (.op2 .gt (.var 3) (.glob 10)))))) (.cons (.ret (.con (.bl false))) .nil) .nil) (.cons (.ext 1 (.disp (.cons (.tup (.cons (.op2 .idx (.var 2) (.con (.int 1))) (.cons (.op2 .add (.var 3) (.con (.int 1))) .nil))) (.cons (.tup (.cons (.op2 .idx (.var 2) (.con (.int 2))) (.cons (.op2 .add (.var 3) (.con (.int 1))) .nil))) .nil)))) .nil)) ρ st1 := by
    have c1 : evC ⟨run FT GL (k + 3), GL⟩ (.ofE (.call 11 (.cons (.var 2) .nil))) ρ st1 = .ok (isTerm d) st1 := ec_e tm
    show evSs ⟨run FT GL (k + 3), GL⟩ (.cons (.asg (.tup [2, 3]) (.op1 .pop (.var 1))) _) _ _ = _
    rw [evSs]
    simp only [asg, R.bind_ok]
    rw [es_if c1]
    cases isTerm d <;> simp [evSs, evS]
  rw [step]
  cases ht : isTerm d with
  | true => simp
  | false =>
    simp only [Bool.false_eq_true, if_false]
    cases d with
    | tup ds =>
      obtain ⟨hl, hds⟩ := dt_tup hd
      have n3 := ev_nelen (ds := ds) (ρ := ρ) (st := st1) (i := 2) (j := 3) ⟨run FT GL (k + 3), GL⟩ 3 rfl r2
      have bad : ds.length ≠ 3 → evC ⟨run FT GL (k + 3), GL⟩ (.or (.not (.ofE (.isi (.var 2) .tuple))) (.or (.ofE (.op2 .ne (.op1 .len (.var 2)) (.con (.int 3)))) (.or (.ofE (.op2 .notin (.op2 .idx (.var 2) (.con (.int 0))) (.glob 8))) (.ofE (.op2 .gt (.var 3) (.glob 10)))))) ρ st1 = .ok true st1 := fun hne => by
        rw [ec_or (ec_not (ec_e e1))]
        simp only [isTup, Bool.not_true, Bool.false_eq_true, if_false]
        rw [ec_or (ec_e n3)]
        simp [hne]
      match ds, hds with
      | [a, b, c], hds =>
        have da := hds a (by simp)
        have i0 : evE ⟨run FT GL (k + 3), GL⟩ (.op2 .notin (.op2 .idx (.var 2) (.con (.int 0))) (.glob 8)) ρ st1 = .ok (.bl (!inL SUMS a)) st1 := by
          have i0 := ev_idx ⟨run FT GL (k + 3), GL⟩ r2 (idx0 (x := a) (r := [b, c]) (st := st1))
          show (evE _ _ _ _).bind _ = _
          rw [i0]
          simp only [R.bind_ok, ev_glob ⟨run FT GL (k + 3), GL⟩ (g := 8) (d := .tup SUMS) rfl, p2, in_tup (dt_ok da) ok_SUMS, cmpR, Option.map_some]
        have g1 : evE ⟨run FT GL (k + 3), GL⟩ (.op2 .gt (.var 3) (.glob 10)) ρ st1 = .ok (.bl (decide (f = 0))) st1 := by
          have e : decide ((12 : Int) < 13 - f) = decide (f = 0) := decide_eq_decide.mpr (by omega)
          simp only [evE, r3, R.bind_ok, show GL 10 = some (.int 12) from rfl, R.opt_some, p2, rc_int, D.rcI, cmpR, e]
        have cc : evC ⟨run FT GL (k + 3), GL⟩ (.or (.not (.ofE (.isi (.var 2) .tuple))) (.or (.ofE (.op2 .ne (.op1 .len (.var 2)) (.con (.int 3)))) (.or (.ofE (.op2 .notin (.op2 .idx (.var 2) (.con (.int 0))) (.glob 8))) (.ofE (.op2 .gt (.var 3) (.glob 10)))))) ρ st1 = .ok (!(inL SUMS a && !decide (f = 0))) st1 := by
          rw [ec_or (ec_not (ec_e e1))]
          simp only [isTup, Bool.not_true, Bool.false_eq_true, if_false]
          rw [ec_or (ec_e n3)]
          simp only [List.length_cons, List.length_nil, Nat.zero_add, Nat.reduceAdd, decide_true, Bool.not_true, Bool.false_eq_true, if_false]
          rw [ec_or (ec_e i0), ec_e g1]
          cases inL SUMS a <;> simp
        rw [es_if_ret cc]
        cases f with
        | zero => simp
        | succ f' =>
          cases hs : inL SUMS a with
          | false => simp [hs]
          | true =>
            simp only [hs, Bool.true_and, Nat.succ_ne_zero, decide_false, Bool.not_false, Bool.not_true, Bool.false_eq_true, if_false, if_true]
            have x1 := ev_idx ⟨run FT GL (k + 3), GL⟩ r2 (idx1 (x := a) (y := b) (r := [c]) (st := st1))
            have x2 := ev_idx ⟨run FT GL (k + 3), GL⟩ r2 (idx2 (x := a) (y := b) (z := c) (r := []) (st := st1))
            have ad : evE ⟨run FT GL (k + 3), GL⟩ (.op2 .add (.var 3) (.con (.int 1))) ρ st1 = .ok (.int (13 - (f' : Int))) st1 := by
              simp only [evE, r3, R.bind_ok, p2, addD]
              congr 2
              omega
            have tp : ∀ {e : E} {x : D}, evE ⟨run FT GL (k + 3), GL⟩ e ρ st1 = .ok x st1 → evE ⟨run FT GL (k + 3), GL⟩ (.tup (.cons e (.cons (.op2 .add (.var 3) (.con (.int 1))) .nil))) ρ st1 = .ok (pr (x, f')) st1 := fun h => by
              rw [evE]
              simp only [evEs, h, ad, R.bind_ok]
              simp [newTup, LINE, pr]
            have q : evQ ⟨run FT GL (k + 3), GL⟩ (.disp (.cons (.tup (.cons (.op2 .idx (.var 2) (.con (.int 1))) (.cons (.op2 .add (.var 3) (.con (.int 1))) .nil))) (.cons (.tup (.cons (.op2 .idx (.var 2) (.con (.int 2))) (.cons (.op2 .add (.var 3) (.con (.int 1))) .nil))) .nil))) ρ st1 = .ok [pr (b, f'), pr (c, f')] st1 := by
              rw [evQ]
              simp only [evEs, tp x1, tp x2, R.bind_ok]
              simp [LINE]
            have hle : (l.map pr).length + [pr (b, f'), pr (c, f')].length ≤ LINE := by
              simp [LINE]; omega
            simp only [evSs, evS, r1, q, R.bind_ok, extD, st1n, if_pos hle]
            rw [← hst]
            simp
      | [], _ => rw [es_if_ret (bad (by simp))]; cases f <;> rfl
      | [_], _ => rw [es_if_ret (bad (by simp))]; cases f <;> rfl
      | [_, _], _ => rw [es_if_ret (bad (by simp))]; cases f <;> rfl
      | _ :: _ :: _ :: _ :: _, _ => rw [es_if_ret (bad (by simp))]; cases f <;> rfl
    | _ =>
      have c1 : evC ⟨run FT GL (k + 3), GL⟩ (.or (.not (.ofE (.isi (.var 2) .tuple))) (.or (.ofE (.op2 .ne (.op1 .len (.var 2)) (.con (.int 3)))) (.or (.ofE (.op2 .notin (.op2 .idx (.var 2) (.con (.int 0))) (.glob 8))) (.ofE (.op2 .gt (.var 3) (.glob 10)))))) ρ st1 = .ok true st1 := by
        rw [ec_or (ec_not (ec_e e1))]
        simp
      rw [es_if_ret c1]
      cases f <;> rfl
end K00

set_option Elab.async false
set_option linter.all false
set_option maxRecDepth 100000
set_option maxHeartbeats 4000000
namespace K00
open MP
theorem wt_pos : ∀ f, 1 ≤ wt f
  | 0 => Nat.le_refl _
  | f + 1 => by simp only [wt]; omega
theorem wts_len : ∀ l : List (D × Nat), l.length ≤ wts l
  | [] => Nat.zero_le _
  | x :: l => by
    have := wts_len l
    have := wt_pos x.2
    simp only [wts, List.map_cons, List.sum_cons, List.length_cons] at *
    omega
theorem wts_app (l m : List (D × Nat)) : wts (l ++ m) = wts l + wts m := by simp [wts]
theorem sumOk_term {f : Nat} {d : D} (h : isTerm d = true) : sumOk f d = true := by cases f <;> simp [sumOk, h]
theorem loop_sum (k : Nat) (st : Sto) (s0 : D) : ∀ (m : Nat) (l : List (D × Nat)) (oh dp : Option D), wts l < m → wts l ≤ 10000 → (∀ x ∈ l, dt x.1 = true ∧ x.2 ≤ 12) →
    ∃ ρ' o, whileL (fun ρ st => evC ⟨run FT GL (k + 3), GL⟩ (.ofE (.var 1)) ρ st) (fun ρ st => evSs ⟨run FT GL (k + 3), GL⟩ lpB ρ st) m [some s0, some (.ref st.length), oh, dp] (st ++ [.lst (l.map pr)]) = .ok (if (l.all fun x => sumOk x.2 x.1) = true then .next else .ret (.bl false), ρ') (st ++ [o])
  | 0, l, _, _, h, _, _ => absurd h (Nat.not_lt_zero _)
  | m + 1, l, oh, dp, h, hb, hl => by
    have ev1 : evC ⟨run FT GL (k + 3), GL⟩ (.ofE (.var 1)) [some s0, some (.ref st.length), oh, dp] (st ++ [.lst (l.map pr)]) = .ok (!(l.map pr).isEmpty) (st ++ [.lst (l.map pr)]) := by
      simp [evC, evE, truth]
    simp only [whileL, ev1, R.bind_ok]
    rcases List.eq_nil_or_concat l with h0 | ⟨l', ⟨d, f⟩, h0⟩
    · subst h0
      exact ⟨[some s0, some (.ref st.length), oh, dp], .lst [], by simp⟩
    · rw [List.concat_eq_append] at h0
      subst h0
      have hx := hl (d, f) (by simp)
      have hl' : ∀ x ∈ l', dt x.1 = true ∧ x.2 ≤ 12 := fun x hx => hl x (by simp [hx])
      have w1 : wts (l' ++ [(d, f)]) = wts l' + wt f := by rw [wts_app]; simp [wts]
      have wl := wts_len l'
      have ts := turn_sum k st s0 s0 dp l' d f hx.1 hx.2 oh (by omega)
      have ne : (!((l' ++ [(d, f)]).map pr).isEmpty) = true := by simp
      have al : ((l' ++ [(d, f)]).all fun x => sumOk x.2 x.1) = ((l'.all fun x => sumOk x.2 x.1) && sumOk f d) := by
        rw [List.all_append]
        simp only [List.all_cons, List.all_nil, Bool.and_true]
      rw [ne]
      simp only [if_true, ts]
      have wp := wt_pos f
      by_cases ht : isTerm d = true
      · rw [if_pos ht]
        simp only [R.bind_ok]
        obtain ⟨ρ', o, e⟩ := loop_sum k st s0 m l' (some d) (some (.int (13 - f : Int))) (by omega) (by omega) hl'
        refine ⟨ρ', o, ?_⟩
        rw [e, al, sumOk_term ht, Bool.and_true]
      · rw [if_neg ht]
        have ht : isTerm d = false := by simpa using ht
        cases f with
        | zero => exact ⟨[some s0, some (.ref st.length), some d, some (.int (13 - ((0 : Nat) : Int)))], .lst (l'.map pr), by
          have z : sumOk 0 d = false := ht
          rw [al, z, Bool.and_false]
          rfl⟩
        | succ f' =>
          have other : (∀ a b c, d ≠ .tup [a, b, c]) → sumOk (f' + 1) d = false := fun hn => by
            unfold sumOk
            rw [ht, Bool.false_or]
            split
            · exact absurd rfl (hn _ _ _)
            · rfl
          by_cases h3 : ∃ a b c, d = .tup [a, b, c]
          · obtain ⟨a, b, c, rfl⟩ := h3
            obtain ⟨_, hds⟩ := dt_tup hx.1
            cases hs : inL SUMS a with
            | false => exact ⟨[some s0, some (.ref st.length), some (.tup [a, b, c]), some (.int (13 - ((f' + 1 : Nat) : Int)))], .lst (l'.map pr), by
                have z : sumOk (f' + 1) (.tup [a, b, c]) = false := by simp [sumOk, ht, hs]
                rw [al, z, Bool.and_false]
                simp [hs]⟩
            | true =>
              simp only [hs, if_true, R.bind_ok]
              have w2 : wts (l' ++ [(b, f'), (c, f')]) = wts l' + (wt f' + wt f') := by rw [wts_app]; simp [wts]
              have w3 : wt (f' + 1) = 1 + wt f' + wt f' := rfl
              obtain ⟨ρ', o, e⟩ := loop_sum k st s0 m (l' ++ [(b, f'), (c, f')]) (some (.tup [a, b, c])) (some (.int (13 - ((f' + 1 : Nat) : Int)))) (by omega) (by omega) (fun x hx' => by
                rcases List.mem_append.mp hx' with hx' | hx'
                · exact hl' x hx'
                · have hf : f' + 1 ≤ 12 := hx.2
                  simp only [List.mem_cons, List.not_mem_nil, or_false] at hx'
                  rcases hx' with rfl | rfl
                  · exact ⟨hds b (by simp), by show f' ≤ 12; omega⟩
                  · exact ⟨hds c (by simp), by show f' ≤ 12; omega⟩)
              refine ⟨ρ', o, ?_⟩
              have z : sumOk (f' + 1) (.tup [a, b, c]) = (sumOk f' b && sumOk f' c) := by simp [sumOk, ht, hs]
              have al2 : ((l' ++ [(b, f'), (c, f')]).all fun x => sumOk x.2 x.1) = ((l'.all fun x => sumOk x.2 x.1) && (sumOk f' b && sumOk f' c)) := by
                rw [List.all_append]
                simp only [List.all_cons, List.all_nil, Bool.and_true]
              rw [e, al, z, al2]
          · have hn : ∀ a b c, d ≠ .tup [a, b, c] := fun a b c e => h3 ⟨a, b, c, e⟩
            refine ⟨[some s0, some (.ref st.length), some d, some (.int (13 - ((f' + 1 : Nat) : Int)))], .lst (l'.map pr), ?_⟩
            have hso := other hn
            split
            · exact absurd rfl (hn _ _ _)
            · rw [al, hso, Bool.and_false]
              rfl
theorem wt12 : wt 12 = 8191 := by decide +kernel
theorem r_is_sum (k : Nat) (d : D) (st : Sto) (h : dt d = true) : run FT GL (k + 4) 12 [d] st = .ok (.bl (sumOk 12 d)) st := by
  have hF : FT 12 = some ⟨1, 3 + 1, b12⟩ := rfl
  rw [un1 hF]
  have a1 : evS ⟨run FT GL (k + 3), GL⟩ (.asg (.name 1) (.ofQ (.disp (.cons (.tup (.cons (.var 0) (.cons (.con (.int 1)) .nil))) .nil)))) (some d :: List.replicate 3 none) st = .ok (.next, [some d, some (.ref st.length), none, none]) (st ++ [.lst ([(d, 12)].map pr)]) := by
    simp [evS, evE, evQ, evEs, newTup, LINE, alloc, asgT, pr]
  have w0 : wts [(d, 12)] = 8191 := by
    show wt 12 + 0 = 8191
    rw [wt12]
  have w1 : wts [(d, 12)] < WF := by rw [w0]; decide +kernel
  have w2 : wts [(d, 12)] ≤ 10000 := by rw [w0]; decide +kernel
  generalize hWF : WF = wf0 at w1
  obtain ⟨ρ', o, e⟩ := loop_sum k st d wf0 [(d, 12)] none none w1 w2 (by simp [h])
  have b : evSs ⟨run FT GL (k + 3), GL⟩ b12 (some d :: List.replicate 3 none) st = .ok (if sumOk 12 d = true then .ret (.bl true) else .ret (.bl false), ρ') (st ++ [o]) := by
    show evSs _ (.cons (.asg (.name 1) _) (.cons (.while (.ofE (.var 1)) lpB) (.cons (.ret (.con (.bl true))) .nil))) _ _ = _
    rw [evSs, a1]
    simp only [R.bind_ok]
    rw [evSs, evS, hWF, e]
    simp only [R.bind_ok, List.all_cons, List.all_nil, Bool.and_true]
    cases sumOk 12 d <;> simp [evSs, evS, evE]
  rw [b]
  cases sumOk 12 d <;> simp [retOf, gc, D.flat]
/-! ### parts, rules -/
def isPart : D → Bool
  | .tup (a :: r) => if inL IsNot a = true then (match r with
      | [b, c] => isName b && isTerms c
      | _ => false) else if isS a sTest = true then (match r with
      | [b, c, e] => inL TESTS b && (sumOk 12 c && sumOk 12 e)
      | _ => false) else false
  | _ => false
end K00

set_option Elab.async false
set_option linter.all false
set_option maxRecDepth 100000
set_option maxHeartbeats 4000000
namespace K00
open MP
theorem ev_in1 (C : Ctx) {ds ws : List D} {x : D} {ρ : MP.Env} {st : Sto} {i : Nat} {j : Int} {e : E} (h : ρ[i]? = some (some (.tup ds))) (hx : idxD (.tup ds) (.int j) st = some x) (he : evE C e ρ st = .ok (.tup ws) st) (ha : D.okD x = true) (hw : D.okL ws = true) :
    evE C (.op2 .in_ (.op2 .idx (.var i) (.con (.int j))) e) ρ st = .ok (.bl (inL ws x)) st := by
  have i0 := ev_idx C h hx
  show (evE _ _ _ _).bind _ = _
  rw [i0]
  simp only [R.bind_ok, he, p2, in_tup ha hw, cmpR]
theorem ev_IsNot (C : Ctx) {ρ : MP.Env} {st : Sto} : evE C (.tup (.cons (.con (.str (PySem.Str.ofString "is"))) (.cons (.con (.str (PySem.Str.ofString "not"))) .nil))) ρ st = .ok (.tup IsNot) st := by
  simp [evE, evEs, newTup, LINE, IsNot]
theorem if_bl (p q : Bool) (st : Sto) : (if p = true then R.ok (D.bl q) st else .ok (D.bl false) st) = .ok (.bl (p && q)) st := by cases p <;> rfl
theorem r_is_part (k : Nat) (d : D) (st : Sto) (h : dt d = true) : run FT GL (k + 5) 14 [d] st = .ok (.bl (isPart d)) st := by
  have hF : FT 14 = some ⟨1, 0 + 1, b14⟩ := rfl
  have hw0 := dt_wf h st
  rw [un1 hF]
  have e1 := ev_isT (ρ := some d :: List.replicate 0 none) (i := 0) ⟨run FT GL (k + 4), GL⟩ rfl hw0
  simp only [b14]
  cases d with
  | tup ds =>
    obtain ⟨hl, hd⟩ := dt_tup h
    have tr : evC ⟨run FT GL (k + 4), GL⟩ (.ofE (.var 0)) (some (.tup ds) :: List.replicate 0 none) st = .ok (!ds.isEmpty) st := by simp [evC, evE, truth]
    have c1 : evC ⟨run FT GL (k + 4), GL⟩ (.or (.not (.ofE (.isi (.var 0) .tuple))) (.not (.ofE (.var 0)))) (some (.tup ds) :: List.replicate 0 none) st = .ok (ds.isEmpty) st := by
      rw [ec_or (ec_not (ec_e e1)), ec_not tr]
      simp
    rw [es_if_ret c1]
    match ds, hl, hd with
    | [], _, _ => simp [isPart, retOf, gc]
    | a :: r, hl, hd =>
      have da := hd a (by simp)
      have q1 := ec_e (ev_in1 (ρ := some (.tup (a :: r)) :: List.replicate 0 none) (i := 0) (st := st) ⟨run FT GL (k + 4), GL⟩ rfl (idx0 (x := a) (r := r)) (ev_IsNot _) (dt_ok da) ok_IsNot)
      have q2 := ec_e (ev_eq0 (ρ := some (.tup (a :: r)) :: List.replicate 0 none) (i := 0) (st := st) ⟨run FT GL (k + 4), GL⟩ rfl (idx0 (x := a) (r := r)) (dt_ok da) ok_test)
      simp only [List.isEmpty_cons, Bool.false_eq_true, if_false]
      rw [es_if_retE q1]
      cases hi : inL IsNot a with
      | true =>
        simp only [if_true]
        have hq := ev_eqlen (ds := a :: r) (ρ := some (.tup (a :: r)) :: List.replicate 0 none) (st := st) (i := 0) (j := 3) ⟨run FT GL (k + 4), GL⟩ 3 rfl rfl
        rw [ev_and hq]
        match r, hl, hd with
        | [b, c], hl, hd =>
          have db := hd b (by simp)
          have dc := hd c (by simp)
          have wb := dt_wf db st
          have v1 := ev_call1 (k := k + 4) (g := 1) (a := .op2 .idx (.var 0) (.con (.int 1))) (ρ := some (.tup [a, b, c]) :: List.replicate 0 none) (ev_idx _ rfl idx1) (r_is_name (k + 3) b st (wf_plain wb) (wf_sOk wb))
          have v2 := ev_call1 (k := k + 4) (g := 13) (a := .op2 .idx (.var 0) (.con (.int 2))) (ρ := some (.tup [a, b, c]) :: List.replicate 0 none) (ev_idx _ rfl idx2) (r_is_terms k c st dc)
          rw [ev_and v1, v2, if_bl]
          simp [isPart, hi, retOf, gc]
        | [], _, _ => simp [isPart, hi, retOf, gc]
        | [_], _, _ => simp [isPart, hi, retOf, gc]
        | _ :: _ :: _ :: _, _, _ => simp [isPart, hi, retOf, gc]
      | false =>
        simp only [Bool.false_eq_true, if_false]
        rw [es_if_retE q2]
        cases ht : isS a sTest with
        | true =>
          simp only [if_true]
          have hq := ev_eqlen (ds := a :: r) (ρ := some (.tup (a :: r)) :: List.replicate 0 none) (st := st) (i := 0) (j := 4) ⟨run FT GL (k + 4), GL⟩ 4 rfl rfl
          rw [ev_and hq]
          match r, hl, hd with
          | [b, c, e], hl, hd =>
            have db := hd b (by simp)
            have dc := hd c (by simp)
            have de := hd e (by simp)
            have v0 := ev_in1 (ρ := some (.tup [a, b, c, e]) :: List.replicate 0 none) (i := 0) (st := st) ⟨run FT GL (k + 4), GL⟩ rfl (idx1 (x := a) (y := b) (r := [c, e])) (ev_glob (g := 7) (d := .tup TESTS) _ rfl) (dt_ok db) ok_TESTS
            have v1 := ev_call1 (k := k + 4) (g := 12) (a := .op2 .idx (.var 0) (.con (.int 2))) (ρ := some (.tup [a, b, c, e]) :: List.replicate 0 none) (ev_idx _ rfl idx2) (r_is_sum k c st dc)
            have v2 := ev_call1 (k := k + 4) (g := 12) (a := .op2 .idx (.var 0) (.con (.int 3))) (ρ := some (.tup [a, b, c, e]) :: List.replicate 0 none) (ev_idx _ rfl idx3) (r_is_sum k e st de)
            rw [ev_and v0, ev_and v1, v2, if_bl, if_bl]
            simp [isPart, hi, ht, retOf, gc]
          | [], _, _ => simp [isPart, hi, ht, retOf, gc]
          | [_], _, _ => simp [isPart, hi, ht, retOf, gc]
          | [_, _], _, _ => simp [isPart, hi, ht, retOf, gc]
          | _ :: _ :: _ :: _ :: _, _, _ => simp [isPart, hi, ht, retOf, gc]
        | false => simp [isPart, hi, ht, evSs, evS, evE, retOf, gc]
  | _ =>
    have c1 := ec_or (b := .not (.ofE (.var 0))) (ec_not (ec_e e1))
    simp only [isTup, Bool.not_false, if_true] at c1
    rw [es_if_ret c1]
    simp [isPart, retOf, gc]
/-- a rule -/
def isRule : D → Bool
  | .tup [a, .tup hs, .tup ps] => isName a && (decide (hs.length ≤ 8) && decide (ps.length ≤ 12)) && ((hs.all fun x => isTerm x || isGroup x) && ps.all isPart) && decide ((hs.filter isGroup).length ≤ 1)
  | _ => false
/-- shapes that is_rule may be asked about: data, or a triple whose second thing is a list -/
inductive Shp (st : Sto) : D → Prop
  | dt {d : D} : dt d = true → Shp st d
  | lst {a c : D} {n : Nat} {ds : List D} : dt a = true → st[n]? = some (.lst ds) → Shp st (.tup [a, .ref n, c])
theorem r_is_rule (k : Nat) (d : D) (st : Sto) (h : Shp st d) : run FT GL (k + 6) 16 [d] st = .ok (.bl (isRule d)) st := by
  have hF : FT 16 = some ⟨1, 2 + 1, b16⟩ := rfl
  rw [un1 hF]
  simp only [b16]
  cases h with
  | @lst a c n ds da ho =>
    have wa := dt_wf da st
    have e1 : evE ⟨run FT GL (k + 5), GL⟩ (.isi (.var 0) .tuple) (some (.tup [a, .ref n, c]) :: List.replicate 2 none) st = .ok (.bl true) st := by simp [evE, isiD, cmpR]
    have n3 := ev_nelen (ds := [a, .ref n, c]) (ρ := some (.tup [a, .ref n, c]) :: List.replicate 2 none) (st := st) (i := 0) (j := 3) ⟨run FT GL (k + 5), GL⟩ 3 rfl rfl
    have v1 := ev_call1 (k := k + 5) (g := 1) (a := .op2 .idx (.var 0) (.con (.int 0))) (ρ := some (.tup [a, .ref n, c]) :: List.replicate 2 none) (ev_idx _ rfl idx0) (r_is_name (k + 4) a st (wf_plain wa) (wf_sOk wa))
    have i1 : evE ⟨run FT GL (k + 5), GL⟩ (.isi (.op2 .idx (.var 0) (.con (.int 1))) .tuple) (some (.tup [a, .ref n, c]) :: List.replicate 2 none) st = .ok (.bl false) st := by
      have x := ev_idx (ρ := some (.tup [a, .ref n, c]) :: List.replicate 2 none) (i := 0) ⟨run FT GL (k + 5), GL⟩ rfl (idx1 (x := a) (y := .ref n) (r := [c]) (st := st))
      show (evE _ _ _ _).bind _ = _
      rw [x]
      simp [isiD, ho, cmpR]
    have cc : evC ⟨run FT GL (k + 5), GL⟩ (.or (.not (.ofE (.isi (.var 0) .tuple))) (.or (.ofE (.op2 .ne (.op1 .len (.var 0)) (.con (.int 3)))) (.or (.not (.ofE (.call 1 (.cons (.op2 .idx (.var 0) (.con (.int 0))) .nil)))) (.not (.ofE (.isi (.op2 .idx (.var 0) (.con (.int 1))) .tuple)))))) (some (.tup [a, .ref n, c]) :: List.replicate 2 none) st = .ok true st := by
      rw [ec_or (ec_not (ec_e e1)), ec_or (ec_e n3), ec_or (ec_not (ec_e v1)), ec_not (ec_e i1)]
      cases isName a <;> simp
    rw [es_if_ret cc]
    simp [isRule, retOf, gc]
  | dt h =>
    have hw0 := dt_wf h st
    have e1 := ev_isT (ρ := some d :: List.replicate 2 none) (i := 0) ⟨run FT GL (k + 5), GL⟩ rfl hw0
    have bad : ∀ (r : Ss), evC ⟨run FT GL (k + 5), GL⟩ (.or (.not (.ofE (.isi (.var 0) .tuple))) (.or (.ofE (.op2 .ne (.op1 .len (.var 0)) (.con (.int 3)))) (.or (.not (.ofE (.call 1 (.cons (.op2 .idx (.var 0) (.con (.int 0))) .nil)))) (.not (.ofE (.isi (.op2 .idx (.var 0) (.con (.int 1))) .tuple)))))) (some d :: List.replicate 2 none) st = .ok true st → isRule d = false →
        gc st (retOf (evSs ⟨run FT GL (k + 5), GL⟩ (.cons (.ite (.or (.not (.ofE (.isi (.var 0) .tuple))) (.or (.ofE (.op2 .ne (.op1 .len (.var 0)) (.con (.int 3)))) (.or (.not (.ofE (.call 1 (.cons (.op2 .idx (.var 0) (.con (.int 0))) .nil)))) (.not (.ofE (.isi (.op2 .idx (.var 0) (.con (.int 1))) .tuple)))))) (.cons (.ret (.con (.bl false))) .nil) .nil) r) (some d :: List.replicate 2 none) st)) = .ok (.bl (isRule d)) st := fun r h1 h2 => by
      rw [es_if_ret h1, h2]
      simp [retOf, gc]
    cases d with
    | tup ds =>
      obtain ⟨hl, hd⟩ := dt_tup h
      have n3 := ev_nelen (ds := ds) (ρ := some (.tup ds) :: List.replicate 2 none) (st := st) (i := 0) (j := 3) ⟨run FT GL (k + 5), GL⟩ 3 rfl rfl
      have short : ds.length ≠ 3 → evC ⟨run FT GL (k + 5), GL⟩ (.or (.not (.ofE (.isi (.var 0) .tuple))) (.or (.ofE (.op2 .ne (.op1 .len (.var 0)) (.con (.int 3)))) (.or (.not (.ofE (.call 1 (.cons (.op2 .idx (.var 0) (.con (.int 0))) .nil)))) (.not (.ofE (.isi (.op2 .idx (.var 0) (.con (.int 1))) .tuple)))))) (some (.tup ds) :: List.replicate 2 none) st = .ok true st := fun hne => by
        rw [ec_or (ec_not (ec_e e1)), ec_or (ec_e n3)]
        simp [hne]
      match ds, hl, hd, short, bad, n3, e1 with
      | [a, b, c], hl, hd, short, bad, n3, e1 =>
        have da := hd a (by simp)
        have db := hd b (by simp)
        have dc := hd c (by simp)
        have wa := dt_wf da st
        have v1 := ev_call1 (k := k + 5) (g := 1) (a := .op2 .idx (.var 0) (.con (.int 0))) (ρ := some (.tup [a, b, c]) :: List.replicate 2 none) (ev_idx _ rfl idx0) (r_is_name (k + 4) a st (wf_plain wa) (wf_sOk wa))
        have x1 := ev_idx (ρ := some (.tup [a, b, c]) :: List.replicate 2 none) (i := 0) ⟨run FT GL (k + 5), GL⟩ rfl (idx1 (x := a) (y := b) (r := [c]) (st := st))
        have x2 := ev_idx (ρ := some (.tup [a, b, c]) :: List.replicate 2 none) (i := 0) ⟨run FT GL (k + 5), GL⟩ rfl (idx2 (x := a) (y := b) (z := c) (r := []) (st := st))
        have isT : ∀ {e : E} {x : D}, evE ⟨run FT GL (k + 5), GL⟩ e (some (.tup [a, b, c]) :: List.replicate 2 none) st = .ok x st → dt x = true → evE ⟨run FT GL (k + 5), GL⟩ (.isi e .tuple) (some (.tup [a, b, c]) :: List.replicate 2 none) st = .ok (.bl (isTup x)) st := fun {e x} he hx => by
          have := ev_isT (ρ := [some x]) (i := 0) (st := st) ⟨run FT GL (k + 5), GL⟩ rfl (dt_wf hx st)
          simp only [evE, List.getElem?_cons_zero, R.bind_ok] at this
          rw [evE, he]
          exact this
        have t1 := isT x1 db
        have t2 := isT x2 dc
        cases hn : isName a with
        | false =>
          apply bad
          · rw [ec_or (ec_not (ec_e e1)), ec_or (ec_e n3), ec_or (ec_not (ec_e v1))]
            simp [hn]
          · unfold isRule
            split
            · rename_i e; cases e; simp [hn]
            · rfl
        | true =>
          have cc : evC ⟨run FT GL (k + 5), GL⟩ (.or (.not (.ofE (.isi (.var 0) .tuple))) (.or (.ofE (.op2 .ne (.op1 .len (.var 0)) (.con (.int 3)))) (.or (.not (.ofE (.call 1 (.cons (.op2 .idx (.var 0) (.con (.int 0))) .nil)))) (.not (.ofE (.isi (.op2 .idx (.var 0) (.con (.int 1))) .tuple)))))) (some (.tup [a, b, c]) :: List.replicate 2 none) st = .ok (!(isTup b)) st := by
            rw [ec_or (ec_not (ec_e e1)), ec_or (ec_e n3), ec_or (ec_not (ec_e v1)), ec_not (ec_e t1)]
            simp [hn]
          cases b with
          | tup hs =>
            obtain ⟨hls, hds⟩ := dt_tup db
            rw [es_if_ret cc]
            simp only [isTup, Bool.not_true, Bool.false_eq_true, if_false]
            have gt : ∀ {e : E} {xs : List D} {g : Nat} {m : Nat}, evE ⟨run FT GL (k + 5), GL⟩ e (some (.tup [a, .tup hs, c]) :: List.replicate 2 none) st = .ok (.tup xs) st → GL g = some (.int m) → evC ⟨run FT GL (k + 5), GL⟩ (.ofE (.op2 .gt (.op1 .len e) (.glob g))) (some (.tup [a, .tup hs, c]) :: List.replicate 2 none) st = .ok (!decide (xs.length ≤ m)) st := fun {e xs g m} he hg => by
              have e2 : decide ((m : Int) < (xs.length : Int)) = !decide (xs.length ≤ m) := by
                rw [← decide_not]; exact decide_eq_decide.mpr (by omega)
              apply ec_e
              rw [evE, evE, he]
              simp only [R.bind_ok, p1, lenD, Option.map_some, R.opt_some, ev_glob ⟨run FT GL (k + 5), GL⟩ hg, p2, rc_int, D.rcI, cmpR, e2]
            have g1 := gt x1 (show GL 4 = some (.int ((8 : Nat) : Int)) from rfl)
            by_cases hct : ∃ ps, c = .tup ps
            · obtain ⟨ps, rfl⟩ := hct
              obtain ⟨hlp, hdp⟩ := dt_tup dc
              have g2 := gt x2 (show GL 9 = some (.int ((12 : Nat) : Int)) from rfl)
              have cc2 : evC ⟨run FT GL (k + 5), GL⟩ (.or (.ofE (.op2 .gt (.op1 .len (.op2 .idx (.var 0) (.con (.int 1)))) (.glob 4))) (.or (.not (.ofE (.isi (.op2 .idx (.var 0) (.con (.int 2))) .tuple))) (.ofE (.op2 .gt (.op1 .len (.op2 .idx (.var 0) (.con (.int 2)))) (.glob 9))))) (some (.tup [a, .tup hs, .tup ps]) :: List.replicate 2 none) st = .ok (!(decide (hs.length ≤ 8) && decide (ps.length ≤ 12))) st := by
                rw [ec_or g1, ec_or (ec_not (ec_e t2)), g2]
                cases decide (hs.length ≤ 8) <;> simp
              rw [es_if_ret cc2]
              cases hlen : (decide (hs.length ≤ 8) && decide (ps.length ≤ 12)) with
              | false => simp [isRule, hn, hlen, retOf, gc]
              | true =>
                simp only [Bool.not_true, Bool.false_eq_true, if_false]
                have itr : ∀ {j : Int} {xs : List D}, evE ⟨run FT GL (k + 5), GL⟩ (.op2 .idx (.var 0) (.con (.int j))) (some (.tup [a, .tup hs, .tup ps]) :: List.replicate 2 none) st = .ok (.tup xs) st → evIt ⟨run FT GL (k + 5), GL⟩ (.ofE (.op2 .idx (.var 0) (.con (.int j)))) (some (.tup [a, .tup hs, .tup ps]) :: List.replicate 2 none) st = .ok { items := xs } st := fun he => by
                  rw [evIt, he]; rfl
                have a1 := all_gen (C := ⟨run FT GL (k + 5), GL⟩) (ρ := some (.tup [a, .tup hs, .tup ps]) :: List.replicate 2 none) (st := st) (elt := .or (.call 11 (.cons (.var 2) .nil)) (.call 15 (.cons (.var 2) .nil))) (own := [1, 2]) (t := .name 2) (src := .ofE (.op2 .idx (.var 0) (.con (.int 1)))) (s := { items := hs }) (p := fun x => isTerm x || isGroup x)
                  (by simp only [evLk]) (itr x1) rfl (fun x hx => ⟨_, rfl, by
                    have q1 := ev_call1 (k := k + 5) (g := 11) (a := .var 2) (ρ := (wipeE (some (.tup [a, .tup hs, .tup ps]) :: List.replicate 2 none) [1, 2]).set 2 (some x)) (ev_var _ rfl) (r_is_term (k + 2) x st (hds x hx))
                    have q2 := ev_call1 (k := k + 5) (g := 15) (a := .var 2) (ρ := (wipeE (some (.tup [a, .tup hs, .tup ps]) :: List.replicate 2 none) [1, 2]).set 2 (some x)) (ev_var _ rfl) (r_is_group (k + 3) x st (hds x hx))
                    rw [ev_or q1, q2]
                    cases isTerm x <;> rfl⟩) hls
                have a2 := all_gen (C := ⟨run FT GL (k + 5), GL⟩) (ρ := some (.tup [a, .tup hs, .tup ps]) :: List.replicate 2 none) (st := st) (elt := .call 14 (.cons (.var 2) .nil)) (own := [1, 2]) (t := .name 2) (src := .ofE (.op2 .idx (.var 0) (.con (.int 2)))) (s := { items := ps }) (p := isPart)
                  (by simp only [evLk]) (itr x2) rfl (fun x hx => ⟨_, rfl, ev_call1 (ev_var _ rfl) (r_is_part k x st (hdp x hx))⟩) hlp
                have cc3 : evC ⟨run FT GL (k + 5), GL⟩ (.or (.not (.ofE (.fold .all (.lc (.or (.call 11 (.cons (.var 2) .nil)) (.call 15 (.cons (.var 2) .nil))) [1, 2] (.name 2) (.ofE (.op2 .idx (.var 0) (.con (.int 1)))))))) (.not (.ofE (.fold .all (.lc (.call 14 (.cons (.var 2) .nil)) [1, 2] (.name 2) (.ofE (.op2 .idx (.var 0) (.con (.int 2))))))))) (some (.tup [a, .tup hs, .tup ps]) :: List.replicate 2 none) st = .ok (!((hs.all fun x => isTerm x || isGroup x) && ps.all isPart)) st := by
                  rw [ec_or (ec_not (ec_e a1)), ec_not (ec_e a2)]
                  cases (hs.all fun x => isTerm x || isGroup x) <;> simp
                rw [es_if_ret cc3]
                cases hall : ((hs.all fun x => isTerm x || isGroup x) && ps.all isPart) with
                | false => simp [isRule, hn, hlen, hall, retOf, gc]
                | true =>
                  simp only [Bool.not_true, Bool.false_eq_true, if_false]
                  have l1 := lci_gen (C := ⟨run FT GL (k + 5), GL⟩) (ρ := some (.tup [a, .tup hs, .tup ps]) :: List.replicate 2 none) (st := st) (elt := .var 2) (own := [1, 2]) (t := .name 2) (src := .ofE (.op2 .idx (.var 0) (.con (.int 1)))) (s := { items := hs }) (c := .ofE (.call 15 (.cons (.var 2) .nil))) (g := id) (p := isGroup)
                    (by simp only [evLk]) (itr x1) rfl (fun x hx => ⟨_, rfl, ec_e (ev_call1 (ev_var _ rfl) (r_is_group (k + 3) x st (hds x hx))), ev_var _ rfl⟩) hls
                  have fin : evE ⟨run FT GL (k + 5), GL⟩ (.op2 .le (.fold .len (.lci (.var 2) [1, 2] (.name 2) (.ofE (.op2 .idx (.var 0) (.con (.int 1)))) (.ofE (.call 15 (.cons (.var 2) .nil))))) (.con (.int 1))) (some (.tup [a, .tup hs, .tup ps]) :: List.replicate 2 none) st = .ok (.bl (decide ((hs.filter isGroup).length ≤ 1))) st := by
                    have e2 : ∀ n : Nat, decide ((n : Int) ≤ 1) = decide (n ≤ 1) := fun n => decide_eq_decide.mpr (by omega)
                    rw [evE, evE, l1]
                    simp only [R.bind_ok, foldD, ev_con, p2, rc_int, D.rcI, cmpR, List.map_id, e2]
                  rw [es_ret fin, retOf_ret, gc_same]
                  simp only [isRule, hn, hlen, hall, Bool.true_and]
            · have ht : isTup c = false := by
                cases c <;> first | rfl | exact absurd ⟨_, rfl⟩ hct
              have cc2 : evC ⟨run FT GL (k + 5), GL⟩ (.or (.ofE (.op2 .gt (.op1 .len (.op2 .idx (.var 0) (.con (.int 1)))) (.glob 4))) (.or (.not (.ofE (.isi (.op2 .idx (.var 0) (.con (.int 2))) .tuple))) (.ofE (.op2 .gt (.op1 .len (.op2 .idx (.var 0) (.con (.int 2)))) (.glob 9))))) (some (.tup [a, .tup hs, c]) :: List.replicate 2 none) st = .ok true st := by
                rw [ec_or g1, ec_or (ec_not (ec_e t2)), ht]
                cases decide (hs.length ≤ 8) <;> simp
              have hr : isRule (.tup [a, .tup hs, c]) = false := by
                unfold isRule
                split
                · rename_i e; cases e; simp [isTup] at ht
                · rfl
              rw [es_if_ret cc2, hr]
              simp [retOf, gc]
          | _ => exact bad _ cc rfl
      | [], _, _, short, bad, _, _ => exact bad _ (short (by simp)) (by simp [isRule])
      | [_], _, _, short, bad, _, _ => exact bad _ (short (by simp)) (by simp [isRule])
      | [_, _], _, _, short, bad, _, _ => exact bad _ (short (by simp)) (by simp [isRule])
      | _ :: _ :: _ :: _ :: _, _, _, short, bad, _, _ => exact bad _ (short (by simp)) (by simp [isRule])
    | _ =>
      apply bad
      · rw [ec_or (ec_not (ec_e e1))]
        simp
      · rfl
end K00

set_option Elab.async false
set_option linter.all false
set_option maxRecDepth 100000
set_option maxHeartbeats 4000000
namespace K00
open MP
/-! ### the box of drawn numbers -/
def Bx (st : Sto) (ds : List Int) (a : Nat) : Prop := st[0]? = some (.lst (ds.map D.int)) ∧ st[1]? = some (.lst [.ref 0, .int a])
/-- only the box has changed, and what is new has come behind -/
def Dr (st st' : Sto) : Prop := st.length ≤ st'.length ∧ ∀ i, i ≠ 1 → i < st.length → st'[i]? = st[i]?
theorem Dr.refl (st : Sto) : Dr st st := ⟨Nat.le_refl _, fun _ _ _ => rfl⟩
theorem Dr.trans {a b c : Sto} (h : Dr a b) (g : Dr b c) : Dr a c := ⟨Nat.le_trans h.1 g.1, fun i hi hl => (g.2 i hi (Nat.lt_of_lt_of_le hl h.1)).trans (h.2 i hi hl)⟩
theorem Dr.app (st : Sto) (o : Ob) : Dr st (st ++ [o]) := ⟨by simp, fun i _ hl => by rw [List.getElem?_append_left hl]⟩
theorem Dr.at {st st' : Sto} (h : Dr st st') {i : Nat} {o : Ob} (hi : i ≠ 1) (e : st[i]? = some o) : st'[i]? = some o := (h.2 i hi (List.getElem?_eq_some_iff.mp e).1).trans e
theorem Bx.app {st : Sto} {ds : List Int} {a : Nat} (h : Bx st ds a) (o : Ob) : Bx (st ++ [o]) ds a := by
  obtain ⟨h1, h2⟩ := h
  exact ⟨by rw [List.getElem?_append_left (List.getElem?_eq_some_iff.mp h1).1]; exact h1, by rw [List.getElem?_append_left (List.getElem?_eq_some_iff.mp h2).1]; exact h2⟩
theorem gc_draw {st st' : Sto} {ds : List Int} {a a' : Nat} (h : Bx st ds a) (h' : Bx st' ds a') (hne : a < a') (d : D) : gc st (.ok d st') = .ok d st' := by
  simp only [gc]
  rw [if_neg]
  rintro ⟨_, e⟩
  have hl := (List.getElem?_eq_some_iff.mp h.2).1
  have e1 : (st'.take st.length)[1]? = some (.lst [.ref 0, .int a]) := by rw [e]; exact h.2
  rw [List.getElem?_take_of_lt hl, h'.2] at e1
  injection e1 with e1
  injection e1 with e1
  injection e1 with _ e1
  injection e1 with e1
  injection e1 with e1
  omega
theorem atI_nat {α : Type} {xs : List α} {j : Int} {x : α} (h0 : 0 ≤ j) (h : xs[j.toNat]? = some x) : L2.atI xs j = some x := by
  have hl := (List.getElem?_eq_some_iff.mp h).1
  simp only [L2.atI, L2.ixN]
  rw [if_pos h0, if_pos (by omega)]
  exact h
theorem un2 {k g n : Nat} {b : Ss} {d e : D} {st : Sto} (hF : FT g = some ⟨2, n + 2, b⟩) : run FT GL (k + 1) g [d, e] st = gc st (retOf (evSs ⟨run FT GL k, GL⟩ b (some d :: some e :: List.replicate n none) st)) := by
  simp [run, hF]
theorem mul_small {i j : Int} {st : Sto} (h1 : -10000000000000 < i) (h2 : i < 10000000000000) : mulD (.int i) (.int j) st = .ok (.int (i * j)) st := by
  have e : mulOk i j = true := by
    simp only [mulOk, Bool.or_eq_true, Bool.and_eq_true, decide_eq_true_eq]
    left
    constructor
    · omega
    · omega
  simp only [mulD, e, if_true]
theorem sq_small {a : Nat} (ha : a ≤ 1000000) : (a : Int) * a ≤ 1000000000000 := by
  have h : a * a ≤ 1000000 * 1000000 := Nat.mul_le_mul ha ha
  have e : ((a * a : Nat) : Int) = (a : Int) * a := Int.natCast_mul a a
  rw [← e]
  omega
theorem fdiv_of {i j : Int} {n : Nat} {st : Sto} (hj : j.natAbs = n) (h0 : j ≠ 0) (hn : n < 1073741824) : MP.p2 .fdiv (.int i) (.int j) st = .ok (.int (i.fdiv j)) st := by
  subst hj
  exact if_pos ⟨h0, hn⟩
theorem ev_op2 {C : Ctx} {o : Op2} {x y : E} {ρ : MP.Env} {st st' st'' : Sto} {d e : D} {r : R D} (h1 : evE C x ρ st = .ok d st') (h2 : evE C y ρ st' = .ok e st'') (h : MP.p2 o d e st'' = r) : evE C (.op2 o x y) ρ st = r := by
  rw [evE, h1]
  simp only [R.bind_ok]
  rw [h2]
  exact h
theorem draw_tail (C : Ctx) (a : Nat) (ha : a ≤ 1000000) (m : Int) (hm0 : m ≠ 0) (ρ : MP.Env) (st : Sto) (h1 : ρ[1]? = some (some (.int m))) (h3 : ρ[3]? = some (some (.int a))) :
    evE C (.op2 .mod (.op2 .add (.op2 .add (.op2 .add (.op2 .mul (.op2 .mul (.var 3) (.var 3)) (.con (.int 3))) (.op2 .mul (.var 3) (.con (.int 4)))) (.op2 .fdiv (.var 3) (.con (.int 3)))) (.con (.int 1))) (.var 1)) ρ st = .ok (.int (((a : Int) * a * 3 + a * 4 + Int.fdiv a 3 + 1).fmod m)) st := by
  have q1 := sq_small ha
  have q0 : (0 : Int) ≤ (a : Int) * a := Int.mul_nonneg (by omega) (by omega)
  have m1 : mulD (.int (a : Int)) (.int (a : Int)) st = .ok (.int ((a : Int) * a)) st := mul_small (by omega) (by omega)
  have m2 : mulD (.int ((a : Int) * a)) (.int 3) st = .ok (.int ((a : Int) * a * 3)) st := mul_small (by omega) (by omega)
  have m3 : mulD (.int (a : Int)) (.int 4) st = .ok (.int ((a : Int) * 4)) st := mul_small (by omega) (by omega)
  have m4 : MP.p2 .fdiv (.int (a : Int)) (.int 3) st = .ok (.int (Int.fdiv a 3)) st := fdiv_of (n := 3) rfl (by decide) (by decide)
  have v3 : evE C (.var 3) ρ st = .ok (.int (a : Int)) st := ev_var C h3
  have v1 : evE C (.var 1) ρ st = .ok (.int m) st := ev_var C h1
  have c : ∀ i : Int, evE C (.con (.int i)) ρ st = .ok (.int i) st := fun i => ev_con C _ ρ st
  have t1 := ev_op2 v3 v3 (o := .mul) m1
  have t2 := ev_op2 t1 (c 3) (o := .mul) m2
  have t3 := ev_op2 v3 (c 4) (o := .mul) m3
  have t4 := ev_op2 t2 t3 (o := .add) rfl
  have t5 := ev_op2 v3 (c 3) (o := .fdiv) m4
  have t6 := ev_op2 t4 t5 (o := .add) rfl
  have t7 := ev_op2 t6 (c 1) (o := .add) rfl
  exact ev_op2 t7 v1 (o := .mod) (if_pos hm0)
theorem r_draw (k : Nat) {st : Sto} {ds : List Int} {a : Nat} (hb : Bx st ds a) (ha : a ≤ 1000000) {m : Int} (hm : 0 < m) :
    ∃ (r : Int) (st' : Sto), run FT GL (k + 1) 20 [.ref 1, .int m] st = .ok (.int r) st' ∧ 0 ≤ r ∧ r < m ∧ Dr st st' ∧ Bx st' ds (a + 1) := by
  have hF : FT 20 = some ⟨2, 2 + 2, b20⟩ := rfl
  rw [un2 hF]
  obtain ⟨h0, h1⟩ := hb
  have hl1 := (List.getElem?_eq_some_iff.mp h1).1
  have hm0 : m ≠ 0 := by omega
  generalize hst : st.set 1 (.lst [.ref 0, .int ((a : Int) + 1)]) = st1
  have s0 : st1[0]? = some (.lst (ds.map D.int)) := by rw [← hst, List.getElem?_set_ne (by decide)]; exact h0
  have s1 : st1[1]? = some (.lst [.ref 0, .int ((a : Int) + 1)]) := by rw [← hst, List.getElem?_set_self hl1]
  have bx1 : Bx st1 ds (a + 1) := ⟨s0, by rw [s1]; simp⟩
  have dr1 : Dr st st1 := ⟨by rw [← hst]; simp, fun i hi _ => by rw [← hst, List.getElem?_set_ne (Ne.symm hi)]⟩
  have p1 : evS ⟨run FT GL k, GL⟩ (.asg (.tup [2, 3]) (.var 0)) (some (.ref 1) :: some (.int m) :: List.replicate 2 none) st = .ok (.next, [some (.ref 1), some (.int m), some (.ref 0), some (.int a)]) st := by
    simp [evS, evE, asgT, seqOf, h1, setAll]
  have p2 : evS ⟨run FT GL k, GL⟩ (.setIx (.var 0) (.con (.int 1)) (.op2 .add (.var 3) (.con (.int 1)))) [some (.ref 1), some (.int m), some (.ref 0), some (.int a)] st = .ok (.next, [some (.ref 1), some (.int m), some (.ref 0), some (.int a)]) st1 := by
    simp [evS, evE, MP.p2, addD, setIxD, h1, L2.ixN, hst]
  have c1 : evC ⟨run FT GL k, GL⟩ (.ofE (.op2 .lt (.var 3) (.op1 .len (.var 2)))) [some (.ref 1), some (.int m), some (.ref 0), some (.int a)] st1 = .ok (decide (a < ds.length)) st1 := by
    apply ec_e
    have e2 : decide ((a : Int) < (ds.length : Int)) = decide (a < ds.length) := decide_eq_decide.mpr (by omega)
    simp [evE, MP.p2, MP.p1, lenD, s0, rc_int, D.rcI, cmpR, e2]
  have fin : ∀ {i : Int}, (∀ q, evSs ⟨run FT GL k, GL⟩ b20 (some (.ref 1) :: some (.int m) :: List.replicate 2 none) st = q → q = .ok (.ret (.int (i.fmod m)), [some (.ref 1), some (.int m), some (.ref 0), some (.int a)]) st1) →
      ∃ (r : Int) (st' : Sto), gc st (retOf (evSs ⟨run FT GL k, GL⟩ b20 (some (.ref 1) :: some (.int m) :: List.replicate 2 none) st)) = .ok (.int r) st' ∧ 0 ≤ r ∧ r < m ∧ Dr st st' ∧ Bx st' ds (a + 1) := fun {i} h => by
    refine ⟨i.fmod m, st1, ?_, Int.fmod_nonneg_of_pos _ hm, Int.fmod_lt_of_pos _ hm, dr1, bx1⟩
    rw [h _ rfl, retOf_ret]
    exact gc_draw ⟨h0, h1⟩ bx1 (by omega) _
  have start : evSs ⟨run FT GL k, GL⟩ b20 (some (.ref 1) :: some (.int m) :: List.replicate 2 none) st = if decide (a < ds.length) = true then (evE ⟨run FT GL k, GL⟩ (.op2 .mod (.op2 .idx (.var 2) (.var 3)) (.var 1)) [some (.ref 1), some (.int m), some (.ref 0), some (.int a)] st1).bind fun x st => .ok (.ret x, [some (.ref 1), some (.int m), some (.ref 0), some (.int a)]) st
      else evSs ⟨run FT GL k, GL⟩ (.cons (.ret (.op2 .mod (.op2 .add (.op2 .add (.op2 .add (.op2 .mul (.op2 .mul (.var 3) (.var 3)) (.con (.int 3))) (.op2 .mul (.var 3) (.con (.int 4)))) (.op2 .fdiv (.var 3) (.con (.int 3)))) (.con (.int 1))) (.var 1))) .nil) [some (.ref 1), some (.int m), some (.ref 0), some (.int a)] st1 := by
    show evSs _ (.cons (.asg (.tup [2, 3]) (.var 0)) (.cons (.setIx (.var 0) (.con (.int 1)) (.op2 .add (.var 3) (.con (.int 1)))) _)) _ _ = _
    rw [evSs, p1]
    simp only [R.bind_ok]
    rw [evSs, p2]
    simp only [R.bind_ok]
    exact es_if_retE c1
  by_cases hlt : a < ds.length
  · have hg : (ds.map D.int)[((a : Int)).toNat]? = some (.int ds[a]) := by simp [hlt]
    refine fin (i := ds[a]) fun q hq => ?_
    rw [← hq, start]
    simp only [hlt, decide_true, if_true]
    have ix : evE ⟨run FT GL k, GL⟩ (.op2 .idx (.var 2) (.var 3)) [some (.ref 1), some (.int m), some (.ref 0), some (.int a)] st1 = .ok (.int ds[a]) st1 := by
      simp [evE, MP.p2, idxD, s0, atI_nat (by omega) hg]
    rw [evE, ix]
    simp [evE, MP.p2, hm0]
  · refine fin (i := (a : Int) * a * 3 + a * 4 + Int.fdiv a 3 + 1) fun q hq => ?_
    rw [← hq, start]
    simp only [hlt, decide_false, Bool.false_eq_true, if_false]
    exact es_ret (draw_tail _ a ha m hm0 _ _ rfl rfl)
end K00

set_option Elab.async false
set_option linter.all false
set_option maxRecDepth 100000
set_option maxHeartbeats 4000000
namespace K00
open MP
theorem r_pick (k : Nat) {st : Sto} {ds : List Int} {a : Nat} (hb : Bx st ds a) (ha : a ≤ 1000000) {n : Nat} {xs : List D} (hn : n ≠ 1) (hx : st[n]? = some (.lst xs)) (hne : xs ≠ []) :
    ∃ (x : D) (st' : Sto), run FT GL (k + 2) 21 [.ref 1, .ref n] st = .ok x st' ∧ x ∈ xs ∧ Dr st st' ∧ Bx st' ds (a + 1) := by
  have hF : FT 21 = some ⟨2, 0 + 2, b21⟩ := rfl
  rw [un2 hF]
  have hpos : (0 : Int) < (xs.length : Int) := by
    have := List.length_pos_iff.mpr hne
    omega
  obtain ⟨r, st', e1, r0, r1, dr, bx⟩ := r_draw k hb ha hpos
  have hlt : r.toNat < xs.length := by omega
  have hg : xs[r.toNat]? = some xs[r.toNat] := by simp [hlt]
  have len : evE ⟨run FT GL (k + 1), GL⟩ (.op1 .len (.var 1)) (some (.ref 1) :: some (.ref n) :: List.replicate 0 none) st = .ok (.int (xs.length : Int)) st := by
    simp [evE, p1, lenD, hx]
  have call : evE ⟨run FT GL (k + 1), GL⟩ (.call 20 (.cons (.var 0) (.cons (.op1 .len (.var 1)) .nil))) (some (.ref 1) :: some (.ref n) :: List.replicate 0 none) st = .ok (.int r) st' := by
    rw [evE, evEs, ev_var _ (by rfl)]
    simp only [R.bind_ok]
    rw [evEs, len]
    simp only [R.bind_ok, evEs]
    exact e1
  have ix : evE ⟨run FT GL (k + 1), GL⟩ (.op2 .idx (.var 1) (.call 20 (.cons (.var 0) (.cons (.op1 .len (.var 1)) .nil)))) (some (.ref 1) :: some (.ref n) :: List.replicate 0 none) st = .ok xs[r.toNat] st' := by
    refine ev_op2 (ev_var _ rfl) call ?_
    show R.opt (idxD (.ref n) (.int r) st') st' = _
    simp [idxD, dr.at hn hx, atI_nat r0 hg]
  refine ⟨xs[r.toNat], st', ?_, List.getElem_mem hlt, dr, bx⟩
  simp only [b21]
  rw [es_ret ix, retOf_ret]
  exact gc_draw hb bx (by omega) _
/-- what _law_any draws from -/
def anyL : List D := [.int 0, .int (-3), .int 7, .int 12, .str (PySem.Str.ofString "a"), .str (PySem.Str.ofString "b"), .str (PySem.Str.ofString "ab"), .str (PySem.Str.ofString "a_1"), .str (PySem.Str.ofString "zZ"), .int 1000000000000, .int (-1000000000000)]
theorem ev_pow12 (C : Ctx) (ρ : MP.Env) (st : Sto) : evE C (.op2 .pow (.con (.int 10)) (.con (.int 12))) ρ st = .ok (.int 1000000000000) st := by
  refine ev_op2 (ev_con C _ ρ st) (ev_con C _ ρ st) ?_
  have h : (0 : Int) ≤ 12 ∧ (12 : Int) ≤ 1000000 ∧ (10 : Int).natAbs < 2 ^ 64 := by decide +kernel
  show (if (0 : Int) ≤ 12 ∧ (12 : Int) ≤ 1000000 ∧ (10 : Int).natAbs < 2 ^ 64 then R.ok (D.int (10 ^ (12 : Int).toNat)) st else .bad) = _
  rw [if_pos h]
  rfl
theorem ev_neg {C : Ctx} {ρ : MP.Env} {st : Sto} {e : E} {i : Int} (h : evE C e ρ st = .ok (.int i) st) : evE C (.op1 .neg e) ρ st = .ok (.int (-i)) st := by
  rw [evE, h]
  rfl
theorem es_cons {C : Ctx} {ρ : MP.Env} {st st' st'' : Sto} {e : E} {r : Es} {d : D} {ds : List D} (h : evE C e ρ st = .ok d st') (h2 : evEs C r ρ st' = .ok ds st'') : evEs C (.cons e r) ρ st = .ok (d :: ds) st'' := by
  rw [evEs, h]
  simp only [R.bind_ok]
  rw [h2]
  rfl
theorem es_nil {C : Ctx} {ρ : MP.Env} {st : Sto} : evEs C .nil ρ st = .ok [] st := by rw [evEs]
theorem ev_list {C : Ctx} {ρ : MP.Env} {st st' : Sto} {es : Es} {ds : List D} (h : evEs C es ρ st = .ok ds st') (hl : ds.length ≤ LINE) : evE C (.ofQ (.disp es)) ρ st = .ok (.ref st'.length) (st' ++ [.lst ds]) := by
  rw [evE, evQ, h]
  simp only [R.bind_ok, if_pos hl, alloc]
theorem ev_tup {C : Ctx} {ρ : MP.Env} {st st' : Sto} {es : Es} {ds : List D} (h : evEs C es ρ st = .ok ds st') (hl : ds.length ≤ LINE) : evE C (.tup es) ρ st = .ok (.tup ds) st' := by
  rw [evE, h]
  simp only [R.bind_ok, newTup, if_pos hl]
theorem len_le {ds : List D} (h : ds.length ≤ 1000) : ds.length ≤ LINE := by unfold LINE; omega
/-- picking from a list that is written there -/
theorem pick_new (k : Nat) {st : Sto} {ds : List Int} {a : Nat} (hb : Bx st ds a) (ha : a ≤ 1000000) {ρ : MP.Env} {es : Es} {xs : List D} (h0 : ρ[0]? = some (some (.ref 1))) (he : evEs ⟨run FT GL (k + 2), GL⟩ es ρ st = .ok xs st) (hl : xs.length ≤ 1000) (hne : xs ≠ []) :
    ∃ (x : D) (st' : Sto), evE ⟨run FT GL (k + 2), GL⟩ (.call 21 (.cons (.var 0) (.cons (.ofQ (.disp es)) .nil))) ρ st = .ok x st' ∧ x ∈ xs ∧ Dr st st' ∧ Bx st' ds (a + 1) := by
  have hn : st.length ≠ 1 := by
    have := (List.getElem?_eq_some_iff.mp hb.2).1
    omega
  obtain ⟨x, st', e1, m, dr, bx⟩ := r_pick k (hb.app (.lst xs)) ha hn (by simp) hne
  refine ⟨x, st', ?_, m, (Dr.app st _).trans dr, bx⟩
  rw [evE, es_cons (ev_var _ h0) (es_cons (ev_list he (len_le hl)) es_nil)]
  simp only [R.bind_ok]
  exact e1
theorem r_any (k : Nat) {st : Sto} {ds : List Int} {a : Nat} (hb : Bx st ds a) (ha : a ≤ 1000000) : ∃ (x : D) (st' : Sto), run FT GL (k + 3) 27 [.ref 1] st = .ok x st' ∧ x ∈ anyL ∧ Dr st st' ∧ Bx st' ds (a + 1) := by
  have hF : FT 27 = some ⟨1, 0 + 1, b27⟩ := rfl
  rw [un1 hF]
  have c : ∀ d : D, evE ⟨run FT GL (k + 2), GL⟩ (.con d) (some (.ref 1) :: List.replicate 0 none) st = .ok d st := fun d => ev_con _ _ _ _
  have p := ev_pow12 ⟨run FT GL (k + 2), GL⟩ (some (.ref 1) :: List.replicate 0 none) st
  have he := es_cons (c (.int 0)) (es_cons (ev_neg (c (.int 3))) (es_cons (c (.int 7)) (es_cons (c (.int 12)) (es_cons (c (.str (PySem.Str.ofString "a"))) (es_cons (c (.str (PySem.Str.ofString "b"))) (es_cons (c (.str (PySem.Str.ofString "ab"))) (es_cons (c (.str (PySem.Str.ofString "a_1"))) (es_cons (c (.str (PySem.Str.ofString "zZ"))) (es_cons p (es_cons (ev_neg p) es_nil))))))))))
  obtain ⟨x, st', e1, m, dr, bx⟩ := pick_new k hb ha (xs := anyL) rfl he (by decide) (by simp [anyL])
  refine ⟨x, st', ?_, m, dr, bx⟩
  simp only [b27]
  rw [es_ret e1, retOf_ret]
  exact gc_draw hb bx (by omega) _
end K00

set_option Elab.async false
set_option linter.all false
set_option maxRecDepth 100000
set_option maxHeartbeats 4000000
namespace K00
open MP
def letL : List D := [.str (PySem.Str.ofString "X"), .str (PySem.Str.ofString "Y"), .str (PySem.Str.ofString "Z")]
def opL : List D := [.str (PySem.Str.ofString "plus"), .str (PySem.Str.ofString "minus"), .str (PySem.Str.ofString "times")]
/-- the sums that are drawn -/
inductive Tree : Nat → D → Prop
  | var {n : Nat} {x : D} : x ∈ letL → Tree n (.tup [.str (PySem.Str.ofString "var"), x])
  | val {n : Nat} {x : D} : x ∈ anyL → Tree n (.tup [.str (PySem.Str.ofString "value"), x])
  | op {n : Nat} {o x y : D} : o ∈ opL → Tree n x → Tree n y → Tree (n + 1) (.tup [o, x, y])
def draws : Nat → Nat
  | 0 => 3
  | n + 1 => 3 + draws n + draws n
theorem ev_call_draw {k : Nat} {st : Sto} {ρ : MP.Env} {ds : List Int} {a : Nat} (hb : Bx st ds a) (ha : a ≤ 1000000) {m : Int} (hm : 0 < m) (h0 : ρ[0]? = some (some (.ref 1))) :
    ∃ (r : Int) (st' : Sto), evE ⟨run FT GL (k + 1), GL⟩ (.call 20 (.cons (.var 0) (.cons (.con (.int m)) .nil))) ρ st = .ok (.int r) st' ∧ 0 ≤ r ∧ r < m ∧ Dr st st' ∧ Bx st' ds (a + 1) := by
  obtain ⟨r, st', e1, r0, r1, dr, bx⟩ := r_draw k hb ha hm
  refine ⟨r, st', ?_, r0, r1, dr, bx⟩
  rw [evE, es_cons (ev_var _ h0) (es_cons (ev_con _ _ _ _) es_nil)]
  simp only [R.bind_ok]
  exact e1
theorem ec_eq {C : Ctx} {ρ : MP.Env} {st st' : Sto} {e : E} {i j : Int} (h : evE C e ρ st = .ok (.int i) st') : evC C (.ofE (.op2 .eq e (.con (.int j)))) ρ st = .ok (decide (i = j)) st' := by
  apply ec_e
  refine ev_op2 h (ev_con C _ ρ st') ?_
  show cmpR (eqD (.int i) (.int j) st') st' = _
  rw [eq_int]
  rfl
theorem r_leaf (k' n : Nat) {ds : List Int} {st1 : Sto} {a1 : Nat} (hb1 : Bx st1 ds a1) (ha1 : a1 + 2 ≤ 1000000) : ∃ (x : D) (st' : Sto), evE ⟨run FT GL (k' + 4), GL⟩ (.ite (.ofE (.op2 .eq (.call 20 (.cons (.var 0) (.cons (.con (.int 2)) .nil))) (.con (.int 0)))) (.tup (.cons (.con (.str (PySem.Str.ofString "var"))) (.cons (.call 21 (.cons (.var 0) (.cons (.ofQ (.disp (.cons (.con (.str (PySem.Str.ofString "X"))) (.cons (.con (.str (PySem.Str.ofString "Y"))) (.cons (.con (.str (PySem.Str.ofString "Z"))) .nil))))) .nil))) .nil))) (.tup (.cons (.con (.str (PySem.Str.ofString "value"))) (.cons (.call 27 (.cons (.var 0) .nil)) .nil)))) (some (.ref 1) :: some (.int (n : Int)) :: List.replicate 0 none) st1 = .ok x st' ∧ Tree n x ∧ Dr st1 st' ∧ Bx st' ds (a1 + 2) := by
  have v0 : (some (.ref 1) :: some (.int (n : Int)) :: List.replicate 0 none : MP.Env)[0]? = some (some (.ref 1)) := rfl
  obtain ⟨r, st2, e1, _, _, dr1, hb2⟩ := ev_call_draw (k := k' + 3) hb1 (by omega) (m := 2) (by decide) v0
  have ce := ec_eq (j := 0) e1
  by_cases hr : r = 0
  · have c : ∀ d : D, evE ⟨run FT GL (k' + 4), GL⟩ (.con d) (some (.ref 1) :: some (.int (n : Int)) :: List.replicate 0 none) st2 = .ok d st2 := fun d => ev_con _ _ _ _
    obtain ⟨x, st3, e2, m, dr2, hb3⟩ := pick_new (k' + 2) hb2 (by omega) (xs := letL) v0 (es_cons (c _) (es_cons (c _) (es_cons (c _) es_nil))) (by decide) (by simp [letL])
    refine ⟨_, st3, ?_, .var m, dr1.trans dr2, hb3⟩
    rw [evE, ce]
    simp only [R.bind_ok, hr, decide_true, if_true]
    exact ev_tup (es_cons (ev_con _ _ _ _) (es_cons e2 es_nil)) (len_le (by simp))
  · obtain ⟨x, st3, e2, m, dr2, hb3⟩ := r_any (k' + 1) hb2 (by omega)
    refine ⟨_, st3, ?_, .val m, dr1.trans dr2, hb3⟩
    rw [evE, ce]
    simp only [R.bind_ok, hr, decide_false, Bool.false_eq_true, if_false]
    refine ev_tup (es_cons (ev_con _ _ _ _) (es_cons ?_ es_nil)) (len_le (by simp))
    rw [evE, es_cons (ev_var _ v0) es_nil]
    exact e2
theorem r_sum (k n : Nat) : ∀ {st : Sto} {ds : List Int} {a : Nat}, Bx st ds a → a + draws n ≤ 1000000 → ∃ (x : D) (st' : Sto) (a' : Nat), run FT GL (k + 5 + n) 28 [.ref 1, .int n] st = .ok x st' ∧ Tree n x ∧ Dr st st' ∧ Bx st' ds a' ∧ a < a' ∧ a' ≤ a + draws n := by
  induction n with
  | zero =>
    intro st ds a hb ha
    have hF : FT 28 = some ⟨2, 0 + 2, b28⟩ := rfl
    have hk : ∃ k', k + 5 + 0 = k' + 5 := ⟨k + 0, by omega⟩
    obtain ⟨k', hk'⟩ := hk
    rw [hk', un2 (k := k' + 4) hF]
    have d0 : 3 ≤ draws 0 := by simp only [draws] <;> omega
    have v0 : (some (.ref 1) :: some (.int ((0 : Nat) : Int)) :: List.replicate 0 none : MP.Env)[0]? = some (some (.ref 1)) := rfl
    have v1 : evE ⟨run FT GL (k' + 4), GL⟩ (.var 1) (some (.ref 1) :: some (.int ((0 : Nat) : Int)) :: List.replicate 0 none) st = .ok (.int ((0 : Nat) : Int)) st := ev_var _ rfl
    have c0 := ec_eq (j := 0) v1
    have cc : evC ⟨run FT GL (k' + 4), GL⟩ (.or (.ofE (.op2 .eq (.var 1) (.con (.int 0)))) (.ofE (.op2 .eq (.call 20 (.cons (.var 0) (.cons (.con (.int 3)) .nil))) (.con (.int 0))))) (some (.ref 1) :: some (.int ((0 : Nat) : Int)) :: List.replicate 0 none) st = .ok true st := by
      rw [ec_or c0]
      simp
    obtain ⟨x, st', e1, tr, dr, bx⟩ := r_leaf k' 0 hb (by omega)
    refine ⟨x, st', a + 2, ?_, tr, dr, bx, by omega, by omega⟩
    simp only [b28]
    rw [es_if_retE cc]
    simp only [if_true, e1, R.bind_ok, retOf_ret]
    exact gc_draw hb bx (by omega) _
  | succ n ih =>
    intro st ds a hb ha
    have hF : FT 28 = some ⟨2, 0 + 2, b28⟩ := rfl
    have hk : ∃ k', k + 5 + (n + 1) = k' + 5 := ⟨k + (n + 1), by omega⟩
    obtain ⟨k', hk'⟩ := hk
    rw [hk', un2 (k := k' + 4) hF]
    have d0 : 3 ≤ draws (n + 1) := by simp only [draws] <;> omega
    have v0 : (some (.ref 1) :: some (.int (((n + 1) : Nat) : Int)) :: List.replicate 0 none : MP.Env)[0]? = some (some (.ref 1)) := rfl
    have v1 : evE ⟨run FT GL (k' + 4), GL⟩ (.var 1) (some (.ref 1) :: some (.int (((n + 1) : Nat) : Int)) :: List.replicate 0 none) st = .ok (.int (((n + 1) : Nat) : Int)) st := ev_var _ rfl
    have c0 := ec_eq (j := 0) v1
    obtain ⟨r, st1, e1, _, _, dr1, hb1⟩ := ev_call_draw (k := k' + 3) hb (by omega) (m := 3) (by decide) v0
    have ce := ec_eq (j := 0) e1
    have cc : evC ⟨run FT GL (k' + 4), GL⟩ (.or (.ofE (.op2 .eq (.var 1) (.con (.int 0)))) (.ofE (.op2 .eq (.call 20 (.cons (.var 0) (.cons (.con (.int 3)) .nil))) (.con (.int 0))))) (some (.ref 1) :: some (.int ((n + 1 : Nat) : Int)) :: List.replicate 0 none) st = .ok (decide (r = 0)) st1 := by
      rw [ec_or c0, ce]
      exact if_neg (by rw [decide_eq_true_eq]; omega)
    by_cases hr : r = 0
    · obtain ⟨x, st', e2, tr, dr, bx⟩ := r_leaf k' (n + 1) hb1 (by omega)
      refine ⟨x, st', a + 1 + 2, ?_, tr, dr1.trans dr, bx, by omega, by omega⟩
      simp only [b28]
      rw [es_if_retE cc]
      simp only [hr, decide_true, if_true, e2, R.bind_ok, retOf_ret]
      exact gc_draw hb bx (by omega) _
    · have hd : draws (n + 1) = 3 + draws n + draws n := rfl
      have c : ∀ d : D, evE ⟨run FT GL (k' + 4), GL⟩ (.con d) (some (.ref 1) :: some (.int ((n + 1 : Nat) : Int)) :: List.replicate 0 none) st1 = .ok d st1 := fun d => ev_con _ _ _ _
      obtain ⟨o, st2, e2, mo, dr2, hb2⟩ := pick_new (k' + 2) hb1 (by omega) (xs := opL) v0 (es_cons (c _) (es_cons (c _) (es_cons (c _) es_nil))) (by decide) (by simp [opL])
      have again : ∀ {st3 : Sto} {a3 : Nat}, Bx st3 ds a3 → a3 + draws n ≤ 1000000 → ∃ (x : D) (st' : Sto) (a' : Nat), evE ⟨run FT GL (k' + 4), GL⟩ (.call 28 (.cons (.var 0) (.cons (.op2 .sub (.var 1) (.con (.int 1))) .nil))) (some (.ref 1) :: some (.int ((n + 1 : Nat) : Int)) :: List.replicate 0 none) st3 = .ok x st' ∧ Tree n x ∧ Dr st3 st' ∧ Bx st' ds a' ∧ a3 < a' ∧ a' ≤ a3 + draws n := by
        intro st3 a3 hb3 ha3
        obtain ⟨x, st', a', e, tr, dr, bx, l1, l2⟩ := ih hb3 ha3
        refine ⟨x, st', a', ?_, tr, dr, bx, l1, l2⟩
        have sb : evE ⟨run FT GL (k' + 4), GL⟩ (.op2 .sub (.var 1) (.con (.int 1))) (some (.ref 1) :: some (.int ((n + 1 : Nat) : Int)) :: List.replicate 0 none) st3 = .ok (.int (n : Int)) st3 := by
          refine ev_op2 (ev_var _ rfl) (ev_con _ _ _ _) ?_
          show R.ok (D.int (((n + 1 : Nat) : Int) - 1)) st3 = _
          congr 2
          omega
        rw [evE, es_cons (ev_var _ v0) (es_cons sb es_nil)]
        simp only [R.bind_ok]
        have ek : k' + 4 = k + 5 + n := by omega
        rw [ek]
        exact e
      obtain ⟨x, st3, a3, e3, tx, dr3, hb3, l1, l2⟩ := again hb2 (by omega)
      obtain ⟨y, st4, a4, e4, ty, dr4, hb4, l3, l4⟩ := again hb3 (by omega)
      refine ⟨.tup [o, x, y], st4, a4, ?_, .op mo tx ty, dr1.trans (dr2.trans (dr3.trans dr4)), hb4, by omega, by omega⟩
      simp only [b28]
      rw [es_if_retE cc]
      simp only [hr, decide_false, Bool.false_eq_true, if_false]
      rw [es_ret (ev_tup (es_cons e2 (es_cons e3 (es_cons e4 es_nil))) (len_le (by simp))), retOf_ret]
      exact gc_draw hb hb4 (by omega) _
end K00

set_option Elab.async false
set_option linter.all false
set_option maxRecDepth 100000
set_option maxHeartbeats 4000000
namespace K00
open MP
/-- a loop that always goes on -/
theorem forL_inv {f : D → MP.Env → Sto → R (Fl × MP.Env)} {same : Sto → Bool} (P : MP.Env → Sto → Prop) (hs : ∀ st, same st = true) : ∀ (xs : List D) (ρ : MP.Env) (st : Sto), (∀ x ∈ xs, ∀ ρ st, P ρ st → ∃ ρ' st', f x ρ st = .ok (.next, ρ') st' ∧ P ρ' st') → P ρ st →
    ∃ ρ' st', forL f same xs ρ st = .ok (.next, ρ') st' ∧ P ρ' st'
  | [], ρ, st, _, h => ⟨ρ, st, by simp [forL, hs], h⟩
  | x :: xs, ρ, st, hf, h => by
    obtain ⟨ρ1, st1, e, h1⟩ := hf x (by simp) ρ st h
    obtain ⟨ρ2, st2, e2, h2⟩ := forL_inv P hs xs ρ1 st1 (fun y hy => hf y (by simp [hy])) h1
    exact ⟨ρ2, st2, by simp only [forL, hs, if_true, e, R.bind_ok]; exact e2, h2⟩
theorem ev_add {C : Ctx} {ρ : MP.Env} {st : Sto} {x y : E} {i j : Int} (h : evE C x ρ st = .ok (.int i) st) (g : evE C y ρ st = .ok (.int j) st) : evE C (.op2 .add x y) ρ st = .ok (.int (i + j)) st := ev_op2 h g rfl
theorem ev_sub {C : Ctx} {ρ : MP.Env} {st : Sto} {x y : E} {i j : Int} (h : evE C x ρ st = .ok (.int i) st) (g : evE C y ρ st = .ok (.int j) st) : evE C (.op2 .sub x y) ρ st = .ok (.int (i - j)) st := ev_op2 h g rfl
/-- times a small number -/
theorem ev_mulR {C : Ctx} {ρ : MP.Env} {st : Sto} {x y : E} {i j : Int} (h : evE C x ρ st = .ok (.int i) st) (g : evE C y ρ st = .ok (.int j) st) (h1 : -10000000000000 < j) (h2 : j < 10000000000000) : evE C (.op2 .mul x y) ρ st = .ok (.int (i * j)) st := by
  refine ev_op2 h g ?_
  have e : mulOk i j = true := by
    simp only [mulOk, Bool.or_eq_true, Bool.and_eq_true, decide_eq_true_eq]
    right
    constructor
    · omega
    · omega
  show mulD (.int i) (.int j) st = _
  simp only [mulD, e, if_true]
theorem ev_mod {C : Ctx} {ρ : MP.Env} {st : Sto} {x y : E} {i j : Int} (h : evE C x ρ st = .ok (.int i) st) (g : evE C y ρ st = .ok (.int j) st) (h1 : j ≠ 0) : evE C (.op2 .mod x y) ρ st = .ok (.int (i.fmod j)) st := ev_op2 h g (if_pos h1)
theorem ev_fdiv {C : Ctx} {ρ : MP.Env} {st : Sto} {x y : E} {i j : Int} {n : Nat} (h : evE C x ρ st = .ok (.int i) st) (g : evE C y ρ st = .ok (.int j) st) (hj : j.natAbs = n) (h0 : j ≠ 0) (hn : n < 1073741824) : evE C (.op2 .fdiv x y) ρ st = .ok (.int (i.fdiv j)) st := ev_op2 h g (fdiv_of hj h0 hn)
theorem ev_cmp {C : Ctx} {ρ : MP.Env} {st : Sto} {x y : E} {i j : Int} (h : evE C x ρ st = .ok (.int i) st) (g : evE C y ρ st = .ok (.int j) st) : evE C (.op2 .lt x y) ρ st = .ok (.bl (decide (i < j))) st ∧ evE C (.op2 .ge x y) ρ st = .ok (.bl (decide (j ≤ i))) st ∧ evE C (.op2 .gt x y) ρ st = .ok (.bl (decide (j < i))) st := by
  refine ⟨ev_op2 h g ?_, ev_op2 h g ?_, ev_op2 h g ?_⟩
  · show cmpR (rcD .lt (.int i) (.int j)) st = _
    rw [rc_int]; rfl
  · show cmpR (rcD .ge (.int i) (.int j)) st = _
    rw [rc_int]; rfl
  · show cmpR (rcD .gt (.int i) (.int j)) st = _
    rw [rc_int]; rfl
theorem r_cell (k : Nat) (ns : List Int) (j : Nat) (st : Sto) : ∃ c : Int, run FT GL (k + 1) 18 [.cl (ns.map D.int), .int j] st = .ok (.int c) st := by
  have hF : FT 18 = some ⟨2, 0 + 2, b18⟩ := rfl
  rw [un2 hF]
  have len : evE ⟨run FT GL k, GL⟩ (.op1 .len (.var 0)) (some (.cl (ns.map D.int)) :: some (.int (j : Int)) :: List.replicate 0 none) st = .ok (.int (ns.length : Int)) st := by
    simp [evE, p1, lenD]
  have v1 : evE ⟨run FT GL k, GL⟩ (.var 1) (some (.cl (ns.map D.int)) :: some (.int (j : Int)) :: List.replicate 0 none) st = .ok (.int (j : Int)) st := ev_var _ rfl
  have cc := ec_e (ev_cmp v1 len).1
  simp only [b18]
  rw [es_if_retE cc]
  by_cases h : j < ns.length
  · have hd : decide ((j : Int) < (ns.length : Int)) = true := decide_eq_true (by omega)
    have hg : (ns.map D.int)[((j : Int)).toNat]? = some (.int ns[j]) := by simp [h]
    have ix : evE ⟨run FT GL k, GL⟩ (.op2 .idx (.var 0) (.var 1)) (some (.cl (ns.map D.int)) :: some (.int (j : Int)) :: List.replicate 0 none) st = .ok (.int ns[j]) st := by
      refine ev_op2 (ev_var _ rfl) v1 ?_
      show R.opt (idxD (.cl (ns.map D.int)) (.int (j : Int)) st) st = _
      simp [idxD, atI_nat (by omega) hg]
    refine ⟨ns[j], ?_⟩
    rw [if_pos hd, ix]
    simp only [R.bind_ok, retOf_ret, gc_same]
  · have hd : ¬ decide ((j : Int) < (ns.length : Int)) = true := by rw [decide_eq_true_eq]; omega
    refine ⟨0, ?_⟩
    rw [if_neg hd, es_ret (ev_con _ _ _ _), retOf_ret, gc_same]
end K00

set_option Elab.async false
set_option linter.all false
set_option maxRecDepth 100000
set_option maxHeartbeats 4000000
namespace K00
open MP
theorem es_asg {C : Ctx} {ρ : MP.Env} {st st' : Sto} {e : E} {r : Ss} {i : Nat} {x : D} (h : evE C e ρ st = .ok x st') : evSs C (.cons (.asg (.name i) e) r) ρ st = evSs C r (ρ.set i (some x)) st' := by
  rw [evSs, evS, h]
  rfl
theorem es_exp {C : Ctx} {ρ : MP.Env} {st st' : Sto} {e : E} {r : Ss} {x : D} (h : evE C e ρ st = .ok x st') : evSs C (.cons (.exp e) r) ρ st = evSs C r ρ st' := by
  rw [evSs, evS, h]
  rfl
theorem es_ite {C : Ctx} {ρ ρ' : MP.Env} {st st' st'' : Sto} {c : Cd} {x y r : Ss} {b : Bool} (h : evC C c ρ st = .ok b st') (h2 : (if b = true then evSs C x ρ st' else evSs C y ρ st') = .ok (.next, ρ') st'') : evSs C (.cons (.ite c x y) r) ρ st = evSs C r ρ' st'' := by
  rw [evSs, evS, h]
  simp only [R.bind_ok]
  rw [h2]
  rfl
theorem es_for {C : Ctx} {ρ ρ' : MP.Env} {st st' st'' : Sto} {i : Nat} {es : Es} {b r : Ss} {ds : List D} {s : Src} (h : evEs C es ρ st = .ok ds st') (hr : rngOf ds = some s)
    (h2 : forL (fun x ρ st => evSs C b (ρ.set i (some x)) st) s.same s.items ρ st' = .ok (.next, ρ') st'') : evSs C (.cons (.for (.name i) (.rng es) b) r) ρ st = evSs C r ρ' st'' := by
  rw [evSs, evS, evLk]
  simp only [held]
  rw [evIt, h]
  simp only [R.bind_ok, hr, R.opt_some, asgT]
  rw [h2]
  rfl
theorem ss_nil {C : Ctx} {ρ : MP.Env} {st : Sto} : evSs C .nil ρ st = .ok (.next, ρ) st := by rw [evSs]
/-- a loop that always goes on, counted -/
theorem forL_cnt {f : D → MP.Env → Sto → R (Fl × MP.Env)} {same : Sto → Bool} (hs : ∀ st, same st = true) : ∀ (xs : List D) (P : Nat → MP.Env → Sto → Prop) (ρ : MP.Env) (st : Sto), (∀ i (hi : i < xs.length), ∀ ρ st, P i ρ st → ∃ ρ' st', f xs[i] ρ st = .ok (.next, ρ') st' ∧ P (i + 1) ρ' st') → P 0 ρ st →
    ∃ ρ' st', forL f same xs ρ st = .ok (.next, ρ') st' ∧ P xs.length ρ' st'
  | [], P, ρ, st, _, h => ⟨ρ, st, by simp [forL, hs], h⟩
  | x :: xs, P, ρ, st, hf, h => by
    obtain ⟨ρ1, st1, e, h1⟩ := hf 0 (by simp) ρ st h
    obtain ⟨ρ2, st2, e2, h2⟩ := forL_cnt hs xs (fun i => P (i + 1)) ρ1 st1 (fun i hi => hf (i + 1) (by simp; omega)) h1
    refine ⟨ρ2, st2, ?_, h2⟩
    simp only [forL, hs, if_true]
    simp only [List.getElem_cons_zero] at e
    rw [e]
    simp only [R.bind_ok]
    exact e2
theorem ev_app {C : Ctx} {ρ : MP.Env} {l : List Int} {e : E} {j : Nat} {i : Int} (hj : ρ[j]? = some (some (.ref 0))) (h : evE C e ρ [.lst (l.map D.int)] = .ok (.int i) [.lst (l.map D.int)]) (hl : l.length < 1000000) : evE C (.mt2 .append (.var j) e) ρ [.lst (l.map D.int)] = .ok .non [.lst ((l ++ [i]).map D.int)] := by
  rw [evE, ev_var C hj]
  simp only [R.bind_ok]
  have hm : mtOk .append (.ref 0) [.lst (l.map D.int)] = true := rfl
  rw [if_pos hm, h]
  simp only [R.bind_ok, MP.p2, List.getElem?_cons_zero, List.length_map]
  have hlt : l.length < LINE := by unfold LINE; omega
  rw [if_pos hlt]
  simp
theorem ev_pow18 (C : Ctx) (ρ : MP.Env) (st : Sto) : evE C (.op2 .pow (.con (.int 10)) (.con (.int 18))) ρ st = .ok (.int 1000000000000000000) st := by
  refine ev_op2 (ev_con C _ ρ st) (ev_con C _ ρ st) ?_
  have h : (0 : Int) ≤ 18 ∧ (18 : Int) ≤ 1000000 ∧ (10 : Int).natAbs < 2 ^ 64 := by decide +kernel
  show (if (0 : Int) ≤ 18 ∧ (18 : Int) ≤ 1000000 ∧ (10 : Int).natAbs < 2 ^ 64 then R.ok (D.int (10 ^ (18 : Int).toNat)) st else .bad) = _
  rw [if_pos h]
  rfl
theorem rng1 (n : Nat) (hn : n < 1000000) : rngOf [.int (n : Int)] = some { items := (List.range n).map fun (i : Nat) => D.int (0 + (i : Int)) } := by
  simp only [rngOf]
  rw [if_pos (by omega)]
  rfl
abbrev E9 (v0 v1 v2 x4 x5 x6 x7 x8 : Option D) : MP.Env := [v0, v1, v2, some (.ref 0), x4, x5, x6, x7, x8]
abbrev bx (l : List Int) : Sto := [.lst (l.map D.int)]
def in1 : Ss := (.cons (.ite (.ofE (.op2 .gt (.var 6) (.con (.int 0)))) (.cons (.exp (.mt2 .append (.var 3) (.op2 .mod (.var 6) (.con (.int 1009))))) (.cons (.asg (.name 6) (.op2 .fdiv (.var 6) (.con (.int 1009)))) .nil)) .nil) .nil)
theorem r_in1 (C : Ctx) {v0 v1 v2 x4 x5 x7 x8 : Option D} {n : Int} {l : List Int} (hl : l.length < 10000) : ∃ (x6 x7' : Option D) (l' : List Int), evSs C (.cons (.for (.name 7) (.rng (.cons (.con (.int 60)) .nil)) in1) .nil) (E9 v0 v1 v2 x4 x5 (some (.int n)) x7 x8) (bx l) = .ok (.next, E9 v0 v1 v2 x4 x5 x6 x7' x8) (bx l') ∧ l'.length ≤ l.length + 60 := by
  have hs : ∀ (st : Sto), ({ items := (List.range 60).map fun (i : Nat) => D.int (0 + (i : Int)) } : Src).same st = true := fun st => rfl
  have key := forL_cnt (f := fun x ρ st => evSs C in1 (ρ.set 7 (some x)) st) hs ((List.range 60).map fun (i : Nat) => D.int (0 + (i : Int)))
    (fun i ρ st => ∃ (n : Int) (x7 : Option D) (l' : List Int), ρ = E9 v0 v1 v2 x4 x5 (some (.int n)) x7 x8 ∧ st = bx l' ∧ l'.length ≤ l.length + i) (E9 v0 v1 v2 x4 x5 (some (.int n)) x7 x8) (bx l) ?_ ⟨n, x7, l, rfl, rfl, by omega⟩
  · obtain ⟨ρ', st', e, n', x7', l', e1, e2, hl'⟩ := key
    refine ⟨some (.int n'), x7', l', ?_, by simpa using hl'⟩
    have r60 : rngOf [.int 60] = some { items := (List.range 60).map fun (i : Nat) => D.int (0 + (i : Int)) } := rng1 60 (by decide)
    rw [es_for (es_cons (ev_con _ _ _ _) es_nil) r60 e, ss_nil, e1, e2]
  · intro i hi ρ st ⟨n, x7, l', e1, e2, hl'⟩
    have hi' : i < 60 := by simpa using hi
    subst e1 e2
    generalize ((List.range 60).map fun (i : Nat) => D.int (0 + (i : Int)))[i] = w
    simp only [E9, List.set_cons_succ, List.set_cons_zero, in1]
    have v6 : ∀ st, evE C (.var 6) (E9 v0 v1 v2 x4 x5 (some (.int n)) (some w) x8) st = .ok (.int n) st := fun st => ev_var C rfl
    have c0 := ec_e (ev_cmp (v6 (bx l')) (ev_con C (.int 0) _ _)).2.2
    by_cases hn : (0 : Int) < n
    · refine ⟨E9 v0 v1 v2 x4 x5 (some (.int (n.fdiv 1009))) (some w) x8, bx (l' ++ [n.fmod 1009]), ?_, n.fdiv 1009, some w, _, rfl, rfl, by simp; omega⟩
      rw [es_ite c0, ss_nil]
      rw [decide_eq_true hn, if_pos rfl]
      rw [es_exp (ev_app (j := 3) rfl (ev_mod (v6 _) (ev_con C _ _ _) (by decide)) (by omega))]
      rw [es_asg (ev_fdiv (v6 _) (ev_con C _ _ _) (n := 1009) rfl (by decide) (by decide)), ss_nil]
      rfl
    · refine ⟨_, bx l', ?_, n, some w, l', rfl, rfl, by omega⟩
      rw [es_ite c0, ss_nil]
      rw [decide_eq_false hn, if_neg (by decide), ss_nil]

def in2 : Ss := (.cons (.asg (.name 8) (.op2 .mod (.op2 .add (.op2 .add (.op2 .mul (.var 8) (.con (.int 16807))) (.op2 .mul (.var 7) (.con (.int 7)))) (.con (.int 1))) (.con (.int 2147483647)))) (.cons (.exp (.mt2 .append (.var 3) (.op2 .mod (.op2 .fdiv (.var 8) (.con (.int 997))) (.con (.int 1009))))) .nil))
theorem r_in2 (C : Ctx) {v0 v1 v2 x4 x5 x6 x7 : Option D} {n : Int} {l : List Int} (hl : l.length < 10000) : ∃ (x7' x8 : Option D) (l' : List Int), evSs C (.cons (.for (.name 7) (.rng (.cons (.con (.int 12)) .nil)) in2) .nil) (E9 v0 v1 v2 x4 x5 x6 x7 (some (.int n))) (bx l) = .ok (.next, E9 v0 v1 v2 x4 x5 x6 x7' x8) (bx l') ∧ l'.length ≤ l.length + 12 := by
  have hs : ∀ (st : Sto), ({ items := (List.range 12).map fun (i : Nat) => D.int (0 + (i : Int)) } : Src).same st = true := fun st => rfl
  have key := forL_cnt (f := fun x ρ st => evSs C in2 (ρ.set 7 (some x)) st) hs ((List.range 12).map fun (i : Nat) => D.int (0 + (i : Int)))
    (fun i ρ st => ∃ (n : Int) (x7 : Option D) (l' : List Int), ρ = E9 v0 v1 v2 x4 x5 x6 x7 (some (.int n)) ∧ st = bx l' ∧ l'.length ≤ l.length + i) (E9 v0 v1 v2 x4 x5 x6 x7 (some (.int n))) (bx l) ?_ ⟨n, x7, l, rfl, rfl, by omega⟩
  · obtain ⟨ρ', st', e, n', x7', l', e1, e2, hl'⟩ := key
    refine ⟨x7', some (.int n'), l', ?_, by simpa using hl'⟩
    have r12 : rngOf [.int 12] = some { items := (List.range 12).map fun (i : Nat) => D.int (0 + (i : Int)) } := rng1 12 (by decide)
    rw [es_for (es_cons (ev_con _ _ _ _) es_nil) r12 e, ss_nil, e1, e2]
  · intro i hi ρ st ⟨n, x7, l', e1, e2, hl'⟩
    have hi' : i < 12 := by simpa using hi
    subst e1 e2
    simp only [List.getElem_map, List.getElem_range]
    generalize 0 + (i : Int) = w
    simp only [E9, List.set_cons_succ, List.set_cons_zero, in2]
    have v8 : ∀ st, evE C (.var 8) (E9 v0 v1 v2 x4 x5 x6 (some (.int w)) (some (.int n))) st = .ok (.int n) st := fun st => ev_var C rfl
    have v7 : ∀ st, evE C (.var 7) (E9 v0 v1 v2 x4 x5 x6 (some (.int w)) (some (.int n))) st = .ok (.int w) st := fun st => ev_var C rfl
    have t1 := ev_mod (ev_add (ev_add (ev_mulR (v8 (bx l')) (ev_con C (.int 16807) _ _) (by decide) (by decide)) (ev_mulR (v7 (bx l')) (ev_con C (.int 7) _ _) (by decide) (by decide))) (ev_con C (.int 1) _ _)) (ev_con C (.int 2147483647) _ _) (by decide)
    generalize (n * 16807 + w * 7 + 1).fmod 2147483647 = m at t1
    refine ⟨_, bx (l' ++ [(m.fdiv 997).fmod 1009]), ?_, m, some (.int w), _, rfl, rfl, by simp; omega⟩
    rw [es_asg t1]
    simp only [List.set_cons_succ, List.set_cons_zero]
    rw [es_exp (ev_app (j := 3) rfl (ev_mod (ev_fdiv (ev_var C rfl) (ev_con C _ _ _) (n := 997) rfl (by decide) (by decide)) (ev_con C _ _ _) (by decide)) (by omega)), ss_nil]
def in3 : Ss := (.cons (.asg (.name 5) (.call 18 (.cons (.var 0) (.cons (.var 4) .nil)))) (.cons (.ite (.ofE (.op2 .lt (.var 5) (.con (.int 0)))) (.cons (.asg (.name 5) (.op2 .sub (.con (.int 1)) (.op2 .mul (.var 5) (.con (.int 2))))) .nil) .nil) (.cons (.ite (.ofE (.op2 .ge (.var 5) (.op2 .pow (.con (.int 10)) (.con (.int 18))))) (.cons (.asg (.name 6) (.var 5)) (.cons (.for (.name 7) (.rng (.cons (.con (.int 60)) .nil)) in1) .nil)) (.cons (.asg (.name 8) (.op2 .mod (.op2 .add (.op2 .add (.op2 .mul (.var 5) (.con (.int 48271))) (.op2 .mul (.op1 .int_ (.op2 .add (.var 4) (.con (.int 1)))) (.con (.int 69621)))) (.con (.int 11))) (.con (.int 2147483647)))) (.cons (.for (.name 7) (.rng (.cons (.con (.int 12)) .nil)) in2) .nil))) .nil)))
theorem b19_eq : b19 = (.cons (.asg (.name 3) (.ofQ (.disp .nil))) (.cons (.for (.name 4) (.rng (.cons (.var 1) (.cons (.var 2) .nil))) in3) (.cons (.ret (.var 3)) .nil))) := rfl
theorem ev_int {C : Ctx} {ρ : MP.Env} {st : Sto} {x : E} {i : Int} (h : evE C x ρ st = .ok (.int i) st) : evE C (.op1 .int_ x) ρ st = .ok (.int i) st := by
  rw [evE, h]
  rfl
theorem r_in3 (k : Nat) (ns : List Int) {v1 v2 x5 x6 x7 x8 : Option D} {j : Nat} {l : List Int} (hl : l.length < 9000) : ∃ (x5' x6' x7' x8' : Option D) (l' : List Int), evSs ⟨run FT GL (k + 1), GL⟩ in3 (E9 (some (.cl (ns.map D.int))) v1 v2 (some (.int (j : Int))) x5 x6 x7 x8) (bx l) = .ok (.next, E9 (some (.cl (ns.map D.int))) v1 v2 (some (.int (j : Int))) x5' x6' x7' x8') (bx l') ∧ l'.length ≤ l.length + 72 := by
  obtain ⟨c, hc⟩ := r_cell k ns j (bx l)
  generalize hC : (⟨run FT GL (k + 1), GL⟩ : Ctx) = C
  have hcall : evE C (.call 18 (.cons (.var 0) (.cons (.var 4) .nil))) (E9 (some (.cl (ns.map D.int))) v1 v2 (some (.int (j : Int))) x5 x6 x7 x8) (bx l) = .ok (.int c) (bx l) := by
    rw [evE, es_cons (ev_var _ rfl) (es_cons (ev_var _ rfl) es_nil)]
    simp only [R.bind_ok, ← hC]
    exact hc
  simp only [in3]
  rw [es_asg hcall]
  simp only [E9, List.set_cons_succ, List.set_cons_zero]
  have step1 : ∃ c' : Int, ∀ r, evSs C (.cons (.ite (.ofE (.op2 .lt (.var 5) (.con (.int 0)))) (.cons (.asg (.name 5) (.op2 .sub (.con (.int 1)) (.op2 .mul (.var 5) (.con (.int 2))))) .nil) .nil) r) (E9 (some (.cl (ns.map D.int))) v1 v2 (some (.int (j : Int))) (some (.int c)) x6 x7 x8) (bx l) = evSs C r (E9 (some (.cl (ns.map D.int))) v1 v2 (some (.int (j : Int))) (some (.int c')) x6 x7 x8) (bx l) := by
    have v5 : evE C (.var 5) (E9 (some (.cl (ns.map D.int))) v1 v2 (some (.int (j : Int))) (some (.int c)) x6 x7 x8) (bx l) = .ok (.int c) (bx l) := ev_var C rfl
    have c0 := ec_e (ev_cmp v5 (ev_con C (.int 0) _ _)).1
    by_cases hn : c < 0
    · refine ⟨1 - c * 2, fun r => ?_⟩
      rw [es_ite c0 (by rw [decide_eq_true hn, if_pos rfl, es_asg (ev_sub (ev_con C (.int 1) _ _) (ev_mulR v5 (ev_con C (.int 2) _ _) (by decide) (by decide))), ss_nil])]
      rfl
    · refine ⟨c, fun r => ?_⟩
      rw [es_ite c0 (by rw [decide_eq_false hn, if_neg (by decide), ss_nil])]
  obtain ⟨c', hc'⟩ := step1
  rw [hc']
  have v5 : ∀ r st, evE C (.var 5) (E9 (some (.cl (ns.map D.int))) v1 v2 (some (.int (j : Int))) (some (.int c')) x6 x7 r) st = .ok (.int c') st := fun r st => ev_var C rfl
  have c0 := ec_e (ev_cmp (v5 x8 (bx l)) (ev_pow18 C _ _)).2.1
  by_cases hn : (1000000000000000000 : Int) ≤ c'
  · obtain ⟨x6', x7', l', e, hl'⟩ := r_in1 C (v0 := some (.cl (ns.map D.int))) (v1 := v1) (v2 := v2) (x4 := some (.int (j : Int))) (x5 := some (.int c')) (x7 := x7) (x8 := x8) (n := c') (l := l) (by omega)
    refine ⟨some (.int c'), x6', x7', x8, l', ?_, by omega⟩
    rw [es_ite c0 (by rw [decide_eq_true hn, if_pos rfl, es_asg (v5 _ _)]; exact e), ss_nil]
  · have v4 : evE C (.var 4) (E9 (some (.cl (ns.map D.int))) v1 v2 (some (.int (j : Int))) (some (.int c')) x6 x7 x8) (bx l) = .ok (.int (j : Int)) (bx l) := ev_var C rfl
    have t1 := ev_mod (ev_add (ev_add (ev_mulR (v5 x8 (bx l)) (ev_con C (.int 48271) _ _) (by decide) (by decide)) (ev_mulR (ev_int (ev_add v4 (ev_con C (.int 1) _ _))) (ev_con C (.int 69621) _ _) (by decide) (by decide))) (ev_con C (.int 11) _ _)) (ev_con C (.int 2147483647) _ _) (by decide)
    obtain ⟨x7', x8', l', e, hl'⟩ := r_in2 C (v0 := some (.cl (ns.map D.int))) (v1 := v1) (v2 := v2) (x4 := some (.int (j : Int))) (x5 := some (.int c')) (x6 := x6) (x7 := x7) (n := (c' * 48271 + (↑j + 1) * 69621 + 11).fmod 2147483647) (l := l) (by omega)
    refine ⟨some (.int c'), x6, x7', x8', l', ?_, by omega⟩
    rw [es_ite c0 (by rw [decide_eq_false hn, if_neg (by decide), es_asg t1]; exact e), ss_nil]
theorem r_digits (k : Nat) (ns : List Int) : ∃ ds : List Int, run FT GL (k + 2) 19 [.cl (ns.map D.int), .int 0, .int 63] [] = .ok (.ref 0) [.lst (ds.map D.int)] := by
  have hF : FT 19 = some ⟨3, 9, b19⟩ := rfl
  have un : run FT GL (k + 2) 19 [.cl (ns.map D.int), .int 0, .int 63] [] = gc [] (retOf (evSs ⟨run FT GL (k + 1), GL⟩ b19 (some (.cl (ns.map D.int)) :: some (.int 0) :: some (.int 63) :: List.replicate 6 none) [])) := by
    rw [run, hF]
    rfl
  rw [un, b19_eq]
  rw [es_asg (ev_list es_nil (len_le (by simp)))]
  have hs : ∀ (st : Sto), ({ items := (List.range 63).map fun (i : Nat) => D.int (0 + (i : Int)) } : Src).same st = true := fun st => rfl
  have key := forL_cnt (f := fun x ρ st => evSs ⟨run FT GL (k + 1), GL⟩ in3 (ρ.set 4 (some x)) st) hs ((List.range 63).map fun (i : Nat) => D.int (0 + (i : Int)))
    (fun i ρ st => ∃ (x4 x5 x6 x7 x8 : Option D) (l : List Int), ρ = E9 (some (.cl (ns.map D.int))) (some (.int 0)) (some (.int 63)) x4 x5 x6 x7 x8 ∧ st = bx l ∧ l.length ≤ 72 * i) (E9 (some (.cl (ns.map D.int))) (some (.int 0)) (some (.int 63)) none none none none none) (bx []) ?_ ⟨none, none, none, none, none, [], rfl, rfl, by simp⟩
  · obtain ⟨ρ', st', e, x4, x5, x6, x7, x8, l, e1, e2, hl⟩ := key
    refine ⟨l, ?_⟩
    have r63 : rngOf [.int 0, .int 63] = some { items := (List.range 63).map fun (i : Nat) => D.int (0 + (i : Int)) } := by
      simp only [rngOf]
      rw [if_pos (by omega)]
      rfl
    subst e1 e2
    have e' : forL (fun x ρ st => evSs ⟨run FT GL (k + 1), GL⟩ in3 (ρ.set 4 (some x)) st) ({ items := (List.range 63).map fun (i : Nat) => D.int (0 + (i : Int)) } : Src).same ((List.range 63).map fun (i : Nat) => D.int (0 + (i : Int))) (List.set (some (.cl (ns.map D.int)) :: some (.int 0) :: some (.int 63) :: List.replicate 6 none) 3 (some (.ref ([] : Sto).length))) ([] ++ [.lst []]) = _ := e
    rw [es_for (es_cons (ev_var _ rfl) (es_cons (ev_var _ rfl) es_nil)) r63 e', es_ret (ev_var _ rfl), retOf_ret]
    rfl
  · intro i hi ρ st ⟨x4, x5, x6, x7, x8, l, e1, e2, hl⟩
    have hi' : i < 63 := by simpa using hi
    subst e1 e2
    simp only [List.getElem_map, List.getElem_range, Int.zero_add]
    obtain ⟨x5', x6', x7', x8', l', e, hl'⟩ := r_in3 k ns (v1 := some (.int 0)) (v2 := some (.int 63)) (x5 := x5) (x6 := x6) (x7 := x7) (x8 := x8) (j := i) (l := l) (by omega)
    exact ⟨_, bx l', e, some (.int (i : Int)), x5', x6', x7', x8', l', rfl, rfl, by omega⟩
end K00

set_option Elab.async false
set_option linter.all false
set_option maxRecDepth 100000
set_option maxHeartbeats 4000000
namespace K00
open MP
/-! ### what sums are worth -/
def isV : D → Bool
  | .non => true
  | .int i => decide (-1000000000000 ≤ i) && decide (i ≤ 1000000000000)
  | .str s => D.okD (.str s)
  | _ => false
theorem any_isV {x : D} (h : x ∈ anyL) : isV x = true := by
  have e : anyL.all isV = true := by decide +kernel
  exact List.all_eq_true.mp e x h
def cut (i : Int) : D := if decide (-1000000000000 ≤ i) && decide (i ≤ 1000000000000) then .int i else .non
theorem cut_isV (i : Int) : isV (cut i) = true := by
  unfold cut
  split
  · assumption
  · rfl
abbrev sPlus : PySem.Str := PySem.Str.ofString "plus"
abbrev sMinus : PySem.Str := PySem.Str.ofString "minus"
theorem ok_plus : D.okD (.str sPlus) = true := by decide +kernel
theorem ok_minus : D.okD (.str sMinus) = true := by decide +kernel
def opI (o : D) (i j : Int) : Int := if isS o sPlus = true then i + j else if isS o sMinus = true then i - j else i * j
def isI : D → Bool
  | .int _ => true
  | _ => false
theorem op_facts {o : D} (h : o ∈ opL) : D.okD o = true ∧ isS o sVal = false ∧ isS o sVar = false := by
  have e : (opL.all fun o => D.okD o && (!isS o sVal && !isS o sVar)) = true := by decide +kernel
  have := List.all_eq_true.mp e o h
  simpa using this
theorem valEq : isS (.str sVal) sVal = true := by decide +kernel
theorem varNe : isS (.str sVar) sVal = false := by decide +kernel
theorem varEq : isS (.str sVar) sVar = true := by decide +kernel
abbrev sX : PySem.Str := PySem.Str.ofString "X"
abbrev sY : PySem.Str := PySem.Str.ofString "Y"
abbrev sZ : PySem.Str := PySem.Str.ofString "Z"
abbrev vals (x y z : D) : List (D × D) := [(.str sX, x), (.str sY, y), (.str sZ, z)]
theorem dget_vals {x y z n : D} (h : n ∈ letL) : ∃ k, dkey n = some k ∧ sameKind k (vals x y z) = true ∧ ((dget (vals x y z) k = some x) ∨ (dget (vals x y z) k = some y) ∨ (dget (vals x y z) k = some z)) := by
  have e1 : dkey (.str sX) = some (.f (.inr sX)) := rfl
  have e2 : dkey (.str sY) = some (.f (.inr sY)) := rfl
  have e3 : dkey (.str sZ) = some (.f (.inr sZ)) := rfl
  have n12 : sX ≠ sY := by decide +kernel
  have n13 : sX ≠ sZ := by decide +kernel
  have n23 : sY ≠ sZ := by decide +kernel
  simp only [letL, List.mem_cons, List.not_mem_nil, or_false] at h
  rcases h with rfl | rfl | rfl
  · exact ⟨_, e1, rfl, Or.inl (by simp only [dget, e1, if_true])⟩
  · exact ⟨_, e2, rfl, Or.inr (Or.inl (by
      have h1 : ¬ (some (DK.f (.inr sX)) = some (DK.f (.inr sY))) := by
        intro e; injection e with e; injection e with e; injection e with e; exact n12 e
      simp only [dget, e1, e2]
      rw [if_neg h1]
      simp only [if_true]))⟩
  · exact ⟨_, e3, rfl, Or.inr (Or.inr (by
      have h1 : ¬ (some (DK.f (.inr sX)) = some (DK.f (.inr sZ))) := by
        intro e; injection e with e; injection e with e; injection e with e; exact n13 e
      have h2 : ¬ (some (DK.f (.inr sY)) = some (DK.f (.inr sZ))) := by
        intro e; injection e with e; injection e with e; injection e with e; exact n23 e
      simp only [dget, e1, e2, e3]
      rw [if_neg h1, if_neg h2]
      simp only [if_true]))⟩
theorem isV_plain {v : D} (h : isV v = true) (st : Sto) : plain st v = true := by
  cases v <;> first | rfl | simp [isV] at h
theorem ev_isI {C : Ctx} {ρ : MP.Env} {st : Sto} {i : Nat} {v : D} (hv : isV v = true) (h : ρ[i]? = some (some v)) : evE C (.isi (.var i) .int) ρ st = .ok (.bl (isI v)) st := by
  rw [evE, ev_var C h]
  simp only [R.bind_ok]
  cases v <;> first | (simp [isV] at hv; done) | rfl
theorem ev_abs {C : Ctx} {ρ : MP.Env} {st : Sto} {e : E} {i : Int} (h : evE C e ρ st = .ok (.int i) st) : evE C (.op1 .abs e) ρ st = .ok (.int (if i < 0 then -i else i)) st := by
  rw [evE, h]
  rfl
theorem ev_le {C : Ctx} {ρ : MP.Env} {st : Sto} {x y : E} {i j : Int} (h : evE C x ρ st = .ok (.int i) st) (g : evE C y ρ st = .ok (.int j) st) : evE C (.op2 .le x y) ρ st = .ok (.bl (decide (i ≤ j))) st := by
  refine ev_op2 h g ?_
  show cmpR (rcD .le (.int i) (.int j)) st = _
  rw [rc_int]; rfl
/-- the last statements -/
theorem cut_ret (k : Nat) {ρ : MP.Env} {st : Sto} {i : Int} (h : ρ[4]? = some (some (.int i))) : evSs ⟨run FT GL (k + 2), GL⟩ (.cons (.ret (.ite (.ofE (.call 3 (.cons (.var 4) .nil))) (.var 4) (.con .non))) .nil) ρ st = .ok (.ret (cut i), ρ) st := by
  have c := ec_e (ev_call1 (k := k + 2) (g := 3) (a := .var 4) (ρ := ρ) (ev_var _ h) (r_is_value k (.int i) st rfl (fun s e => by cases e)))
  have e : evE ⟨run FT GL (k + 2), GL⟩ (.ite (.ofE (.call 3 (.cons (.var 4) .nil))) (.var 4) (.con .non)) ρ st = .ok (cut i) st := by
    rw [evE, c]
    simp only [R.bind_ok, ev_var _ h, ev_con, cut, isValue]
    split <;> rfl
  exact es_ret e
theorem cut_ret2 {C : Ctx} {ρ : MP.Env} {st : Sto} {i : Int} (h : ρ[4]? = some (some (.int i))) : evSs C (.cons (.ret (.ite (.ofE (.op2 .le (.op1 .abs (.var 4)) (.op2 .pow (.con (.int 10)) (.con (.int 12))))) (.var 4) (.con .non))) .nil) ρ st = .ok (.ret (cut i), ρ) st := by
  have c := ec_e (ev_le (ev_abs (ev_var C h (st := st))) (ev_pow12 C ρ st))
  have e2 : decide ((if i < 0 then -i else i) ≤ 1000000000000) = (decide (-1000000000000 ≤ i) && decide (i ≤ 1000000000000)) := by
    rw [← Bool.decide_and]
    apply decide_eq_decide.mpr
    split <;> omega
  have e : evE C (.ite (.ofE (.op2 .le (.op1 .abs (.var 4)) (.op2 .pow (.con (.int 10)) (.con (.int 12))))) (.var 4) (.con .non)) ρ st = .ok (cut i) st := by
    rw [evE, c]
    simp only [R.bind_ok, ev_var _ h, ev_con, cut, e2]
    split <;> rfl
  exact es_ret e
/-! ### the two readings of a sum -/
theorem es_par2 {C : Ctx} {ρ : MP.Env} {st : Sto} {e1 e2 : E} {a b : Nat} {x y : D} {r : Ss} (h1 : evE C e1 ρ st = .ok x st) (h2 : evE C e2 ρ st = .ok y st) : evSs C (.cons (.par [a, b] (.cons e1 (.cons e2 .nil))) r) ρ st = evSs C r ((ρ.set a (some x)).set b (some y)) st := by
  rw [evSs, evS, es_cons h1 (es_cons h2 es_nil)]
  rfl
theorem call2 {k g : Nat} {ρ : MP.Env} {st : Sto} {e : E} {j : Nat} {x y : D} {r : R D} (h1 : evE ⟨run FT GL k, GL⟩ e ρ st = .ok x st) (h2 : ρ[j]? = some (some y)) (h : run FT GL k g [x, y] st = r) : evE ⟨run FT GL k, GL⟩ (.call g (.cons e (.cons (.var j) .nil))) ρ st = r := by
  rw [evE, es_cons h1 (es_cons (ev_var _ h2) es_nil)]
  exact h
def opV (o a b : D) : D := match a, b with
  | .int i, .int j => cut (opI o i j)
  | _, _ => .non
theorem op_isV (o a b : D) : isV (opV o a b) = true := by
  unfold opV
  split
  · exact cut_isV _
  · rfl
theorem int_lt {i : Int} (h : isV (.int i) = true) : -10000000000000 < i ∧ i < 10000000000000 := by
  simp only [isV, Bool.and_eq_true, decide_eq_true_eq] at h
  omega
end K00

set_option Elab.async false
set_option linter.all false
set_option maxRecDepth 100000
set_option maxHeartbeats 4000000
namespace K00
open MP
theorem nin_ok {a b : D} : (!isI a || !isI b) = true → ∀ o, opV o a b = .non := by
  intro h o
  cases a <;> first | rfl | (cases b <;> first | rfl | simp [isI] at h)
def rest17 : Ss := (.cons (.ite (.ofE (.op2 .eq (.op2 .idx (.var 0) (.con (.int 0))) (.con (.str (PySem.Str.ofString "plus"))))) (.cons (.asg (.name 4) (.op2 .add (.var 2) (.var 3))) .nil) (.cons (.ite (.ofE (.op2 .eq (.op2 .idx (.var 0) (.con (.int 0))) (.con (.str (PySem.Str.ofString "minus"))))) (.cons (.asg (.name 4) (.op2 .sub (.var 2) (.var 3))) .nil) (.cons (.asg (.name 4) (.op2 .mul (.var 2) (.var 3))) .nil)) .nil)) (.cons (.ret (.ite (.ofE (.call 3 (.cons (.var 4) .nil))) (.var 4) (.con .non))) .nil))
def rest26 : Ss := (.cons (.asg (.name 4) (.ite (.ofE (.op2 .eq (.op2 .idx (.var 0) (.con (.int 0))) (.con (.str (PySem.Str.ofString "plus"))))) (.op2 .add (.var 2) (.var 3)) (.ite (.ofE (.op2 .eq (.op2 .idx (.var 0) (.con (.int 0))) (.con (.str (PySem.Str.ofString "minus"))))) (.op2 .sub (.var 2) (.var 3)) (.op2 .mul (.var 2) (.var 3))))) (.cons (.ret (.ite (.ofE (.op2 .le (.op1 .abs (.var 4)) (.op2 .pow (.con (.int 10)) (.con (.int 12))))) (.var 4) (.con .non))) .nil))
theorem r_rest (k : Nat) {o s t : D} {v1 : D} {st : Sto} {i j : Int} {x4 : Option D} (ho : D.okD o = true) (hj : isV (.int j) = true) :
    (∃ ρ', evSs ⟨run FT GL (k + 2), GL⟩ rest17 [some (.tup [o, s, t]), some v1, some (.int i), some (.int j), x4] st = .ok (.ret (cut (opI o i j)), ρ') st) ∧
    (∃ ρ', evSs ⟨run FT GL (k + 2), GL⟩ rest26 [some (.tup [o, s, t]), some v1, some (.int i), some (.int j), x4] st = .ok (.ret (cut (opI o i j)), ρ') st) := by
  generalize hC : (⟨run FT GL (k + 2), GL⟩ : Ctx) = C
  obtain ⟨l1, l2⟩ := int_lt hj
  have c1 := ec_e (ev_eq0 (ρ := [some (.tup [o, s, t]), some v1, some (.int i), some (.int j), x4]) (i := 0) (st := st) C rfl (idx0 (x := o) (r := [s, t])) ho ok_plus)
  have c2 := ec_e (ev_eq0 (ρ := [some (.tup [o, s, t]), some v1, some (.int i), some (.int j), x4]) (i := 0) (st := st) C rfl (idx0 (x := o) (r := [s, t])) ho ok_minus)
  have v2 : evE C (.var 2) [some (.tup [o, s, t]), some v1, some (.int i), some (.int j), x4] st = .ok (.int i) st := ev_var C rfl
  have v3 : evE C (.var 3) [some (.tup [o, s, t]), some v1, some (.int i), some (.int j), x4] st = .ok (.int j) st := ev_var C rfl
  have a := ev_add v2 v3
  have b := ev_sub v2 v3
  have m := ev_mulR v2 v3 l1 l2
  constructor
  · refine ⟨[some (.tup [o, s, t]), some v1, some (.int i), some (.int j), some (.int (opI o i j))], ?_⟩
    have step : (if isS o sPlus = true then evSs C (.cons (.asg (.name 4) (.op2 .add (.var 2) (.var 3))) .nil) [some (.tup [o, s, t]), some v1, some (.int i), some (.int j), x4] st else evSs C (.cons (.ite (.ofE (.op2 .eq (.op2 .idx (.var 0) (.con (.int 0))) (.con (.str (PySem.Str.ofString "minus"))))) (.cons (.asg (.name 4) (.op2 .sub (.var 2) (.var 3))) .nil) (.cons (.asg (.name 4) (.op2 .mul (.var 2) (.var 3))) .nil)) .nil) [some (.tup [o, s, t]), some v1, some (.int i), some (.int j), x4] st) = .ok (.next, [some (.tup [o, s, t]), some v1, some (.int i), some (.int j), some (.int (opI o i j))]) st := by
      cases h1 : isS o sPlus with
      | true => rw [if_pos rfl, es_asg a, ss_nil]; simp [opI, h1]
      | false =>
        rw [if_neg (by decide)]
        have st2 : (if isS o sMinus = true then evSs C (.cons (.asg (.name 4) (.op2 .sub (.var 2) (.var 3))) .nil) [some (.tup [o, s, t]), some v1, some (.int i), some (.int j), x4] st else evSs C (.cons (.asg (.name 4) (.op2 .mul (.var 2) (.var 3))) .nil) [some (.tup [o, s, t]), some v1, some (.int i), some (.int j), x4] st) = .ok (.next, [some (.tup [o, s, t]), some v1, some (.int i), some (.int j), some (.int (opI o i j))]) st := by
          cases h2 : isS o sMinus with
          | true => rw [if_pos rfl, es_asg b, ss_nil]; simp [opI, h1, h2]
          | false => rw [if_neg (by decide), es_asg m, ss_nil]; simp [opI, h1, h2]
        rw [es_ite c2 st2, ss_nil]
    unfold rest17
    rw [es_ite c1 step, ← hC, cut_ret k rfl]
  · refine ⟨[some (.tup [o, s, t]), some v1, some (.int i), some (.int j), some (.int (opI o i j))], ?_⟩
    have e : evE C (.ite (.ofE (.op2 .eq (.op2 .idx (.var 0) (.con (.int 0))) (.con (.str (PySem.Str.ofString "plus"))))) (.op2 .add (.var 2) (.var 3)) (.ite (.ofE (.op2 .eq (.op2 .idx (.var 0) (.con (.int 0))) (.con (.str (PySem.Str.ofString "minus"))))) (.op2 .sub (.var 2) (.var 3)) (.op2 .mul (.var 2) (.var 3)))) [some (.tup [o, s, t]), some v1, some (.int i), some (.int j), x4] st = .ok (.int (opI o i j)) st := by
      rw [evE, c1]
      simp only [R.bind_ok]
      cases h1 : isS o sPlus with
      | true => rw [if_pos rfl, a]; simp [opI, h1]
      | false =>
        rw [if_neg (by decide), evE, c2]
        simp only [R.bind_ok]
        cases h2 : isS o sMinus with
        | true => rw [if_pos rfl, b]; simp [opI, h1, h2]
        | false => rw [if_neg (by decide), m]; simp [opI, h1, h2]
    unfold rest26
    rw [es_asg e, cut_ret2 rfl]
    rfl
theorem r_worth {x y z : D} (hx : isV x = true) (hy : isV y = true) (hz : isV z = true) {n : Nat} {t : D} (h : Tree n t) : ∃ v, isV v = true ∧ ∀ (k : Nat) (st : Sto) (p : Nat), st[p]? = some (.dct (vals x y z)) → run FT GL (k + 4 + n) 17 [t, .ref p] st = .ok v st ∧ run FT GL (k + 4 + n) 26 [t, .ref p] st = .ok v st := by
  have hF : FT 17 = some ⟨2, 3 + 2, b17⟩ := rfl
  have hG : FT 26 = some ⟨2, 3 + 2, b26⟩ := rfl
  induction h with
  | @val n w hw =>
    refine ⟨w, any_isV hw, fun k st p hp => ?_⟩
    have ek : k + 4 + n = (k + 3 + n) + 1 := by omega
    rw [ek, un2 hF, un2 hG]
    generalize (⟨run FT GL (k + 3 + n), GL⟩ : Ctx) = C
    have c1 := ec_e (ev_eq0 (ρ := some (.tup [.str sVal, w]) :: some (.ref p) :: List.replicate 3 none) (i := 0) (st := st) C rfl (idx0 (x := .str sVal) (r := [w])) ok_val ok_val)
    rw [valEq] at c1
    have i1 : evE C (.op2 .idx (.var 0) (.con (.int 1))) (some (.tup [.str sVal, w]) :: some (.ref p) :: List.replicate 3 none) st = .ok w st := ev_idx _ rfl idx1
    constructor
    · simp only [b17]
      rw [es_if_retE c1, if_pos rfl, i1]
      simp only [R.bind_ok, retOf_ret, gc_same]
    · simp only [b26]
      rw [es_if_retE c1, if_pos rfl, i1]
      simp only [R.bind_ok, retOf_ret, gc_same]
  | @var n w hw =>
    obtain ⟨kw, h1, h2, h3⟩ := dget_vals (x := x) (y := y) (z := z) hw
    obtain ⟨v, hv, hg⟩ : ∃ v, isV v = true ∧ dget (vals x y z) kw = some v := by
      rcases h3 with h3 | h3 | h3
      · exact ⟨_, hx, h3⟩
      · exact ⟨_, hy, h3⟩
      · exact ⟨_, hz, h3⟩
    refine ⟨v, hv, fun k st p hp => ?_⟩
    have ek : k + 4 + n = (k + 3 + n) + 1 := by omega
    rw [ek, un2 hF, un2 hG]
    generalize (⟨run FT GL (k + 3 + n), GL⟩ : Ctx) = C
    have c1 := ec_e (ev_eq0 (ρ := some (.tup [.str sVar, w]) :: some (.ref p) :: List.replicate 3 none) (i := 0) (st := st) C rfl (idx0 (x := .str sVar) (r := [w])) ok_var ok_val)
    have c2 := ec_e (ev_eq0 (ρ := some (.tup [.str sVar, w]) :: some (.ref p) :: List.replicate 3 none) (i := 0) (st := st) C rfl (idx0 (x := .str sVar) (r := [w])) ok_var ok_var)
    rw [varNe] at c1
    rw [varEq] at c2
    have i1 : evE C (.op2 .idx (.var 0) (.con (.int 1))) (some (.tup [.str sVar, w]) :: some (.ref p) :: List.replicate 3 none) st = .ok w st := ev_idx _ rfl idx1
    have v1 : evE C (.var 1) (some (.tup [.str sVar, w]) :: some (.ref p) :: List.replicate 3 none) st = .ok (.ref p) st := ev_var C rfl
    constructor
    · have g : evE C (.mt2 .get (.var 1) (.op2 .idx (.var 0) (.con (.int 1)))) (some (.tup [.str sVar, w]) :: some (.ref p) :: List.replicate 3 none) st = .ok v st := by
        rw [evE, v1]
        simp only [R.bind_ok, mtOk, dictOf, hp, Option.isSome_some, if_true]
        rw [i1]
        simp only [R.bind_ok, MP.p2, dictOf, hp, h1, h2, if_true, hg, Option.getD_some]
      simp only [b17]
      rw [es_if_retE c1, if_neg (by decide), es_if_retE c2, if_pos rfl, g]
      simp only [R.bind_ok, retOf_ret, gc_same]
    · have g : evE C (.op2 .idx (.var 1) (.op2 .idx (.var 0) (.con (.int 1)))) (some (.tup [.str sVar, w]) :: some (.ref p) :: List.replicate 3 none) st = .ok v st := by
        refine ev_op2 v1 i1 ?_
        show R.opt (idxD (.ref p) w st) st = _
        simp only [idxD, hp, h1, Option.bind_some, h2, if_true, hg, R.opt_some]
      simp only [b26]
      rw [es_if_retE c1, if_neg (by decide), es_if_retE c2, if_pos rfl, g]
      simp only [R.bind_ok, retOf_ret, gc_same]
  | @op n o s t ho hs ht ihs iht =>
    obtain ⟨v, hv, ev⟩ := ihs
    obtain ⟨w, hw, ew⟩ := iht
    obtain ⟨oo, o1, o2⟩ := op_facts ho
    refine ⟨opV o v w, op_isV _ _ _, fun k st p hp => ?_⟩
    have ek : k + 4 + (n + 1) = (k + 4 + n) + 1 := by omega
    rw [ek, un2 hF, un2 hG]
    obtain ⟨f1, f2⟩ := ev k st p hp
    obtain ⟨g1, g2⟩ := ew k st p hp
    have ρeq : some (.tup [o, s, t]) :: some (.ref p) :: List.replicate 3 none = [some (D.tup [o, s, t]), some (.ref p), none, none, none] := rfl
    have c1 := ec_e (ev_eq0 (ρ := some (.tup [o, s, t]) :: some (.ref p) :: List.replicate 3 none) (i := 0) (st := st) ⟨run FT GL (k + 4 + n), GL⟩ rfl (idx0 (x := o) (r := [s, t])) oo ok_val)
    have c2 := ec_e (ev_eq0 (ρ := some (.tup [o, s, t]) :: some (.ref p) :: List.replicate 3 none) (i := 0) (st := st) ⟨run FT GL (k + 4 + n), GL⟩ rfl (idx0 (x := o) (r := [s, t])) oo ok_var)
    rw [o1] at c1
    rw [o2] at c2
    have i1 : evE ⟨run FT GL (k + 4 + n), GL⟩ (.op2 .idx (.var 0) (.con (.int 1))) (some (.tup [o, s, t]) :: some (.ref p) :: List.replicate 3 none) st = .ok s st := ev_idx _ rfl idx1
    have i2 : evE ⟨run FT GL (k + 4 + n), GL⟩ (.op2 .idx (.var 0) (.con (.int 2))) (some (.tup [o, s, t]) :: some (.ref p) :: List.replicate 3 none) st = .ok t st := ev_idx _ rfl idx2
    have q : ∀ {r : Ss}, evSs ⟨run FT GL (k + 4 + n), GL⟩ (.cons (.ite (.or (.not (.ofE (.isi (.var 2) .int))) (.not (.ofE (.isi (.var 3) .int)))) (.cons (.ret (.con .non)) .nil) .nil) r) [some (.tup [o, s, t]), some (.ref p), some v, some w, none] st = if (!isI v || !isI w) = true then .ok (.ret .non, [some (.tup [o, s, t]), some (.ref p), some v, some w, none]) st else evSs ⟨run FT GL (k + 4 + n), GL⟩ r [some (.tup [o, s, t]), some (.ref p), some v, some w, none] st := by
      intro r
      have t2 : evE ⟨run FT GL (k + 4 + n), GL⟩ (.isi (.var 2) .int) [some (.tup [o, s, t]), some (.ref p), some v, some w, none] st = .ok (.bl (isI v)) st := ev_isI hv rfl
      have t3 : evE ⟨run FT GL (k + 4 + n), GL⟩ (.isi (.var 3) .int) [some (.tup [o, s, t]), some (.ref p), some v, some w, none] st = .ok (.bl (isI w)) st := ev_isI hw rfl
      have cc : evC ⟨run FT GL (k + 4 + n), GL⟩ (.or (.not (.ofE (.isi (.var 2) .int))) (.not (.ofE (.isi (.var 3) .int)))) [some (.tup [o, s, t]), some (.ref p), some v, some w, none] st = .ok (!isI v || !isI w) st := by
        rw [ec_or (ec_not (ec_e t2)), ec_not (ec_e t3)]
        cases isI v <;> rfl
      exact es_if_ret cc
    have fin : ∀ {r : Ss}, (∀ i j : Int, v = .int i → w = .int j → ∃ ρ', evSs ⟨run FT GL (k + 4 + n), GL⟩ r [some (.tup [o, s, t]), some (.ref p), some (.int i), some (.int j), none] st = .ok (.ret (cut (opI o i j)), ρ') st) →
        gc st (retOf (evSs ⟨run FT GL (k + 4 + n), GL⟩ (.cons (.ite (.or (.not (.ofE (.isi (.var 2) .int))) (.not (.ofE (.isi (.var 3) .int)))) (.cons (.ret (.con .non)) .nil) .nil) r) [some (.tup [o, s, t]), some (.ref p), some v, some w, none] st)) = .ok (opV o v w) st := by
      intro r hr
      rw [q]
      by_cases hb : (!isI v || !isI w) = true
      · rw [if_pos hb, nin_ok hb o, retOf_ret, gc_same]
      · rw [if_neg hb]
        obtain ⟨i, j, rfl, rfl⟩ : ∃ i j, v = .int i ∧ w = .int j := by
          cases v <;> first | (simp [isI] at hb; done) | (cases w <;> first | (simp [isI] at hb; done) | exact ⟨_, _, rfl, rfl⟩)
        obtain ⟨ρ', e⟩ := hr i j rfl rfl
        rw [e, retOf_ret, gc_same]
        rfl
    have kk : k + 4 + n = (k + 2 + n) + 2 := by omega
    constructor
    · simp only [b17]
      rw [es_if_retE c1, if_neg (by decide), es_if_retE c2, if_neg (by decide), es_par2 (call2 i1 rfl f1) (call2 i2 rfl g1)]
      refine fin fun i j e1 e2 => ?_
      subst e2
      have := (r_rest (k + 2 + n) (o := o) (s := s) (t := t) (v1 := .ref p) (st := st) (i := i) (j := j) (x4 := none) oo hw).1
      rw [← kk] at this
      exact this
    · simp only [b26]
      rw [es_if_retE c1, if_neg (by decide), es_if_retE c2, if_neg (by decide), es_par2 (call2 i1 rfl f2) (call2 i2 rfl g2)]
      refine fin fun i j e1 e2 => ?_
      subst e2
      have := (r_rest (k + 2 + n) (o := o) (s := s) (t := t) (v1 := .ref p) (st := st) (i := i) (j := j) (x4 := none) oo hw).2
      rw [← kk] at this
      exact this
/-- a name without a value -/
theorem r_worthQ {x y z : D} (k : Nat) {st : Sto} {p : Nat} (hp : st[p]? = some (.dct (vals x y z))) : run FT GL (k + 1) 17 [.tup [.str sVar, .str (PySem.Str.ofString "Q")], .ref p] st = .ok .non st := by
  have hF : FT 17 = some ⟨2, 3 + 2, b17⟩ := rfl
  rw [un2 hF]
  generalize (⟨run FT GL k, GL⟩ : Ctx) = C
  generalize hw : D.str (PySem.Str.ofString "Q") = w
  have c1 := ec_e (ev_eq0 (ρ := some (.tup [.str sVar, w]) :: some (.ref p) :: List.replicate 3 none) (i := 0) (st := st) C rfl (idx0 (x := .str sVar) (r := [w])) ok_var ok_val)
  have c2 := ec_e (ev_eq0 (ρ := some (.tup [.str sVar, w]) :: some (.ref p) :: List.replicate 3 none) (i := 0) (st := st) C rfl (idx0 (x := .str sVar) (r := [w])) ok_var ok_var)
  rw [varNe] at c1
  rw [varEq] at c2
  have i1 : evE C (.op2 .idx (.var 0) (.con (.int 1))) (some (.tup [.str sVar, w]) :: some (.ref p) :: List.replicate 3 none) st = .ok w st := ev_idx _ rfl idx1
  have v1 : evE C (.var 1) (some (.tup [.str sVar, w]) :: some (.ref p) :: List.replicate 3 none) st = .ok (.ref p) st := ev_var C rfl
  have kq : dkey w = some (.f (.inr (PySem.Str.ofString "Q"))) := by rw [← hw]; rfl
  have e1 : dkey (.str sX) = some (.f (.inr sX)) := rfl
  have e2 : dkey (.str sY) = some (.f (.inr sY)) := rfl
  have e3 : dkey (.str sZ) = some (.f (.inr sZ)) := rfl
  have ne : ∀ {s : PySem.Str}, s ≠ PySem.Str.ofString "Q" → ¬ (some (DK.f (.inr s)) = some (DK.f (.inr (PySem.Str.ofString "Q")))) := by
    intro s hs e; injection e with e; injection e with e; injection e with e; exact hs e
  have dg : dget (vals x y z) (.f (.inr (PySem.Str.ofString "Q"))) = none := by
    simp only [dget, e1, e2, e3]
    rw [if_neg (ne (by decide +kernel)), if_neg (ne (by decide +kernel)), if_neg (ne (by decide +kernel))]
  have sk : sameKind (.f (.inr (PySem.Str.ofString "Q"))) (vals x y z) = true := rfl
  have g : evE C (.mt2 .get (.var 1) (.op2 .idx (.var 0) (.con (.int 1)))) (some (.tup [.str sVar, w]) :: some (.ref p) :: List.replicate 3 none) st = .ok .non st := by
    rw [evE, v1]
    simp only [R.bind_ok, mtOk, dictOf, hp, Option.isSome_some, if_true]
    rw [i1]
    simp only [R.bind_ok, MP.p2, dictOf, hp, kq, sk, if_true, dg, Option.getD_none]
  simp only [b17]
  rw [es_if_retE c1, if_neg (by decide), es_if_retE c2, if_pos rfl, g]
  simp only [R.bind_ok, retOf_ret, gc_same]
end K00

set_option Elab.async false
set_option linter.all false
set_option maxRecDepth 100000
set_option maxHeartbeats 4000000
namespace K00
open MP
open PySem.W (keyToks keyToksAll alike alikeAll dataLt)
/-! ### the order of sorted data, as a list -/
theorem sle_total (a b : D) : sortLe a b = true ∨ sortLe b a = true := by
  unfold sortLe
  cases h : dataLt b.py a.py with
  | false => exact .inl rfl
  | true =>
    right
    cases g : dataLt a.py b.py with
    | false => rfl
    | true =>
      have := PyProof.Rows.lex_trans (O := PyProof.Rows.itemOrd) _ _ _ h g
      rw [PyProof.Rows.lex_irrefl] at this
      exact absurd this (by decide)
theorem sle_trans {a b c : D} (h1 : sortLe a b = true) (h2 : sortLe b c = true) : sortLe a c = true := by
  unfold sortLe at *
  cases h : dataLt c.py a.py with
  | false => rfl
  | true =>
    rcases PyProof.Rows.lex_negTrans (O := PyProof.Rows.itemOrd) (keyToks c.py) (keyToks b.py) (keyToks a.py) h with g | g
    · have : dataLt c.py b.py = true := g
      rw [this] at h2; exact absurd h2 (by decide)
    · have : dataLt b.py a.py = true := g
      rw [this] at h1; exact absurd h1 (by decide)
theorem sle_toks {a b : D} (h1 : sortLe a b = true) (h2 : sortLe b a = true) : keyToks a.py = keyToks b.py := by
  unfold sortLe at *
  have e1 : dataLt b.py a.py = false := by simpa using h1
  have e2 : dataLt a.py b.py = false := by simpa using h2
  exact PyProof.Rows.lex_total (O := PyProof.Rows.itemOrd) _ _ e2 e1
theorem sort_perm {l m : List D} (hp : l.Perm m) (hinj : ∀ a ∈ l, ∀ b ∈ l, sortLe a b = true → sortLe b a = true → a = b) : l.mergeSort sortLe = m.mergeSort sortLe := by
  have s1 := List.pairwise_mergeSort (le := sortLe) (fun a b c h1 h2 => sle_trans h1 h2) (fun a b => Bool.or_eq_true_iff.mpr (sle_total a b)) l
  have s2 := List.pairwise_mergeSort (le := sortLe) (fun a b c h1 h2 => sle_trans h1 h2) (fun a b => Bool.or_eq_true_iff.mpr (sle_total a b)) m
  have p1 := List.mergeSort_perm l sortLe
  have p2 := List.mergeSort_perm m sortLe
  refine List.Perm.eq_of_pairwise (le := fun a b => sortLe a b = true) (fun a b ha hb h1 h2 => ?_) s1 s2 (p1.trans (hp.trans p2.symm))
  exact hinj a (p1.mem_iff.mp ha) b (hp.mem_iff.mpr (p2.mem_iff.mp hb)) h1 h2
/-- alike data with the same signs are equal -/
theorem eqv_of_toks {x y : PySem.PyData} {l m : List (Int ⊕ List Nat)} (h : alike x y = true) (e : keyToks x ++ l = keyToks y ++ m) : PySem.PyData.eqv x y = true := by
  cases hq : PySem.PyData.eqv x y with
  | true => rfl
  | false =>
    have t := (PySem.W.toks_eqv x y h).2 hq
    have t1 := t l m
    have t2 := t l (m ++ [.inl 0])
    rw [e, PyProof.Rows.lex_irrefl] at t1
    rw [e, ← List.append_assoc] at t2
    have t4 : PyProof.Rows.lexLt PyProof.Rows.itemOrd ((keyToks y ++ m) ++ []) ((keyToks y ++ m) ++ [.inl 0]) = true := (PySem.W.lex_pre (keyToks y ++ m) [] [.inl 0]).trans rfl
    rw [List.append_nil, t2, ← t1] at t4
    exact absurd t4 (by decide)
/-! ### keeping the first of equal keys -/
def uniq (acc : List D) : List D → List D
  | [] => acc
  | r :: rs => if (acc.any fun d => decide (dkey d = dkey r)) = true then uniq acc rs else uniq (acc ++ [r]) rs
theorem dput_keys (kvs : List (D × D)) (k : DK) (d v : D) (hd : dkey d = some k) : (dput kvs k d v).map (·.1) = if ((kvs.map (·.1)).any fun e => decide (dkey e = dkey d)) = true then kvs.map (·.1) else kvs.map (·.1) ++ [d] := by
  unfold dput
  have e : ((kvs.map (·.1)).any fun e => decide (dkey e = dkey d)) = (kvs.any fun p => decide (dkey p.1 = some k)) := by
    rw [List.any_map, hd]
    rfl
  rw [e]
  split
  · rw [List.map_map]
    apply List.map_congr_left
    intro p _
    show (if dkey p.1 = some k then (p.1, v) else p).1 = p.1
    split <;> rfl
  · simp
theorem dictN_keys (v : D) : ∀ (rows : List D) (acc : List (D × D)), (∀ r ∈ rows, ∃ k, dkey r = some (.n k)) → ∃ kvs, dictN acc (rows.map fun r => .tup [r, v]) = some kvs ∧ kvs.map (·.1) = uniq (acc.map (·.1)) rows
  | [], acc, _ => ⟨acc, rfl, rfl⟩
  | r :: rows, acc, h => by
    obtain ⟨k, hk⟩ := h r (by simp)
    obtain ⟨kvs, e1, e2⟩ := dictN_keys v rows (dput acc (.n k) r v) (fun x hx => h x (by simp [hx]))
    refine ⟨kvs, ?_, ?_⟩
    · rw [List.map_cons, dictN]
      simp only [hk]
      exact e1
    · rw [e2, dput_keys _ _ _ _ hk, uniq]
      split <;> rfl
theorem uniq_sub : ∀ (rows acc : List D), ∀ x ∈ uniq acc rows, x ∈ acc ∨ x ∈ rows
  | [], acc, x, h => .inl h
  | r :: rows, acc, x, h => by
    rw [uniq] at h
    split at h
    · rcases uniq_sub rows acc x h with h | h
      · exact .inl h
      · exact .inr (by simp [h])
    · rcases uniq_sub rows _ x h with h | h
      · rcases List.mem_append.mp h with h | h
        · exact .inl h
        · right; simp at h; simp [h]
      · exact .inr (by simp [h])
theorem uniq_len : ∀ (rows acc : List D), (uniq acc rows).length ≤ acc.length + rows.length
  | [], acc => by simp [uniq]
  | r :: rows, acc => by
    rw [uniq]
    split
    · have := uniq_len rows acc
      simp; omega
    · have := uniq_len rows (acc ++ [r])
      simp at this ⊢; omega
/-- keys all unlike -/
def Unl (l : List D) : Prop := l.Pairwise fun a b => dkey a ≠ dkey b
theorem uniq_unl : ∀ (rows acc : List D), Unl acc → Unl (uniq acc rows)
  | [], acc, h => h
  | r :: rows, acc, h => by
    rw [uniq]
    split
    · exact uniq_unl rows acc h
    · rename_i hn
      apply uniq_unl rows
      refine List.pairwise_append.mpr ⟨h, by simp, fun a ha b hb => ?_⟩
      simp only [List.mem_singleton] at hb
      subst hb
      intro e
      exact hn (List.any_eq_true.mpr ⟨a, ha, by simp [e]⟩)
theorem uniq_same : ∀ (rows acc : List D), Unl (acc ++ rows) → uniq acc rows = acc ++ rows
  | [], acc, _ => by simp [uniq]
  | r :: rows, acc, h => by
    have hn : ¬ (acc.any fun d => decide (dkey d = dkey r)) = true := by
      intro e
      obtain ⟨a, ha, e⟩ := List.any_eq_true.mp e
      exact (List.pairwise_append.mp h).2.2 a ha r (by simp) (by simpa using e)
    rw [uniq, if_neg hn, uniq_same rows (acc ++ [r]) (by simpa using h)]
    simp
end K00

set_option Elab.async false
set_option linter.all false
set_option maxRecDepth 100000
set_option maxHeartbeats 4000000
namespace K00
open MP
open PySem.W (keyToks keyToksAll alike alikeAll dataLt)
/-- keys that put data in order -/
structure KO (P : D → Prop) (key : D → D) : Prop where
  like : ∀ a b, P a → P b → D.like (key a) (key b) = true
  inj : ∀ a b, P a → P b → PySem.PyData.eqv (key a).py (key b).py = true → a = b
  self : ∀ a, P a → PySem.PyData.eqv a.py a.py = true
  ok : ∀ a, P a → (D.flat (key a) && (key a).py.canLay0 && decide (D.dep (key a) ≤ 50)) = true ∧ (D.flat a && a.py.canLay0 && decide (D.dep a ≤ 50)) = true
  dk : ∀ a, P a → ∃ k, dkey a = some (.n k)
def pr2 (key : D → D) (a : D) : D := .tup [key a, a]
def sndD : D → D
  | .tup [_, r] => r
  | d => d
def ordL (key : D → D) (l : List D) : List D := ((l.map (pr2 key)).mergeSort sortLe).map sndD
theorem okL_of {ds : List D} {n : Nat} (hn : n ≤ 60) (h : ∀ d ∈ ds, (D.flat d && d.py.canLay0 && decide (D.dep d ≤ n)) = true) : D.okL ds = true := by
  have : D.flatL ds = true ∧ PySem.PyData.canLayAll0 (D.pyL ds) = true ∧ D.depL ds ≤ n := by
    induction ds with
    | nil => exact ⟨by simp [D.flatL], by simp [D.pyL, PySem.PyData.canLayAll0], by simp [D.depL]⟩
    | cons d ds ih =>
      have hd := h d (by simp)
      obtain ⟨i1, i2, i3⟩ := ih (fun x hx => h x (by simp [hx]))
      simp only [Bool.and_eq_true, decide_eq_true_eq] at hd
      refine ⟨by simp [D.flatL, hd.1.1, i1], by simp [D.pyL, PySem.PyData.canLayAll0, hd.1.2, i2], ?_⟩
      simp only [D.depL]
      omega
  simp only [D.okL, Bool.and_eq_true, decide_eq_true_eq]
  exact ⟨⟨this.1, this.2.1⟩, by omega⟩
theorem okT_of {ds : List D} {n : Nat} (h : ∀ d ∈ ds, (D.flat d && d.py.canLay0 && decide (D.dep d ≤ n)) = true) : (D.flat (.tup ds) && (D.tup ds).py.canLay0 && decide (D.dep (.tup ds) ≤ n + 1)) = true := by
  have : D.flatL ds = true ∧ PySem.PyData.canLayAll0 (D.pyL ds) = true ∧ D.depL ds ≤ n := by
    induction ds with
    | nil => exact ⟨by simp [D.flatL], by simp [D.pyL, PySem.PyData.canLayAll0], by simp [D.depL]⟩
    | cons d ds ih =>
      have hd := h d (by simp)
      obtain ⟨i1, i2, i3⟩ := ih (fun x hx => h x (by simp [hx]))
      simp only [Bool.and_eq_true, decide_eq_true_eq] at hd
      refine ⟨by simp [D.flatL, hd.1.1, i1], by simp [D.pyL, PySem.PyData.canLayAll0, hd.1.2, i2], ?_⟩
      simp only [D.depL]
      omega
  simp only [Bool.and_eq_true, decide_eq_true_eq, D.flat, D.py, PySem.PyData.canLay0, D.dep]
  refine ⟨⟨this.1, this.2.1⟩, ?_⟩
  have h3 := this.2.2
  first | omega | (apply decide_eq_true; omega)
theorem okN_mono {d : D} {n m : Nat} (h : (D.flat d && d.py.canLay0 && decide (D.dep d ≤ n)) = true) (hm : n ≤ m) : (D.flat d && d.py.canLay0 && decide (D.dep d ≤ m)) = true := by
  simp only [Bool.and_eq_true, decide_eq_true_eq] at h ⊢
  exact ⟨h.1, by omega⟩
section
variable {P : D → Prop} {key : D → D}
theorem pairs_ok (K : KO P key) {l : List D} (hl : ∀ a ∈ l, P a) : D.okL (l.map (pr2 key)) = true := by
  refine okL_of (n := 51) (by decide) fun d hd => ?_
  obtain ⟨a, ha, rfl⟩ := List.mem_map.mp hd
  obtain ⟨k1, k2⟩ := K.ok a (hl a ha)
  refine okT_of fun x hx => ?_
  simp only [List.mem_cons, List.not_mem_nil, or_false] at hx
  rcases hx with rfl | rfl
  · exact k1
  · exact k2
theorem pairs_sort (K : KO P key) {l : List D} (hl : ∀ a ∈ l, P a) : allSort (l.map (pr2 key)) = true := by
  refine List.all_eq_true.mpr fun x hx => List.all_eq_true.mpr fun y hy => ?_
  obtain ⟨a, ha, rfl⟩ := List.mem_map.mp hx
  obtain ⟨b, hb, rfl⟩ := List.mem_map.mp hy
  have hk := K.like a b (hl a ha) (hl b hb)
  show (D.like (key a) (key b) && D.likeT (key a :: [a]) (key b :: [b])) = true
  rw [hk, Bool.true_and, D.likeT]
  split
  · rename_i e
    have := K.inj a b (hl a ha) (hl b hb) e
    subst this
    rw [D.likeT, if_pos (K.self a (hl a ha)), D.likeT]
  · exact hk
theorem sort_pairs (K : KO P key) {l : List D} (hl : ∀ a ∈ l, P a) (hn : l.length ≤ 1000) : sortD (l.map (pr2 key)) = some ((l.map (pr2 key)).mergeSort sortLe) := by
  unfold sortD
  have h3 : decide ((l.map (pr2 key)).length ≤ LINE) = true := decide_eq_true (by rw [List.length_map]; unfold LINE; omega)
  rw [pairs_ok K hl, pairs_sort K hl, h3]
  rfl
theorem pair_inj (K : KO P key) {a b : D} (ha : P a) (hb : P b) (h1 : sortLe (pr2 key a) (pr2 key b) = true) (h2 : sortLe (pr2 key b) (pr2 key a) = true) : pr2 key a = pr2 key b := by
  have e := sle_toks h1 h2
  have e1 : ∀ a, keyToks (pr2 key a).py = .inl 1 :: (keyToks (key a).py ++ keyToksAll [a.py]) := fun a => by
    simp only [pr2, D.py, D.pyL, keyToks]
    rw [PySem.W.toks_all_cons]
  rw [e1, e1] at e
  have e2 := (List.cons.inj e).2
  have := K.inj a b ha hb (eqv_of_toks (like_alike _ _ (K.like a b ha hb)) e2)
  rw [this]
theorem ordL_perm (K : KO P key) {l m : List D} (hl : ∀ a ∈ l, P a) (hp : l.Perm m) : ordL key l = ordL key m := by
  unfold ordL
  rw [sort_perm (hp.map (pr2 key))]
  intro x hx y hy h1 h2
  obtain ⟨a, ha, rfl⟩ := List.mem_map.mp hx
  obtain ⟨b, hb, rfl⟩ := List.mem_map.mp hy
  exact pair_inj K (hl a ha) (hl b hb) h1 h2
theorem ordL_is (l : List D) : (ordL key l).Perm l := by
  have h := (List.mergeSort_perm (l.map (pr2 key)) sortLe).map sndD
  have e : (l.map (pr2 key)).map sndD = l := by
    rw [List.map_map]
    have : (sndD ∘ pr2 key) = id := rfl
    rw [this, List.map_id]
  rw [e] at h
  exact h
theorem ordL_mem {l : List D} {a : D} (h : a ∈ ordL key l) : a ∈ l := (ordL_is l).mem_iff.mp h
theorem ord_rev (K : KO P key) {rows : List D} (hl : ∀ a ∈ rows, P a) : ordL key (uniq [] (ordL key (uniq [] rows)).reverse) = ordL key (uniq [] rows) := by
  have hp : (ordL key (uniq [] rows)).reverse.Perm (uniq [] rows) := (List.reverse_perm _).trans (ordL_is _)
  have hu : Unl (ordL key (uniq [] rows)).reverse := by
    have h0 : Unl (uniq [] rows) := uniq_unl rows [] List.Pairwise.nil
    exact (hp.pairwise_iff (fun h => Ne.symm h)).mpr h0
  have e := uniq_same (ordL key (uniq [] rows)).reverse [] (by simpa using hu)
  rw [List.nil_append] at e
  rw [e]
  refine (ordL_perm K (fun a ha => ?_) hp.symm).symm
  rcases uniq_sub rows [] a ha with h | h
  · cases h
  · exact hl a h
end
/-! ### the walk of a dict's keys -/
theorem set_back {st : Sto} {n : Nat} {o p : Ob} (h : st[n]? = some o) : (st.set n p).set n o = st := by
  rw [List.set_set]
  apply List.ext_getElem?
  intro i
  by_cases hi : n = i
  · subst hi
    rw [List.getElem?_set_self (List.getElem?_eq_some_iff.mp h).1, h]
  · rw [List.getElem?_set_ne hi]
theorem lc_dict {C : Ctx} {ρ : MP.Env} {st : Sto} {elt : E} {own : List Nat} {t : Tg} {i n : Nat} {kvs : List (D × D)} {g : D → D} (hn : ρ[i]? = some (some (.ref n))) (hst : st[n]? = some (.dct kvs))
    (h : ∀ x ∈ kvs.map (·.1), ∃ ρ', asgT t x (wipeE ρ own) (st.set n (.fdct kvs)) = some ρ' ∧ evE C elt ρ' (st.set n (.fdct kvs)) = .ok (g x) (st.set n (.fdct kvs))) (hl : kvs.length ≤ LINE) :
    evQ C (.lc elt own t (.ofP (.var i))) ρ st = .ok ((kvs.map (·.1)).map g) st := by
  have hlen := (List.getElem?_eq_some_iff.mp hst).1
  have hs : (st.set n (.fdct kvs))[n]? = some (.fdct kvs) := List.getElem?_set_self hlen
  simp only [evQ, evLk, ev_var C hn, lockD, hst, held, evIt, R.bind_ok, srcOf, hs, R.opt_some]
  rw [lcL_pure (g := fun x => some (g x)) rfl]
  · simp only [R.thaw, set_back hst]
    have e : ∀ l : List D, List.filterMap (fun x => some (g x)) l = l.map g := fun l => by
      rw [← List.filterMap_eq_map]; rfl
    rw [e, List.nil_append]
  · intro x hx
    obtain ⟨ρ', h1, h2⟩ := h x hx
    simp [h1, h2]
  · simpa using hl
section
variable {P : D → Prop} {key : D → D}
def bodyA (v : D) (ke : E) : Ss := (.cons (.asg (.name 1) (.fold .dict (.lc (.tup (.cons (.var 3) (.cons (.con v) .nil))) [2, 3] (.name 3) (.ofP (.var 0))))) (.cons (.ret (.fold .tuple (.lc (.var 3) [2, 4, 3] (.tup [4, 3]) (.ofQ (.sorted (.lc (.tup (.cons ke (.cons (.var 3) .nil))) [2, 3] (.name 3) (.ofP (.var 1)))))))) .nil))
def bodyB (v : D) (ke : E) : Ss := (.cons (.asg (.name 1) (.fold .dict (.lc (.tup (.cons (.var 3) (.cons (.con v) .nil))) [2, 3] (.name 3) (.ofP (.var 0))))) (.cons (.ret (.fold .tuple (.lc (.op2 .idx (.var 4) (.con (.int 1))) [2, 4] (.name 4) (.ofQ (.sorted (.lc (.tup (.cons ke (.cons (.var 3) .nil))) [2, 3] (.name 3) (.ofP (.var 1)))))))) .nil))
theorem st_dict (C : Ctx) (K : KO P key) (v : D) {rows : List D} {p : Nat} {st : Sto} (hp : st[p]? = some (.lst rows)) (hr : ∀ a ∈ rows, P a) (hl : rows.length ≤ 1000) : ∃ kvs, kvs.map (·.1) = uniq [] rows ∧
    evE C (.fold .dict (.lc (.tup (.cons (.var 3) (.cons (.con v) .nil))) [2, 3] (.name 3) (.ofP (.var 0)))) (some (.ref p) :: List.replicate 4 none) st = .ok (.ref st.length) (st ++ [.dct kvs]) := by
  obtain ⟨kvs, e1, e2⟩ := dictN_keys v rows [] (fun r h => K.dk r (hr r h))
  refine ⟨kvs, e2, ?_⟩
  have q := lc_gen (C := C) (ρ := some (.ref p) :: List.replicate 4 none) (st := st) (elt := .tup (.cons (.var 3) (.cons (.con v) .nil))) (own := [2, 3]) (t := .name 3) (src := .ofP (.var 0)) (s := { items := rows, chk := some p }) (g := fun r => .tup [r, v])
    (by simp [evLk, lockD, evE, hp]) (by simp [evIt, evE, srcOf, hp]) (by simp [Src.same, hp]) (fun x hx => ⟨_, rfl, ev_tup (es_cons (ev_var _ rfl) (es_cons (ev_con _ _ _ _) es_nil)) (len_le (by simp))⟩) (len_le hl)
  rw [evE, q]
  simp only [R.bind_ok, foldD]
  cases rows with
  | nil =>
    have : kvs = [] := by simpa [dictN] using e1.symm
    subst this
    rfl
  | cons r rows =>
    have hF : dictF [] ((r :: rows).map fun r => D.tup [r, v]) = none := by
      obtain ⟨k, hk⟩ := K.dk r (hr r (by simp))
      have : fkey r = none := by
        cases r <;> simp [dkey] at hk <;> rfl
      simp [dictF, this]
    rw [hF]
    simp only [e1]
    rfl
theorem st_sorted {C : Ctx} (K : KO P key) {ke : E} (hke : ∀ (x : D) (st : Sto) (v0 v1 v2 v4 : Option D), P x → evE C ke [v0, v1, v2, some x, v4] st = .ok (key x) st) {kvs : List (D × D)} {v0 : Option D} {n : Nat} {st : Sto} (hst : st[n]? = some (.dct kvs)) (hr : ∀ a ∈ kvs.map (·.1), P a) (hl : kvs.length ≤ 1000) :
    evQ C (.sorted (.lc (.tup (.cons ke (.cons (.var 3) .nil))) [2, 3] (.name 3) (.ofP (.var 1)))) [v0, some (.ref n), none, none, none] st = .ok (((kvs.map (·.1)).map (pr2 key)).mergeSort sortLe) st := by
  have q := lc_dict (C := C) (ρ := [v0, some (.ref n), none, none, none]) (st := st) (elt := .tup (.cons ke (.cons (.var 3) .nil))) (own := [2, 3]) (t := .name 3) (i := 1) (g := pr2 key) rfl hst
    (fun x hx => ⟨_, rfl, ev_tup (es_cons (hke x _ v0 (some (.ref n)) none none (hr x hx)) (es_cons (ev_var _ rfl) es_nil)) (len_le (by simp))⟩) (by unfold LINE; omega)
  rw [evQ, q]
  simp only [R.bind_ok]
  rw [sort_pairs K hr (by simpa using hl)]
  rfl
theorem ordL_flat (K : KO P key) {l : List D} (hl : ∀ a ∈ l, P a) : D.flat (.tup (ordL key l)) = true := by
  have : ∀ m : List D, (∀ a ∈ m, P a) → D.flatL m = true := by
    intro m hm
    induction m with
    | nil => simp [D.flatL]
    | cons a m ih =>
      have := (K.ok a (hm a (by simp))).2
      simp only [Bool.and_eq_true] at this
      simp [D.flatL, this.1.1, ih (fun x hx => hm x (by simp [hx]))]
  simp only [D.flat]
  exact this _ (fun a ha => hl a (ordL_mem ha))
theorem gc_more {d : D} {st : Sto} {o : Ob} (h : D.flat d = true) : gc st (.ok d (st ++ [o])) = .ok d st := by
  simp [gc, h]
theorem sorted_pair {l : List D} {x : D} (h : x ∈ (l.map (pr2 key)).mergeSort sortLe) : ∃ a ∈ l, x = pr2 key a := by
  have := (List.mergeSort_perm (l.map (pr2 key)) sortLe).mem_iff.mp h
  obtain ⟨a, ha, rfl⟩ := List.mem_map.mp this
  exact ⟨a, ha, rfl⟩
theorem r_bodyA {C : Ctx} (K : KO P key) {v : D} {ke : E} (hke : ∀ (x : D) (st : Sto) (v0 v1 v2 v4 : Option D), P x → evE C ke [v0, v1, v2, some x, v4] st = .ok (key x) st) {rows : List D} {p : Nat} {st : Sto} (hp : st[p]? = some (.lst rows)) (hr : ∀ a ∈ rows, P a) (hl : rows.length ≤ 1000) :
    gc st (retOf (evSs C (bodyA v ke) (some (.ref p) :: List.replicate 4 none) st)) = .ok (.tup (ordL key (uniq [] rows))) st := by
  obtain ⟨kvs, e1, e2⟩ := st_dict C K v hp hr hl
  have hu : ∀ a ∈ kvs.map (·.1), P a := fun a ha => by
    rw [e1] at ha
    rcases uniq_sub rows [] a ha with h | h
    · cases h
    · exact hr a h
  have hul : kvs.length ≤ 1000 := by
    have := uniq_len rows []
    rw [← e1, List.length_map] at this
    simp at this; omega
  have hst : (st ++ [Ob.dct kvs])[st.length]? = some (.dct kvs) := get_last _ _
  have q := st_sorted (v0 := some (.ref p)) K hke hst hu hul
  have q2 := tup_gen (C := C) (ρ := [some (.ref p), some (.ref st.length), none, none, none]) (st := st ++ [.dct kvs]) (elt := .var 3) (own := [2, 4, 3]) (t := .tup [4, 3]) (src := .ofQ (.sorted (.lc (.tup (.cons ke (.cons (.var 3) .nil))) [2, 3] (.name 3) (.ofP (.var 1))))) (s := { items := ((kvs.map (·.1)).map (pr2 key)).mergeSort sortLe }) (g := sndD)
    (by simp only [evLk]) (by rw [evIt, q]; rfl) rfl (fun x hx => by
      obtain ⟨a, ha, rfl⟩ := sorted_pair hx
      exact ⟨_, rfl, ev_var _ rfl⟩) (by
      have := (List.mergeSort_perm ((kvs.map (·.1)).map (pr2 key)) sortLe).length_eq
      simp only [List.length_map] at this
      exact len_le (by rw [this]; exact hul))
  rw [bodyA, es_asg e2]
  show gc st (retOf (evSs C _ [some (.ref p), some (.ref st.length), none, none, none] _)) = _
  rw [es_ret q2, retOf_ret]
  have e3 : (((kvs.map (·.1)).map (pr2 key)).mergeSort sortLe).map sndD = ordL key (uniq [] rows) := by rw [e1]; rfl
  rw [e3]
  refine gc_more (ordL_flat K fun a ha => ?_)
  rw [← e1] at ha
  exact hu a ha
theorem r_bodyB {C : Ctx} (K : KO P key) {v : D} {ke : E} (hke : ∀ (x : D) (st : Sto) (v0 v1 v2 v4 : Option D), P x → evE C ke [v0, v1, v2, some x, v4] st = .ok (key x) st) {rows : List D} {p : Nat} {st : Sto} (hp : st[p]? = some (.lst rows)) (hr : ∀ a ∈ rows, P a) (hl : rows.length ≤ 1000) :
    gc st (retOf (evSs C (bodyB v ke) (some (.ref p) :: List.replicate 4 none) st)) = .ok (.tup (ordL key (uniq [] rows))) st := by
  obtain ⟨kvs, e1, e2⟩ := st_dict C K v hp hr hl
  have hu : ∀ a ∈ kvs.map (·.1), P a := fun a ha => by
    rw [e1] at ha
    rcases uniq_sub rows [] a ha with h | h
    · cases h
    · exact hr a h
  have hul : kvs.length ≤ 1000 := by
    have := uniq_len rows []
    rw [← e1, List.length_map] at this
    simp at this; omega
  have hst : (st ++ [Ob.dct kvs])[st.length]? = some (.dct kvs) := get_last _ _
  have q := st_sorted (v0 := some (.ref p)) K hke hst hu hul
  have q2 := tup_gen (C := C) (ρ := [some (.ref p), some (.ref st.length), none, none, none]) (st := st ++ [.dct kvs]) (elt := .op2 .idx (.var 4) (.con (.int 1))) (own := [2, 4]) (t := .name 4) (src := .ofQ (.sorted (.lc (.tup (.cons ke (.cons (.var 3) .nil))) [2, 3] (.name 3) (.ofP (.var 1))))) (s := { items := ((kvs.map (·.1)).map (pr2 key)).mergeSort sortLe }) (g := sndD)
    (by simp only [evLk]) (by rw [evIt, q]; rfl) rfl (fun x hx => by
      obtain ⟨a, ha, rfl⟩ := sorted_pair hx
      exact ⟨_, rfl, ev_idx _ rfl idx1⟩) (by
      have := (List.mergeSort_perm ((kvs.map (·.1)).map (pr2 key)) sortLe).length_eq
      simp only [List.length_map] at this
      exact len_le (by rw [this]; exact hul))
  rw [bodyB, es_asg e2]
  show gc st (retOf (evSs C _ [some (.ref p), some (.ref st.length), none, none, none] _)) = _
  rw [es_ret q2, retOf_ret]
  have e3 : (((kvs.map (·.1)).map (pr2 key)).mergeSort sortLe).map sndD = ordL key (uniq [] rows) := by rw [e1]; rfl
  rw [e3]
  refine gc_more (ordL_flat K fun a ha => ?_)
  rw [← e1] at ha
  exact hu a ha
end
end K00

set_option Elab.async false
set_option linter.all false
set_option maxRecDepth 100000
set_option maxHeartbeats 4000000
namespace K00
open MP
open PySem.W (keyToks keyToksAll alike alikeAll dataLt)
/-! ### the keys of values, rows, facts -/
def nilS : D := .str (PySem.Str.ofString "")
def vkey (v : D) : D := if isW v = true then .tup [.int 0, v, nilS] else .tup [.int 1, .int 0, v]
def rkey : D → D
  | .tup vs => .tup (vs.map vkey)
  | d => d
def fkey2 : D → D
  | .tup [n, r] => .tup [n, rkey r]
  | d => d
/-- a value -/
def vOk : D → Bool
  | .int i => isValue (.int i)
  | .str s => isName (.str s) && ((D.str s).py.canLay0 && decide (s.length ≤ LINE) && D.okD (.str s))
  | _ => false
theorem any_vOk {x : D} (h : x ∈ anyL) : vOk x = true := by
  have e : anyL.all vOk = true := by decide +kernel
  exact List.all_eq_true.mp e x h
def RowP (r : D) : Prop := ∃ vs : List D, r = .tup vs ∧ vs.length ≤ 3 ∧ ∀ v ∈ vs, vOk v = true
def nmL : List D := [.str (PySem.Str.ofString "p"), .str (PySem.Str.ofString "q"), .str (PySem.Str.ofString "p1")]
def FactP (f : D) : Prop := ∃ n r : D, f = .tup [n, r] ∧ n ∈ nmL ∧ RowP r
theorem vcases {v : D} (h : vOk v = true) : (∃ i, v = .int i) ∨ ∃ s, v = .str s ∧ (D.str s).py.canLay0 = true := by
  cases v <;> first | exact .inl ⟨_, rfl⟩ | (right; simp only [vOk, Bool.and_eq_true] at h; exact ⟨_, rfl, h.2.1.1⟩) | cases h
theorem vkey_like {a b : D} (ha : vOk a = true) (hb : vOk b = true) : D.like (vkey a) (vkey b) = true := by
  rcases vcases ha with ⟨i, rfl⟩ | ⟨s, rfl, _⟩ <;> rcases vcases hb with ⟨j, rfl⟩ | ⟨t, rfl, _⟩ <;> rfl
theorem like_map : ∀ xs ys : List D, (∀ x ∈ xs, vOk x = true) → (∀ y ∈ ys, vOk y = true) → D.likeL (xs.map vkey) (ys.map vkey) = true
  | [], ys, _, _ => by simp [D.likeL]
  | x :: xs, [], _, _ => by simp [D.likeL]
  | x :: xs, y :: ys, hx, hy => by
    simp only [List.map_cons, D.likeL, Bool.and_eq_true]
    exact ⟨vkey_like (hx x (by simp)) (hy y (by simp)), like_map xs ys (fun z hz => hx z (by simp [hz])) (fun z hz => hy z (by simp [hz]))⟩
theorem vkey_inj {a b : D} (ha : vOk a = true) (hb : vOk b = true) (h : PySem.PyData.eqv (vkey a).py (vkey b).py = true) : a = b := by
  rcases vcases ha with ⟨i, rfl⟩ | ⟨s, rfl, _⟩ <;> rcases vcases hb with ⟨j, rfl⟩ | ⟨t, rfl, _⟩
  · simp [vkey, isW, D.py, D.pyL, PySem.PyData.eqv, PySem.PyData.eqvAll] at h
    simp [h]
  · simp [vkey, isW, D.py, D.pyL, PySem.PyData.eqv, PySem.PyData.eqvAll] at h
  · simp [vkey, isW, D.py, D.pyL, PySem.PyData.eqv, PySem.PyData.eqvAll] at h
  · simp [vkey, isW, D.py, D.pyL, PySem.PyData.eqv, PySem.PyData.eqvAll] at h
    simp [h]
theorem map_inj : ∀ xs ys : List D, (∀ x ∈ xs, vOk x = true) → (∀ y ∈ ys, vOk y = true) → PySem.PyData.eqvAll (D.pyL (xs.map vkey)) (D.pyL (ys.map vkey)) = true → xs = ys
  | [], [], _, _, _ => rfl
  | [], y :: ys, _, _, h => by simp [D.pyL, PySem.PyData.eqvAll] at h
  | x :: xs, [], _, _, h => by simp [D.pyL, PySem.PyData.eqvAll] at h
  | x :: xs, y :: ys, hx, hy, h => by
    simp only [List.map_cons, D.pyL] at h
    rw [PySem.W.eqv_all_cons, Bool.and_eq_true] at h
    rw [vkey_inj (hx x (by simp)) (hy y (by simp)) h.1, map_inj xs ys (fun z hz => hx z (by simp [hz])) (fun z hz => hy z (by simp [hz])) h.2]
theorem v_self {v : D} (h : vOk v = true) : D.like v v = true := by
  rcases vcases h with ⟨i, rfl⟩ | ⟨s, rfl, _⟩ <;> rfl
theorem likeL_self : ∀ xs : List D, (∀ x ∈ xs, D.like x x = true) → D.likeL xs xs = true
  | [], _ => by simp [D.likeL]
  | x :: xs, h => by simp [D.likeL, h x (by simp), likeL_self xs (fun y hy => h y (by simp [hy]))]
theorem row_self {r : D} (h : RowP r) : D.like r r = true := by
  obtain ⟨vs, rfl, _, hv⟩ := h
  simp only [D.like]
  exact likeL_self vs fun x hx => v_self (hv x hx)
theorem eqv_self {a : D} (h : D.like a a = true) : PySem.PyData.eqv a.py a.py = true := PySem.W.eqv_refl_alike _ (like_alike _ _ h)
abbrev okN (n : Nat) (d : D) : Prop := (D.flat d && d.py.canLay0 && decide (D.dep d ≤ n)) = true
theorem v_ok {v : D} (h : vOk v = true) : okN 0 v := by
  rcases vcases h with ⟨i, rfl⟩ | ⟨s, rfl, e⟩
  · simp [okN, D.flat, D.py, PySem.PyData.canLay0, D.dep]
  · simp only [okN, e, D.flat, D.dep]; rfl
theorem int_ok (i : Int) : okN 0 (.int i) := by simp [okN, D.flat, D.py, PySem.PyData.canLay0, D.dep]
theorem nil_ok : okN 0 nilS := by
  unfold okN
  decide +kernel
theorem v_isValue {v : D} (h : vOk v = true) : isValue v = true := by
  cases v <;> first | exact h | (simp only [vOk, Bool.and_eq_true] at h; exact h.1) | cases h
theorem row_isRow {r : D} (h : RowP r) : isRow r = true := by
  obtain ⟨vs, rfl, hl, hv⟩ := h
  simp only [isRow, Bool.and_eq_true, decide_eq_true_eq]
  exact ⟨by omega, List.all_eq_true.mpr fun v hv' => v_isValue (hv v hv')⟩
theorem vkey_ok {v : D} (h : vOk v = true) : okN 1 (vkey v) := by
  unfold vkey
  split
  · refine okT_of fun x hx => ?_
    simp only [List.mem_cons, List.not_mem_nil, or_false] at hx
    rcases hx with rfl | rfl | rfl
    · exact int_ok 0
    · exact v_ok h
    · exact nil_ok
  · refine okT_of fun x hx => ?_
    simp only [List.mem_cons, List.not_mem_nil, or_false] at hx
    rcases hx with rfl | rfl | rfl
    · exact int_ok 1
    · exact int_ok 0
    · exact v_ok h
theorem row_ok {r : D} (h : RowP r) : okN 1 r ∧ okN 2 (rkey r) := by
  obtain ⟨vs, rfl, _, hv⟩ := h
  refine ⟨okT_of fun x hx => v_ok (hv x hx), okT_of fun x hx => ?_⟩
  obtain ⟨v, hv', rfl⟩ := List.mem_map.mp hx
  exact vkey_ok (hv v hv')
theorem nkeys : ∀ vs : List D, (∀ v ∈ vs, vOk v = true) → ∃ ks, D.nkeyL vs = some ks
  | [], _ => ⟨[], by simp [D.nkeyL]⟩
  | v :: vs, h => by
    obtain ⟨ks, hk⟩ := nkeys vs (fun x hx => h x (by simp [hx]))
    rcases vcases (h v (by simp)) with ⟨i, rfl⟩ | ⟨s, rfl, _⟩
    · exact ⟨.num i :: ks, by simp [D.nkeyL, D.nkey, hk]⟩
    · exact ⟨.text s :: ks, by simp [D.nkeyL, D.nkey, hk]⟩
theorem row_nkey {r : D} (h : RowP r) : ∃ k, D.nkey r = some k := by
  obtain ⟨vs, rfl, _, hv⟩ := h
  obtain ⟨ks, hk⟩ := nkeys vs hv
  exact ⟨.tup ks, by simp [D.nkey, hk]⟩
theorem okN_dep {n : Nat} {d : D} (h : okN n d) : D.dep d ≤ n := by
  simp only [okN, Bool.and_eq_true, decide_eq_true_eq] at h
  exact h.2
theorem row_dk {r : D} (h : RowP r) : ∃ k, dkey r = some (.n k) := by
  obtain ⟨k, hk⟩ := row_nkey h
  have hd := okN_dep (row_ok h).1
  obtain ⟨vs, rfl, _, hv⟩ := h
  exact ⟨k, by rw [dkey, if_pos (by omega), hk]; rfl⟩
theorem KOrow : KO RowP rkey where
  like a b ha hb := by
    obtain ⟨vs, rfl, _, hv⟩ := ha
    obtain ⟨ws, rfl, _, hw⟩ := hb
    simp only [rkey, D.like]
    exact like_map vs ws hv hw
  inj a b ha hb h := by
    obtain ⟨vs, rfl, _, hv⟩ := ha
    obtain ⟨ws, rfl, _, hw⟩ := hb
    simp only [rkey, D.py, PySem.PyData.eqv] at h
    rw [map_inj vs ws hv hw h]
  self a ha := eqv_self (row_self ha)
  ok a ha := ⟨okN_mono (row_ok ha).2 (by decide), okN_mono (row_ok ha).1 (by decide)⟩
  dk a ha := row_dk ha
theorem nm_str {n : D} (h : n ∈ nmL) : vOk n = true ∧ ∃ s, n = .str s := by
  have e : (nmL.all fun n => vOk n && (match n with | .str _ => true | _ => false)) = true := by decide +kernel
  have := List.all_eq_true.mp e n h
  simp only [Bool.and_eq_true] at this
  refine ⟨this.1, ?_⟩
  cases n <;> first | exact ⟨_, rfl⟩ | (simp at this)
theorem fact_isFact {f : D} (h : FactP f) : isFact f = true := by
  obtain ⟨n, r, rfl, hn, hr⟩ := h
  have e : (nmL.all isName) = true := by decide +kernel
  simp only [isFact, Bool.and_eq_true]
  exact ⟨List.all_eq_true.mp e n hn, row_isRow hr⟩
theorem fact_ok {f : D} (h : FactP f) : okN 2 f ∧ okN 3 (fkey2 f) := by
  obtain ⟨n, r, rfl, hn, hr⟩ := h
  obtain ⟨r1, r2⟩ := row_ok hr
  have hv := v_ok (nm_str hn).1
  refine ⟨okT_of fun x hx => ?_, okT_of fun x hx => ?_⟩
  · simp only [List.mem_cons, List.not_mem_nil, or_false] at hx
    rcases hx with rfl | rfl
    · exact okN_mono hv (by decide)
    · exact r1
  · simp only [List.mem_cons, List.not_mem_nil, or_false] at hx
    rcases hx with rfl | rfl
    · exact okN_mono hv (by decide)
    · exact r2
theorem KOfact : KO FactP fkey2 where
  like a b ha hb := by
    obtain ⟨n, r, rfl, hn, hr⟩ := ha
    obtain ⟨m, q, rfl, hm, hq⟩ := hb
    obtain ⟨_, s, rfl⟩ := nm_str hn
    obtain ⟨_, t, rfl⟩ := nm_str hm
    simp only [fkey2, D.like, D.likeL, Bool.and_true]
    exact (Bool.true_and _).trans (KOrow.like r q hr hq)
  inj a b ha hb h := by
    obtain ⟨n, r, rfl, hn, hr⟩ := ha
    obtain ⟨m, q, rfl, hm, hq⟩ := hb
    obtain ⟨_, s, rfl⟩ := nm_str hn
    obtain ⟨_, t, rfl⟩ := nm_str hm
    simp only [fkey2, D.py, D.pyL] at h
    rw [PySem.PyData.eqv, PySem.W.eqv_all_cons, PySem.W.eqv_all_cons, Bool.and_eq_true, Bool.and_eq_true] at h
    have h1 : s = t := by
      have := h.1
      simpa [PySem.PyData.eqv] using this
    rw [h1, KOrow.inj r q hr hq h.2.1]
  self a ha := by
    obtain ⟨n, r, rfl, hn, hr⟩ := ha
    refine eqv_self ?_
    simp only [D.like]
    exact likeL_self _ fun x hx => by
      simp only [List.mem_cons, List.not_mem_nil, or_false] at hx
      rcases hx with rfl | rfl
      · exact v_self (nm_str hn).1
      · exact row_self hr
  ok a ha := ⟨okN_mono (fact_ok ha).2 (by decide), okN_mono (fact_ok ha).1 (by decide)⟩
  dk a ha := by
    have hd := okN_dep (fact_ok ha).1
    obtain ⟨n, r, rfl, hn, hr⟩ := ha
    obtain ⟨_, s, rfl⟩ := nm_str hn
    obtain ⟨k, hk⟩ := row_nkey hr
    exact ⟨.tup [.text s, k], by rw [dkey, if_pos (by omega)]; simp [D.nkey, D.nkeyL, hk]⟩
/-! ### the runs -/
theorem v_plain {v : D} (h : vOk v = true) (st : Sto) : plain st v = true := by
  cases v <;> first | rfl | cases h
theorem ev_vkey {C : Ctx} {ρ : MP.Env} {st : Sto} {v : D} {c : Cd} (h : evC C c ρ st = .ok (isW v) st) (hv : ρ[0]? = some (some v)) : evE C (.ite c (.tup (.cons (.con (.int 0)) (.cons (.var 0) (.cons (.con (.str (PySem.Str.ofString ""))) .nil)))) (.tup (.cons (.con (.int 1)) (.cons (.con (.int 0)) (.cons (.var 0) .nil))))) ρ st = .ok (vkey v) st := by
  rw [evE, h]
  simp only [R.bind_ok, vkey]
  cases isW v with
  | true => rw [if_pos rfl, if_pos rfl]; exact ev_tup (es_cons (ev_con _ _ _ _) (es_cons (ev_var _ hv) (es_cons (ev_con _ _ _ _) es_nil))) (len_le (by simp))
  | false => rw [if_neg (by decide), if_neg (by decide)]; exact ev_tup (es_cons (ev_con _ _ _ _) (es_cons (ev_con _ _ _ _) (es_cons (ev_var _ hv) es_nil))) (len_le (by simp))
theorem r_vkey (k : Nat) {v : D} (h : vOk v = true) (st : Sto) : run FT GL (k + 2) 5 [v] st = .ok (vkey v) st := by
  have hF : FT 5 = some ⟨1, 0 + 1, b5⟩ := rfl
  rw [un1 hF]
  simp only [b5]
  rw [es_ret (ev_vkey (ec_e (ev_call1 (k := k + 1) (g := 0) (a := .var 0) (ev_var _ rfl) (r_is_whole k v st (v_plain h st)))) rfl), retOf_ret, gc_same]
theorem r_vkey2 (k : Nat) {v : D} (h : vOk v = true) (st : Sto) : run FT GL (k + 2) 22 [v] st = .ok (vkey v) st := by
  have hF : FT 22 = some ⟨1, 0 + 1, b22⟩ := rfl
  rw [un1 hF]
  have c : evE ⟨run FT GL (k + 1), GL⟩ (.isi (.var 0) .int) (some v :: List.replicate 0 none) st = .ok (.bl (isW v)) st := by
    rw [evE, ev_var _ rfl]
    simp only [R.bind_ok]
    cases v <;> first | rfl | cases h
  simp only [b22]
  rw [es_ret (ev_vkey (ec_e c) rfl), retOf_ret, gc_same]
theorem r_rkey (k g f : Nat) (b : Ss) (hF : FT g = some ⟨1, 2 + 1, b⟩) (hb : b = (.cons (.ret (.fold .tuple (.lc (.call f (.cons (.var 2) .nil)) [1, 2] (.name 2) (.ofP (.var 0))))) .nil)) (hv : ∀ (v : D) (st : Sto), vOk v = true → run FT GL k f [v] st = .ok (vkey v) st) {r : D} (h : RowP r) (st : Sto) : run FT GL (k + 1) g [r] st = .ok (rkey r) st := by
  rw [un1 hF, hb]
  obtain ⟨vs, rfl, hl, hvs⟩ := h
  have q := tup_gen (C := ⟨run FT GL k, GL⟩) (ρ := some (.tup vs) :: List.replicate 2 none) (st := st) (elt := .call f (.cons (.var 2) .nil)) (own := [1, 2]) (t := .name 2) (src := .ofP (.var 0)) (s := { items := vs }) (g := vkey)
    (by simp [evLk, lockD, evE]) (by simp [evIt, evE, srcOf]) rfl (fun x hx => ⟨_, rfl, ev_call1 (ev_var _ rfl) (hv x st (hvs x hx))⟩) (len_le (by simp only [Src.items]; omega))
  rw [es_ret q, retOf_ret, gc_same]
  rfl
theorem r_rowkey (k : Nat) {r : D} (h : RowP r) (st : Sto) : run FT GL (k + 3) 6 [r] st = .ok (rkey r) st := r_rkey (k + 2) 6 5 b6 rfl rfl (fun v st hv => r_vkey k hv st) h st
theorem r_rowkey2 (k : Nat) {r : D} (h : RowP r) (st : Sto) : run FT GL (k + 3) 23 [r] st = .ok (rkey r) st := r_rkey (k + 2) 23 22 b23 rfl rfl (fun v st hv => r_vkey2 k hv st) h st
theorem r_factkey (k : Nat) {f : D} (h : FactP f) (st : Sto) : run FT GL (k + 4) 8 [f] st = .ok (fkey2 f) st := by
  have hF : FT 8 = some ⟨1, 0 + 1, b8⟩ := rfl
  rw [un1 hF]
  obtain ⟨n, r, rfl, hn, hr⟩ := h
  simp only [b8]
  rw [es_ret (ev_tup (es_cons (ev_idx _ rfl idx0) (es_cons (ev_call1 (k := k + 3) (g := 6) (ev_idx _ rfl idx1) (r_rowkey k hr st)) es_nil)) (len_le (by simp))), retOf_ret, gc_same]
  rfl
theorem r_ordered (k : Nat) {rows : List D} {p : Nat} {st : Sto} (hp : st[p]? = some (.lst rows)) (hr : ∀ a ∈ rows, RowP a) (hl : rows.length ≤ 1000) : run FT GL (k + 4) 7 [.ref p] st = .ok (.tup (ordL rkey (uniq [] rows))) st := by
  have hF : FT 7 = some ⟨1, 4 + 1, b7⟩ := rfl
  rw [un1 hF]
  exact r_bodyA (C := ⟨run FT GL (k + 3), GL⟩) (v := .bl true) (ke := .call 6 (.cons (.var 3) .nil)) KOrow (fun x st v0 v1 v2 v4 hx => ev_call1 (ev_var _ rfl) (r_rowkey k hx st)) hp hr hl
theorem r_ordered2 (k : Nat) {rows : List D} {p : Nat} {st : Sto} (hp : st[p]? = some (.lst rows)) (hr : ∀ a ∈ rows, RowP a) (hl : rows.length ≤ 1000) : run FT GL (k + 4) 24 [.ref p] st = .ok (.tup (ordL rkey (uniq [] rows))) st := by
  have hF : FT 24 = some ⟨1, 4 + 1, b24⟩ := rfl
  rw [un1 hF]
  exact r_bodyB (C := ⟨run FT GL (k + 3), GL⟩) (v := .int 1) (ke := .call 23 (.cons (.var 3) .nil)) KOrow (fun x st v0 v1 v2 v4 hx => ev_call1 (ev_var _ rfl) (r_rowkey2 k hx st)) hp hr hl
theorem r_facts (k : Nat) {rows : List D} {p : Nat} {st : Sto} (hp : st[p]? = some (.lst rows)) (hr : ∀ a ∈ rows, FactP a) (hl : rows.length ≤ 1000) : run FT GL (k + 5) 9 [.ref p] st = .ok (.tup (ordL fkey2 (uniq [] rows))) st := by
  have hF : FT 9 = some ⟨1, 4 + 1, b9⟩ := rfl
  rw [un1 hF]
  exact r_bodyA (C := ⟨run FT GL (k + 4), GL⟩) (v := .bl true) (ke := .call 8 (.cons (.var 3) .nil)) KOfact (fun x st v0 v1 v2 v4 hx => ev_call1 (ev_var _ rfl) (r_factkey k hx st)) hp hr hl
theorem r_facts2 (k : Nat) {rows : List D} {p : Nat} {st : Sto} (hp : st[p]? = some (.lst rows)) (hr : ∀ a ∈ rows, FactP a) (hl : rows.length ≤ 1000) : run FT GL (k + 4) 25 [.ref p] st = .ok (.tup (ordL fkey2 (uniq [] rows))) st := by
  have hF : FT 25 = some ⟨1, 4 + 1, b25⟩ := rfl
  rw [un1 hF]
  refine r_bodyB (C := ⟨run FT GL (k + 3), GL⟩) (v := .int 1) (ke := .tup (.cons (.op2 .idx (.var 3) (.con (.int 0))) (.cons (.call 23 (.cons (.op2 .idx (.var 3) (.con (.int 1))) .nil)) .nil))) KOfact (fun x st v0 v1 v2 v4 hx => ?_) hp hr hl
  obtain ⟨n, r, rfl, hn, hr⟩ := hx
  exact ev_tup (es_cons (ev_idx _ rfl idx0) (es_cons (ev_call1 (k := k + 3) (g := 23) (ev_idx _ rfl idx1) (r_rowkey2 k hr st)) es_nil)) (len_le (by simp))
/-! ### equal tuples -/
theorem ord_eq {P : D → Prop} {key : D → D} (K : KO P key) (hs : ∀ a, P a → D.like a a = true) {l : List D} (hl : ∀ a ∈ l, P a) (st : Sto) : eqD (.tup (ordL key l)) (.tup (ordL key l)) st = some true := by
  have ok : okN 51 (.tup (ordL key l)) := okT_of fun d hd => (K.ok d (hl d (ordL_mem hd))).2
  have okd : D.okD (.tup (ordL key l)) = true := by
    have := okN_mono ok (show 51 ≤ 60 by decide)
    exact this
  have e := eqv_self (a := .tup (ordL key l)) (by
    simp only [D.like]
    exact likeL_self _ fun x hx => hs x (hl x (ordL_mem hx)))
  simp only [eqD, exp_ok st okd]
  simp [e]
end K00

set_option Elab.async false
set_option linter.all false
set_option maxRecDepth 100000
set_option maxHeartbeats 4000000
namespace K00
open MP
/-! ### the law's statements, one by one -/
def Ends (C : Ctx) (ss : Ss) (ρ : MP.Env) (st : Sto) : Prop := ∃ ρ' st', evSs C ss ρ st = .ok (.ret (.bl true), ρ') st'
theorem ends_asg {C : Ctx} {ρ : MP.Env} {st st' : Sto} {e : E} {r : Ss} {i : Nat} {x : D} (h : evE C e ρ st = .ok x st') (hr : Ends C r (ρ.set i (some x)) st') : Ends C (.cons (.asg (.name i) e) r) ρ st := by
  obtain ⟨ρ', st2, e2⟩ := hr
  exact ⟨ρ', st2, by rw [es_asg h, e2]⟩
theorem ends_if {C : Ctx} {ρ : MP.Env} {st st' : Sto} {c : Cd} {r : Ss} (h : evC C c ρ st = .ok false st') (hr : Ends C r ρ st') : Ends C (.cons (.ite c (.cons (.ret (.con (.bl false))) .nil) .nil) r) ρ st := by
  obtain ⟨ρ', st2, e2⟩ := hr
  exact ⟨ρ', st2, by rw [es_if_retE h, if_neg (by decide), e2]⟩
theorem ends_ret {C : Ctx} {ρ : MP.Env} {st st' : Sto} {e : E} {r : Ss} (h : evE C e ρ st = .ok (.bl true) st') : Ends C (.cons (.ret e) r) ρ st := ⟨ρ, st', es_ret h⟩
theorem ec_orF {C : Ctx} {a b : Cd} {ρ : MP.Env} {st st' st'' : Sto} (h : evC C a ρ st = .ok false st') (g : evC C b ρ st' = .ok false st'') : evC C (.or a b) ρ st = .ok false st'' := by
  rw [ec_or h, if_neg (by decide), g]
theorem call1J {k g j : Nat} {ρ : MP.Env} {st st' : Sto} {x y : D} (hj : ρ[j]? = some (some x)) (h : run FT GL k g [x] st = .ok y st') : evE ⟨run FT GL k, GL⟩ (.call g (.cons (.var j) .nil)) ρ st = .ok y st' := by
  rw [evE, es_cons (ev_var _ hj) es_nil]
  exact h
theorem drawJ {k j : Nat} {st : Sto} {ρ : MP.Env} {ds : List Int} {a : Nat} (hb : Bx st ds a) (ha : a ≤ 1000000) {m : Int} (hm : 0 < m) (h0 : ρ[j]? = some (some (.ref 1))) :
    ∃ (n : Nat) (st' : Sto), evE ⟨run FT GL (k + 1), GL⟩ (.call 20 (.cons (.var j) (.cons (.con (.int m)) .nil))) ρ st = .ok (.int (n : Int)) st' ∧ (n : Int) < m ∧ Dr st st' ∧ Bx st' ds (a + 1) := by
  obtain ⟨r, st', e1, r0, r1, dr, bx⟩ := r_draw k hb ha hm
  refine ⟨r.toNat, st', ?_, by omega, dr, bx⟩
  rw [evE, es_cons (ev_var _ h0) (es_cons (ev_con _ _ _ _) es_nil)]
  simp only [R.bind_ok]
  rw [show ((r.toNat : Nat) : Int) = r by omega]
  exact e1
theorem pickJ (k j : Nat) {st : Sto} {ds : List Int} {a : Nat} (hb : Bx st ds a) (ha : a ≤ 1000000) {ρ : MP.Env} {es : Es} {xs : List D} (h0 : ρ[j]? = some (some (.ref 1))) (he : evEs ⟨run FT GL (k + 2), GL⟩ es ρ st = .ok xs st) (hl : xs.length ≤ 1000) (hne : xs ≠ []) :
    ∃ (x : D) (st' : Sto), evE ⟨run FT GL (k + 2), GL⟩ (.call 21 (.cons (.var j) (.cons (.ofQ (.disp es)) .nil))) ρ st = .ok x st' ∧ x ∈ xs ∧ Dr st st' ∧ Bx st' ds (a + 1) := by
  have hn : st.length ≠ 1 := by
    have := (List.getElem?_eq_some_iff.mp hb.2).1
    omega
  obtain ⟨x, st', e1, m, dr, bx⟩ := r_pick k (hb.app (.lst xs)) ha hn (by simp) hne
  refine ⟨x, st', ?_, m, (Dr.app st _).trans dr, bx⟩
  rw [evE, es_cons (ev_var _ h0) (es_cons (ev_list he (len_le hl)) es_nil)]
  simp only [R.bind_ok]
  exact e1
/-- a comprehension that draws -/
theorem lc_draw {f : D → Sto → R (Option D)} {same : Sto → Bool} {ds : List Int} {Q : D → Prop} (c : Nat) (st0 : Sto) (hs : ∀ st, Dr st0 st → same st = true) : ∀ (xs acc : List D) (st : Sto) (a : Nat),
    (∀ x ∈ xs, ∀ (st : Sto) (a : Nat), Dr st0 st → Bx st ds a → a + c ≤ 1000000 → ∃ (y : D) (st' : Sto) (a' : Nat), f x st = .ok (some y) st' ∧ Q y ∧ Dr st st' ∧ Bx st' ds a' ∧ a' ≤ a + c) →
    Dr st0 st → Bx st ds a → a + c * xs.length ≤ 1000000 → acc.length + xs.length ≤ 1000 →
    ∃ (ys : List D) (st' : Sto) (a' : Nat), lcL f same xs acc st = .ok (acc ++ ys) st' ∧ ys.length = xs.length ∧ (∀ y ∈ ys, Q y) ∧ Dr st st' ∧ Bx st' ds a' ∧ a' ≤ a + c * xs.length
  | [], acc, st, a, _, h0, hb, _, _ => ⟨[], st, a, by simp [lcL, hs st h0], rfl, by simp, Dr.refl st, hb, by omega⟩
  | x :: xs, acc, st, a, hf, h0, hb, ha, hl => by
    have e0 : c * (x :: xs).length = c * xs.length + c := by simp [Nat.mul_add]
    simp only [List.length_cons] at hl
    obtain ⟨y, st1, a1, e1, q1, d1, b1, l1⟩ := hf x (by simp) st a h0 hb (by omega)
    obtain ⟨ys, st2, a2, e2, n2, q2, d2, b2, l2⟩ := lc_draw c st0 hs xs (acc ++ [y]) st1 a1 (fun z hz => hf z (by simp [hz])) (h0.trans d1) b1 (by omega) (by simp; omega)
    refine ⟨y :: ys, st2, a2, ?_, by simp [n2], ?_, d1.trans d2, b2, by omega⟩
    · simp only [lcL, hs st h0, if_true, e1]
      rw [if_pos (by unfold LINE; omega), e2]
      simp
    · intro z hz
      rcases List.mem_cons.mp hz with rfl | hz
      · exact q1
      · exact q2 z hz
theorem it_rng {C : Ctx} {ρ : MP.Env} {st st1 : Sto} {es : Es} {ds : List D} {s : Src} (he : evEs C es ρ st = .ok ds st1) (hr : rngOf ds = some s) : evIt C (.rng es) ρ st = .ok s st1 := by
  rw [evIt, he]
  simp only [R.bind_ok, hr, R.opt_some]
theorem lc_rng0 {C : Ctx} {ρ : MP.Env} {st st1 st2 : Sto} {elt : E} {own : List Nat} {i : Nat} {es : Es} {ys : List D} {L : List D} (it : evIt C (.rng es) ρ st = .ok { items := L } st1)
    (h : lcL (fun x st => (evE C elt ((wipeE ρ own).set i (some x)) st).bind fun y st => .ok (some y) st) (fun _ => true) L [] st1 = .ok ys st2) :
    evQ C (.lc elt own (.name i) (.rng es)) ρ st = .ok ys st2 := by
  have lk1 : evLk C (.rng es) ρ st = none := by rw [evLk]
  rw [evQ, lk1]
  simp only [held, it, R.bind_ok, asgT]
  exact h
theorem lc_rng {C : Ctx} {ρ : MP.Env} {st st1 st2 : Sto} {elt : E} {own : List Nat} {i n : Nat} {es : Es} {ys : List D} (he : evEs C es ρ st = .ok [.int (n : Int)] st1) (hn : n < 1000000)
    (h : lcL (fun x st => (evE C elt ((wipeE ρ own).set i (some x)) st).bind fun y st => .ok (some y) st) (fun _ => true) ((List.range n).map fun (i : Nat) => D.int (0 + (i : Int))) [] st1 = .ok ys st2) :
    evQ C (.lc elt own (.name i) (.rng es)) ρ st = .ok ys st2 := lc_rng0 (it_rng he (rng1 n hn)) h
/-- drawn rows -/
theorem r_rows (k : Nat) {v0 : D} {st : Sto} {ds : List Int} {a : Nat} (hb : Bx st ds a) (ha : a ≤ 1000) :
    ∃ (rows : List D) (st' : Sto) (a' : Nat), evE ⟨run FT GL (k + 3), GL⟩ (.ofQ (.lc (.fold .tuple (.lc (.call 27 (.cons (.var 1) .nil)) [10, 12] (.name 12) (.rng (.cons (.call 20 (.cons (.var 1) (.cons (.con (.int 4)) .nil))) .nil)))) [10, 11] (.name 11) (.rng (.cons (.call 20 (.cons (.var 1) (.cons (.con (.int 8)) .nil))) .nil)))) (some v0 :: some (.ref 1) :: List.replicate 14 none) st = .ok (.ref st'.length) (st' ++ [.lst rows]) ∧ rows.length ≤ 7 ∧ (∀ r ∈ rows, RowP r) ∧ Dr st st' ∧ Bx st' ds a' ∧ a' ≤ a + 100 := by
  obtain ⟨n, st1, e1, n1, d1, b1⟩ := drawJ (k := k + 2) (j := 1) hb (by omega) (m := 8) (by decide) (ρ := some v0 :: some (.ref 1) :: List.replicate 14 none) rfl
  have hn : n < 8 := by omega
  obtain ⟨ys, st2, a2, e2, n2, q2, d2, b2, l2⟩ := lc_draw (f := fun x st => (evE ⟨run FT GL (k + 3), GL⟩ (.fold .tuple (.lc (.call 27 (.cons (.var 1) .nil)) [10, 12] (.name 12) (.rng (.cons (.call 20 (.cons (.var 1) (.cons (.con (.int 4)) .nil))) .nil)))) ((wipeE (some v0 :: some (.ref 1) :: List.replicate 14 none) [10, 11]).set 11 (some x)) st).bind fun y st => .ok (some y) st) (same := fun _ => true) (ds := ds) (Q := RowP) 10 st1 (fun _ _ => rfl)
    ((List.range n).map fun (i : Nat) => D.int (0 + (i : Int))) [] st1 (a + 1) (fun x _ st a _ hb ha => by
      have r1 : ((wipeE (some v0 :: some (.ref 1) :: List.replicate 14 none) [10, 11]).set 11 (some x))[1]? = some (some (.ref 1)) := rfl
      obtain ⟨m, st3, e3, n3, d3, b3⟩ := drawJ (k := k + 2) (j := 1) hb (by omega) (m := 4) (by decide) r1
      have hm : m < 4 := by omega
      obtain ⟨zs, st4, a4, e4, n4, q4, d4, b4, l4⟩ := lc_draw (f := fun y st => (evE ⟨run FT GL (k + 3), GL⟩ (.call 27 (.cons (.var 1) .nil)) ((wipeE ((wipeE (some v0 :: some (.ref 1) :: List.replicate 14 none) [10, 11]).set 11 (some x)) [10, 12]).set 12 (some y)) st).bind fun y st => .ok (some y) st) (same := fun _ => true) (ds := ds) (Q := fun v => vOk v = true) 1 st3 (fun _ _ => rfl)
        ((List.range m).map fun (i : Nat) => D.int (0 + (i : Int))) [] st3 (a + 1) (fun y _ st a _ hb ha => by
          obtain ⟨v, st5, e5, m5, d5, b5⟩ := r_any k hb (by omega)
          refine ⟨v, st5, a + 1, ?_, any_vOk m5, d5, b5, by omega⟩
          show (evE _ _ _ _).bind _ = _
          rw [call1J (x := .ref 1) rfl e5]
          rfl) (Dr.refl _) b3 (by simp; omega) (by simp; omega)
      refine ⟨.tup zs, st4, a4, ?_, ⟨zs, rfl, by simp at n4; omega, q4⟩, d3.trans d4, b4, by simp at l4; omega⟩
      rw [List.nil_append] at e4
      show (evE _ _ _ _).bind _ = _
      rw [evE, lc_rng (es_cons e3 es_nil) (by omega) e4]
      rfl) (Dr.refl _) b1 (by simp; omega) (by simp; omega)
  rw [List.nil_append] at e2
  refine ⟨ys, st2, a2, ?_, by simp at n2; omega, q2, d1.trans d2, b2, by simp at l2; omega⟩
  rw [evE, lc_rng (es_cons e1 es_nil) (by omega) e2]
  rfl
theorem dr_app {st st' : Sto} (h : Dr st st') (o : Ob) : Dr st (st' ++ [o]) := h.trans (Dr.app st' o)
/-- facts of drawn names -/
theorem r_mkfacts (k : Nat) {v0 : D} {st : Sto} {ds : List Int} {a p : Nat} {rows : List D} (hb : Bx st ds a) (ha : a ≤ 1000) (hp : st[p]? = some (.lst rows)) (hp1 : p ≠ 1) (hr : ∀ r ∈ rows, RowP r) (hl : rows.length ≤ 7) :
    ∃ (fs : List D) (st' : Sto) (a' : Nat), evE ⟨run FT GL (k + 3), GL⟩ (.ofQ (.lc (.tup (.cons (.call 21 (.cons (.var 1) (.cons (.ofQ (.disp (.cons (.con (.str (PySem.Str.ofString "p"))) (.cons (.con (.str (PySem.Str.ofString "q"))) (.cons (.con (.str (PySem.Str.ofString "p1"))) .nil))))) .nil))) (.cons (.var 13) .nil))) [10, 13] (.name 13) (.ofP (.var 2)))) (some v0 :: some (.ref 1) :: some (.ref p) :: List.replicate 13 none) st = .ok (.ref st'.length) (st' ++ [.lst fs]) ∧ fs.length ≤ 7 ∧ (∀ f ∈ fs, FactP f) ∧ Dr st st' ∧ Bx st' ds a' ∧ a' ≤ a + 100 := by
  obtain ⟨ys, st2, a2, e2, n2, q2, d2, b2, l2⟩ := lc_draw (f := fun x st => (evE ⟨run FT GL (k + 3), GL⟩ (.tup (.cons (.call 21 (.cons (.var 1) (.cons (.ofQ (.disp (.cons (.con (.str (PySem.Str.ofString "p"))) (.cons (.con (.str (PySem.Str.ofString "q"))) (.cons (.con (.str (PySem.Str.ofString "p1"))) .nil))))) .nil))) (.cons (.var 13) .nil))) ((wipeE (some v0 :: some (.ref 1) :: some (.ref p) :: List.replicate 13 none) [10, 13]).set 13 (some x)) st).bind fun y st => .ok (some y) st) (same := ({ items := rows, chk := some p } : Src).same) (ds := ds) (Q := FactP) 1 st (fun st' h => by
      simp [Src.same, h.at hp1 hp]) rows [] st a (fun x hx st a _ hb ha => by
      have c : ∀ d : D, evE ⟨run FT GL (k + 1 + 2), GL⟩ (.con d) ((wipeE (some v0 :: some (.ref 1) :: some (.ref p) :: List.replicate 13 none) [10, 13]).set 13 (some x)) st = .ok d st := fun d => ev_con _ _ _ _
      obtain ⟨nm, st3, e3, m3, d3, b3⟩ := pickJ (k + 1) 1 hb (by omega) (xs := nmL) (ρ := (wipeE (some v0 :: some (.ref 1) :: some (.ref p) :: List.replicate 13 none) [10, 13]).set 13 (some x)) rfl (es_cons (c _) (es_cons (c _) (es_cons (c _) es_nil))) (by decide) (by simp [nmL])
      refine ⟨.tup [nm, x], st3, a + 1, ?_, ⟨nm, x, rfl, m3, hr x hx⟩, d3, b3, by omega⟩
      show (evE _ _ _ _).bind _ = _
      rw [ev_tup (es_cons e3 (es_cons (ev_var _ rfl) es_nil)) (len_le (by simp))]
      rfl) (Dr.refl _) hb (by omega) (by simp; omega)
  rw [List.nil_append] at e2
  refine ⟨ys, st2, a2, ?_, by omega, q2, d2, b2, by omega⟩
  have q : evQ ⟨run FT GL (k + 3), GL⟩ (.lc (.tup (.cons (.call 21 (.cons (.var 1) (.cons (.ofQ (.disp (.cons (.con (.str (PySem.Str.ofString "p"))) (.cons (.con (.str (PySem.Str.ofString "q"))) (.cons (.con (.str (PySem.Str.ofString "p1"))) .nil))))) .nil))) (.cons (.var 13) .nil))) [10, 13] (.name 13) (.ofP (.var 2))) (some v0 :: some (.ref 1) :: some (.ref p) :: List.replicate 13 none) st = .ok ys st2 := by
    have v2 : ∀ st, evE ⟨run FT GL (k + 3), GL⟩ (.var 2) (some v0 :: some (.ref 1) :: some (.ref p) :: List.replicate 13 none) st = .ok (.ref p) st := fun st => ev_var _ rfl
    have lk : evLk ⟨run FT GL (k + 3), GL⟩ (.ofP (.var 2)) (some v0 :: some (.ref 1) :: some (.ref p) :: List.replicate 13 none) st = none := by
      rw [evLk, v2]
      simp only [lockD, hp]
    have it : evIt ⟨run FT GL (k + 3), GL⟩ (.ofP (.var 2)) (some v0 :: some (.ref 1) :: some (.ref p) :: List.replicate 13 none) st = .ok { items := rows, chk := some p } st := by
      rw [evIt, v2]
      simp only [R.bind_ok, srcOf, hp, R.opt_some]
    rw [evQ, lk]
    simp only [held, it, R.bind_ok, asgT]
    exact e2
  rw [evE, q]
  rfl
end K00

set_option Elab.async false
set_option linter.all false
set_option maxRecDepth 100000
set_option maxHeartbeats 4000000
namespace K00
open MP
/-! ### constants that are written there -/
def tupLen : Es → Nat
  | .nil => 0
  | .cons _ r => tupLen r + 1
mutual
def cE : E → Option D
  | .con d => some d
  | .tup es => if tupLen es ≤ 100 then (cEs es).map .tup else none
  | .op1 .neg a => (match cE a with | some (.int i) => some (.int (-i)) | _ => none)
  | .op2 .add a b => (match cE a, cE b with | some (.int i), some (.int j) => some (.int (i + j)) | _, _ => none)
  | .op2 .sub a b => (match cE a, cE b with | some (.int i), some (.int j) => some (.int (i - j)) | _, _ => none)
  | .op2 .pow a b => (match cE a, cE b with | some (.int i), some (.int j) => if 0 ≤ j ∧ j ≤ 1000000 ∧ i.natAbs < 2 ^ 64 then some (.int (i ^ j.toNat)) else none | _, _ => none)
  | .op2 .mul a b => (match cE a, cE b with
    | some (.str x), some (.int k) => if 0 ≤ k ∧ k ≤ 1000 ∧ x.length ≤ 1000 then some (.str (PySem.Txt.mul x k)) else none
    | some (.tup ds), some (.int k) => if 2 ≤ k ∧ k ≤ 1000 ∧ ds ≠ [] ∧ ds.length ≤ 1000 then some (.tup (repL ds k)) else none
    | _, _ => none)
  | _ => none
def cEs : Es → Option (List D)
  | .nil => some []
  | .cons e r => (match cE e, cEs r with | some d, some ds => some (d :: ds) | _, _ => none)
end
theorem cEs_len : ∀ (es : Es) (ds : List D), cEs es = some ds → ds.length = tupLen es
  | .nil, ds, h => by simp [cEs] at h; subst h; rfl
  | .cons e r, ds, h => by
    simp only [cEs] at h
    split at h
    · rename_i d ds' _ e2
      injection h with h
      subst h
      simp [tupLen, cEs_len r ds' e2]
    · cases h
mutual
theorem cE_ok (C : Ctx) (ρ : MP.Env) (st : Sto) : ∀ (e : E) (d : D), cE e = some d → evE C e ρ st = .ok d st
  | .con d, _, h => by simp only [cE] at h; injection h with h; rw [h, ev_con]
  | .tup es, d, h => by
    simp only [cE] at h
    split at h
    · rename_i hl
      cases e : cEs es with
      | none => simp [e] at h
      | some ds =>
        rw [e] at h
        injection h with h
        subst h
        exact ev_tup (cEs_ok C ρ st es ds e) (len_le (by rw [cEs_len es ds e]; omega))
    · cases h
  | .op1 o a, d, h => by
    cases o <;> simp only [cE] at h <;> try cases h
    split at h
    · rename_i i e
      injection h with h
      subst h
      exact ev_neg (cE_ok C ρ st a _ e)
    · cases h
  | .op2 o a b, d, h => by
    cases o <;> simp only [cE] at h <;> try cases h
    · split at h
      · rename_i i j e1 e2
        injection h with h
        subst h
        exact ev_add (cE_ok C ρ st a _ e1) (cE_ok C ρ st b _ e2)
      · cases h
    · split at h
      · rename_i i j e1 e2
        injection h with h
        subst h
        exact ev_sub (cE_ok C ρ st a _ e1) (cE_ok C ρ st b _ e2)
      · cases h
    · split at h
      · rename_i x k e1 e2
        split at h
        · rename_i hc
          injection h with h
          subst h
          exact ev_op2 (cE_ok C ρ st a _ e1) (cE_ok C ρ st b _ e2) (if_pos hc)
        · cases h
      · rename_i x k e1 e2
        split at h
        · rename_i hc
          injection h with h
          subst h
          exact ev_op2 (cE_ok C ρ st a _ e1) (cE_ok C ρ st b _ e2) (if_pos hc)
        · cases h
      · cases h
    · split at h
      · rename_i i j e1 e2
        split at h
        · rename_i hc
          injection h with h
          subst h
          exact ev_op2 (cE_ok C ρ st a _ e1) (cE_ok C ρ st b _ e2) (if_pos hc)
        · cases h
      · cases h
  | .var _, _, h => by simp [cE] at h
  | .glob _, _, h => by simp [cE] at h
  | .op3 _ _ _ _, _, h => by simp [cE] at h
  | .mt2 _ _ _, _, h => by simp [cE] at h
  | .chain _ _ _ _ _, _, h => by simp [cE] at h
  | .and _ _, _, h => by simp [cE] at h
  | .or _ _, _, h => by simp [cE] at h
  | .not _, _, h => by simp [cE] at h
  | .ite _ _ _, _, h => by simp [cE] at h
  | .ofQ _, _, h => by simp [cE] at h
  | .fold _ _, _, h => by simp [cE] at h
  | .eqQ _ _ _, _, h => by simp [cE] at h
  | .call _ _, _, h => by simp [cE] at h
  | .isi _ _, _, h => by simp [cE] at h
  | .dnew, _, h => by simp [cE] at h
  | .ddisp _, _, h => by simp [cE] at h
theorem cEs_ok (C : Ctx) (ρ : MP.Env) (st : Sto) : ∀ (es : Es) (ds : List D), cEs es = some ds → evEs C es ρ st = .ok ds st
  | .nil, ds, h => by simp only [cEs] at h; injection h with h; rw [← h, es_nil]
  | .cons e r, ds, h => by
    simp only [cEs] at h
    split at h
    · rename_i d ds' e1 e2
      injection h with h
      subst h
      exact es_cons (cE_ok C ρ st e d e1) (cEs_ok C ρ st r ds' e2)
    · cases h
end
/-- all that is written there is fit -/
def fit (es : Es) (p : D → Bool) : Bool := match cEs es with
  | some ds => decide (ds.length ≤ 100) && ds.all p
  | none => false
theorem fit_ok {es : Es} {p : D → Bool} (h : fit es p = true) : ∃ ds, cEs es = some ds ∧ ds.length ≤ 100 ∧ ∀ d ∈ ds, p d = true := by
  unfold fit at h
  split at h
  · rename_i ds e
    simp only [Bool.and_eq_true, decide_eq_true_eq] at h
    exact ⟨ds, e, h.1, List.all_eq_true.mp h.2⟩
  · cases h
/-! ### none is otherwise -/
theorem isnot_bl {C : Ctx} {ρ : MP.Env} {st st' : Sto} {e : E} {b : Bool} (h : evE C e ρ st = .ok (.bl b) st') : evE C (.op2 .isnot e (.con (.bl b))) ρ st = .ok (.bl false) st' := by
  refine ev_op2 h (ev_con _ _ _ _) ?_
  show cmpR ((isD (.bl b) (.bl b)).map (!·)) st' = _
  cases b <;> rfl
theorem is_bl {C : Ctx} {ρ : MP.Env} {st st' : Sto} {e : E} {b : Bool} (h : evE C e ρ st = .ok (.bl b) st') : evE C (.op2 .is_ e (.con (.bl b))) ρ st = .ok (.bl true) st' := by
  refine ev_op2 h (ev_con _ _ _ _) ?_
  show cmpR (isD (.bl b) (.bl b)) st' = _
  cases b <;> rfl
theorem none_bad {C : Ctx} {ρ : MP.Env} {st st1 : Sto} {g i : Nat} {own : List Nat} {src : It} {s : Src} {b ne : Bool} (hk : evLk C src ρ st = none) (hi : evIt C src ρ st = .ok s st1) (hs : s.same st1 = true) (hl : s.items.length ≤ 1000)
    (h : ∀ x ∈ s.items, evE C (.call g (.cons (.var i) .nil)) ((wipeE ρ own).set i (some x)) st1 = .ok (.bl b) st1) :
    evE C (.eqQ ne (.lci (.var i) own (.name i) src (.ofE (.op2 .isnot (.call g (.cons (.var i) .nil)) (.con (.bl b))))) (.disp .nil)) ρ st = .ok (.bl (!ne)) st1 := by
  have q : evQ C (.lci (.var i) own (.name i) src (.ofE (.op2 .isnot (.call g (.cons (.var i) .nil)) (.con (.bl b))))) ρ st = .ok [] st1 := by
    rw [evQ, hk]
    simp only [held, hi, R.bind_ok, asgT]
    rw [lcL_pure (g := fun _ => none) hs]
    · simp
    · intro x hx
      rw [ec_e (isnot_bl (h x hx))]
      simp only [R.bind_ok]
      rfl
    · simpa using len_le hl
  have q2 : evQ C (.disp .nil) ρ st1 = .ok [] st1 := by
    rw [evQ, es_nil]
    simp only [R.bind_ok]
    rfl
  rw [evE, q]
  simp only [R.bind_ok]
  rw [q2]
  simp only [R.bind_ok]
  have e1 : D.okL [] = true := by decide +kernel
  have e2 : PySem.PyData.eqv (.list (D.pyL [])) (.list (D.pyL [])) = true := by decide +kernel
  rw [e1, e2]
  cases ne <;> rfl
/-- over a list of the store -/
theorem none_badP {k : Nat} {ρ : MP.Env} {st : Sto} {g i j p : Nat} {own : List Nat} {xs : List D} {b ne : Bool} (hj : ρ[j]? = some (some (.ref p))) (hp : st[p]? = some (.lst xs)) (hl : xs.length ≤ 1000) (hv : ∀ x : D, ((wipeE ρ own).set i (some x))[i]? = some (some x))
    (h : ∀ x ∈ xs, run FT GL k g [x] st = .ok (.bl b) st) :
    evE ⟨run FT GL k, GL⟩ (.eqQ ne (.lci (.var i) own (.name i) (.ofP (.var j)) (.ofE (.op2 .isnot (.call g (.cons (.var i) .nil)) (.con (.bl b))))) (.disp .nil)) ρ st = .ok (.bl (!ne)) st := by
  refine none_bad (s := { items := xs, chk := some p }) ?_ ?_ ?_ hl (fun x hx => call1J (hv x) (h x hx))
  · rw [evLk, ev_var _ hj]
    simp only [lockD, hp]
  · rw [evIt, ev_var _ hj]
    simp only [R.bind_ok, srcOf, hp, R.opt_some]
  · simp [Src.same, hp]
/-- over a list that is written there -/
theorem none_badQ {k : Nat} {ρ : MP.Env} {st st1 : Sto} {g i : Nat} {own : List Nat} {es : Es} {xs : List D} {b ne : Bool} (he : evEs ⟨run FT GL k, GL⟩ es ρ st = .ok xs st1) (hl : xs.length ≤ 1000) (hv : ∀ x : D, ((wipeE ρ own).set i (some x))[i]? = some (some x))
    (h : ∀ x ∈ xs, run FT GL k g [x] st1 = .ok (.bl b) st1) :
    evE ⟨run FT GL k, GL⟩ (.eqQ ne (.lci (.var i) own (.name i) (.ofQ (.disp es)) (.ofE (.op2 .isnot (.call g (.cons (.var i) .nil)) (.con (.bl b))))) (.disp .nil)) ρ st = .ok (.bl (!ne)) st1 := by
  refine none_bad (s := { items := xs }) ?_ ?_ rfl hl (fun x hx => call1J (hv x) (h x hx))
  · rw [evLk]
  · rw [evIt, evQ, he]
    simp only [R.bind_ok, if_pos (len_le hl)]
/-- what names, letters, values may be asked about -/
def askOk : D → Bool
  | .str s => decide (s.length ≤ LINE) && D.okD (.str s)
  | .non | .bl _ | .int _ | .tup _ => true
  | _ => false
theorem ask_plain {d : D} (h : askOk d = true) (st : Sto) : plain st d = true := by
  cases d <;> first | rfl | cases h
theorem ask_sOk {d : D} (h : askOk d = true) : sOk d := by
  rintro s rfl
  simpa [askOk] using h
theorem names_are (k : Nat) {d : D} {b : Bool} (st : Sto) (h : (askOk d && decide (isName d = b)) = true) : run FT GL (k + 1) 1 [d] st = .ok (.bl b) st := by
  simp only [Bool.and_eq_true, decide_eq_true_eq] at h
  rw [r_is_name k d st (ask_plain h.1 st) (ask_sOk h.1), h.2]
theorem letters_are (k : Nat) {d : D} {b : Bool} (st : Sto) (h : (askOk d && decide (isLetter d = b)) = true) : run FT GL (k + 1) 2 [d] st = .ok (.bl b) st := by
  simp only [Bool.and_eq_true, decide_eq_true_eq] at h
  rw [r_is_letter k d st (ask_plain h.1 st) (ask_sOk h.1), h.2]
theorem values_are (k : Nat) {d : D} {b : Bool} (st : Sto) (h : (askOk d && decide (isValue d = b)) = true) : run FT GL (k + 2) 3 [d] st = .ok (.bl b) st := by
  simp only [Bool.and_eq_true, decide_eq_true_eq] at h
  rw [r_is_value k d st (ask_plain h.1 st) (ask_sOk h.1), h.2]
theorem row_wf {r : D} (h : RowP r) (st : Sto) : wf st r = true := by
  obtain ⟨vs, rfl, hl, hv⟩ := h
  have : ∀ l : List D, (∀ v ∈ l, vOk v = true) → wfL st l = true := by
    intro l hl
    induction l with
    | nil => simp [wfL]
    | cons v l ih =>
      simp only [wfL, Bool.and_eq_true]
      refine ⟨?_, ih fun x hx => hl x (by simp [hx])⟩
      have := hl v (by simp)
      cases v <;> first | (simp [wf]; done) | cases this | (simp only [vOk, Bool.and_eq_true, decide_eq_true_eq] at this; simp [wf, this.2.1.2, this.2.2])
  simp only [wf, Bool.and_eq_true, decide_eq_true_eq]
  exact ⟨len_le (by omega), this vs hv⟩
end K00

set_option Elab.async false
set_option linter.all false
set_option maxRecDepth 100000
set_option maxHeartbeats 4000000
namespace K00
open MP
abbrev sT (s : String) : D := .str (PySem.Str.ofString s)
theorem ends_list {C : Ctx} {ρ : MP.Env} {st : Sto} {es : Es} {r : Ss} {i : Nat} {p : D → Bool} (hf : fit es p = true) (hr : ∀ L : List D, L.length ≤ 100 → (∀ d ∈ L, p d = true) → Ends C r (ρ.set i (some (.ref st.length))) (st ++ [.lst L])) : Ends C (.cons (.asg (.name i) (.ofQ (.disp es))) r) ρ st := by
  obtain ⟨L, hL, hn, hp⟩ := fit_ok hf
  exact ends_asg (ev_list (cEs_ok _ _ _ _ _ hL) (len_le (by omega))) (hr L hn hp)
theorem none_badF {k : Nat} {ρ : MP.Env} {st : Sto} {g i : Nat} {own : List Nat} {es : Es} {b ne : Bool} {p : D → Bool} (hf : fit es p = true) (hv : ∀ x : D, ((wipeE ρ own).set i (some x))[i]? = some (some x))
    (h : ∀ x : D, p x = true → run FT GL k g [x] st = .ok (.bl b) st) :
    evE ⟨run FT GL k, GL⟩ (.eqQ ne (.lci (.var i) own (.name i) (.ofQ (.disp es)) (.ofE (.op2 .isnot (.call g (.cons (.var i) .nil)) (.con (.bl b))))) (.disp .nil)) ρ st = .ok (.bl (!ne)) st := by
  obtain ⟨L, hL, hn, hp⟩ := fit_ok hf
  exact none_badQ (cEs_ok _ _ _ _ _ hL) (by omega) hv (fun x hx => h x (hp x hx))
theorem ec_ne {C : Ctx} {ρ : MP.Env} {st st' st'' : Sto} {a b : E} {x : D} (h : evE C a ρ st = .ok x st') (g : evE C b ρ st' = .ok x st'') (he : eqD x x st'' = some true) : evC C (.ofE (.op2 .ne a b)) ρ st = .ok false st'' := by
  refine ec_e (ev_op2 h g ?_)
  show cmpR ((eqD x x st'').map (!·)) st'' = _
  rw [he]
  rfl
theorem app_at {st : Sto} {i : Nat} {o : Ob} (l : Sto) (h : st[i]? = some o) : (st ++ l)[i]? = some o := by
  rw [List.getElem?_append_left (List.getElem?_eq_some_iff.mp h).1]
  exact h
theorem bx_len {st : Sto} {ds : List Int} {a : Nat} (h : Bx st ds a) : 1 < st.length := (List.getElem?_eq_some_iff.mp h.2).1
/-- the test of the rows' order -/
theorem t_rows (k : Nat) {ρ : MP.Env} {st : Sto} {p : Nat} {rows : List D} (h2 : ρ[2]? = some (some (.ref p))) (hp : st[p]? = some (.lst rows)) (hr : ∀ r ∈ rows, RowP r) (hl : rows.length ≤ 7) :
    evC ⟨run FT GL (k + 4), GL⟩ (.or (.ofE (.op2 .ne (.call 7 (.cons (.var 2) .nil)) (.call 24 (.cons (.var 2) .nil)))) (.ofE (.op2 .ne (.call 7 (.cons (.ofQ (.rev (.list (.ofE (.call 7 (.cons (.var 2) .nil)))))) .nil)) (.call 7 (.cons (.var 2) .nil))))) ρ st = .ok false (st ++ [.lst (ordL rkey (uniq [] rows)).reverse]) := by
  have hu : ∀ a ∈ uniq [] rows, RowP a := fun a ha => by
    rcases uniq_sub rows [] a ha with h | h
    · cases h
    · exact hr a h
  have hlen : (ordL rkey (uniq [] rows)).length ≤ 1000 := by
    have e1 := (ordL_is (key := rkey) (uniq [] rows)).length_eq
    have e2 := uniq_len rows []
    simp at e2
    omega
  have c7 := call1J (g := 7) (j := 2) (ρ := ρ) h2 (r_ordered k hp hr (by omega))
  have c24 := call1J (g := 24) (j := 2) (ρ := ρ) h2 (r_ordered2 k hp hr (by omega))
  refine ec_orF (ec_ne c7 c24 (ord_eq KOrow (fun a => row_self) hu _)) ?_
  have q : evE ⟨run FT GL (k + 4), GL⟩ (.ofQ (.rev (.list (.ofE (.call 7 (.cons (.var 2) .nil)))))) ρ st = .ok (.ref st.length) (st ++ [.lst (ordL rkey (uniq [] rows)).reverse]) := by
    rw [evE, evQ, evQ, evQ, c7]
    rfl
  have c : evE ⟨run FT GL (k + 4), GL⟩ (.call 7 (.cons (.ofQ (.rev (.list (.ofE (.call 7 (.cons (.var 2) .nil)))))) .nil)) ρ st = .ok (.tup (ordL rkey (uniq [] rows))) (st ++ [.lst (ordL rkey (uniq [] rows)).reverse]) := by
    rw [evE, es_cons q es_nil]
    simp only [R.bind_ok]
    rw [r_ordered k (get_last st (.lst (ordL rkey (uniq [] rows)).reverse)) (fun a ha => hu a (ordL_mem (List.mem_reverse.mp ha))) (by simpa using hlen)]
    rw [ord_rev KOrow hr]
  exact ec_ne c (call1J (g := 7) (j := 2) (ρ := ρ) h2 (r_ordered k (app_at _ hp) hr (by omega))) (ord_eq KOrow (fun a => row_self) hu _)
theorem fact_self {f : D} (h : FactP f) : D.like f f = true := by
  obtain ⟨n, r, rfl, hn, hr⟩ := h
  simp only [D.like]
  exact likeL_self _ fun x hx => by
    simp only [List.mem_cons, List.not_mem_nil, or_false] at hx
    rcases hx with rfl | rfl
    · exact v_self (nm_str hn).1
    · exact row_self hr
theorem v_wf {v : D} (h : vOk v = true) (st : Sto) : wf st v = true := by
  cases v <;> first | (simp [wf]; done) | cases h | (simp only [vOk, Bool.and_eq_true, decide_eq_true_eq] at h; simp [wf, h.2.1.2, h.2.2])
theorem wf_of {st : Sto} {ds : List D} (hl : ds.length ≤ 1000) (h : ∀ d ∈ ds, wf st d = true) : wf st (.tup ds) = true := by
  have : wfL st ds = true := by
    clear hl
    induction ds with
    | nil => simp [wfL]
    | cons d ds ih => simp only [wfL, Bool.and_eq_true]; exact ⟨h d (by simp), ih fun x hx => h x (by simp [hx])⟩
  simp only [wf, Bool.and_eq_true, decide_eq_true_eq]
  exact ⟨len_le hl, this⟩
theorem fact_wf {f : D} (h : FactP f) (st : Sto) : wf st f = true := by
  obtain ⟨n, r, rfl, hn, hr⟩ := h
  refine wf_of (by simp) fun x hx => ?_
  simp only [List.mem_cons, List.not_mem_nil, or_false] at hx
  rcases hx with rfl | rfl
  · exact v_wf (nm_str hn).1 st
  · exact row_wf hr st
/-- the test of the facts -/
theorem t_facts (k : Nat) {ρ : MP.Env} {st : Sto} {p : Nat} {fs : List D} (h3 : ρ[3]? = some (some (.ref p))) (hv : ∀ x : D, ((wipeE ρ [10, 14]).set 14 (some x))[14]? = some (some x)) (hp : st[p]? = some (.lst fs)) (hr : ∀ r ∈ fs, FactP r) (hl : fs.length ≤ 7) :
    evC ⟨run FT GL (k + 5), GL⟩ (.or (.ofE (.op2 .ne (.call 9 (.cons (.var 3) .nil)) (.call 25 (.cons (.var 3) .nil)))) (.ofE (.eqQ true (.lci (.var 14) [10, 14] (.name 14) (.ofP (.var 3)) (.ofE (.op2 .isnot (.call 10 (.cons (.var 14) .nil)) (.con (.bl true))))) (.disp .nil)))) ρ st = .ok false st := by
  have hu : ∀ a ∈ uniq [] fs, FactP a := fun a ha => by
    rcases uniq_sub fs [] a ha with h | h
    · cases h
    · exact hr a h
  have c9 := call1J (g := 9) (j := 3) (ρ := ρ) h3 (r_facts k hp hr (by omega))
  have c25 := call1J (g := 25) (j := 3) (ρ := ρ) h3 (r_facts2 (k + 1) hp hr (by omega))
  refine ec_orF (ec_ne c9 c25 (ord_eq KOfact (fun a => fact_self) hu _)) (ec_e (p := false) ?_)
  exact none_badP h3 hp (by omega) hv fun x hx => by
    rw [r_is_fact (k + 1) x st (fact_wf (hr x hx) st), fact_isFact (hr x hx)]
theorem ev_rep9 {C : Ctx} {ρ : MP.Env} {st : Sto} {e : E} {v : D} (h : evE C e ρ st = .ok v st) : evE C (.fold .tuple (.ofE (.op2 .mul (.ofQ (.disp (.cons e .nil))) (.con (.int 9))))) ρ st = .ok (.tup (repL [v] 9)) (st ++ [.lst [v]] ++ [.lst (repL [v] 9)]) := by
  have m : evE C (.op2 .mul (.ofQ (.disp (.cons e .nil))) (.con (.int 9))) ρ st = .ok (.ref (st ++ [Ob.lst [v]]).length) (st ++ [.lst [v]] ++ [.lst (repL [v] 9)]) := by
    refine ev_op2 (ev_list (es_cons h es_nil) (len_le (by simp))) (ev_con _ _ _ _) ?_
    show mulD (.ref st.length) (.int 9) (st ++ [Ob.lst [v]]) = _
    simp only [mulD, listOf, get_last]
    rw [if_pos ⟨by decide, by decide, by simp [LINE]⟩]
    rfl
  rw [evE, evQ, m]
  simp only [R.bind_ok, seqOf, get_last, R.opt_some, foldD]
/-- rows are rows; nine values are none -/
theorem t_isrow (k : Nat) {ρ : MP.Env} {st : Sto} {p : Nat} {rows : List D} (h2 : ρ[2]? = some (some (.ref p))) (hv : ∀ x : D, ((wipeE ρ [10, 13]).set 13 (some x))[13]? = some (some x)) (hp : st[p]? = some (.lst rows)) (hr : ∀ r ∈ rows, RowP r) (hl : rows.length ≤ 7) :
    evC ⟨run FT GL (k + 3), GL⟩ (.or (.ofE (.eqQ true (.lci (.var 13) [10, 13] (.name 13) (.ofP (.var 2)) (.ofE (.op2 .isnot (.call 4 (.cons (.var 13) .nil)) (.con (.bl true))))) (.disp .nil))) (.ofE (.op2 .isnot (.call 4 (.cons (.fold .tuple (.ofE (.op2 .mul (.ofQ (.disp (.cons (.con (.int 1)) .nil))) (.con (.int 9))))) .nil)) (.con (.bl false))))) ρ st = .ok false (st ++ [.lst [.int 1]] ++ [.lst (repL [.int 1] 9)]) := by
  refine ec_orF (ec_e (p := false) (none_badP h2 hp (by omega) hv fun x hx => by
    rw [r_is_row k x st (row_wf (hr x hx) st), row_isRow (hr x hx)])) (ec_e (isnot_bl ?_))
  have w : wf [] (.tup (repL [.int 1] 9)) = true := by decide +kernel
  have n : isRow (.tup (repL [.int 1] 9)) = false := by decide +kernel
  have c := r_is_row k (.tup (repL [.int 1] 9)) (st ++ [.lst [.int 1]] ++ [.lst (repL [.int 1] 9)]) (wf_any _ _ w)
  rw [n] at c
  rw [evE, es_cons (ev_rep9 (ev_con _ _ _ _)) es_nil]
  exact c
end K00

set_option Elab.async false
set_option linter.all false
set_option maxRecDepth 100000
set_option maxHeartbeats 4000000
namespace K00
open MP
/-! ### shapes -/
theorem tree_sum {n : Nat} {x : D} (h : Tree n x) : ∀ f, n ≤ f → sumOk f x = true := by
  induction h with
  | @var n x hx =>
    intro f _
    apply sumOk_term
    have e : (letL.all fun x => isTerm (.tup [sT "var", x])) = true := by decide +kernel
    exact List.all_eq_true.mp e x hx
  | @val n x hx =>
    intro f _
    apply sumOk_term
    have e : (anyL.all fun x => isTerm (.tup [sT "value", x])) = true := by decide +kernel
    exact List.all_eq_true.mp e x hx
  | @op n o x y ho hx hy ihx ihy =>
    intro f hf
    match f, hf with
    | f + 1, hf =>
      have e : (opL.all fun x => inL SUMS x) = true := by decide +kernel
      have e1 : inL SUMS o = true := List.all_eq_true.mp e o ho
      simp only [sumOk, e1, ihx f (by omega), ihy f (by omega), Bool.and_self, Bool.or_true]
theorem str_ok {l : List D} (h : (l.all fun x => (D.flat x && x.py.canLay0 && decide (D.dep x ≤ 0)) && wf [] x) = true) {x : D} (hx : x ∈ l) : okN 0 x ∧ wf [] x = true := by
  have := List.all_eq_true.mp h x hx
  simp only [Bool.and_eq_true] at this
  exact ⟨by simp only [okN, Bool.and_eq_true]; exact this.1, this.2⟩
theorem tree_ok {n : Nat} {x : D} (h : Tree n x) : okN (n + 1) x ∧ wf [] x = true := by
  have q1 : okN 0 (sT "var") ∧ wf [] (sT "var") = true := str_ok (l := [sT "var"]) (by decide +kernel) (by simp)
  have q2 : okN 0 (sT "value") ∧ wf [] (sT "value") = true := str_ok (l := [sT "value"]) (by decide +kernel) (by simp)
  induction h with
  | @var n x hx =>
    have q3 := str_ok (l := letL) (by decide +kernel) hx
    refine ⟨okN_mono (okT_of (n := 0) fun z hz => ?_) (by omega), wf_of (by simp) fun z hz => ?_⟩
    · simp only [List.mem_cons, List.not_mem_nil, or_false] at hz
      rcases hz with rfl | rfl
      · exact q1.1
      · exact q3.1
    · simp only [List.mem_cons, List.not_mem_nil, or_false] at hz
      rcases hz with rfl | rfl
      · exact q1.2
      · exact q3.2
  | @val n x hx =>
    have q3 := str_ok (l := anyL) (by decide +kernel) hx
    refine ⟨okN_mono (okT_of (n := 0) fun z hz => ?_) (by omega), wf_of (by simp) fun z hz => ?_⟩
    · simp only [List.mem_cons, List.not_mem_nil, or_false] at hz
      rcases hz with rfl | rfl
      · exact q2.1
      · exact q3.1
    · simp only [List.mem_cons, List.not_mem_nil, or_false] at hz
      rcases hz with rfl | rfl
      · exact q2.2
      · exact q3.2
  | @op n o x y ho hx hy ihx ihy =>
    have q3 := str_ok (l := opL) (by decide +kernel) ho
    refine ⟨okT_of fun z hz => ?_, wf_of (by simp) fun z hz => ?_⟩
    · simp only [List.mem_cons, List.not_mem_nil, or_false] at hz
      rcases hz with rfl | rfl | rfl
      · exact okN_mono q3.1 (by omega)
      · exact ihx.1
      · exact ihy.1
    · simp only [List.mem_cons, List.not_mem_nil, or_false] at hz
      rcases hz with rfl | rfl | rfl
      · exact q3.2
      · exact ihx.2
      · exact ihy.2
theorem dt_of {n : Nat} {d : D} (h : okN n d) (hn : n ≤ 60) (w : wf [] d = true) : dt d = true := by
  simp only [dt, Bool.and_eq_true]
  exact ⟨okN_mono h hn, w⟩
/-- the rule about a drawn sum -/
def hs2 : List D := [.tup [sT "var", sT "X"], .tup [sT "count", sT "Y"]]
def isP : D := .tup [sT "is", sT "q", .tup [.tup [sT "var", sT "X"], .tup [sT "var", sT "Y"]]]
def v3 : D := .tup [sT "value", .int 3]
def tsP (x : D) : D := .tup [sT "test", sT "<", x, v3]
def ruleD (x : D) : D := .tup [sT "p", .tup hs2, .tup [isP, tsP x]]
theorem rule_is {x : D} (h : Tree 3 x) : isRule (ruleD x) = true := by
  have s1 := tree_sum h 12 (by decide)
  have a1 : inL IsNot (sT "test") = false := by decide +kernel
  have a2 : isS (sT "test") sTest = true := by decide +kernel
  have a3 : inL TESTS (sT "<") = true := by decide +kernel
  have a4 : sumOk 12 v3 = true := by decide +kernel
  have p2 : isPart (tsP x) = true := by
    simp only [tsP, isPart, a1, a2, a3, a4, s1]
    rfl
  have p1 : isPart isP = true := by decide +kernel
  have n1 : isName (sT "p") = true := by decide +kernel
  have h1 : (hs2.all fun x => isTerm x || isGroup x) = true := by decide +kernel
  have h2 : decide ((hs2.filter isGroup).length ≤ 1) = true := by decide +kernel
  have h3 : (decide (hs2.length ≤ 8) && decide ([isP, tsP x].length ≤ 12)) = true := rfl
  have h4 : ([isP, tsP x].all isPart) = true := by simp only [List.all_cons, List.all_nil, p1, p2, Bool.and_self]
  simp only [ruleD, isRule, n1, h1, h2, h3, h4, Bool.and_self]
theorem cst_ok {d : D} {n : Nat} (h : ((D.flat d && d.py.canLay0 && decide (D.dep d ≤ n)) && wf [] d) = true) : okN n d ∧ wf [] d = true := by
  simp only [Bool.and_eq_true] at h
  exact ⟨by simp only [okN, Bool.and_eq_true]; exact h.1, h.2⟩
theorem rule_dt {x : D} (h : Tree 3 x) : dt (ruleD x) = true := by
  obtain ⟨t1, t2⟩ := tree_ok h
  have c1 : okN 0 (sT "test") ∧ wf [] (sT "test") = true := cst_ok (by decide +kernel)
  have c2 : okN 0 (sT "<") ∧ wf [] (sT "<") = true := cst_ok (by decide +kernel)
  have c3 : okN 1 v3 ∧ wf [] v3 = true := cst_ok (by decide +kernel)
  have c4 : okN 3 isP ∧ wf [] isP = true := cst_ok (by decide +kernel)
  have c5 : okN 3 (.tup hs2) ∧ wf [] (.tup hs2) = true := cst_ok (by decide +kernel)
  have c6 : okN 0 (sT "p") ∧ wf [] (sT "p") = true := cst_ok (by decide +kernel)
  have d1 : okN 5 (tsP x) ∧ wf [] (tsP x) = true := by
    refine ⟨okT_of (n := 4) fun z hz => ?_, wf_of (by simp) fun z hz => ?_⟩
    · simp only [List.mem_cons, List.not_mem_nil, or_false] at hz
      rcases hz with rfl | rfl | rfl | rfl
      · exact okN_mono c1.1 (by decide)
      · exact okN_mono c2.1 (by decide)
      · exact t1
      · exact okN_mono c3.1 (by decide)
    · simp only [List.mem_cons, List.not_mem_nil, or_false] at hz
      rcases hz with rfl | rfl | rfl | rfl
      · exact c1.2
      · exact c2.2
      · exact t2
      · exact c3.2
  have d2 : okN 6 (.tup [isP, tsP x]) ∧ wf [] (.tup [isP, tsP x]) = true := by
    refine ⟨okT_of (n := 5) fun z hz => ?_, wf_of (by simp) fun z hz => ?_⟩
    · simp only [List.mem_cons, List.not_mem_nil, or_false] at hz
      rcases hz with rfl | rfl
      · exact okN_mono c4.1 (by decide)
      · exact d1.1
    · simp only [List.mem_cons, List.not_mem_nil, or_false] at hz
      rcases hz with rfl | rfl
      · exact c4.2
      · exact d1.2
  refine dt_of (n := 7) (okT_of (n := 6) fun z hz => ?_) (by decide) (wf_of (by simp) fun z hz => ?_)
  · simp only [List.mem_cons, List.not_mem_nil, or_false] at hz
    rcases hz with rfl | rfl | rfl
    · exact okN_mono c6.1 (by decide)
    · exact okN_mono c5.1 (by decide)
    · exact d2.1
  · simp only [List.mem_cons, List.not_mem_nil, or_false] at hz
    rcases hz with rfl | rfl | rfl
    · exact c6.2
    · exact c5.2
    · exact d2.2
/-! ### the values of names, as a dict -/
theorem disp_vals (x y z : D) : dispD [.str sX, x, .str sY, y, .str sZ, z] = some (vals x y z) := by
  have n12 : sX ≠ sY := by decide +kernel
  have n13 : sX ≠ sZ := by decide +kernel
  have n23 : sY ≠ sZ := by decide +kernel
  have k1 : fkey (.str sX) = some (.inr sX) := rfl
  have k2 : fkey (.str sY) = some (.inr sY) := rfl
  have k3 : fkey (.str sZ) = some (.inr sZ) := rfl
  have ne : ∀ {s t : PySem.Str}, s ≠ t → decide (dkey (.str s) = some (DK.f (.inr t))) = false := by
    intro s t h
    refine decide_eq_false fun e => ?_
    injection e with e; injection e with e; injection e with e; exact h e
  have p1 : dput [] (.f (.inr sX)) (.str sX) x = [(.str sX, x)] := rfl
  have p2 : dput [(.str sX, x)] (.f (.inr sY)) (.str sY) y = [(.str sX, x), (.str sY, y)] := by
    unfold dput
    rw [if_neg]
    · rfl
    · simp only [List.any_cons, List.any_nil, ne n12]; decide
  have p3 : dput [(.str sX, x), (.str sY, y)] (.f (.inr sZ)) (.str sZ) z = vals x y z := by
    unfold dput
    rw [if_neg]
    · rfl
    · simp only [List.any_cons, List.any_nil, ne n13, ne n23]; decide
  have hp : pairsOf [.str sX, x, .str sY, y, .str sZ, z] = some [.tup [.str sX, x], .tup [.str sY, y], .tup [.str sZ, z]] := rfl
  have hl : [D.str sX, x, .str sY, y, .str sZ, z].length ≤ 30 := by simp
  unfold dispD
  rw [if_pos hl, hp]
  simp only [Option.bind_some, dictF, k1, k2, k3, p1, p2, p3]
theorem isV_eq {v : D} (h : isV v = true) (st : Sto) : eqD v v st = some true := by
  cases v with
  | non => rfl
  | int i => rw [eq_int]; simp
  | str s =>
    have ok : D.okD (.str s) = true := h
    rw [eq_str ok ok]
    have : isS (.str s) s = true := eqv_self (a := .str s) rfl
    rw [this]
  | _ => cases h
/-! ### the wrong shapes -/
def wA (n : Nat) : List D := [.non, .tup [], .tup [sT "P", .tup [], .tup []], .tup [sT "p", .tup [.tup [sT "count", sT "X"], .tup [sT "sum", sT "Y"]], .tup []], .tup [sT "p", .tup [.tup [sT "count", sT "x"]], .tup []], .tup [sT "p", .ref n, .tup []], .tup [sT "p", .tup [], .tup [.tup [sT "is", sT "q"]]], .tup [sT "p", .tup [], .tup [.tup [sT "maybe", sT "q", .tup []]]]]
def wB : List D := [.tup [sT "p", .tup [], .tup [.tup [sT "test", sT "=<", .tup [sT "value", .int 1], .tup [sT "value", .int 2]]]], .tup [sT "p", .tup [.tup [sT "value", .non]], .tup []], .tup [sT "p", .tup [], .tup [.tup [sT "is", sT "q", .tup [.tup [sT "value", .tup []]]]]]]
def wC : List D := [.tup [sT "p", .tup (repL [.tup [sT "value", .int 1]] 9), .tup []], .tup [sT "p", .tup [], .tup (repL [.tup [sT "is", sT "q", .tup []]] 13)]]
theorem wrong_are {n : Nat} {st : Sto} (h : st[n]? = some (.lst [])) {x : D} (hx : x ∈ wA n ++ wB ++ wC) : Shp st x ∧ isRule x = false := by
  have e : ∀ l : List D, (l.all fun x => dt x && !isRule x) = true → x ∈ l → Shp st x ∧ isRule x = false := fun l h hx => by
    have := List.all_eq_true.mp h x hx
    simp only [Bool.and_eq_true, Bool.not_eq_true'] at this
    exact ⟨.dt this.1, this.2⟩
  have hp : dt (sT "p") = true := by decide +kernel
  rcases List.mem_append.mp hx with hx | hx
  · rcases List.mem_append.mp hx with hx | hx
    · by_cases hn : x = .tup [sT "p", .ref n, .tup []]
      · subst hn
        exact ⟨.lst hp h, rfl⟩
      · refine e [.non, .tup [], .tup [sT "P", .tup [], .tup []], .tup [sT "p", .tup [.tup [sT "count", sT "X"], .tup [sT "sum", sT "Y"]], .tup []], .tup [sT "p", .tup [.tup [sT "count", sT "x"]], .tup []], .tup [sT "p", .tup [], .tup [.tup [sT "is", sT "q"]]], .tup [sT "p", .tup [], .tup [.tup [sT "maybe", sT "q", .tup []]]]] (by decide +kernel) ?_
        simp only [wA, List.mem_cons, List.not_mem_nil, or_false] at hx ⊢
        rcases hx with hx | hx | hx | hx | hx | hx | hx | hx
        · exact .inl hx
        · exact .inr (.inl hx)
        · exact .inr (.inr (.inl hx))
        · exact .inr (.inr (.inr (.inl hx)))
        · exact .inr (.inr (.inr (.inr (.inl hx))))
        · exact absurd hx hn
        · exact .inr (.inr (.inr (.inr (.inr (.inl hx)))))
        · exact .inr (.inr (.inr (.inr (.inr (.inr hx)))))
    · exact e wB (by decide +kernel) hx
  · exact e wC (by decide +kernel) hx
theorem wrong_ask (k : Nat) {n : Nat} {st : Sto} (h : st[n]? = some (.lst [])) {x : D} (hx : x ∈ wA n ++ wB ++ wC) : run FT GL (k + 6) 16 [x] st = .ok (.bl false) st := by
  obtain ⟨s, e⟩ := wrong_are h hx
  rw [r_is_rule k x st s, e]
end K00

set_option Elab.async false
set_option linter.all false
set_option maxRecDepth 100000
set_option maxHeartbeats 4000000
namespace K00
open MP
theorem callv {k g i j : Nat} {ρ : MP.Env} {st : Sto} {x y : D} {r : R D} (hi : ρ[i]? = some (some x)) (hj : ρ[j]? = some (some y)) (h : run FT GL k g [x, y] st = r) : evE ⟨run FT GL k, GL⟩ (.call g (.cons (.var i) (.cons (.var j) .nil))) ρ st = r := by
  rw [evE, es_cons (ev_var _ hi) (es_cons (ev_var _ hj) es_nil)]
  exact h
theorem ev_dcopy {C : Ctx} {ρ : MP.Env} {st : Sto} {j q : Nat} {x y z : D} (hj : ρ[j]? = some (some (.ref q))) (hq : st[q]? = some (.dct (vals x y z))) : evE C (.op1 .dcopy (.var j)) ρ st = .ok (.ref st.length) (st ++ [.dct (vals x y z)]) := by
  rw [evE, ev_var _ hj]
  simp only [R.bind_ok, p1, dictOf, hq]
  rfl
/-- the test of the sums' worth -/
theorem t_worth {ρ : MP.Env} {st : Sto} {q : Nat} {x y z t : D} (hx : isV x = true) (hy : isV y = true) (hz : isV z = true) (ht : Tree 3 t) (h6 : ρ[6]? = some (some t)) (h7 : ρ[7]? = some (some (.ref q))) (hq : st[q]? = some (.dct (vals x y z))) :
    evC ⟨run FT GL 99, GL⟩ (.or (.ofE (.op2 .ne (.call 17 (.cons (.var 6) (.cons (.op1 .dcopy (.var 7)) .nil))) (.call 26 (.cons (.var 6) (.cons (.var 7) .nil))))) (.ofE (.op2 .isnot (.call 17 (.cons (.tup (.cons (.con (.str (PySem.Str.ofString "var"))) (.cons (.con (.str (PySem.Str.ofString "Q"))) .nil))) (.cons (.op1 .dcopy (.var 7)) .nil))) (.con .non)))) ρ st = .ok false (st ++ [.dct (vals x y z)] ++ [.dct (vals x y z)]) := by
  obtain ⟨v, hv, hw⟩ := r_worth hx hy hz ht
  have w1 := (hw 92 (st ++ [.dct (vals x y z)]) st.length (get_last _ _)).1
  have w2 := (hw 92 (st ++ [.dct (vals x y z)]) q (app_at _ hq)).2
  have c1 : evE ⟨run FT GL 99, GL⟩ (.call 17 (.cons (.var 6) (.cons (.op1 .dcopy (.var 7)) .nil))) ρ st = .ok v (st ++ [.dct (vals x y z)]) := by
    rw [evE, es_cons (ev_var _ h6) (es_cons (ev_dcopy h7 hq) es_nil)]
    exact w1
  have c2 := callv (k := 99) (g := 26) (ρ := ρ) h6 h7 w2
  refine ec_orF (ec_ne c1 c2 (isV_eq hv _)) (ec_e ?_)
  have c3 : evE ⟨run FT GL 99, GL⟩ (.call 17 (.cons (.tup (.cons (.con (.str (PySem.Str.ofString "var"))) (.cons (.con (.str (PySem.Str.ofString "Q"))) .nil))) (.cons (.op1 .dcopy (.var 7)) .nil))) ρ (st ++ [.dct (vals x y z)]) = .ok .non (st ++ [.dct (vals x y z)] ++ [.dct (vals x y z)]) := by
    rw [evE, es_cons (ev_tup (es_cons (ev_con _ _ _ _) (es_cons (ev_con _ _ _ _) es_nil)) (len_le (by simp))) (es_cons (ev_dcopy h7 (app_at _ hq)) es_nil)]
    exact r_worthQ 98 (get_last _ _)
  exact ev_op2 c3 (ev_con _ _ _ _) rfl
theorem fit_names : ∀ x : D, (askOk x && decide (isName x = true)) = true → ∀ st, run FT GL 99 1 [x] st = .ok (.bl true) st := fun x h st => names_are 98 st h
theorem ev_addL {C : Ctx} {ρ : MP.Env} {st st' : Sto} {i p q : Nat} {e : E} {xs ys : List D} (hi : ρ[i]? = some (some (.ref p))) (he : evE C e ρ st = .ok (.ref q) st') (hp : st'[p]? = some (.lst xs)) (hq : st'[q]? = some (.lst ys)) (hl : xs.length + ys.length ≤ 1000) :
    evE C (.op2 .add (.var i) e) ρ st = .ok (.ref st'.length) (st' ++ [.lst (xs ++ ys)]) := by
  refine ev_op2 (ev_var _ hi) he ?_
  show addD (.ref p) (.ref q) st' = _
  simp only [addD, listOf, hp, hq]
  rw [if_pos (by unfold LINE; omega)]
  rfl
/-- the last rows: a wrong shape is picked, all are asked about -/
theorem t_end {ρ : MP.Env} {st : Sto} {ds : List Int} {a n p : Nat} (hb : Bx st ds a) (ha : a ≤ 1000) (hn : st[n]? = some (.lst [])) (hn1 : n ≠ 1) (h1 : ρ[1]? = some (some (.ref 1))) (h9 : ρ[9]? = some (some (.ref p))) (hp : st[p]? = some (.lst (wA n ++ wB ++ wC))) (hp1 : p ≠ 1) (hv : ∀ x : D, ((wipeE ρ [10, 15]).set 15 (some x))[15]? = some (some x)) :
    ∃ st', evE ⟨run FT GL 99, GL⟩ (.and (.op2 .is_ (.call 16 (.cons (.call 21 (.cons (.var 1) (.cons (.var 9) .nil))) .nil)) (.con (.bl false))) (.eqQ false (.lci (.var 15) [10, 15] (.name 15) (.ofP (.var 9)) (.ofE (.op2 .isnot (.call 16 (.cons (.var 15) .nil)) (.con (.bl false))))) (.disp .nil))) ρ st = .ok (.bl true) st' := by
  obtain ⟨x, st1, e1, m1, d1, b1⟩ := r_pick 97 hb (by omega) hp1 hp (by simp [wA])
  have c := callv (k := 99) (g := 21) (ρ := ρ) h1 h9 e1
  have hn' := d1.at hn1 hn
  have hp' := d1.at hp1 hp
  have c2 : evE ⟨run FT GL 99, GL⟩ (.call 16 (.cons (.call 21 (.cons (.var 1) (.cons (.var 9) .nil))) .nil)) ρ st = .ok (.bl false) st1 := by
    rw [evE, es_cons c es_nil]
    exact wrong_ask 93 hn' m1
  refine ⟨st1, ?_⟩
  rw [ev_and (is_bl c2), if_pos rfl]
  exact none_badP h9 hp' (by simp [wA, wB, wC]) hv fun x hx => wrong_ask 93 hn' hx
end K00

set_option Elab.async false
set_option linter.all false
set_option maxRecDepth 100000
set_option maxHeartbeats 4000000
namespace K00
open MP
theorem ends_retE {C : Ctx} {ρ : MP.Env} {st : Sto} {e : E} {r : Ss} (h : ∃ st', evE C e ρ st = .ok (.bl true) st') : Ends C (.cons (.ret e) r) ρ st := by
  obtain ⟨st', h⟩ := h
  exact ends_ret h
def fA : List D := [.tup [sT "p"], .tup [sT "P", .tup []]]
def fB : List D := [.tup [sT "p", .tup [.bl true]], .non, .tup [sT "p", .tup [.int 1], .int 2]]
theorem facts_are (k : Nat) {n : Nat} {st : Sto} {l : List D} (h : st[n]? = some (.lst l)) {x : D} (hx : x ∈ fA ++ [.tup [sT "p", .ref n]] ++ fB) : run FT GL (k + 4) 10 [x] st = .ok (.bl false) st := by
  have e : ∀ l : List D, (l.all fun x => wf [] x && !isFact x) = true → x ∈ l → run FT GL (k + 4) 10 [x] st = .ok (.bl false) st := fun l h hx => by
    have := List.all_eq_true.mp h x hx
    simp only [Bool.and_eq_true, Bool.not_eq_true'] at this
    rw [r_is_fact k x st (wf_any _ _ this.1), this.2]
  rcases List.mem_append.mp hx with hx | hx
  · rcases List.mem_append.mp hx with hx | hx
    · exact e fA (by decide +kernel) hx
    · simp only [List.mem_singleton] at hx
      subst hx
      have w : wf st (.tup [sT "p", .ref n]) = true := by
        refine wf_of (by simp) fun z hz => ?_
        simp only [List.mem_cons, List.not_mem_nil, or_false] at hz
        rcases hz with rfl | rfl
        · exact wf_any _ _ (by decide +kernel)
        · simp [wf, h]
      have f : isFact (.tup [sT "p", .ref n]) = false := by simp [isFact, isRow]
      rw [r_is_fact k _ st w, f]
  · exact e fB (by decide +kernel) hx
theorem main0 (ns : List Int) : Ends ⟨run FT GL 99, GL⟩ b29 (some (.cl (ns.map .int)) :: List.replicate 15 none) [] := by
  obtain ⟨ds, hd⟩ := r_digits 97 ns
  have c19 : evE ⟨run FT GL 99, GL⟩ (.call 19 (.cons (.var 0) (.cons (.con (.int 0)) (.cons (.con (.int 63)) .nil)))) (some (.cl (ns.map .int)) :: List.replicate 15 none) [] = .ok (.ref 0) [.lst (ds.map D.int)] := by
    rw [evE, es_cons (ev_var _ rfl) (es_cons (ev_con _ _ _ _) (es_cons (ev_con _ _ _ _) es_nil))]
    exact hd
  refine ends_asg (ev_list (es_cons c19 (es_cons (ev_con _ _ _ _) es_nil)) (len_le (by simp))) ?_
  have b0 : Bx [.lst (ds.map D.int), .lst [.ref 0, .int 0]] ds 0 := ⟨rfl, rfl⟩
  generalize D.cl (ns.map .int) = v0
  show Ends _ _ (some v0 :: some (.ref 1) :: List.replicate 14 none) [.lst (ds.map D.int), .lst [.ref 0, .int 0]]
  generalize [Ob.lst (ds.map D.int), .lst [.ref 0, .int 0]] = st0 at b0
  -- rows
  obtain ⟨rows, st1, a1, e1, l1, q1, d1, b1, m1⟩ := r_rows 96 (v0 := v0) b0 (by decide)
  refine ends_asg e1 ?_
  have hp1 : st1.length ≠ 1 := by have := bx_len b1; omega
  generalize hp : st1.length = p at hp1
  have r1 : (st1 ++ [Ob.lst rows])[p]? = some (.lst rows) := by rw [← hp]; exact get_last _ _
  have b1' := b1.app (.lst rows)
  generalize st1 ++ [Ob.lst rows] = st2 at r1 b1'
  refine ends_if (t_rows 95 (p := p) rfl r1 q1 l1) ?_
  have r2 := app_at [.lst (ordL rkey (uniq [] rows)).reverse] r1
  have b2 := b1'.app (.lst (ordL rkey (uniq [] rows)).reverse)
  generalize st2 ++ [Ob.lst (ordL rkey (uniq [] rows)).reverse] = st3 at r2 b2
  -- facts
  obtain ⟨fs, st4, a2, e2, l2, q2, d2, b3, m2⟩ := r_mkfacts 96 (v0 := v0) b2 (by omega) r2 hp1 q1 l1
  refine ends_asg e2 ?_
  have r3 := app_at [.lst fs] (d2.at hp1 r2)
  have f3 := get_last st4 (.lst fs)
  have b4 := b3.app (.lst fs)
  generalize st4.length = pf at f3
  generalize st4 ++ [Ob.lst fs] = st5 at r3 f3 b4
  refine ends_if (t_facts 94 (p := pf) rfl (fun x => rfl) f3 q2 l2) ?_
  refine ends_if (t_isrow 96 (p := p) rfl (fun x => rfl) r3 q1 l1) ?_
  have b5 := (b4.app (.lst [.int 1])).app (.lst (repL [.int 1] 9))
  generalize st5 ++ [Ob.lst [.int 1]] ++ [Ob.lst (repL [.int 1] 9)] = st6 at b5
  -- names
  refine ends_list (p := fun x => askOk x && decide (isName x = true)) (by decide +kernel) fun L1 hn1 hL1 => ?_
  have g1 := get_last st6 (.lst L1)
  have b6 := b5.app (.lst L1)
  generalize st6.length = pg at g1
  generalize st6 ++ [Ob.lst L1] = st7 at g1 b6
  refine ends_list (p := fun x => askOk x && decide (isName x = false)) (by decide +kernel) fun L2 hn2 hL2 => ?_
  have g2 := get_last st7 (.lst L2)
  have g1' := app_at [.lst L2] g1
  have b7 := b6.app (.lst L2)
  generalize st7.length = pb at g2
  generalize st7 ++ [Ob.lst L2] = st8 at g2 g1' b7
  refine ends_if (ec_orF (ec_e (p := false) (none_badP (p := pg) (xs := L1) rfl g1' (by omega) (fun x => rfl) fun x hx => names_are 98 st8 (hL1 x hx))) (ec_e (p := false) (none_badP (p := pb) (xs := L2) rfl g2 (by omega) (fun x => rfl) fun x hx => names_are 98 st8 (hL2 x hx)))) ?_
  -- letters
  refine ends_if (ec_orF (ec_e (p := false) (none_badF (p := fun x => askOk x && decide (isLetter x = true)) (by decide +kernel) (fun x => rfl) fun x hx => letters_are 98 st8 hx)) (ec_e (p := false) (none_badF (p := fun x => askOk x && decide (isLetter x = false)) (by decide +kernel) (fun x => rfl) fun x hx => letters_are 98 st8 hx))) ?_
  -- values
  refine ends_if (ec_e (p := false) (none_badF (p := fun x => askOk x && decide (isValue x = false)) (by decide +kernel) (fun x => rfl) fun x hx => values_are 97 st8 hx)) ?_
  -- facts that are none
  have hc : ∀ (ρ : MP.Env) (st : Sto) (e : E) (d : D), cE e = some d → evE ⟨run FT GL 99, GL⟩ e ρ st = .ok d st := fun ρ st e d h => cE_ok _ _ _ e d h
  refine ends_if (ec_e (p := false) (none_badQ (xs := fA ++ [.tup [sT "p", .ref st8.length]] ++ fB) (st1 := st8 ++ [.lst [.int 1]]) (es_cons (hc _ _ _ _ (by decide +kernel)) (es_cons (hc _ _ _ _ (by decide +kernel)) (es_cons (ev_tup (es_cons (hc _ _ _ _ (by decide +kernel)) (es_cons (ev_list (es_cons (hc _ _ _ _ (by decide +kernel)) es_nil) (len_le (by simp))) es_nil)) (len_le (by simp))) (es_cons (hc _ _ _ _ (by decide +kernel)) (es_cons (hc _ _ _ _ (by decide +kernel)) (es_cons (hc _ _ _ _ (by decide +kernel)) es_nil)))))) (by simp [fA, fB]) (fun x => rfl) fun x hx => facts_are 95 (get_last _ _) hx)) ?_
  have b8 := b7.app (.lst [.int 1])
  generalize st8 ++ [Ob.lst [.int 1]] = st9 at b8
  -- a sum
  obtain ⟨t, st10, a10, e10, ht, d10, b10, _, m10⟩ := r_sum 91 3 b8 (by have : draws 3 = 45 := rfl; omega)
  have hd3 : draws 3 = 45 := rfl
  refine ends_asg (x := t) (st' := st10) (by rw [evE, es_cons (ev_var _ rfl) (es_cons (ev_con _ _ _ _) es_nil)]; exact e10) ?_
  -- values
  obtain ⟨x, st11, e11, m11, d11, b11⟩ := r_any 96 b10 (by omega)
  obtain ⟨y, st12, e12, m12, d12, b12⟩ := r_any 96 b11 (by omega)
  obtain ⟨z, st13, e13, m13, d13, b13⟩ := r_any 96 b12 (by omega)
  refine ends_asg (x := .ref st13.length) (st' := st13 ++ [.dct (vals x y z)]) (by
    rw [evE, es_cons (ev_con _ _ _ _) (es_cons (call1J (k := 99) (x := .ref 1) rfl e11) (es_cons (ev_con _ _ _ _) (es_cons (call1J (k := 99) (x := .ref 1) rfl e12) (es_cons (ev_con _ _ _ _) (es_cons (call1J (k := 99) (x := .ref 1) rfl e13) es_nil)))))]
    simp only [R.bind_ok]
    rw [disp_vals]
    rfl) ?_
  have v1 := get_last st13 (.dct (vals x y z))
  have b14 := b13.app (.dct (vals x y z))
  generalize st13.length = pv at v1
  generalize st13 ++ [Ob.dct (vals x y z)] = st14 at v1 b14
  refine ends_if (t_worth (any_isV m11) (any_isV m12) (any_isV m13) ht (q := pv) rfl rfl v1) ?_
  have b15 := (b14.app (.dct (vals x y z))).app (.dct (vals x y z))
  generalize st14 ++ [Ob.dct (vals x y z)] ++ [Ob.dct (vals x y z)] = st15 at b15
  -- rules
  refine ends_asg (x := ruleD t) (st' := st15) (ev_tup (ds := [sT "p", .tup hs2, .tup [isP, tsP t]]) (es_cons (hc _ _ _ _ (by decide +kernel)) (es_cons (hc _ _ _ _ (by decide +kernel)) (es_cons (ev_tup (es_cons (hc _ _ _ _ (by decide +kernel)) (es_cons (ev_tup (es_cons (hc _ _ _ _ (by decide +kernel)) (es_cons (hc _ _ _ _ (by decide +kernel)) (es_cons (ev_var _ rfl) (es_cons (hc _ _ _ _ (by decide +kernel)) es_nil)))) (len_le (by simp))) es_nil)) (len_le (by simp))) es_nil))) (len_le (by simp))) ?_
  have rl := r_is_rule 93 (ruleD t) st15 (.dt (rule_dt ht))
  rw [rule_is ht] at rl
  have re := r_is_rule 93 (.tup [sT "p", .tup [], .tup []]) st15 (.dt (by decide +kernel))
  have re1 : isRule (.tup [sT "p", .tup [], .tup []]) = true := by decide +kernel
  rw [re1] at re
  refine ends_if (ec_orF (ec_e (isnot_bl (call1J (k := 99) (x := ruleD t) rfl rl))) (ec_e (isnot_bl (ev_call1 (k := 99) (x := .tup [sT "p", .tup [], .tup []]) (hc _ _ _ _ (by decide +kernel)) re)))) ?_
  -- wrong shapes
  refine ends_asg (x := .ref (st15 ++ [Ob.lst []]).length) (st' := st15 ++ [.lst []] ++ [.lst (wA st15.length)]) (ev_list (es_cons (hc _ _ _ _ (by decide +kernel)) (es_cons (hc _ _ _ _ (by decide +kernel)) (es_cons (hc _ _ _ _ (by decide +kernel)) (es_cons (hc _ _ _ _ (by decide +kernel)) (es_cons (hc _ _ _ _ (by decide +kernel)) (es_cons (ev_tup (es_cons (hc _ _ _ _ (by decide +kernel)) (es_cons (ev_list es_nil (len_le (by simp))) (es_cons (hc _ _ _ _ (by decide +kernel)) es_nil))) (len_le (by simp))) (es_cons (hc _ _ _ _ (by decide +kernel)) (es_cons (hc _ _ _ _ (by decide +kernel)) es_nil)))))))) (len_le (by simp [wA]))) ?_
  have hn : st15.length ≠ 1 := by have := bx_len b15; omega
  have w0 := app_at [.lst (wA st15.length)] (get_last st15 (.lst []))
  have w1 := get_last (st15 ++ [.lst []]) (.lst (wA st15.length))
  have b16 := (b15.app (.lst [])).app (.lst (wA st15.length))
  generalize (st15 ++ [Ob.lst []]).length = p9 at w1
  generalize st15.length = n0 at hn w0 w1 b16
  generalize st15 ++ [Ob.lst []] ++ [Ob.lst (wA n0)] = st16 at w0 w1 b16
  refine ends_asg (x := .ref (st16 ++ [Ob.lst wB]).length) (st' := st16 ++ [.lst wB] ++ [.lst (wA n0 ++ wB)]) (ev_addL (p := p9) (xs := wA n0) (ys := wB) rfl (ev_list (cEs_ok _ _ _ _ wB (by decide +kernel)) (len_le (by simp [wB]))) (app_at _ w1) (get_last _ _) (by simp [wA, wB])) ?_
  have w2 := app_at [.lst wB] (w0)
  have w2' := app_at [.lst (wA n0 ++ wB)] w2
  have w3 := get_last (st16 ++ [.lst wB]) (.lst (wA n0 ++ wB))
  have b17 := (b16.app (.lst wB)).app (.lst (wA n0 ++ wB))
  generalize (st16 ++ [Ob.lst wB]).length = p10 at w3
  generalize st16 ++ [Ob.lst wB] ++ [Ob.lst (wA n0 ++ wB)] = st17 at w2' w3 b17
  generalize hst18 : st17 ++ [Ob.lst [.tup [sT "value", .int 1]]] ++ [Ob.lst (repL [.tup [sT "value", .int 1]] 9)] ++ [Ob.lst wC] = st18
  refine ends_asg (x := .ref st18.length) (st' := st18 ++ [.lst (wA n0 ++ wB ++ wC)]) (ev_addL (p := p10) (q := (st17 ++ [Ob.lst [.tup [sT "value", .int 1]]] ++ [Ob.lst (repL [.tup [sT "value", .int 1]] 9)]).length) (xs := wA n0 ++ wB) (ys := wC) rfl (by
    rw [← hst18]
    exact ev_list (es_cons (ev_tup (es_cons (hc _ _ _ _ (by decide +kernel)) (es_cons (ev_rep9 (v := .tup [sT "value", .int 1]) (hc _ _ _ _ (by decide +kernel))) (es_cons (hc _ _ _ _ (by decide +kernel)) es_nil))) (len_le (by simp))) (es_cons (hc _ _ _ _ (by decide +kernel)) es_nil)) (len_le (by simp [wC]))) (by rw [← hst18]; exact app_at _ (app_at _ (app_at _ w3))) (by rw [← hst18]; exact get_last _ _) (by simp [wA, wB, wC])) ?_
  have w4 := app_at [.lst (wA n0 ++ wB ++ wC)] (app_at [Ob.lst wC] (app_at [Ob.lst (repL [.tup [sT "value", .int 1]] 9)] (app_at [Ob.lst [.tup [sT "value", .int 1]]] w2')))
  have b18 := (((b17.app (.lst [.tup [sT "value", .int 1]])).app (.lst (repL [.tup [sT "value", .int 1]] 9))).app (.lst wC)).app (.lst (wA n0 ++ wB ++ wC))
  rw [hst18] at w4 b18
  have hp18 : st18.length ≠ 1 := by
    rw [← hst18]
    have := bx_len b17
    simp only [List.length_append, List.length_singleton]
    omega
  have w5 := get_last st18 (.lst (wA n0 ++ wB ++ wC))
  generalize st18.length = p11 at w5 hp18
  generalize st18 ++ [Ob.lst (wA n0 ++ wB ++ wC)] = st19 at w4 w5 b18
  exact ends_retE (t_end (p := p11) b18 (by omega) w4 hn rfl rfl w5 hp18 (fun x => rfl))
theorem main (ns : List Int) (h : ns.length ≤ 63) : ∃ st, run FT GL 100 29 [.cl (ns.map .int)] [] = .ok (.bl true) st := by
  have hF : FT 29 = some ⟨1, 15 + 1, b29⟩ := rfl
  obtain ⟨ρ', st', e⟩ := main0 ns
  exact ⟨[], by rw [un1 (k := 99) hF, e, retOf_ret]; simp [gc, D.flat]⟩
end K00

set_option Elab.async false
set_option linter.all false
set_option maxRecDepth 100000
namespace K00
open MP PySem
end K00
open PySem PySem.W PyProof.Rows in
set_option maxRecDepth 100000 in
set_option maxHeartbeats 0 in
theorem PySem.Challenge.cw_factsay_k00_values_ordered_holds : PySem.Challenge.rw_factsay_k00_values_ordered.Holds := by
  w_on; o_law; k_head; (case hw => w_witness2)
  k_fill
  refine MP.walkM (l := PySem.Challenge.rw_factsay_k00_values_ordered) (n := 63) (k := 100) (g := 29) (fns := K00.fns) (gls := K00.gls) (nb := K00.nb) (FT := K00.FT) (G := K00.GL) rfl (by decide) rfl ⟨rfl, by decide, by decide⟩ (fun w h Y => PySem.W.kIn_of Y) (by kernel_rfl) rfl ?F K00.main
  case F =>
    intro w mg h KX G XP
    refine' K00.mod_mk KX G XP.2 ?mp_a0 ?mp_k0 ?mp_l0 ?mp_c0 ?mp_a1 ?mp_k1 ?mp_l1 ?mp_c1 ?mp_a2 ?mp_k2 ?mp_l2 ?mp_c2 ?mp_a3 ?mp_k3 ?mp_l3 ?mp_c3 ?mp_a4 ?mp_k4 ?mp_l4 ?mp_c4 ?mp_a5 ?mp_k5 ?mp_l5 ?mp_c5 ?mp_a6 ?mp_k6 ?mp_l6 ?mp_c6 ?mp_a7 ?mp_k7 ?mp_l7 ?mp_c7 ?mp_a8 ?mp_k8 ?mp_l8 ?mp_c8 ?mp_a9 ?mp_k9 ?mp_l9 ?mp_c9 ?mp_a10 ?mp_k10 ?mp_l10 ?mp_c10 ?mp_a11 ?mp_k11 ?mp_l11 ?mp_c11 ?mp_a12 ?mp_k12 ?mp_l12 ?mp_c12 ?mp_a13 ?mp_k13 ?mp_l13 ?mp_c13 ?mp_a14 ?mp_k14 ?mp_l14 ?mp_c14 ?mp_a15 ?mp_k15 ?mp_l15 ?mp_c15 ?mp_a16 ?mp_k16 ?mp_l16 ?mp_c16 ?mp_a17 ?mp_k17 ?mp_l17 ?mp_c17 ?mp_a18 ?mp_k18 ?mp_l18 ?mp_c18 ?mp_a19 ?mp_k19 ?mp_l19 ?mp_c19 ?mp_a20 ?mp_k20 ?mp_l20 ?mp_c20 ?mp_a21 ?mp_k21 ?mp_l21 ?mp_c21 ?mp_a22 ?mp_k22 ?mp_l22 ?mp_c22 ?mp_a23 ?mp_k23 ?mp_l23 ?mp_c23 ?mp_a24 ?mp_k24 ?mp_l24 ?mp_c24 ?mp_a25 ?mp_k25 ?mp_l25 ?mp_c25 ?mp_a26 ?mp_k26 ?mp_l26 ?mp_c26 ?mp_a27 ?mp_k27 ?mp_l27 ?mp_c27 ?mp_a28 ?mp_k28 ?mp_l28 ?mp_c28 ?mp_a29 ?mp_k29 ?mp_l29 ?mp_c29 ?mp_z0 ?mp_z1 ?mp_z2 ?mp_z3 ?mp_z4 ?mp_z5 ?mp_z6 ?mp_z7 ?mp_z8 ?mp_z9 ?mp_z10 ?mp_z11 ?mp_z12 ?mp_z13 ?mp_z14 ?mp_z15 ?mp_g0 ?mp_g1 ?mp_g4 ?mp_g5 ?mp_gl5 ?mp_gr5 ?mp_gz5 ?mp_g6 ?mp_gl6 ?mp_gr6 ?mp_gz6 ?mp_g7 ?mp_gl7 ?mp_gr7 ?mp_gz7 ?mp_g8 ?mp_gl8 ?mp_gr8 ?mp_gz8 ?mp_g9 ?mp_g10
    (case mp_a0 => k_is)
    (case mp_k0 => k_is)
    (case mp_l0 => k_is)
    (case mp_c0 => k_is)
    (case mp_a1 => k_is)
    (case mp_k1 => k_is)
    (case mp_l1 => k_is)
    (case mp_c1 => k_is)
    (case mp_a2 => k_is)
    (case mp_k2 => k_is)
    (case mp_l2 => k_is)
    (case mp_c2 => k_is)
    (case mp_a3 => k_is)
    (case mp_k3 => k_is)
    (case mp_l3 => k_is)
    (case mp_c3 => k_is)
    (case mp_a4 => k_is)
    (case mp_k4 => k_is)
    (case mp_l4 => k_is)
    (case mp_c4 => k_is)
    (case mp_a5 => k_is)
    (case mp_k5 => k_is)
    (case mp_l5 => k_is)
    (case mp_c5 => k_is)
    (case mp_a6 => k_is)
    (case mp_k6 => k_is)
    (case mp_l6 => k_is)
    (case mp_c6 => k_is)
    (case mp_a7 => k_is)
    (case mp_k7 => k_is)
    (case mp_l7 => k_is)
    (case mp_c7 => k_is)
    (case mp_a8 => k_is)
    (case mp_k8 => k_is)
    (case mp_l8 => k_is)
    (case mp_c8 => k_is)
    (case mp_a9 => k_is)
    (case mp_k9 => k_is)
    (case mp_l9 => k_is)
    (case mp_c9 => k_is)
    (case mp_a10 => k_is)
    (case mp_k10 => k_is)
    (case mp_l10 => k_is)
    (case mp_c10 => k_is)
    (case mp_a11 => k_is)
    (case mp_k11 => k_is)
    (case mp_l11 => k_is)
    (case mp_c11 => k_is)
    (case mp_a12 => k_is)
    (case mp_k12 => k_is)
    (case mp_l12 => k_is)
    (case mp_c12 => k_is)
    (case mp_a13 => k_is)
    (case mp_k13 => k_is)
    (case mp_l13 => k_is)
    (case mp_c13 => k_is)
    (case mp_a14 => k_is)
    (case mp_k14 => k_is)
    (case mp_l14 => k_is)
    (case mp_c14 => k_is)
    (case mp_a15 => k_is)
    (case mp_k15 => k_is)
    (case mp_l15 => k_is)
    (case mp_c15 => k_is)
    (case mp_a16 => k_is)
    (case mp_k16 => k_is)
    (case mp_l16 => k_is)
    (case mp_c16 => k_is)
    (case mp_a17 => k_is)
    (case mp_k17 => k_is)
    (case mp_l17 => k_is)
    (case mp_c17 => k_is)
    (case mp_a18 => k_is)
    (case mp_k18 => k_is)
    (case mp_l18 => k_is)
    (case mp_c18 => k_is)
    (case mp_a19 => k_is)
    (case mp_k19 => k_is)
    (case mp_l19 => k_is)
    (case mp_c19 => k_is)
    (case mp_a20 => k_is)
    (case mp_k20 => k_is)
    (case mp_l20 => k_is)
    (case mp_c20 => k_is)
    (case mp_a21 => k_is)
    (case mp_k21 => k_is)
    (case mp_l21 => k_is)
    (case mp_c21 => k_is)
    (case mp_a22 => k_is)
    (case mp_k22 => k_is)
    (case mp_l22 => k_is)
    (case mp_c22 => k_is)
    (case mp_a23 => k_is)
    (case mp_k23 => k_is)
    (case mp_l23 => k_is)
    (case mp_c23 => k_is)
    (case mp_a24 => k_is)
    (case mp_k24 => k_is)
    (case mp_l24 => k_is)
    (case mp_c24 => k_is)
    (case mp_a25 => k_is)
    (case mp_k25 => k_is)
    (case mp_l25 => k_is)
    (case mp_c25 => k_is)
    (case mp_a26 => k_is)
    (case mp_k26 => k_is)
    (case mp_l26 => k_is)
    (case mp_c26 => k_is)
    (case mp_a27 => k_is)
    (case mp_k27 => k_is)
    (case mp_l27 => k_is)
    (case mp_c27 => k_is)
    (case mp_a28 => k_is)
    (case mp_k28 => k_is)
    (case mp_l28 => k_is)
    (case mp_c28 => k_is)
    (case mp_a29 => k_is)
    (case mp_k29 => k_is)
    (case mp_l29 => k_is)
    (case mp_c29 => k_is)
    (case mp_z0 => k_is)
    (case mp_z1 => k_is)
    (case mp_z2 => k_is)
    (case mp_z3 => k_is)
    (case mp_z4 => k_is)
    (case mp_z5 => k_is)
    (case mp_z6 => k_is)
    (case mp_z7 => k_is)
    (case mp_z8 => k_is)
    (case mp_z9 => k_is)
    (case mp_z10 => k_is)
    (case mp_z11 => k_is)
    (case mp_z12 => k_is)
    (case mp_z13 => k_is)
    (case mp_z14 => k_is)
    (case mp_z15 => k_is)
    (case mp_g0 => k_is)
    (case mp_g1 => k_is)
    (case mp_g4 => k_is)
    (case mp_g5 => k_is)
    (case mp_gl5 => k_is)
    (case mp_gr5 => kernel_rfl)
    (case mp_gz5 => decide +kernel)
    (case mp_g6 => k_is)
    (case mp_gl6 => k_is)
    (case mp_gr6 => kernel_rfl)
    (case mp_gz6 => decide +kernel)
    (case mp_g7 => k_is)
    (case mp_gl7 => k_is)
    (case mp_gr7 => kernel_rfl)
    (case mp_gz7 => decide +kernel)
    (case mp_g8 => k_is)
    (case mp_gl8 => k_is)
    (case mp_gr8 => kernel_rfl)
    (case mp_gz8 => decide +kernel)
    (case mp_g9 => k_is)
    (case mp_g10 => k_is)
