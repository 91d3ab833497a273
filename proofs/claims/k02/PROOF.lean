import PyProof.Rows.All
import Wide.All
import OpenK.AllK
import Wide.FinOn
import HandS.ForMost
import HandS.ForExc
import HandS.Deep
import HandS.TupAny
import HandS.TupMul
import HandS.Wide
import HandS.IsInst
import HandS.Zip
import HandS.Flow
import HandS.Style
import HandS.TryMany
import HandS.ExcInit
import KE.KDictKeyed
import KE.SortData
import KE.DataCmp
import HandS.Dict
import HandS.More
import HandS.Conv
import HandS.TupLen
import KE.KDictList
import KE.KRevSl
import KE.DataAny
import KE.KDictSum
import PyProof.Transfer
import HandS.NoneIn
import PyProof.SeqIndex
import KE.GoesEnum
import HandS.DictComp
import HandS.ExcField
import KE.KExcIs
import PyProof.EqAt
import PyProof.EqKinds
import PyProof.TupleCall
import Open.SpecLaws
import KE.OsGo
import HandS.ForSpec
import PySem.Challenge.RW_rootfirst_k02_places_and_parts
set_option Elab.async false
set_option linter.all false
set_option maxRecDepth 100000
set_option autoImplicit false
/-! Ev1: the core language, its values, its evaluator. -/
namespace Ev
open PySem

/-! ### values -/
inductive D where
  | non
  | bl (b : Bool)
  | int (i : Int)
  | str (s : Str)
  | tup (xs : List D)
  | lst (xs : List D)
  | dic (kvs : List (D × D))
  | loc (n : Nat)
  deriving Inhabited

namespace D
mutual
def beq : D → D → Bool
  | .non, .non => true
  | .bl a, .bl b => decide (a = b)
  | .int a, .int b => decide (a = b)
  | .str a, .str b => decide (a = b)
  | .tup a, .tup b => beqs a b
  | .lst a, .lst b => beqs a b
  | .dic a, .dic b => beqk a b
  | .loc a, .loc b => decide (a = b)
  | _, _ => false
def beqs : List D → List D → Bool
  | [], [] => true
  | a :: as, b :: bs => beq a b && beqs as bs
  | _, _ => false
def beqk : List (D × D) → List (D × D) → Bool
  | [], [] => true
  | (a, b) :: as, (c, d) :: bs => beq a c && beq b d && beqk as bs
  | _, _ => false
end
mutual
theorem beq_self : ∀ a : D, beq a a = true
  | .non => rfl
  | .bl _ => by simp [beq]
  | .int _ => by simp [beq]
  | .str _ => by simp [beq]
  | .loc _ => by simp [beq]
  | .tup a => by rw [beq]; exact beqs_self a
  | .lst a => by rw [beq]; exact beqs_self a
  | .dic a => by rw [beq]; exact beqk_self a
theorem beqs_self : ∀ a : List D, beqs a a = true
  | [] => rfl
  | a :: as => by rw [beqs, beq_self a, beqs_self as]; rfl
theorem beqk_self : ∀ a : List (D × D), beqk a a = true
  | [] => rfl
  | (a, b) :: as => by rw [beqk, beq_self a, beq_self b, beqk_self as]; rfl
end
mutual
theorem eq_of_beq : ∀ a b : D, beq a b = true → a = b
  | .non, b, h => by cases b <;> first | rfl | simp [beq] at h
  | .bl a, b, h => by cases b <;> first | simp [beq] at h; rw [h] | simp [beq] at h
  | .int a, b, h => by cases b <;> first | simp [beq] at h; rw [h] | simp [beq] at h
  | .str a, b, h => by cases b <;> first | simp [beq] at h; rw [h] | simp [beq] at h
  | .loc a, b, h => by cases b <;> first | simp [beq] at h; rw [h] | simp [beq] at h
  | .tup a, b, h => by
    cases b <;> first | (rw [beq] at h; rw [eq_of_beqs a _ h]) | simp [beq] at h
  | .lst a, b, h => by
    cases b <;> first | (rw [beq] at h; rw [eq_of_beqs a _ h]) | simp [beq] at h
  | .dic a, b, h => by
    cases b <;> first | (rw [beq] at h; rw [eq_of_beqk a _ h]) | simp [beq] at h
theorem eq_of_beqs : ∀ a b : List D, beqs a b = true → a = b
  | [], b, h => by cases b with | nil => rfl | cons _ _ => simp [beqs] at h
  | a :: as, b, h => by
    cases b with
    | nil => simp [beqs] at h
    | cons b bs =>
      rw [beqs, Bool.and_eq_true] at h
      rw [eq_of_beq a b h.1, eq_of_beqs as bs h.2]
theorem eq_of_beqk : ∀ a b : List (D × D), beqk a b = true → a = b
  | [], b, h => by cases b with | nil => rfl | cons _ _ => simp [beqk] at h
  | (a, b) :: as, c, h => by
    cases c with
    | nil => simp [beqk] at h
    | cons c cs =>
      obtain ⟨c, d⟩ := c
      rw [beqk, Bool.and_eq_true, Bool.and_eq_true] at h
      rw [eq_of_beq a c h.1.1, eq_of_beq b d h.1.2, eq_of_beqk as cs h.2]
end
instance : DecidableEq D := fun a b => if h : beq a b = true then .isTrue (eq_of_beq a b h) else .isFalse fun e => h (e ▸ beq_self a)

mutual
/-- as data of the library -/
def py : D → PyData
  | .non => .none
  | .bl b => .bool b
  | .int i => .int i
  | .str s => .str s
  | .tup xs => .tuple (pys xs)
  | .lst xs => .list (pys xs)
  | .dic _ => .none
  | .loc _ => .none
def pys : List D → List PyData
  | [] => []
  | x :: xs => py x :: pys xs
end
mutual
/-- data without dicts and places -/
def pl : D → Bool
  | .tup xs => pls xs
  | .lst xs => pls xs
  | .dic _ => false
  | .loc _ => false
  | .str s => PyData.strOk s
  | _ => true
def pls : List D → Bool
  | [] => true
  | x :: xs => pl x && pls xs
end
mutual
def dep : D → Nat
  | .tup xs => deps xs + 1
  | .lst xs => deps xs + 1
  | _ => 0
def deps : List D → Nat
  | [] => 0
  | x :: xs => max (dep x) (deps xs)
end
mutual
/-- == -/
def eqv : D → D → Bool
  | .non, .non => true
  | .bl a, .bl b => a == b
  | .bl a, .int j => (if a then 1 else 0) == j
  | .int i, .bl b => i == (if b then 1 else 0)
  | .int i, .int j => i == j
  | .str a, .str b => a == b
  | .tup a, .tup b => eqvs a b
  | .lst a, .lst b => eqvs a b
  | _, _ => false
def eqvs : List D → List D → Bool
  | [], [] => true
  | a :: as, b :: bs => eqv a b && eqvs as bs
  | _, _ => false
end
end D

/-! ### states -/
structure Ex where
  c : Nat
  args : List D
inductive Sl where
  | un
  | val (d : D)
  | ow (c : D)
  | rl (c : D)
  | ex (e : Ex)
structure Ms where
  ρ : List Sl
  S : List D
inductive R (α : Type) where
  | ok (a : α) (m : Ms)
  | exc (e : Ex) (m : Ms)
  | bad
def R.bind {α β : Type} : R α → (α → Ms → R β) → R β
  | .ok a m, f => f a m
  | .exc e m, _ => .exc e m
  | .bad, _ => .bad
inductive Rc where
  | ok (d : D) (S : List D)
  | own (c : D) (S : List D)
  | exc (e : Ex) (S : List D)
  | bad
inductive Fl where
  | nx | rt (d : D) | br | ct | ro (c : D)
inductive HV where
  | val (d : D) | sl (i : Nat)

@[simp] theorem R.bind_ok {α β : Type} (a : α) (m : Ms) (f : α → Ms → R β) : (R.ok a m).bind f = f a m := rfl
@[simp] theorem R.bind_exc {α β : Type} (e : Ex) (m : Ms) (f : α → Ms → R β) : (R.exc e m : R α).bind f = .exc e m := rfl
@[simp] theorem R.bind_bad {α β : Type} (f : α → Ms → R β) : (R.bad : R α).bind f = .bad := rfl
def opt {α : Type} (o : Option α) (m : Ms) : R α := match o with
  | some a => .ok a m
  | none => .bad
@[simp] theorem opt_some {α : Type} (a : α) (m : Ms) : opt (some a) m = .ok a m := rfl
@[simp] theorem opt_none {α : Type} (m : Ms) : opt (none : Option α) m = .bad := rfl

/-! ### the core language -/
inductive Ty where
  | int | bool | str | tuple | list
  deriving DecidableEq
inductive Tg where
  | n (i : Nat)
  | t (is : List Nat)
inductive B1 where
  | abs | int | bool
inductive Ag where
  | all | any | sum | max | min | allT
mutual
inductive X where
  | v (i : Nat)
  | mv (i : Nat)
  | kn
  | kb (b : Bool)
  | ki (i : Int)
  | ks (s : Str)
  | gl (x : Str) (d : D)
  | bin (o : Operator) (a b : X)
  | neg (a : X)
  | cmp (o : CmpOp) (a b : X)
  | cm2 (o o' : CmpOp) (a b c : X)
  | inn (n : Bool) (a : X) (c : H)
  | and (a b : X)
  | or (a b : X)
  | one (a : X)
  | not (c : H)
  | ife (t : T) (a b : X)
  | tup (es : Xs)
  | call (f : Nat) (es : Xs)
  | len (c : H)
  | idx (c : H) (i : X)
  | slc (c : H) (lo hi : Xo)
  | rev (c : H)
  | lend (j : Nat)
  | isi (a : X) (t : Ty)
  /-- the same, a store object let, too -/
  | isl (a : X) (t : Ty)
  | b1 (f : B1) (a : X)
  | b2 (mx : Bool) (a b : X)
  | ag (f : Ag) (c : H)
  | tupOf (c : H)
  | trg (a : X)
  | fr (f : Fx)
  | mk (f : Fx)
  | pop (c : H)
  | popi (c : H) (i : X)
  | ix (c : H) (x : X)
  | ixd (c : H) (x : X)
  | app (c : H) (e : X)
  | ext (c : H) (e : H)
inductive H where
  | x (e : X)
  | o (i : Nat)
inductive Xs where
  | nil
  | cons (e : X) (r : Xs)
inductive Xo where
  | none
  | some (e : X)
inductive T where
  | cmp (o : CmpOp) (a b : X)
  | cm2 (o o' : CmpOp) (a b c : X)
  | inn (n : Bool) (a : X) (c : H)
  | h (c : H)
  | and (a b : T)
  | or (a b : T)
  | one (a : T)
  | not (a : T)
inductive Ts where
  | nil
  | cons (t : T) (r : Ts)
inductive Fx where
  | disp (es : Xs)
  | comp (own : List Nat) (tg : Tg) (it : It) (ifs : Ts) (elt : X)
  | com2 (own own1 : List Nat) (tg : Tg) (it : It) (ifs : Ts) (tg1 : Tg) (it1 : It) (ifs1 : Ts) (elt : X)
  | lstOf (c : H)
  | cat (a b : H)
  | rep (a : H) (n : X)
  | slcL (c : H) (lo hi : Xo)
  | lrg (a : X)
  | lrg2 (a b : X)
  | srt (c : H)
  /-- the same, of tuples, the first of them empty -/
  | srtE (c : H)
  | srtd (j : Nat)
  | sdc (own : List Nat) (tg : Tg) (it : It) (ifs : Ts) (elt : X)
  | srtt (j : Nat)
  | udc (own : List Nat) (tg : Tg) (it : It) (ifs : Ts) (key elt : X)
  | unew
  | callF (f : Nat) (es : Xs)
inductive It where
  | h (c : H)
  | rg1 (a : X)
  | rg2 (a b : X)
  | rgd (a b : X)
  | en (c : H)
  | zp (c d : H)
end
mutual
/-- what an except clause returns: the field of an error of class c, a text, .. -/
inductive Hx where
  | fld (c : Nat)
  | ks (s : Str)
  | kn
  | kb (b : Bool)
  | isx (c : Nat)
  | ife (cs : List Nat) (a b : Hx)
  | lst (es : Hxs)
  | tup (es : Hxs)
inductive Hxs where
  | nil
  | cons (e : Hx) (r : Hxs)
end
/-- an except clause's suite -/
inductive Hb where
  | ret (x : Hx)
  | ife (cs : List Nat) (x : Hx) (r : Hb)
/-- an except clause: its class, its name's slot, its suite -/
structure Hd where
  c : Nat
  i : Option Nat
  b : Hb
mutual
inductive Sm where
  | set (tg : Tg) (e : X)
  | own (i : Nat) (f : Fx)
  | par (i j : Nat) (a b : X)
  | seti (c : H) (i e : X)
  | odic (i : Nat)
  | dput (j : Nat) (i e : X)
  | odt (i : Nat)
  | uput (c : H) (i e : X)
  | dpt (j : Nat) (es : Xs) (e : X)
  | aug (i : Nat) (o : Operator) (e : X)
  | ex (e : X)
  | ife (t : T) (a b : Ss)
  | wh (t : T) (b : Ss)
  | fr (tg : Tg) (it : It) (b : Ss)
  | ret (e : X)
  | reto (i : Nat)
  | retf (f : Fx)
  | retn
  | brk
  | cnt
  | pas
  | raise (c : Nat) (es : Xs)
  | trs (cs : List Nat) (hs : List Hd) (b : Ss)
inductive Ss where
  | nil
  | stk
  | cons (s : Sm) (r : Ss)
end

structure Df where
  name : Str
  ps : List Str
  ns : List Str
  body : Ss
  /-- the name by which the others call it -/
  gn : Str := name
abbrev Tb := Nat → Option Df

/-! ### primitives -/
/-- class c' is a class c: 9 is the program's base class, 10 ValueError -/
def subX (c' c : Nat) : Bool := decide (c' = c) || decide (c = 9) || decide (c = 10)
mutual
def hxD (e : Ex) : Hx → Option D
  | .fld c => if e.c = c then (match e.args with
    | [d] => some d
    | _ => none) else none
  | .ks s => some (.str s)
  | .kn => some .non
  | .kb b => some (.bl b)
  | .isx c => some (.bl (subX e.c c))
  | .ife cs a b => if cs.all (subX e.c) then hxD e a else hxD e b
  | .lst es => (hxDs e es).bind fun ds => if ds.length ≤ 16 then some (.lst ds) else none
  | .tup es => (hxDs e es).bind fun ds => if ds.length ≤ 16 then some (.tup ds) else none
def hxDs (e : Ex) : Hxs → Option (List D)
  | .nil => some []
  | .cons x r => (hxD e x).bind fun d => (hxDs e r).bind fun ds => some (d :: ds)
end
def hbD (e : Ex) : Hb → Option D
  | .ret x => hxD e x
  | .ife cs x r => if cs.all (subX e.c) then hxD e x else hbD e r
def seqOf : D → Option (List D)
  | .tup xs => some xs
  | .lst xs => some xs
  | _ => none
def lstOf? : D → Option (List D)
  | .lst xs => some xs
  | _ => none
def truth : D → Option Bool
  | .non => some false
  | .bl b => some b
  | .int i => some (i != 0)
  | .str s => if s.length ≤ sizeLine then some (s.length != 0) else none
  | .tup xs => some (!xs.isEmpty)
  | .lst xs => some (!xs.isEmpty)
  | .dic _ => none
  | .loc _ => none
def binD (o : Operator) (a b : D) : Option D := match o, a, b with
  | .Add, .int i, .int j => some (.int (i + j))
  | .Add, .str x, .str y => if x.length + y.length ≤ sizeLine then some (.str (x ++ y)) else none
  | .Add, .tup xs, .tup ys => if xs.length + ys.length ≤ sizeLine then some (.tup (xs ++ ys)) else none
  | .Add, .lst xs, .lst ys => if xs.length + ys.length ≤ sizeLine then some (.lst (xs ++ ys)) else none
  | .Sub, .int i, .int j => some (.int (i - j))
  | .Mult, .int i, .int j => if (-(2 ^ 64) < i ∧ i < 2 ^ 64) ∨ (-(2 ^ 64) < j ∧ j < 2 ^ 64) then some (.int (i * j)) else none
  | .Mult, .tup xs, .int k => if 0 ≤ k ∧ k ≤ 1000 ∧ xs.length ≤ 1000 ∧ !xs.isEmpty then some (.tup (List.replicate k.toNat xs).flatten) else none
  | .Mult, .lst xs, .int k => if k ≤ 1000000 ∧ -1000000 ≤ k ∧ xs.length * k.toNat ≤ sizeLine then some (.lst (List.replicate k.toNat xs).flatten) else none
  | .FloorDiv, .int i, .int j => if 0 < j ∧ j < 1073741824 then some (.int (i / j)) else none
  | .Mod, .int i, .int j => if 0 < j then some (.int (i % j)) else none
  | .Pow, .int i, .int j => if 0 ≤ j ∧ j ≤ 1000000 ∧ i.natAbs < 2 ^ 64 then some (.int (i ^ j.toNat)) else none
  | _, _, _ => none
def okEq (a b : D) : Bool := a.pl && b.pl && decide (a.dep ≤ 64) && decide (b.dep ≤ 64)
/-- two data that < compares -/
def ltOk (a b : D) : Bool := a.pl && b.pl && decide (a.dep ≤ 60) && PySem.W.alike a.py b.py
def ltD (a b : D) : Bool := PySem.W.dataLt a.py b.py
def isTN : D → Bool
  | .tup (_ :: _) => true
  | _ => false
def notT : D → Bool
  | .tup _ => false
  | .non => false
  | _ => true
/-- what sorted takes -/
def sortOk (xs : List D) : Bool := D.pls xs && decide (D.deps xs ≤ 60) && (xs.all fun a => xs.all fun b => PySem.W.alike a.py b.py) && (xs.all isTN || xs.all notT)
def sortL (xs : List D) : List D := xs.mergeSort (PySem.W.dataLe false D.py)
def cmpD (o : CmpOp) (a b : D) : Option D := match o, a, b with
  | .Lt, .int i, .int j => some (.bl (decide (i < j)))
  | .LtE, .int i, .int j => some (.bl (decide (i ≤ j)))
  | .Gt, .int i, .int j => some (.bl (decide (j < i)))
  | .GtE, .int i, .int j => some (.bl (decide (j ≤ i)))
  | .Lt, .tup xs, .tup ys => if ltOk (.tup xs) (.tup ys) then some (.bl (ltD (.tup xs) (.tup ys))) else none
  | .Eq, a, b => if okEq a b then some (.bl (D.eqv a b)) else none
  | .NotEq, a, b => if okEq a b then some (.bl (!D.eqv a b)) else none
  | .Is, a, .non => some (.bl (decide (a = .non)))
  | .IsNot, a, .non => some (.bl (!decide (a = .non)))
  | .Is, .bl a, .bl b => some (.bl (decide (a = b)))
  | .IsNot, .bl a, .bl b => some (.bl (!decide (a = b)))
  | _, _, _ => none
def atL (xs : List D) (i : Int) : Option D := L2.atI xs i
/-- a slice -/
def slcL (xs : List D) (lo hi : Option Int) : List D := (xs.drop (HT.sIx xs.length 0 lo)).take (HT.sIx xs.length xs.length hi - HT.sIx xs.length 0 lo)
def slcD (c : D) (lo hi : Option Int) : Option D := match c with
  | .tup xs => some (.tup (slcL xs lo hi))
  | .lst xs => some (.lst (slcL xs lo hi))
  | _ => none
def revD : D → Option D
  | .tup xs => some (.tup xs.reverse)
  | .lst xs => some (.lst xs.reverse)
  | _ => none
def isiD (d : D) : Ty → Bool
  | .int => match d with | .int _ => true | .bl _ => true | _ => false
  | .bool => match d with | .bl _ => true | _ => false
  | .str => match d with | .str _ => true | _ => false
  | .tuple => match d with | .tup _ => true | _ => false
  | .list => match d with | .lst _ => true | _ => false
def isLoc : D → Bool
  | .loc _ => true
  | .dic _ => true
  | _ => false
def b1D : B1 → D → Option D
  | .abs, .int i => some (.int (if i < 0 then -i else i))
  | .int, .int i => some (.int i)
  | .int, .bl b => some (.int (if b then 1 else 0))
  | .bool, .int i => some (.bl (i != 0))
  | .bool, .bl b => some (.bl b)
  | _, _ => none
def b2D (mx : Bool) : D → D → Option D
  | .int i, .int j => some (.int (if mx then (if j > i then j else i) else (if j < i then j else i)))
  | _, _ => none
def intsD : List D → Option (List Int)
  | [] => some []
  | .int i :: r => (intsD r).map (i :: ·)
  | _ :: _ => none
def boolsD : List D → Option (List Bool)
  | [] => some []
  | .bl b :: r => (boolsD r).map (b :: ·)
  | _ :: _ => none
/-- a tuple; one with items -/
def tup1 (d : D) : Bool := match d with
  | .tup ys => decide (ys.length ≤ 1000)
  | _ => false
def tupN (d : D) : Bool := match d with
  | .tup ys => !ys.isEmpty
  | _ => false
def agD (f : Ag) (c : D) : Option D := (lstOf? c).bind fun xs => match f with
  | .all => (boolsD xs).map fun l => .bl (l.all id)
  | .any => (boolsD xs).map fun l => .bl (l.any id)
  | .sum => (intsD xs).map fun l => .int l.sum
  | .max => (intsD xs).bind fun l => match l with | [] => none | i :: r => some (.int (r.foldl max i))
  | .min => (intsD xs).bind fun l => match l with | [] => none | i :: r => some (.int (r.foldl min i))
  | .allT => if D.pls xs && xs.all tup1 then some (.bl (xs.all tupN)) else none
def inL (d : D) (xs : List D) : Bool := xs.any fun y => D.eqv y d
def itemsOf : D → Option (List D)
  | .tup xs => some xs
  | .lst xs => some xs
  | _ => none
def rngd (hi : Int) (n : Nat) : List D := (List.range n).map fun (i : Nat) => D.int (hi - i)
def rng (lo : Int) (n : Nat) : List D := (List.range n).map fun (i : Nat) => D.int (lo + i)
def enumL : Nat → List D → List D
  | _, [] => []
  | k, d :: r => .tup [.int k, d] :: enumL (k + 1) r
def zipL : List D → List D → List D
  | a :: as, b :: bs => .tup [a, b] :: zipL as bs
  | _, _ => []

/-! ### dicts of any keys: their head is a mark -/
abbrev uD (kvs : List (D × D)) : D := .dic ((.non, .bl true) :: kvs)
mutual
/-- what may stand in a key -/
def ukey : D → Bool
  | .int _ => true
  | .non => true
  | .tup xs => ukeys xs
  | _ => false
def ukeys : List D → Bool
  | [] => true
  | x :: xs => ukey x && ukeys xs
end
/-- a key: an int, or a tuple -/
def uok (k : D) : Bool := match k with
  | .int _ => true
  | .tup xs => ukeys xs && decide (D.deps xs ≤ 7)
  | _ => false
def isTupD : D → Bool
  | .tup _ => true
  | _ => false
/-- all keys of one kind -/
def sameK (kvs : List (D × D)) (k : D) : Bool := kvs.all fun kv => isTupD kv.1 == isTupD k
def uAt (kvs : List (D × D)) (k : D) : Option D := (kvs.find? fun kv => decide (kv.1 = k)).map (·.2)
def uHas (kvs : List (D × D)) (k : D) : Bool := kvs.any fun kv => decide (kv.1 = k)
/-- the items of a list, of a tuple, the keys of a dict -/
def keysOf : D → Option (List D)
  | .tup xs => some xs
  | .lst xs => some xs
  | .dic ((.non, .bl true) :: kvs) => some (kvs.map (·.1))
  | _ => none
def idxD (c i : D) : Option D := match c, i with
  | .tup xs, .int i => atL xs i
  | .lst xs, .int i => atL xs i
  | .dic ((.non, .bl true) :: kvs), k => if uok k && sameK kvs k then uAt kvs k else none
  | _, _ => none
def innD (d c : D) : Option Bool := match c with
  | .tup xs => if okEq d (.tup xs) then some (inL d xs) else none
  | .lst xs => if okEq d (.lst xs) then some (inL d xs) else none
  | .dic ((.non, .bl true) :: kvs) => if uok d && sameK kvs d then some (uHas kvs d) else none
  | _ => none
def lenD : D → Option Int
  | .str s => if s.length ≤ sizeLine then some s.length else none
  | .tup xs => some xs.length
  | .lst xs => some xs.length
  | .dic ((.non, .bl true) :: kvs) => some kvs.length
  | _ => none
/-- what sorted goes over -/
def keysLD : D → Option (List D)
  | .lst xs => some xs
  | .dic ((.non, .bl true) :: kvs) => some (kvs.map (·.1))
  | _ => none
/-! ### slots, handles -/
def rd (h : HV) (m : Ms) : Option D := match h with
  | .val (.loc n) => m.S[n]?
  | .val d => some d
  | .sl i => match m.ρ[i]? with
    | some (.ow c) => some c
    | some (.rl c) => some c
    | _ => none
def wr (h : HV) (c : D) (m : Ms) : R Unit := match h with
  | .val (.loc n) => if n < m.S.length then .ok () { m with S := m.S.set n c } else .bad
  | .val _ => .bad
  | .sl i => match m.ρ[i]? with
    | some (.ow (.lst _)) => .ok () { m with ρ := m.ρ.set i (.ow c) }
    | _ => .bad
def kL (h : HV) (m : Ms) : Bool := match rd h m with
  | some (.lst _) => true
  | _ => false
def popM (h : HV) (m : Ms) : R D := match rd h m with
  | some (.lst xs) => match xs.getLast? with
    | some d => (wr h (.lst xs.dropLast) m).bind fun _ m => .ok d m
    | none => .bad
  | _ => .bad
def popiM (h : HV) (k : D) (m : Ms) : R D := match rd h m, k with
  | some (.lst xs), .int k => if 0 ≤ k ∧ k < 1000000 then match xs[k.toNat]? with
    | some d => (wr h (.lst (xs.eraseIdx k.toNat)) m).bind fun _ m => .ok d m
    | none => .bad else .bad
  | _, _ => .bad
def ixM (h : HV) (k : D) (m : Ms) : R D := match rd h m, k with
  | some (.lst xs), .int k => match intsD xs with
    | some l => match l.findIdx? (· == k) with
      | some j => .ok (.int (j : Nat)) m
      | none => .bad
    | none => .bad
  | _, _ => .bad
/-- the place of an item among data -/
def ixOk (xs : List D) (k : D) : Bool := okEq k (.lst xs) && (xs.all fun a => D.eqv a k == decide (a = k)) && decide (k ∈ xs) && decide (xs.length ≤ sizeLine)
def ixdM (h : HV) (k : D) (m : Ms) : R D := match rd h m with
  | some (.lst xs) => if ixOk xs k then .ok (.int (xs.idxOf k : Nat)) m else .bad
  | _ => .bad
def appM (h : HV) (d : D) (m : Ms) : R D := match rd h m with
  | some (.lst xs) => if xs.length < sizeLine then (wr h (.lst (xs ++ [d])) m).bind fun _ m => .ok .non m else .bad
  | _ => .bad
def extM (h g : HV) (m : Ms) : R D := match rd h m, (rd g m).bind seqOf with
  | some (.lst xs), some ys => if xs.length + ys.length ≤ sizeLine then (wr h (.lst (xs ++ ys)) m).bind fun _ m => .ok .non m else .bad
  | _, _ => .bad
def inM (n : Bool) (x : D) (h : HV) (m : Ms) : R Bool := (opt ((rd h m).bind (innD x)) m).bind fun b m => .ok (if n then !b else b) m
def lenM (h : HV) (m : Ms) : R D := (opt ((rd h m).bind lenD) m).bind fun n m => .ok (.int n) m
def idxM (h : HV) (x : D) (m : Ms) : R D := opt ((rd h m).bind (idxD · x)) m
def slcM (h : HV) (l k : Option Int) (m : Ms) : R D := opt ((rd h m).bind (slcD · l k)) m
def revM (h : HV) (m : Ms) : R D := opt ((rd h m).bind revD) m
def agM (f : Ag) (h : HV) (m : Ms) : R D := opt ((rd h m).bind (agD f)) m
def tupM (h : HV) (m : Ms) : R D := (opt ((rd h m).bind seqOf) m).bind fun xs m => .ok (.tup xs) m
def lstM (h : HV) (m : Ms) : R D := (opt ((rd h m).bind keysOf) m).bind fun xs m => .ok (.lst xs) m
def truM (h : HV) (m : Ms) : R Bool := opt ((rd h m).bind truth) m
def islD (t : Ty) (c : D) : Option D := if isLoc c then none else some (.bl (isiD c t))
def islM (x : D) (t : Ty) (m : Ms) : R D := opt ((rd (.val x) m).bind (islD t)) m
def isiM (x : D) (t : Ty) (m : Ms) : R D := if isLoc x then .bad else .ok (.bl (isiD x t)) m
def catM (h g : HV) (m : Ms) : R D := match rd h m, rd g m with
  | some (.lst xs), some (.lst ys) => if xs.length + ys.length ≤ sizeLine then .ok (.lst (xs ++ ys)) m else .bad
  | _, _ => .bad
def repM (h : HV) (k : D) (m : Ms) : R D := match rd h m, k with
  | some (.lst xs), .int k => if k ≤ 1000000 ∧ -1000000 ≤ k ∧ xs.length * k.toNat ≤ sizeLine then .ok (.lst (List.replicate k.toNat xs).flatten) m else .bad
  | _, _ => .bad
def slcFM (h : HV) (l k : Option Int) (m : Ms) : R D := match rd h m with
  | some (.lst xs) => .ok (.lst (slcL xs l k)) m
  | _ => .bad
def lrgM (x : D) (m : Ms) : R D := match x with
  | .int j => if -(2 ^ 62) ≤ j ∧ j < 1000000 then .ok (.lst ((List.range j.toNat).map fun (i : Nat) => D.int (0 + i))) m else .bad
  | _ => .bad
def trgM (x : D) (m : Ms) : R D := match x with
  | .int j => if -(2 ^ 62) ≤ j ∧ j < 1000000 then .ok (.tup ((List.range j.toNat).map fun (i : Nat) => D.int (0 + i))) m else .bad
  | _ => .bad
def lrg2M (x y : D) (m : Ms) : R D := match x, y with
  | .int i, .int j => if -(2 ^ 62) ≤ i ∧ i < 2 ^ 62 ∧ -(2 ^ 62) ≤ j ∧ j < 2 ^ 62 ∧ (j - i).toNat < 1000000 then .ok (.lst ((List.range (j - i).toNat).map fun (k : Nat) => D.int (i + k))) m else .bad
  | _, _ => .bad
def srtM (h : HV) (m : Ms) : R D := match (rd h m).bind keysLD with
  | some xs => if sortOk xs then .ok (.lst (sortL xs)) m else .bad
  | none => .bad
def isTp : D → Bool
  | .tup _ => true
  | _ => false
def fstE : List D → Bool
  | .tup [] :: _ => true
  | _ => false
def sortE (xs : List D) : Bool := D.pls xs && decide (D.deps xs ≤ 60) && (xs.all fun a => xs.all fun b => PySem.W.alike a.py b.py) && xs.all isTp && fstE xs
def srtEM (h : HV) (m : Ms) : R D := match rd h m with
  | some (.lst xs) => if sortE xs then .ok (.lst (sortL xs)) m else .bad
  | _ => .bad
def setM (h : HV) (k d : D) (m : Ms) : R Unit := match rd h m, k with
  | some (.lst xs), .int k => if 0 ≤ k ∧ k < xs.length then wr h (.lst (xs.set k.toNat d)) m else .bad
  | _, _ => .bad
def sortI (l : List Int) : List Int := l.mergeSort fun a b => decide (a ≤ b)
/-- each once -/
def ddI (l : List Int) : List Int := l.foldl (fun a i => if i ∈ a then a else a ++ [i]) []
def sdcM (ds : List D) (m : Ms) : R D := match intsD ds with
  | some is => if ds.length ≤ sizeLine ∧ (ddI is).length < 64 then .ok (.lst ((sortI (ddI is)).map D.int)) m else .bad
  | none => .bad
def keysI : List (D × D) → Option (List Int)
  | [] => some []
  | (.int i, _) :: r => (keysI r).map (i :: ·)
  | _ :: _ => none
def putKD (kvs : List (D × D)) (k v : D) : List (D × D) := if kvs.any (fun kv => decide (kv.1 = k)) then kvs.map (fun kv => if kv.1 = k then (kv.1, v) else kv) else kvs ++ [(k, v)]
/-- a dict whose keys are tuples: marked by its head -/
def isT : List (D × D) → Bool
  | (.non, _) :: _ => true
  | _ => false
def lendM (h : HV) (m : Ms) : R D := match rd h m with
  | some (.dic kvs) => if isT kvs = false then .ok (.int kvs.length) m else .bad
  | _ => .bad
def srtdM (h : HV) (m : Ms) : R D := match rd h m with
  | some (.dic kvs) => match keysI kvs with
    | some ks => if ks.length < 64 then .ok (.lst ((sortI ks).map D.int)) m else .bad
    | none => .bad
  | _ => .bad
def dputM (h : HV) (k d : D) (m : Ms) : R Unit := match h, k with
  | .sl j, .int i => match m.ρ[j]? with
    | some (.ow (.dic kvs)) => if kvs.length < sizeLine ∧ isT kvs = false then .ok () { m with ρ := m.ρ.set j (.ow (.dic (putKD kvs (.int i) d))) } else .bad
    | _ => .bad
  | _, _ => .bad
/-- x[(..)] = d -/
def dptM (h : HV) (ks : List D) (d : D) (m : Ms) : R Unit := match h with
  | .sl j => match m.ρ[j]? with
    | some (.ow (.dic ((.non, .non) :: kvs))) => match intsD ks with
      | some is => if kvs.length < sizeLine ∧ is.length ≤ 1000 then .ok () { m with ρ := m.ρ.set j (.ow (.dic ((.non, .non) :: putKD kvs (.tup (is.map D.int)) d))) } else .bad
      | none => .bad
    | _ => .bad
  | _ => .bad
/-- x[k] = d, any keys -/
def wrU (h : HV) (c : D) (m : Ms) : R Unit := match h with
  | .val (.loc n) => if n < m.S.length then .ok () { m with S := m.S.set n c } else .bad
  | .val _ => .bad
  | .sl i => match m.ρ[i]? with
    | some (.ow _) => .ok () { m with ρ := m.ρ.set i (.ow c) }
    | _ => .bad
def uputM (h : HV) (k d : D) (m : Ms) : R Unit := match rd h m with
  | some (.dic ((.non, .bl true) :: kvs)) => if uok k && sameK kvs k && decide (kvs.length < 1000000) then wrU h (uD (putKD kvs k d)) m else .bad
  | _ => .bad
/-- return x, x given away -/
def retoM (i : Nat) (m : Ms) : R Fl := match m.ρ[i]? with
  | some (.ow (.lst xs)) => .ok (.ro (.lst xs)) { m with ρ := m.ρ.set i .un }
  | some (.ow (.dic ((.non, .bl true) :: kvs))) => .ok (.ro (uD kvs)) { m with ρ := m.ρ.set i .un }
  | _ => .bad
/-- {k: v for ..} -/
def udcM (ps : List D) (m : Ms) : R D := (ps.foldl (fun (o : Option (List (D × D))) p => match o, p with
  | some kvs, .tup [k, d] => if uok k && sameK kvs k && decide (kvs.length < 1000000) then some (putKD kvs k d) else none
  | _, _ => none) (some [])).elim .bad fun kvs => .ok (uD kvs) m
/-- sorted(x), the keys tuples -/
def srttM (h : HV) (m : Ms) : R D := match rd h m with
  | some (.dic ((.non, .non) :: kvs)) => if sortOk (kvs.map (·.1)) then .ok (.lst (sortL (kvs.map (·.1)))) m else .bad
  | _ => .bad
def blM (b : Bool) (m : Ms) : R D := .ok (.bl b) m
def put1 (i : Nat) (d : D) (m : Ms) : R Unit := match m.ρ[i]? with
  | some (.rl _) => .bad
  | some _ => .ok () { m with ρ := m.ρ.set i (.val d) }
  | none => .bad
def putOw (i : Nat) (c : D) (m : Ms) : R Unit := match m.ρ[i]? with
  | some (.rl _) => .bad
  | some _ => .ok () { m with ρ := m.ρ.set i (.ow c) }
  | none => .bad
def putAll : List Nat → List D → Ms → R Unit
  | [], [], m => .ok () m
  | i :: is, d :: ds, m => (put1 i d m).bind fun _ m => putAll is ds m
  | _, _, _ => .bad
def bindTg (tg : Tg) (d : D) (m : Ms) : R Unit := match tg with
  | .n i => put1 i d m
  | .t is => match d with
    | .tup ds => if is.length = ds.length then putAll is ds m else .bad
    | .lst ds => if is.length = ds.length then putAll is ds m else .bad
    | _ => .bad
/-- slots that own nothing -/
def plainS (ρ : List Sl) (i : Nat) : Bool := match ρ[i]? with
  | some (.ow _) => false
  | some (.rl _) => false
  | some _ => true
  | none => false
/-- the slots are emptied -/
def wipeR (ρ : List Sl) : List Nat → List Sl
  | [] => ρ
  | i :: is => (wipeR ρ is).set i .un
/-- the slots are as they were -/
def backR (ρ ρ0 : List Sl) : List Nat → List Sl
  | [] => ρ
  | i :: is => (backR ρ ρ0 is).set i ((ρ0[i]?).getD .un)
/-- what a walk locks -/
def lockR (ρ : List Sl) : HV → List Sl
  | .sl i => match ρ[i]? with
    | some (.ow c) => ρ.set i (.rl c)
    | _ => ρ
  | _ => ρ
def unlockR (ρ ρ0 : List Sl) : HV → List Sl
  | .sl i => match ρ0[i]? with
    | some (.ow c) => ρ.set i (.ow c)
    | _ => ρ
  | _ => ρ
/-- the items of a walk -/
structure Wk where
  xs : List D
  l : HV
def Wk.lock (k : Wk) (m : Ms) : Ms := { m with ρ := lockR m.ρ k.l }
def Wk.unlock (k : Wk) (ρ0 : List Sl) (m : Ms) : Ms := { m with ρ := unlockR m.ρ ρ0 k.l }
def isLocH : HV → Bool
  | .val (.loc _) => true
  | _ => false
def isValH : HV → Bool
  | .val (.loc _) => false
  | .val _ => true
  | _ => false
def walkM (h : HV) (m : Ms) : R Wk := if isLocH h then .bad else (opt ((rd h m).bind itemsOf) m).bind fun xs m => .ok ⟨xs, h⟩ m
def enumM (h : HV) (m : Ms) : R Wk := if isLocH h then .bad else (opt ((rd h m).bind seqOf) m).bind fun xs m => .ok ⟨enumL 0 xs, h⟩ m
def zipM (h g : HV) (m : Ms) : R Wk := if isValH h && isValH g then (opt ((rd h m).bind seqOf) m).bind fun xs m => (opt ((rd g m).bind seqOf) m).bind fun ys m => .ok ⟨zipL xs ys, .val .non⟩ m else .bad
def rng1M (x : D) (m : Ms) : R Wk := match x with
  | .int j => if -(2 ^ 62) ≤ j ∧ j < 2 ^ 62 then .ok ⟨rng 0 j.toNat, .val .non⟩ m else .bad
  | _ => .bad
def rng2M (x y : D) (m : Ms) : R Wk := match x, y with
  | .int i, .int j => if -(2 ^ 62) ≤ i ∧ i < 2 ^ 62 ∧ -(2 ^ 62) ≤ j ∧ j < 2 ^ 62 then .ok ⟨rng i (j - i).toNat, .val .non⟩ m else .bad
  | _, _ => .bad

def rngdM (x y : D) (m : Ms) : R Wk := match x, y with
  | .int i, .int j => if -(2 ^ 62) ≤ i ∧ i < 2 ^ 62 ∧ -(2 ^ 62) ≤ j ∧ j < 2 ^ 62 then .ok ⟨rngd i (i - j).toNat, .val .non⟩ m else .bad
  | _, _ => .bad

/-- a block's turns: at the beginning of each its own slots are empty -/
def compL (own : List Nat) (bd : D → Ms → R Unit) (ts : Ms → R Bool) (elt : Ms → R (List D)) : List D → Ms → R (List D)
  | [], m => .ok [] m
  | d :: r, m => (bd d { m with ρ := wipeR m.ρ own }).bind fun _ m => (ts m).bind fun b m =>
      if b then (elt m).bind fun ys m => (compL own bd ts elt r m).bind fun zs m => .ok (ys ++ zs) m
      else compL own bd ts elt r m
def forL (bd : D → Ms → R Unit) (body : Ms → R Fl) : List D → Ms → R Fl
  | [], m => .ok .nx m
  | d :: r, m => (bd d m).bind fun _ m => (body m).bind fun f m => match f with
    | .nx => forL bd body r m
    | .ct => forL bd body r m
    | .br => .ok .nx m
    | .rt d => .ok (.rt d) m
    | .ro _ => .bad
def whL (t : Ms → R Bool) (body : Ms → R Fl) : Nat → Ms → R Fl
  | 0, _ => .bad
  | n + 1, m => (t m).bind fun b m =>
      if b then (body m).bind fun f m => match f with
        | .nx => whL t body n m
        | .ct => whL t body n m
        | .br => .ok .nx m
        | .rt d => .ok (.rt d) m
        | .ro _ => .bad
      else .ok .nx m
/-- behind a call -/
def ofRc (r : Rc) (m : Ms) : R D := match r with
  | .ok d S => .ok d { m with S := S }
  | .own _ _ => .bad
  | .exc e S => .exc e { m with S := S }
  | .bad => .bad
/-- behind a call that gives its result away -/
def ofRcO (r : Rc) (m : Ms) : R D := match r with
  | .ok _ _ => .bad
  | .own c S => .ok c { m with S := S }
  | .exc e S => .exc e { m with S := S }
  | .bad => .bad
/-- behind a for, however it ended -/
def unR (k : Wk) (ρ0 : List Sl) : R Fl → R Fl
  | .ok f m' => .ok f (k.unlock ρ0 m')
  | .exc e m' => .exc e (k.unlock ρ0 m')
  | .bad => .bad
/-- the turns of a while, at most -/
def whMax : Nat := 1000000000000000000000000000000000000000
/-- the name of a clause is free behind it -/
def offM (i : Nat) (m : Ms) : R Unit := match m.ρ[i]? with
  | some (.rl _) => .bad
  | some _ => .ok () { m with ρ := m.ρ.set i .un }
  | none => .bad
/-- the clauses, one behind the other -/
def clM (e : Ex) (m : Ms) : List Hd → R Fl
  | [] => .exc e m
  | h :: r => if subX e.c h.c then (match hbD e h.b with
    | some d => (match h.i with
      | some i => (offM i m).bind fun _ m => .ok (.rt d) m
      | none => .ok (.rt d) m)
    | none => .bad) else clM e m r
/-- what stands behind a try -/
def trM (cs : List Nat) (hs : List Hd) (r : R Fl) : R Fl := match r with
  | .ok fl m => .ok fl m
  | .exc e m => if cs.contains e.c then clM e m hs else .bad
  | .bad => .bad
/-- exceptions do not pass a comprehension -/
def calm {α : Type} : R α → R α
  | .exc _ _ => .bad
  | r => r
/-- a clause's loop lp over the items of k, its own slots own -/
def compG (own : List Nat) (k : Wk) (lp : List D → Ms → R (List D)) (m : Ms) : R (List D) :=
  if own.all (plainS (k.lock m).ρ) then (lp k.xs (k.lock m)).bind fun ds m' => .ok ds (k.unlock m.ρ { m' with ρ := backR m'.ρ m.ρ own }) else .bad

/-! ### the evaluator -/
section
variable (cl : Nat → List D → List D → Rc)
mutual
def evX : X → Ms → R D
  | .v i, m => match m.ρ[i]? with
    | some (.val d) => .ok d m
    | _ => .bad
  | .mv i, m => match m.ρ[i]? with
    | some (.ow (.lst xs)) => .ok (.lst xs) { m with ρ := m.ρ.set i (.val (.lst xs)) }
    | some (.ow (.dic ((.non, .bl true) :: kvs))) => .ok (uD kvs) { m with ρ := m.ρ.set i (.val (uD kvs)) }
    | some (.val d) => .ok d m
    | _ => .bad
  | .kn, m => .ok .non m
  | .kb b, m => .ok (.bl b) m
  | .ki i, m => .ok (.int i) m
  | .ks s, m => .ok (.str s) m
  | .gl _ d, m => .ok d m
  | .bin o a b, m => (evX a m).bind fun x m => (evX b m).bind fun y m => opt (binD o x y) m
  | .neg a, m => (evX a m).bind fun x m => match x with
    | .int i => .ok (.int (-i)) m
    | _ => .bad
  | .cmp o a b, m => (evX a m).bind fun x m => (evX b m).bind fun y m => opt (cmpD o x y) m
  | .cm2 o o' a b c, m => (evX a m).bind fun x m => (evX b m).bind fun y m => (opt (cmpD o x y) m).bind fun z m => match z with
    | .bl true => (evX c m).bind fun w m => opt (cmpD o' y w) m
    | .bl false => .ok (.bl false) m
    | _ => .bad
  | .inn n a c, m => (evX a m).bind fun x m => (evH c m).bind fun h m => (inM n x h m).bind blM
  | .and a b, m => (evX a m).bind fun x m => match x with
    | .bl true => evX b m
    | .bl false => .ok (.bl false) m
    | _ => .bad
  | .or a b, m => (evX a m).bind fun x m => match x with
    | .bl true => .ok (.bl true) m
    | .bl false => evX b m
    | _ => .bad
  | .one a, m => evX a m
  | .not c, m => (evH c m).bind fun h m => (truM h m).bind fun b m => .ok (.bl (!b)) m
  | .ife t a b, m => (evT t m).bind fun k m => if k then evX a m else evX b m
  | .tup es, m => (evXs es m).bind fun ds m => if ds.length ≤ sizeLine then .ok (.tup ds) m else .bad
  | .call f es, m => (evXs es m).bind fun ds m => ofRc (cl f ds m.S) m
  | .len c, m => (evH c m).bind lenM
  | .idx c i, m => (evH c m).bind fun h m => (evX i m).bind fun x m => idxM h x m
  | .slc c lo hi, m => (evH c m).bind fun h m => (evXo lo m).bind fun l m => (evXo hi m).bind fun k m => slcM h l k m
  | .rev c, m => (evH c m).bind revM
  | .lend j, m => (evH (.o j) m).bind lendM
  | .isi a t, m => (evX a m).bind fun x m => isiM x t m
  | .isl a t, m => (evX a m).bind fun x m => islM x t m
  | .b1 f a, m => (evX a m).bind fun x m => opt (b1D f x) m
  | .b2 mx a b, m => (evX a m).bind fun x m => (evX b m).bind fun y m => opt (b2D mx x y) m
  | .ag f c, m => (evH c m).bind fun h m => agM f h m
  | .trg a, m => (evX a m).bind trgM
  | .tupOf c, m => (evH c m).bind tupM
  | .fr f, m => evF f m
  | .mk f, m => (evF f m).bind fun c m => .ok (.loc m.S.length) { m with S := m.S ++ [c] }
  | .pop c, m => (evH c m).bind popM
  | .popi c i, m => (evH c m).bind fun h m => if kL h m then (evX i m).bind fun k m => popiM h k m else .bad
  | .ix c x, m => (evH c m).bind fun h m => if kL h m then (evX x m).bind fun k m => ixM h k m else .bad
  | .ixd c x, m => (evH c m).bind fun h m => if kL h m then (evX x m).bind fun k m => ixdM h k m else .bad
  | .app c e, m => (evH c m).bind fun h m => if kL h m then (evX e m).bind fun d m => appM h d m else .bad
  | .ext c e, m => (evH c m).bind fun h m => if kL h m then (evH e m).bind fun g m => extM h g m else .bad
def evH : H → Ms → R HV
  | .x e, m => (evX e m).bind fun d m => .ok (.val d) m
  | .o i, m => match m.ρ[i]? with
    | some (.ow _) => .ok (.sl i) m
    | some (.rl _) => .ok (.sl i) m
    | some (.val d) => .ok (.val d) m
    | _ => .bad
def evXs : Xs → Ms → R (List D)
  | .nil, m => .ok [] m
  | .cons e r, m => (evX e m).bind fun d m => (evXs r m).bind fun ds m => .ok (d :: ds) m
def evXo : Xo → Ms → R (Option Int)
  | .none, m => .ok none m
  | .some e, m => (evX e m).bind fun d m => match d with
    | .int i => .ok (some i) m
    | _ => .bad
def evT : T → Ms → R Bool
  | .cmp o a b, m => (evX a m).bind fun x m => (evX b m).bind fun y m => (opt (cmpD o x y) m).bind fun z m => match z with
    | .bl k => .ok k m
    | _ => .bad
  | .cm2 o o' a b c, m => (evX a m).bind fun x m => (evX b m).bind fun y m => (opt (cmpD o x y) m).bind fun z m => match z with
    | .bl true => (evX c m).bind fun w m => (opt (cmpD o' y w) m).bind fun z m => match z with
      | .bl k => .ok k m
      | _ => .bad
    | .bl false => .ok false m
    | _ => .bad
  | .inn n a c, m => (evX a m).bind fun x m => (evH c m).bind fun h m => inM n x h m
  | .h c, m => (evH c m).bind truM
  | .and a b, m => (evT a m).bind fun x m => if x then evT b m else .ok false m
  | .or a b, m => (evT a m).bind fun x m => if x then .ok true m else evT b m
  | .one a, m => evT a m
  | .not a, m => (evT a m).bind fun x m => .ok (!x) m
def evTs : Ts → Ms → R Bool
  | .nil, m => .ok true m
  | .cons t r, m => (evT t m).bind fun x m => if x then evTs r m else .ok false m
def evF : Fx → Ms → R D
  | .disp es, m => (evXs es m).bind fun ds m => if ds.length ≤ sizeLine then .ok (.lst ds) m else .bad
  | .comp own tg it ifs elt, m => (evIt it m).bind fun k m =>
      (calm (compG own k (compL own (bindTg tg) (evTs ifs) (fun m => (evX elt m).bind fun d m => .ok [d] m)) m)).bind fun ds m' => if ds.length ≤ sizeLine then .ok (.lst ds) m' else .bad
  | .com2 own own1 tg it ifs tg1 it1 ifs1 elt, m => (evIt it m).bind fun k m =>
      (calm (compG own k (compL own (bindTg tg) (evTs ifs) (fun m => (evIt it1 m).bind fun k1 m =>
        compG own1 k1 (compL own1 (bindTg tg1) (evTs ifs1) (fun m => (evX elt m).bind fun d m => .ok [d] m)) m)) m)).bind fun ds m' => if ds.length ≤ sizeLine then .ok (.lst ds) m' else .bad
  | .lstOf c, m => (evH c m).bind lstM
  | .cat a b, m => (evH a m).bind fun h m => (evH b m).bind fun g m => catM h g m
  | .rep a n, m => (evH a m).bind fun h m => (evX n m).bind fun k m => repM h k m
  | .srt c, m => (evH c m).bind srtM
  | .srtE c, m => (evH c m).bind srtEM
  | .srtd j, m => (evH (.o j) m).bind srtdM
  | .srtt j, m => (evH (.o j) m).bind srttM
  | .unew, m => .ok (uD []) m
  | .callF f es, m => (evXs es m).bind fun ds m => ofRcO (cl f ds m.S) m
  | .udc own tg it ifs key elt, m => (evIt it m).bind fun k m =>
      (calm (compG own k (compL own (bindTg tg) (evTs ifs) (fun m => (evX key m).bind fun a m => (evX elt m).bind fun d m => .ok [.tup [a, d]] m)) m)).bind udcM
  | .sdc own tg it ifs elt, m => (evIt it m).bind fun k m =>
      (calm (compG own k (compL own (bindTg tg) (evTs ifs) (fun m => (evX elt m).bind fun d m => .ok [d] m)) m)).bind sdcM
  | .lrg a, m => (evX a m).bind lrgM
  | .lrg2 a b, m => (evX a m).bind fun x m => (evX b m).bind fun y m => lrg2M x y m
  | .slcL c lo hi, m => (evH c m).bind fun h m => (evXo lo m).bind fun l m => (evXo hi m).bind fun k m => slcFM h l k m
def evIt : It → Ms → R Wk
  | .h c, m => (evH c m).bind walkM
  | .rg1 a, m => (evX a m).bind rng1M
  | .rg2 a b, m => (evX a m).bind fun x m => (evX b m).bind fun y m => rng2M x y m
  | .rgd a b, m => (evX a m).bind fun x m => (evX b m).bind fun y m => rngdM x y m
  | .en c, m => (evH c m).bind enumM
  | .zp c d, m => (evH c m).bind fun h m => (evH d m).bind fun g m => zipM h g m
end
mutual
def evS : Sm → Ms → R Fl
  | .set tg e, m => (evX cl e m).bind fun d m => (bindTg tg d m).bind fun _ m => .ok .nx m
  | .own i f, m => (evF cl f m).bind fun c m => (putOw i c m).bind fun _ m => .ok .nx m
  | .par i j a b, m => (evX cl a m).bind fun x m => (evX cl b m).bind fun y m => (put1 i x m).bind fun _ m => (put1 j y m).bind fun _ m => .ok .nx m
  | .seti c i e, m => (evX cl e m).bind fun d m => (evH cl c m).bind fun h m => (evX cl i m).bind fun k m => (setM h k d m).bind fun _ m => .ok .nx m
  | .odic i, m => (putOw i (.dic []) m).bind fun _ m => .ok .nx m
  | .odt i, m => (putOw i (.dic [(.non, .non)]) m).bind fun _ m => .ok .nx m
  | .dpt j es e, m => (evX cl e m).bind fun d m => (evH cl (.o j) m).bind fun h m => (evXs cl es m).bind fun ks m => (dptM h ks d m).bind fun _ m => .ok .nx m
  | .uput c i e, m => (evX cl e m).bind fun d m => (evH cl c m).bind fun h m => (evX cl i m).bind fun k m => (uputM h k d m).bind fun _ m => .ok .nx m
  | .dput j i e, m => (evX cl e m).bind fun d m => (evH cl (.o j) m).bind fun h m => (evX cl i m).bind fun k m => (dputM h k d m).bind fun _ m => .ok .nx m
  | .aug i o e, m => match m.ρ[i]? with
    | some (.val x) => (evX cl e m).bind fun y m => (opt (binD o x y) m).bind fun d m => (put1 i d m).bind fun _ m => .ok .nx m
    | _ => .bad
  | .ex e, m => (evX cl e m).bind fun _ m => .ok .nx m
  | .ife t a b, m => (evT cl t m).bind fun k m => if k then evSs a m else evSs b m
  | .wh t b, m => whL (evT cl t) (evSs b) whMax m
  | .fr tg it b, m => (evIt cl it m).bind fun k m => unR k m.ρ (forL (bindTg tg) (evSs b) k.xs (k.lock m))
  | .ret e, m => (evX cl e m).bind fun d m => .ok (.rt d) m
  | .retn, m => .ok (.rt .non) m
  | .reto i, m => retoM i m
  | .retf f, m => (evF cl f m).bind fun c m => .ok (.ro c) m
  | .brk, m => .ok .br m
  | .cnt, m => .ok .ct m
  | .pas, m => .ok .nx m
  | .raise c es, m => (evXs cl es m).bind fun ds m => .exc ⟨c, ds⟩ m
  | .trs cs hs b, m => trM cs hs (evSs b m)
def evSs : Ss → Ms → R Fl
  | .nil, m => .ok .nx m
  | .stk, _ => .bad
  | .cons s r, m => (evS s m).bind fun f m => match f with
    | .nx => evSs r m
    | f => .ok f m
end
end
/-- a def is run, n calls deep at most -/
def runF (tb : Tb) : Nat → Nat → List D → List D → Rc
  | 0, _, _, _ => .bad
  | n + 1, f, ds, S => match tb f with
    | none => .bad
    | some df => if ds.length = df.ps.length then
        match evSs (runF tb n) df.body ⟨ds.map .val ++ List.replicate (df.ns.length - ds.length) .un, S⟩ with
        | .ok (.rt d) m => .ok d m.S
        | .ok .nx m => .ok .non m.S
        | .ok (.ro c) m => .own c m.S
        | .ok _ _ => .bad
        | .exc e m => .exc e m.S
        | .bad => .bad
      else .bad
end Ev

set_option Elab.async false
set_option linter.all false
set_option maxRecDepth 100000
set_option autoImplicit false
/-! Ev2: what links the evaluator's states with the hand layer's heaps. -/
namespace Ev
open PySem PySem.Spec PyProof.Rows L2

structure Gs where
  K : PySem.W.Frag
  ca : Nat → Addr
  fld : Nat → List Str

/-! ### dicts of any keys -/
mutual
def nkD : D → NestedKey
  | .int i => .num i
  | .tup xs => .tup (nkDs xs)
  | _ => .none
def nkDs : List D → List NestedKey
  | [] => []
  | x :: xs => nkD x :: nkDs xs
end
mutual
def uHash : D → Int
  | .int i => hashInt i
  | .tup xs => reduceHash (Builtin.Tuple.tupleHashOf (uHashes xs))
  | _ => reduceHash 0xFCA86420
def uHashes : List D → List Int
  | [] => []
  | x :: xs => uHash x :: uHashes xs
end
mutual
theorem uHash_eq (w : World) : ∀ {d : D}, ukey d = true → (nkD d).hash w = uHash d
  | .int _, _ => by rw [nkD, NestedKey.hash, uHash]
  | .non, _ => by rw [nkD, NestedKey.hash, uHash] <;> simp
  | .tup xs, h => by
    rw [ukey] at h
    rw [nkD, NestedKey.hash, uHash, uHashes_eq w h]
  | .bl _, h => by simp [ukey] at h
  | .str _, h => by simp [ukey] at h
  | .lst _, h => by simp [ukey] at h
  | .dic _, h => by simp [ukey] at h
  | .loc _, h => by simp [ukey] at h
theorem uHashes_eq (w : World) : ∀ {ds : List D}, ukeys ds = true → NestedKey.hashes w (nkDs ds) = uHashes ds
  | [], _ => by rw [nkDs, NestedKey.hashes, uHashes]
  | d :: ds, h => by
    rw [ukeys, Bool.and_eq_true] at h
    rw [nkDs, NestedKey.hashes, uHashes, uHash_eq w h.1, uHashes_eq w h.2]
end
mutual
theorem nkD_inj : ∀ {a b : D}, ukey a = true → ukey b = true → nkD a = nkD b → a = b
  | .int i, .int j, _, _, e => by rw [nkD, nkD] at e; injection e with e; rw [e]
  | .non, .non, _, _, _ => rfl
  | .tup xs, .tup ys, h, g, e => by
    rw [ukey] at h g
    rw [nkD, nkD] at e
    injection e with e
    rw [nkDs_inj h g e]
  | .int _, .non, _, _, e => by simp [nkD] at e
  | .int _, .tup _, _, _, e => by simp [nkD] at e
  | .non, .int _, _, _, e => by simp [nkD] at e
  | .non, .tup _, _, _, e => by simp [nkD] at e
  | .tup _, .int _, _, _, e => by simp [nkD] at e
  | .tup _, .non, _, _, e => by simp [nkD] at e
  | .bl _, _, h, _, _ => by simp [ukey] at h
  | .str _, _, h, _, _ => by simp [ukey] at h
  | .lst _, _, h, _, _ => by simp [ukey] at h
  | .dic _, _, h, _, _ => by simp [ukey] at h
  | .loc _, _, h, _, _ => by simp [ukey] at h
  | .int _, .bl _, _, h, _ => by simp [ukey] at h
  | .int _, .str _, _, h, _ => by simp [ukey] at h
  | .int _, .lst _, _, h, _ => by simp [ukey] at h
  | .int _, .dic _, _, h, _ => by simp [ukey] at h
  | .int _, .loc _, _, h, _ => by simp [ukey] at h
  | .non, .bl _, _, h, _ => by simp [ukey] at h
  | .non, .str _, _, h, _ => by simp [ukey] at h
  | .non, .lst _, _, h, _ => by simp [ukey] at h
  | .non, .dic _, _, h, _ => by simp [ukey] at h
  | .non, .loc _, _, h, _ => by simp [ukey] at h
  | .tup _, .bl _, _, h, _ => by simp [ukey] at h
  | .tup _, .str _, _, h, _ => by simp [ukey] at h
  | .tup _, .lst _, _, h, _ => by simp [ukey] at h
  | .tup _, .dic _, _, h, _ => by simp [ukey] at h
  | .tup _, .loc _, _, h, _ => by simp [ukey] at h
theorem nkDs_inj : ∀ {as bs : List D}, ukeys as = true → ukeys bs = true → nkDs as = nkDs bs → as = bs
  | [], [], _, _, _ => rfl
  | a :: as, b :: bs, h, g, e => by
    rw [ukeys, Bool.and_eq_true] at h g
    rw [nkDs, nkDs] at e
    injection e with e1 e2
    rw [nkD_inj h.1 g.1 e1, nkDs_inj h.2 g.2 e2]
  | [], _ :: _, _, _, e => by rw [nkDs, nkDs] at e; cases e
  | _ :: _, [], _, _, e => by rw [nkDs, nkDs] at e; cases e
end
theorem uok_key {k : D} (h : uok k = true) : ukey k = true := by
  cases k with
  | int _ => rfl
  | tup xs => unfold uok at h; rw [Bool.and_eq_true] at h; rw [ukey]; exact h.1
  | _ => cases h
/-- the object of a dict of any keys -/
def uHO (a : Addr) (es : Array DictEntry) : HO := .ext fun h => ∃ o ep, h.get? a = some o ∧ o.ExactDict ∧ o.data = .dict es ep
structure UOk (kvs : List (D × D)) (a : Addr) : Prop where
  nd : (kvs.map (·.1)).Nodup
  kind : ∃ b, ∀ kv ∈ kvs, isTupD kv.1 = b
  sys : (a == sysModules) = false
  len : kvs.length ≤ 1000000
/-! ### values -/
mutual
inductive Rep (K : PySem.W.Frag) (F : Hp) (μ : List Addr) : D → V → Prop
  | non : Rep K F μ .non .non
  | bl (b : Bool) : Rep K F μ (.bl b) (.bl b)
  | int (i : Int) : Rep K F μ (.int i) (.int i)
  | str (s : Str) : Rep K F μ (.str s) (.str s)
  | tup {a : Addr} {vs : List V} {xs : List D} : SqT K F a vs → Reps K F μ xs vs → Rep K F μ (.tup xs) (.ref a)
  | lst {a : Addr} {vs : List V} {xs : List D} : SqL K F a vs → Reps K F μ xs vs → Rep K F μ (.lst xs) (.ref a)
  | loc {a : Addr} {n : Nat} : μ[n]? = some a → Rep K F μ (.loc n) (.ref a)
  | dic {a : Addr} {es : Array DictEntry} {kvs : List (D × D)} : F a = some (uHO a es) → Kvs K F μ kvs es.toList → UOk kvs a → Rep K F μ (.dic ((.non, .bl true) :: kvs)) (.ref a)
/-- what the entries of a dict say -/
inductive Kvs (K : PySem.W.Frag) (F : Hp) (μ : List Addr) : List (D × D) → List DictEntry → Prop
  | nil : Kvs K F μ [] []
  | cons {k d : D} {y v : V} {e : DictEntry} {r : List (D × D)} {s : List DictEntry} : RelV y e.key → Rep K F μ k y → e.hash = uHash k → uok k = true → RelV v e.val → Rep K F μ d v → Kvs K F μ r s → Kvs K F μ ((k, d) :: r) (e :: s)
inductive Reps (K : PySem.W.Frag) (F : Hp) (μ : List Addr) : List D → List V → Prop
  | nil : Reps K F μ [] []
  | cons {d : D} {v : V} {ds : List D} {vs : List V} : Rep K F μ d v → Reps K F μ ds vs → Reps K F μ (d :: ds) (v :: vs)
end

section
variable {K : PySem.W.Frag} {F F' H H' : Hp} {μ μ' : List Addr}
theorem same_sqL {a : Addr} {xs : List V} (e : Same F F') (h : SqL K F a xs) : SqL K F' a xs := by
  rcases h with (h | ⟨o, h⟩) | h
  · exact .inl (.inl (e _ _ h))
  · exact .inl (.inr ⟨o, e _ _ h⟩)
  · exact .inr h
theorem same_sqT {a : Addr} {xs : List V} (e : Same F F') (h : SqT K F a xs) : SqT K F' a xs := by
  rcases h with (h | ⟨o, h⟩) | h
  · exact .inl (.inl (e _ _ h))
  · exact .inl (.inr ⟨o, e _ _ h⟩)
  · exact .inr h
theorem pre_get {n : Nat} {a : Addr} (p : μ <+: μ') (h : μ[n]? = some a) : μ'[n]? = some a := by
  obtain ⟨t, rfl⟩ := p
  rw [List.getElem?_append_left (by
    have := List.getElem?_eq_some_iff.mp h
    exact this.1)]
  exact h
mutual
theorem Rep.mono (e : Same F F') (p : μ <+: μ') : ∀ {d : D} {v : V}, Rep K F μ d v → Rep K F' μ' d v
  | _, _, .non => .non
  | _, _, .bl b => .bl b
  | _, _, .int i => .int i
  | _, _, .str s => .str s
  | _, _, .tup h r => .tup (same_sqT e h) (Reps.mono e p r)
  | _, _, .lst h r => .lst (e.seq h) (Reps.mono e p r)
  | _, _, .loc h => .loc (pre_get p h)
  | _, _, .dic h r u => .dic (e _ _ h) (Kvs.mono e p r) u
theorem Kvs.mono (e : Same F F') (p : μ <+: μ') : ∀ {r : List (D × D)} {s : List DictEntry}, Kvs K F μ r s → Kvs K F' μ' r s
  | _, _, .nil => .nil
  | _, _, .cons h1 h2 h3 h4 h5 h6 r => .cons h1 (Rep.mono e p h2) h3 h4 h5 (Rep.mono e p h6) (Kvs.mono e p r)
theorem Reps.mono (e : Same F F') (p : μ <+: μ') : ∀ {ds : List D} {vs : List V}, Reps K F μ ds vs → Reps K F' μ' ds vs
  | _, _, .nil => .nil
  | _, _, .cons h r => .cons (Rep.mono e p h) (Reps.mono e p r)
end
theorem Reps.length : ∀ {ds : List D} {vs : List V}, Reps K F μ ds vs → ds.length = vs.length
  | _, _, .nil => rfl
  | _, _, .cons _ r => by rw [List.length_cons, List.length_cons, Reps.length r]
theorem Reps.get : ∀ {ds : List D} {vs : List V} {i : Nat} {d : D}, Reps K F μ ds vs → ds[i]? = some d → ∃ v, vs[i]? = some v ∧ Rep K F μ d v
  | _, _, _, _, .nil, e => by simp at e
  | _, _, 0, d, .cons h _, e => by
    rw [List.getElem?_cons_zero] at e
    cases e
    exact ⟨_, rfl, h⟩
  | _, _, i + 1, d, .cons _ r, e => by
    obtain ⟨v, h1, h2⟩ := Reps.get (i := i) (d := d) r (by simpa using e)
    exact ⟨v, by simpa using h1, h2⟩
theorem Reps.append : ∀ {ds es : List D} {vs us : List V}, Reps K F μ ds vs → Reps K F μ es us → Reps K F μ (ds ++ es) (vs ++ us)
  | _, _, _, _, .nil, s => s
  | _, _, _, _, .cons h r, s => .cons h (Reps.append r s)
theorem Reps.take : ∀ {ds : List D} {vs : List V} (n : Nat), Reps K F μ ds vs → Reps K F μ (ds.take n) (vs.take n)
  | _, _, 0, _ => .nil
  | _, _, _ + 1, .nil => .nil
  | _, _, n + 1, .cons h r => .cons h (Reps.take n r)
theorem Reps.drop : ∀ {ds : List D} {vs : List V} (n : Nat), Reps K F μ ds vs → Reps K F μ (ds.drop n) (vs.drop n)
  | _, _, 0, r => r
  | _, _, _ + 1, .nil => .nil
  | _, _, n + 1, .cons _ r => Reps.drop n r
theorem Reps.set {d : D} {v : V} (q : Rep K F μ d v) : ∀ {ds : List D} {vs : List V} (i : Nat), Reps K F μ ds vs → Reps K F μ (ds.set i d) (vs.set i v)
  | _, _, _, .nil => .nil
  | _, _, 0, .cons _ r => .cons q r
  | _, _, i + 1, .cons h r => .cons h (Reps.set q i r)
theorem Reps.flat {ds : List D} {vs : List V} (r : Reps K F μ ds vs) : ∀ k : Nat, Reps K F μ (List.replicate k ds).flatten (List.replicate k vs).flatten
  | 0 => .nil
  | k + 1 => by
    rw [List.replicate_succ, List.replicate_succ, List.flatten_cons, List.flatten_cons]
    exact r.append (Reps.flat r k)
theorem Reps.cons_inv {d : D} {ds : List D} {vs : List V} (r : Reps K F μ (d :: ds) vs) : ∃ v us, vs = v :: us ∧ Rep K F μ d v ∧ Reps K F μ ds us := by
  cases r with
  | cons h r => exact ⟨_, _, rfl, h, r⟩
theorem Reps.nil_inv {vs : List V} (r : Reps K F μ [] vs) : vs = [] := by cases r; rfl

mutual
/-- the data of a value -/
theorem Rep.dp (e : Same F H) : ∀ {d : D} {v : V}, d.pl = true → Rep K F μ d v → Dp K H v d.py
  | _, _, _, .non => .non
  | _, _, _, .bl b => .bl b
  | _, _, _, .int i => .int i
  | _, _, _, .str s => .str s
  | .tup xs, _, q, .tup h r => by
    rw [D.py]
    exact .tup (same_sqT e h) (Reps.dp e (by rw [D.pl] at q; exact q) r)
  | .lst xs, _, q, .lst h r => by
    rw [D.py]
    exact .lst (e.seq h) (Reps.dp e (by rw [D.pl] at q; exact q) r)
  | _, _, q, .loc _ => by simp [D.pl] at q
  | _, _, q, .dic _ _ _ => by simp [D.pl] at q
theorem Reps.dp (e : Same F H) : ∀ {ds : List D} {vs : List V}, D.pls ds = true → Reps K F μ ds vs → DpAll K H vs (D.pys ds)
  | _, _, _, .nil => .nil
  | d :: ds, _, q, .cons h r => by
    rw [D.pls, Bool.and_eq_true] at q
    rw [D.pys]
    exact .cons (Rep.dp e q.1 h) (Reps.dp e q.2 r)
end
end

/-- the keys and values of a dict -/
inductive KRep (K : PySem.W.Frag) (F : Hp) (μ : List Addr) : List (D × D) → List (Key × V) → Prop
  | nil : KRep K F μ [] []
  | cons {i : Int} {e : D} {v : V} {r : List (D × D)} {s : List (Key × V)} : Rep K F μ e v → KRep K F μ r s → KRep K F μ ((.int i, e) :: r) ((Sum.inl i, v) :: s)
theorem KRep.mono {K : PySem.W.Frag} {F F' : Hp} {μ μ' : List Addr} (e : Same F F') (p : μ <+: μ') {r : List (D × D)} {s : List (Key × V)} (h : KRep K F μ r s) : KRep K F' μ' r s := by
  induction h with
  | nil => exact .nil
  | cons h1 _ ih => exact .cons (h1.mono e p) ih
theorem KRep.length {K : PySem.W.Frag} {F : Hp} {μ : List Addr} {r : List (D × D)} {s : List (Key × V)} (h : KRep K F μ r s) : r.length = s.length := by
  induction h with
  | nil => rfl
  | cons h1 _ ih => rw [List.length_cons, List.length_cons, ih]
/-- the same, the keys tuples of ints -/
inductive TRep (K : PySem.W.Frag) (F : Hp) (μ : List Addr) : List (D × D) → List (List Key × V) → Prop
  | nil : TRep K F μ [] []
  | cons {is : List Int} {e : D} {v : V} {r : List (D × D)} {s : List (List Key × V)} : Rep K F μ e v → TRep K F μ r s → TRep K F μ ((.tup (is.map D.int), e) :: r) ((is.map Sum.inl, v) :: s)
theorem TRep.mono {K : PySem.W.Frag} {F F' : Hp} {μ μ' : List Addr} (e : Same F F') (p : μ <+: μ') {r : List (D × D)} {s : List (List Key × V)} (h : TRep K F μ r s) : TRep K F' μ' r s := by
  induction h with
  | nil => exact .nil
  | cons h1 _ ih => exact .cons (h1.mono e p) ih
theorem TRep.length {K : PySem.W.Frag} {F : Hp} {μ : List Addr} {r : List (D × D)} {s : List (List Key × V)} (h : TRep K F μ r s) : r.length = s.length := by
  induction h with
  | nil => rfl
  | cons h1 _ ih => rw [List.length_cons, List.length_cons, ih]
theorem Kvs.length {K : PySem.W.Frag} {F : Hp} {μ : List Addr} : ∀ {r : List (D × D)} {s : List DictEntry}, Kvs K F μ r s → r.length = s.length
  | _, _, .nil => rfl
  | _, _, .cons _ _ _ _ _ _ r => by rw [List.length_cons, List.length_cons, Kvs.length r]
/-- what a dict's object holds -/
def ConD (K : PySem.W.Frag) (F : Hp) (μ : List Addr) (kvs : List (D × D)) (p : Addr) (o : Option HO) : Prop :=
  (∃ vs, o = some (.dK vs) ∧ KRep K F μ kvs vs) ∨ (∃ r vs, kvs = (.non, .non) :: r ∧ o = some (.dT vs) ∧ TRep K F μ r vs) ∨
  ∃ r es, kvs = (.non, .bl true) :: r ∧ o = some (uHO p es) ∧ Kvs K F μ r es.toList ∧ UOk r p
theorem ConD.mono {K : PySem.W.Frag} {F F' : Hp} {μ μ' : List Addr} {kvs : List (D × D)} {p : Addr} {o : Option HO} (e : Same F F') (q : μ <+: μ') (h : ConD K F μ kvs p o) : ConD K F' μ' kvs p o := by
  rcases h with ⟨vs, h1, h2⟩ | ⟨r, vs, h0, h1, h2⟩ | ⟨r, es, h0, h1, h2, h3⟩
  · exact .inl ⟨vs, h1, h2.mono e q⟩
  · exact .inr (.inl ⟨r, vs, h0, h1, h2.mono e q⟩)
  · exact .inr (.inr ⟨r, es, h0, h1, h2.mono e q, h3⟩)
theorem ConD.k {K : PySem.W.Frag} {F : Hp} {μ : List Addr} {kvs : List (D × D)} {p : Addr} {o : Option HO} (h : ConD K F μ kvs p o) (ht : isT kvs = false) : ∃ vs, o = some (.dK vs) ∧ KRep K F μ kvs vs := by
  rcases h with h | ⟨r, vs, rfl, h1, h2⟩ | ⟨r, es, rfl, h1, h2, h3⟩
  · exact h
  · cases ht
  · cases ht
theorem ConD.t {K : PySem.W.Frag} {F : Hp} {μ : List Addr} {r : List (D × D)} {p : Addr} {o : Option HO} (h : ConD K F μ ((.non, .non) :: r) p o) : ∃ vs, o = some (.dT vs) ∧ TRep K F μ r vs := by
  rcases h with ⟨vs, _, h2⟩ | ⟨r', vs, h0, h1, h2⟩ | ⟨r', es, h0, h1, h2, h3⟩
  · cases h2
  · cases h0
    exact ⟨vs, h1, h2⟩
  · cases h0
theorem ConD.u {K : PySem.W.Frag} {F : Hp} {μ : List Addr} {r : List (D × D)} {p : Addr} {o : Option HO} (h : ConD K F μ ((.non, .bl true) :: r) p o) : ∃ es, o = some (uHO p es) ∧ Kvs K F μ r es.toList ∧ UOk r p := by
  rcases h with ⟨vs, _, h2⟩ | ⟨r', vs, h0, h1, h2⟩ | ⟨r', es, h0, h1, h2, h3⟩
  · cases h2
  · cases h0
  · cases h0
    exact ⟨es, h1, h2, h3⟩
/-- what a list's object holds, or that of a dict of any keys -/
def ConL (K : PySem.W.Frag) (F : Hp) (μ : List Addr) (c : D) (p : Addr) (o : Option HO) : Prop := match c with
  | .lst xs => ∃ vs, o = some (.lst vs) ∧ Reps K F μ xs vs
  | .dic kvs => ∃ r es, kvs = (.non, .bl true) :: r ∧ o = some (uHO p es) ∧ Kvs K F μ r es.toList ∧ UOk r p
  | _ => False
/-- what an object holds -/
def Con (K : PySem.W.Frag) (F : Hp) (μ : List Addr) (c : D) (p : Addr) (o : Option HO) : Prop := match c with
  | .lst xs => ∃ vs, o = some (.lst vs) ∧ Reps K F μ xs vs
  | .dic kvs => ConD K F μ kvs p o
  | _ => False
theorem ConL.con {K : PySem.W.Frag} {F : Hp} {μ : List Addr} {c : D} {p : Addr} {o : Option HO} (h : ConL K F μ c p o) : Con K F μ c p o := by
  cases c with
  | lst xs => exact h
  | dic kvs => exact .inr (.inr h)
  | _ => exact h.elim
theorem Con.mono {K : PySem.W.Frag} {F F' : Hp} {μ μ' : List Addr} {c : D} {p : Addr} {o : Option HO} (e : Same F F') (q : μ <+: μ') (h : Con K F μ c p o) : Con K F' μ' c p o := by
  cases c with
  | lst xs =>
    obtain ⟨vs, h1, h2⟩ := h
    exact ⟨vs, h1, h2.mono e q⟩
  | dic kvs => exact ConD.mono e q h
  | _ => exact h
theorem ConL.mono {K : PySem.W.Frag} {F F' : Hp} {μ μ' : List Addr} {c : D} {p : Addr} {o : Option HO} (e : Same F F') (q : μ <+: μ') (h : ConL K F μ c p o) : ConL K F' μ' c p o := by
  cases c with
  | lst xs =>
    obtain ⟨vs, h1, h2⟩ := h
    exact ⟨vs, h1, h2.mono e q⟩
  | dic kvs =>
    obtain ⟨r, es, h0, h1, h2, h3⟩ := h
    exact ⟨r, es, h0, h1, h2.mono e q, h3⟩
  | _ => exact h
theorem Con.some {K : PySem.W.Frag} {F : Hp} {μ : List Addr} {c : D} {p : Addr} {o : Option HO} (h : Con K F μ c p o) : ∃ x, o = some x := by
  cases c with
  | lst xs =>
    obtain ⟨vs, h1, h2⟩ := h
    exact ⟨_, h1⟩
  | dic kvs =>
    rcases h with ⟨vs, h1, h2⟩ | ⟨r, vs, h0, h1, h2⟩ | ⟨r, es, h0, h1, h2⟩
    · exact ⟨_, h1⟩
    · exact ⟨_, h1⟩
    · exact ⟨_, h1⟩
  | _ => exact h.elim
theorem ConL.some {K : PySem.W.Frag} {F : Hp} {μ : List Addr} {c : D} {p : Addr} {o : Option HO} (h : ConL K F μ c p o) : ∃ x, o = some x := h.con.some
theorem Con.mut {K : PySem.W.Frag} {F : Hp} {μ : List Addr} {c : D} {p : Addr} {o : Option HO} (h : Con K F μ c p o) : Mut o := by
  cases c with
  | lst xs =>
    obtain ⟨vs, rfl, h2⟩ := h
    trivial
  | dic kvs =>
    rcases h with ⟨vs, rfl, h2⟩ | ⟨r, vs, h0, rfl, h2⟩ | ⟨r, es, h0, rfl, h2⟩
    · trivial
    · trivial
    · trivial
  | _ => exact h.elim
theorem Con.nt {K : PySem.W.Frag} {F : Hp} {μ : List Addr} {c : D} {p : Addr} {o : Option HO} {xs : List V} (h : Con K F μ c p o) (e : o = Option.some (HO.tup xs)) : False := by
  subst e
  cases c with
  | lst ys =>
    obtain ⟨vs, h1, h2⟩ := h
    cases h1
  | dic kvs =>
    rcases h with ⟨vs, h1, h2⟩ | ⟨r, vs, h0, h1, h2⟩ | ⟨r, es, h0, h1, h2⟩
    · cases h1
    · cases h1
    · cases h1
  | _ => exact h.elim
theorem ConL.mut {K : PySem.W.Frag} {F : Hp} {μ : List Addr} {c : D} {p : Addr} {o : Option HO} (h : ConL K F μ c p o) : Mut o := h.con.mut

/-! ### states -/
structure Wd where
  F : Hp
  μ : List Addr
  m : Ms
  σ : L2.St
  H : Hp
def Own (w : Wd) : Nat ⊕ Nat → Addr → Prop
  | .inl i, p => (∃ c, w.m.ρ[i]? = some (Sl.ow c) ∨ w.m.ρ[i]? = some (Sl.rl c)) ∧ w.σ[i]? = some (some (V.ref p))
  | .inr n, p => w.μ[n]? = some p
structure Lk (K : PySem.W.Frag) (w : Wd) : Prop where
  fro : Same w.F w.H
  len : w.m.ρ.length = w.σ.length
  mul : w.μ.length = w.m.S.length
  val : ∀ (i : Nat) (d : D), w.m.ρ[i]? = some (Sl.val d) → ∃ v, w.σ[i]? = some (some v) ∧ Rep K w.F w.μ d v
  own : ∀ (i : Nat) (c : D), w.m.ρ[i]? = some (Sl.ow c) ∨ w.m.ρ[i]? = some (Sl.rl c) → ∃ p, w.σ[i]? = some (some (V.ref p)) ∧ w.F p = none ∧ Con K w.F w.μ c p (w.H p)
  sto : ∀ (n : Nat) (c : D), w.m.S[n]? = some c → ∃ p, w.μ[n]? = some p ∧ w.F p = none ∧ ConL K w.F w.μ c p (w.H p)
  inj : ∀ o o' p, Own w o p → Own w o' p → o = o'
structure Stp (w w' : Wd) : Prop where
  fle : Same w.F w'.F
  mu : w.μ <+: w'.μ
  keep : ∀ p o, w.H p = some o → (∀ x, ¬ Own w x p) → w'.H p = some o
  own : ∀ p x, Own w' x p → (∃ y, Own w y p) ∨ w.H p = none
  fnew : ∀ p o, w'.F p = some o → w.F p ≠ none ∨ w.H p = none ∨ (∃ y, Own w y p) ∨ ∃ xs, w.H p = some (.tup xs)
  there : ∀ p, w'.H p = none → w.H p = none
  rls : ∀ (i : Nat) (c : D), w.m.ρ[i]? = some (Sl.rl c) → w'.m.ρ[i]? = some (Sl.rl c) ∧ w'.σ[i]? = w.σ[i]?

section
variable {K : PySem.W.Frag} {w w1 w' : Wd}
theorem Stp.refl (w : Wd) : Stp w w := ⟨fun _ _ h => h, List.prefix_refl _, fun _ _ h _ => h, fun p x h => .inl ⟨x, h⟩, fun p o h => .inl (by rw [h]; simp), fun _ h => h, fun _ _ h => ⟨h, rfl⟩⟩
theorem Stp.trans (a : Stp w w1) (b : Stp w1 w') : Stp w w' where
  fle := fun p o h => b.fle p o (a.fle p o h)
  mu := a.mu.trans b.mu
  keep := fun p o h n => b.keep p o (a.keep p o h n) fun x hx => by
    rcases a.own p x hx with ⟨y, hy⟩ | hn
    · exact n y hy
    · rw [hn] at h; cases h
  own := fun p x h => by
    rcases b.own p x h with ⟨y, hy⟩ | hn
    · exact a.own p y hy
    · by_cases q : ∃ y, Own w y p
      · exact .inl q
      · refine .inr ?_
        cases e : w.H p with
        | none => rfl
        | some o =>
          have := a.keep p o e fun x hx => q ⟨x, hx⟩
          rw [hn] at this; cases this
  fnew := fun p o h => by
    rcases b.fnew p o h with h1 | h1 | ⟨y, h1⟩ | ⟨xs, h1⟩
    · cases e : w1.F p with
      | none => exact absurd e h1
      | some o' => exact a.fnew p o' e
    · exact .inr (.inl (a.there p h1))
    · rcases a.own p y h1 with h2 | h2
      · exact .inr (.inr (.inl h2))
      · exact .inr (.inl h2)
    · by_cases q : ∃ y, Own w y p
      · exact .inr (.inr (.inl q))
      · cases e : w.H p with
        | none => exact .inr (.inl rfl)
        | some o' =>
          have := a.keep p o' e fun x hx => q ⟨x, hx⟩
          rw [h1] at this
          cases this
          exact .inr (.inr (.inr ⟨xs, rfl⟩))
  there := fun p h => a.there p (b.there p h)
  rls := fun i c h => let ⟨h1, e1⟩ := a.rls i c h; let ⟨h2, e2⟩ := b.rls i c h1; ⟨h2, e2.trans e1⟩
theorem Lk.free (L : Lk K w) {p : Addr} (h : w.H p = none) : w.F p = none := L.fro.free h
theorem Lk.ownT (L : Lk K w) {p : Addr} : ∀ {x : Nat ⊕ Nat}, Own w x p → w.F p = none ∧ Mut (w.H p)
  | .inl i, ⟨⟨c, hc⟩, hs⟩ => by
    obtain ⟨q, h1, h2, h3⟩ := L.own i c hc
    rw [hs] at h1
    cases h1
    exact ⟨h2, h3.mut⟩
  | .inr n, h => by
    have h : w.μ[n]? = some p := h
    have hl := (List.getElem?_eq_some_iff.mp h).1
    rw [L.mul] at hl
    obtain ⟨q, h1, h2, h3⟩ := L.sto n w.m.S[n] (by simp [hl])
    rw [h] at h1
    cases h1
    exact ⟨h2, h3.mut⟩
theorem Lk.notOwn (L : Lk K w) {p : Addr} (h : w.H p = none) (x : Nat ⊕ Nat) : ¬ Own w x p := fun q => by
  have := (L.ownT q).2
  rw [h] at this
  exact this

/-- a new object, not held by anything yet -/
theorem Lk.fresh (L : Lk K w) {p : Addr} {o : HO} (h : w.H p = none) : Lk K { w with H := upd w.H p o } ∧ Stp w { w with H := upd w.H p o } := by
  have ne : ∀ {q : Addr} {u : HO}, w.H q = some u → q ≠ p := fun hq e => by rw [e, h] at hq; cases hq
  refine ⟨⟨fun a u e => ?_, L.len, L.mul, L.val, fun i c hc => ?_, fun n c hc => ?_, L.inj⟩, ⟨fun _ _ e => e, List.prefix_refl _, fun a u e _ => ?_, fun a x e => .inl ⟨x, e⟩, fun a u e => .inl (by rw [e]; simp), fun a e => ?_, fun _ _ h => ⟨h, rfl⟩⟩⟩
  · have := L.fro a u e
    show upd w.H p o a = some u
    rw [upd_ne (ne this)]; exact this
  · obtain ⟨q, h1, h2, h3⟩ := L.own i c hc
    refine ⟨q, h1, h2, ?_⟩
    obtain ⟨u, hu⟩ := h3.some
    show Con K w.F w.μ c q (upd w.H p o q)
    rw [upd_ne (ne hu)]; exact h3
  · obtain ⟨q, h1, h2, h3⟩ := L.sto n c hc
    refine ⟨q, h1, h2, ?_⟩
    obtain ⟨u, hu⟩ := h3.some
    show ConL K w.F w.μ c q (upd w.H p o q)
    rw [upd_ne (ne hu)]; exact h3
  · show upd w.H p o a = some u
    rw [upd_ne (ne e)]; exact e
  · have e : upd w.H p o a = none := e
    by_cases q : a = p
    · rw [q]; exact h
    · rw [upd_ne q] at e; exact e
/-- an object that nothing holds is kept as it is from now on -/
theorem Lk.freeze (L : Lk K w) {p : Addr} {o : HO} (h : w.H p = some o) (hF : w.F p = none) (hn : ∀ x, ¬ Own w x p) : Lk K { w with F := upd w.F p o } := by
  have sm : Same w.F (upd w.F p o) := fun a u e => by
    rw [upd_ne (fun q => by rw [q, hF] at e; cases e)]; exact e
  refine ⟨fun a u e => ?_, L.len, L.mul, fun i d e => ?_, fun i c hc => ?_, fun n c hc => ?_, L.inj⟩
  · have e : upd w.F p o a = some u := e
    by_cases q : a = p
    · subst q; rw [upd_same] at e; cases e; exact h
    · rw [upd_ne q] at e; exact L.fro a u e
  · obtain ⟨v, h1, h2⟩ := L.val i d e
    exact ⟨v, h1, h2.mono sm (List.prefix_refl _)⟩
  · obtain ⟨q, h1, h2, h3⟩ := L.own i c hc
    refine ⟨q, h1, ?_, h3.mono sm (List.prefix_refl _)⟩
    show upd w.F p o q = none
    rw [upd_ne]; exact h2
    rintro rfl
    exact hn (.inl i) ⟨⟨c, hc⟩, h1⟩
  · obtain ⟨q, h1, h2, h3⟩ := L.sto n c hc
    refine ⟨q, h1, ?_, h3.mono sm (List.prefix_refl _)⟩
    show upd w.F p o q = none
    rw [upd_ne]; exact h2
    rintro rfl
    exact hn (.inr n) h1
/-- a new object that stays as it is -/
theorem Lk.newF (L : Lk K w) {p : Addr} {o : HO} (h : w.H p = none) : Lk K { w with F := upd w.F p o, H := upd w.H p o } ∧ Stp w { w with F := upd w.F p o, H := upd w.H p o } := by
  obtain ⟨L1, s1⟩ := L.fresh (o := o) h
  refine ⟨L1.freeze (p := p) (o := o) (by show upd w.H p o p = _; rw [upd_same]) (L.free h) (fun x q => L.notOwn h x ?_), ⟨fun a u e => ?_, List.prefix_refl _, s1.keep, s1.own, fun a u e => ?_, s1.there, fun _ _ h => ⟨h, rfl⟩⟩⟩
  · exact q
  · show upd w.F p o a = some u
    rw [upd_ne (fun q => by rw [q, L.free h] at e; cases e)]; exact e
  · have e : upd w.F p o a = some u := e
    by_cases q : a = p
    · subst q; exact .inr (.inl h)
    · rw [upd_ne q] at e; exact .inl (by rw [e]; simp)
end

/-! ### what is wanted -/
/-- an exception -/
def XRep (G : Gs) (F : Hp) (μ : List Addr) (e : Ex) (c : Value) (dx : Option Addr) : Prop :=
  c = .ref (G.ca e.c) ∧ ∃ d vs, dx = some d ∧ (G.fld e.c).length = vs.length ∧ F d = some (.xd ((G.fld e.c).zip vs)) ∧ Reps G.K F μ e.args vs
def Fin {α β : Type} (G : Gs) (Wx : WX) (rel : Wd → Wd → α → β → Prop) (w : Wd) (r : R α) (Q : β → Hp → Prop) : Prop := match r with
  | .ok a m' => ∀ (b : β) (F' : Hp) (μ' : List Addr) (H' : Hp), Lk G.K ⟨F', μ', m', w.σ, H'⟩ → Stp w ⟨F', μ', m', w.σ, H'⟩ → rel w ⟨F', μ', m', w.σ, H'⟩ a b → Q b H'
  | .exc e m' => ∀ (c : Value) (dx : Option Addr) (F' : Hp) (μ' : List Addr) (H' : Hp), Lk G.K ⟨F', μ', m', w.σ, H'⟩ → Stp w ⟨F', μ', m', w.σ, H'⟩ → XRep G F' μ' e c dx → Wx c dx w.σ H'
  | .bad => False
def RelOk {α β : Type} (rel : Wd → Wd → α → β → Prop) : Prop := ∀ w w1 w' a b, Stp w w1 → w.σ = w1.σ → rel w1 w' a b → rel w w' a b
def TG {α β : Type} (G : Gs) (Wx : WX) (rel : Wd → Wd → α → β → Prop) (f : Ms → R α) : L2.St → Hp → (β → Hp → Prop) → Prop := fun σ H Q =>
  ∃ F μ m, Lk G.K ⟨F, μ, m, σ, H⟩ ∧ Fin G Wx rel ⟨F, μ, m, σ, H⟩ (f m) Q
section
variable {G : Gs} {Wx : WX} {α β γ δ : Type} {rel : Wd → Wd → α → β → Prop} {rel' : Wd → Wd → γ → δ → Prop} {w w1 : Wd} {Q Q' : β → Hp → Prop}
theorem Fin.mono {r : R α} (h : Fin G Wx rel w r Q) (q : ∀ b H, Q b H → Q' b H) : Fin G Wx rel w r Q' := by
  cases r with
  | ok a m => exact fun b F μ H L s r => q _ _ (h b F μ H L s r)
  | exc e m => exact h
  | bad => exact h
theorem Fin.step (ro : RelOk rel) {r : R α} (h : Fin G Wx rel w r Q) (s : Stp w w1) (e : w.σ = w1.σ) : Fin G Wx rel w1 r Q := by
  obtain ⟨F1, μ1, m1, σ1, H1⟩ := w1
  have e : w.σ = σ1 := e
  subst e
  cases r with
  | ok a m => exact fun b F μ H L s' r => h b F μ H L (s.trans s') (ro _ _ _ _ _ s rfl r)
  | exc e m => exact fun c d F μ H L s' x => h c d F μ H L (s.trans s') x
  | bad => exact h
/-- one after another -/
theorem Fin.bind (ro : RelOk rel') {f : Ms → R α} {g : α → Ms → R γ} {Q : δ → Hp → Prop} (L : Lk G.K w) (h : Fin G Wx rel' w ((f w.m).bind g) Q) :
    TG G Wx rel f w.σ w.H (fun b H1 => ∃ a F μ m, Lk G.K ⟨F, μ, m, w.σ, H1⟩ ∧ Stp w ⟨F, μ, m, w.σ, H1⟩ ∧ rel w ⟨F, μ, m, w.σ, H1⟩ a b ∧ Fin G Wx rel' ⟨F, μ, m, w.σ, H1⟩ (g a m) Q) := by
  refine ⟨w.F, w.μ, w.m, L, ?_⟩
  cases hf : f w.m with
  | ok a m1 =>
    rw [hf] at h
    exact fun b F' μ' H' L' s r => ⟨a, F', μ', m1, L', s, r, h.step ro s rfl⟩
  | exc e m1 =>
    rw [hf] at h
    exact h
  | bad =>
    rw [hf] at h
    exact h.elim
theorem TG.mono {f : Ms → R α} {σ : L2.St} {H : Hp} (h : TG G Wx rel f σ H Q) (q : ∀ b H, Q b H → Q' b H) : TG G Wx rel f σ H Q' := by
  obtain ⟨F, μ, m, L, h⟩ := h
  exact ⟨F, μ, m, L, h.mono q⟩
end

/-! ### the relations -/
def rD (G : Gs) : Wd → Wd → D → V → Prop := fun _ w d v => Rep G.K w.F w.μ d v
def rDs (G : Gs) : Wd → Wd → List D → List V → Prop := fun _ w d v => Reps G.K w.F w.μ d v
def rB : Wd → Wd → Bool → Bool → Prop := fun _ _ a b => a = b
def rF (G : Gs) : Wd → Wd → D → V → Prop := fun w0 w c v => ∃ p, v = .ref p ∧ w0.H p = none ∧ w.F p = none ∧ (∀ x, ¬ Own w x p) ∧ ConL G.K w.F w.μ c p (w.H p)
/-- what a handle says -/
def rH (G : Gs) : Wd → Wd → HV → V → Prop := fun _ w h v => match h with
  | .val d => Rep G.K w.F w.μ d v
  | .sl i => w.σ[i]? = some (some v)
theorem rD_ok {G : Gs} : RelOk (rD G) := fun _ _ _ _ _ _ _ h => h
theorem rDs_ok {G : Gs} : RelOk (rDs G) := fun _ _ _ _ _ _ _ h => h
theorem rB_ok : RelOk rB := fun _ _ _ _ _ _ _ h => h
theorem rH_ok {G : Gs} : RelOk (rH G) := fun _ _ _ _ _ _ _ h => h
theorem rF_ok {G : Gs} : RelOk (rF G) := fun _ _ _ _ _ s _ ⟨p, h1, h2, h3⟩ => ⟨p, h1, s.there _ h2, h3⟩
/-- a handle, later -/
theorem rH.later {G : Gs} {w w1 w' : Wd} {h : HV} {v : V} (r : rH G w w1 h v) (s : Stp w1 w') (e : w1.σ = w'.σ) : rH G w w' h v := by
  cases h with
  | val d => exact Rep.mono s.fle s.mu r
  | sl i =>
    show w'.σ[i]? = some (some v)
    rw [← e]; exact r

/-! ### weaker readings -/
section
variable {X : Cx} {e : Expr} {es : List Expr}
theorem PEw {t t' : TE} (h : PE X e t) (q : ∀ σ H Q, t' σ H Q → t σ H Q) : PE X e t' := ⟨fun pins s σ H Q I hw => h.run pins s σ H Q I (q _ _ _ hw)⟩
theorem PTw {t t' : TT} (h : PT X e t) (q : ∀ σ H Q, t' σ H Q → t σ H Q) : PT X e t' := ⟨fun pins s σ H Q I hw => h.run pins s σ H Q I (q _ _ _ hw)⟩
theorem PWw {t t' : TT} (h : PW X e t) (q : ∀ σ H Q, t' σ H Q → t σ H Q) : PW X e t' := ⟨fun wh pins s σ H Q I hw => h.run wh pins s σ H Q I (q _ _ _ hw)⟩
theorem PAw {t t' : TA} (h : PA X es t) (q : ∀ σ H Q, t' σ H Q → t σ H Q) : PA X es t' := ⟨fun p pins s σ H Q I hw => h.run p pins s σ H Q I (q _ _ _ hw)⟩
theorem PSw {st : Stmt} {t t' : TS} (h : PS X st t) (q : ∀ D σ H, t' D σ H → t D σ H) : PS X st t' := ⟨fun pins s σ H D I hw => h.run pins s σ H D I (q _ _ _ hw)⟩
theorem PSsw {st : List Stmt} {t t' : TS} (h : PSs X st t) (q : ∀ D σ H, t' D σ H → t D σ H) : PSs X st t' := ⟨fun pins s σ H D I hw => h.run pins s σ H D I (q _ _ _ hw)⟩
theorem OpRw {f : Value → Value → Sem Value} {r r' : R2} (h : OpR X f r) (q : ∀ x y H Q, r' x y H Q → r x y H Q) : OpR X f r' := fun pins s σ H x y v u Q I rx ry hw => h pins s σ H x y v u Q I rx ry (q _ _ _ _ hw)
theorem CallRw {f : Value} {r r' : List V → Hp → VK → Prop} (h : CallR X f r) (q : ∀ x H Q, r' x H Q → r x H Q) : CallR X f r' := fun pins s σ H xs us Q I rx hw => h pins s σ H xs us Q I rx (q _ _ _ hw)
end
end Ev

set_option Elab.async false
set_option linter.all false
set_option maxRecDepth 100000
set_option autoImplicit false
set_option maxHeartbeats 1000000
/-! Ev2u: dicts of any keys, in the model's heaps. -/
namespace Ev
open PySem PySem.Spec PyProof.Rows L2
section
variable {X : Cx} {pins : List (Addr × Obj)} {σ : L2.St} {H F : Hp} {μ : List Addr} {s : Shared} {a : Addr} {A : Around} {E : Value → Shared → Prop}
mutual
/-- a value is a key -/
theorem nested_of (I : Inv X pins σ H s) (e : Same F H) : ∀ {k : D} {y : V} {u : Value}, ukey k = true → Rep X.K F μ k y → RelV y u → NestedIs s.heap (nkD k) u
  | .int i, _, u, _, .int _, ru => by
    obtain ⟨t, rfl⟩ := ru
    rw [nkD]; exact .int _ _
  | .non, _, u, _, .non, ru => by
    have : u = Value.none := ru
    subst this
    rw [nkD] <;> first | exact .none | simp
  | .tup xs, _, u, h, .tup h1 h2, ru => by
    have : u = Value.ref _ := ru
    subst this
    rw [ukey] at h
    obtain ⟨its, r, ⟨o, g1, g2, n, g3⟩, z⟩ := I.tuple (same_sqT e h1)
    rw [nkD]
    exact .tup g1 g2 g3 (by simpa using nested_all I e h h2 r)
  | .bl _, _, _, h, _, _ => by simp [ukey] at h
  | .str _, _, _, h, _, _ => by simp [ukey] at h
  | .lst _, _, _, h, _, _ => by simp [ukey] at h
  | .dic _, _, _, h, _, _ => by simp [ukey] at h
  | .loc _, _, _, h, _, _ => by simp [ukey] at h
theorem nested_all (I : Inv X pins σ H s) (e : Same F H) : ∀ {ks : List D} {ys : List V} {us : List Value}, ukeys ks = true → Reps X.K F μ ks ys → Vals ys us → NestedAll s.heap (nkDs ks) us
  | [], _, _, _, .nil, .nil => by rw [nkDs]; exact .nil
  | k :: ks, _, _, h, .cons h1 h2, .cons r1 r2 => by
    rw [ukeys, Bool.and_eq_true] at h
    rw [nkDs]
    exact .cons (nested_of I e h.1 h1 r1) (nested_all I e h.2 h2 r2)
end
mutual
theorem nkD_dep : ∀ k : D, ukey k = true → (nkD k).depth = k.dep
  | .int _, _ => by rw [nkD, NestedKey.depth, D.dep] <;> simp
  | .non, _ => by rw [nkD, NestedKey.depth, D.dep] <;> simp
  | .tup xs, h => by rw [ukey] at h; rw [nkD, NestedKey.depth, D.dep, nkDs_dep xs h]
  | .bl _, h => by simp [ukey] at h
  | .str _, h => by simp [ukey] at h
  | .lst _, h => by simp [ukey] at h
  | .dic _, h => by simp [ukey] at h
  | .loc _, h => by simp [ukey] at h
theorem nkDs_dep : ∀ ks : List D, ukeys ks = true → NestedKey.depthAll (nkDs ks) = D.deps ks
  | [], _ => by rw [nkDs, NestedKey.depthAll, D.deps]
  | k :: ks, h => by
    rw [ukeys, Bool.and_eq_true] at h
    rw [nkDs, NestedKey.depthAll, D.deps, nkD_dep k h.1, nkDs_dep ks h.2]
end
/-- a tuple that is a key -/
theorem nested_is (I : Inv X pins σ H s) (e : Same F H) {xs : List D} {b : Addr} (h : uok (.tup xs) = true) (r : Rep X.K F μ (.tup xs) (.ref b)) : (nestedKind X.prog X.w).is s.heap (nkD (.tup xs)) b := by
  refine ⟨nested_of I e (uok_key h) r rfl, ?_⟩
  unfold uok at h
  rw [Bool.and_eq_true, decide_eq_true_eq] at h
  have := nkD_dep (.tup xs) (by rw [ukey]; exact h.1)
  rw [this, D.dep]
  omega
/-! ### the entries, as the library tells them -/
abbrev nkd (X : Cx) := nestedKind X.prog X.w
/-- as a dict whose keys are tuples -/
structure TupE (X : Cx) (K : PySem.W.Frag) (F : Hp) (μ : List Addr) (h : Heap) (kvs : List (D × D)) (xs : List (NestedKey × Addr × Value)) : Prop where
  is : ∀ x ∈ xs, (nkd X).is h x.1 x.2.1
  pr : Paired (fun (kv : D × D) (x : NestedKey × Addr × Value) => x.1 = nkD kv.1 ∧ uok kv.1 = true ∧ Rep K F μ kv.1 (.ref x.2.1) ∧ ∃ v, RelV v x.2.2 ∧ Rep K F μ kv.2 v) kvs xs
theorem kvs_tup (I : Inv X pins σ H s) (e : Same F H) : ∀ {kvs : List (D × D)} {es : List DictEntry}, Kvs X.K F μ kvs es → (∀ kv ∈ kvs, isTupD kv.1 = true) → ∃ xs, es = xs.map (entryOfKey (nkd X)) ∧ TupE X X.K F μ s.heap kvs xs
  | _, _, .nil, _ => ⟨[], rfl, ⟨(fun _ h => nomatch h), .nil⟩⟩
  | _, _, .cons (k := k) (d := d) (y := y) (v := v) (e := en) h1 h2 h3 h4 h5 h6 r, ht => by
    obtain ⟨xs, g1, g2⟩ := kvs_tup I e r fun kv hkv => ht kv (List.mem_cons_of_mem _ hkv)
    have hk := ht (k, d) (List.mem_cons_self ..)
    cases k with
    | tup zs =>
      obtain ⟨b, vs, rfl, q1, q2⟩ : ∃ b vs, y = V.ref b ∧ SqT X.K F b vs ∧ Reps X.K F μ zs vs := by cases h2 with | tup q1 q2 => exact ⟨_, _, rfl, q1, q2⟩
      have hkey : en.key = Value.ref b := h1
      have his := nested_is I e h4 h2
      refine ⟨(nkD (.tup zs), b, en.val) :: xs, ?_, ⟨fun x hx => ?_, .cons ⟨rfl, h4, h2, v, h5, h6⟩ g2.pr⟩⟩
      · rw [List.map_cons, g1]
        congr 1
        unfold entryOfKey
        obtain ⟨eh, ek, ev⟩ := en
        have hkey : ek = Value.ref b := hkey
        have h3 : eh = uHash (.tup zs) := h3
        show DictEntry.mk eh ek ev = ⟨(nkd X).hash (nkD (.tup zs)), .ref b, ev⟩
        rw [hkey, h3]
        have := uHash_eq X.w (uok_key h4)
        show _ = DictEntry.mk ((nkD (.tup zs)).hash X.w) (.ref b) ev
        rw [this]
      · rcases List.mem_cons.mp hx with rfl | hx
        · exact his
        · exact g2.is x hx
    | _ => cases hk
theorem TupE.nd {h : Heap} {kvs : List (D × D)} {xs : List (NestedKey × Addr × Value)} (t : TupE X X.K F μ h kvs xs) (nd : (kvs.map (·.1)).Nodup) : (xs.map (·.1)).Nodup := by
  have hp := t.pr
  clear t
  induction hp with
  | nil => exact List.nodup_nil
  | @cons kv x r s h1 h2 ih =>
    rw [List.map_cons, List.nodup_cons] at nd ⊢
    refine ⟨fun hm => nd.1 ?_, ih nd.2⟩
    have : ∀ {r : List (D × D)} {s : List (NestedKey × Addr × Value)}, Paired (fun (kv : D × D) (x : NestedKey × Addr × Value) => x.1 = nkD kv.1 ∧ uok kv.1 = true ∧ Rep X.K F μ kv.1 (.ref x.2.1) ∧ ∃ v, RelV v x.2.2 ∧ Rep X.K F μ kv.2 v) r s → x.1 ∈ s.map (·.1) → kv.1 ∈ r.map (·.1) := by
      intro r s hp
      induction hp with
      | nil => intro h; cases h
      | @cons kv' x' r s g1 g2 ih =>
        intro hm
        rw [List.map_cons, List.mem_cons] at hm ⊢
        rcases hm with z | z
        · left
          rw [h1.1, g1.1] at z
          exact nkD_inj (uok_key h1.2.1) (uok_key g1.2.1) z
        · exact .inr (ih z)
    exact this h2 hm
theorem TupE.at {h : Heap} {kvs : List (D × D)} {xs : List (NestedKey × Addr × Value)} (t : TupE X X.K F μ h kvs xs) {k : D} (hk : uok k = true) :
    (uHas kvs k = (atKey xs (nkD k)).isSome) ∧ ∀ d, uAt kvs k = some d → ∃ p v, atKey xs (nkD k) = some p ∧ RelV v p.2 ∧ Rep X.K F μ d v := by
  have hp := t.pr
  clear t
  unfold uHas uAt atKey
  induction hp with
  | nil => exact ⟨rfl, fun d h => nomatch h⟩
  | @cons kv x r s h1 h2 ih =>
    obtain ⟨q1, q2, q3, v, q4, q5⟩ := h1
    by_cases z : kv.1 = k
    · have z2 : x.1 = nkD k := by rw [q1, z]
      refine ⟨by simp [z, z2], fun d hd => ?_⟩
      have hd : some kv.2 = some d := by simpa [List.find?_cons, z] using hd
      cases hd
      exact ⟨x.2, v, by simp [List.find?_cons, z2], q4, q5⟩
    · have z2 : ¬ x.1 = nkD k := fun q => z (nkD_inj (uok_key q2) (uok_key hk) (q1.symm.trans q))
      refine ⟨?_, fun d hd => ?_⟩
      · have := ih.1
        simpa [z, z2, List.find?_cons] using this
      · have hd : (List.find? (fun kv => decide (kv.1 = k)) r).map (·.2) = some d := by simpa [List.find?_cons, z] using hd
        obtain ⟨p, v, g1, g2, g3⟩ := ih.2 d hd
        exact ⟨p, v, by simpa [List.find?_cons, z2] using g1, g2, g3⟩
end
theorem krep_any {K : PySem.W.Frag} {F : Hp} {μ : List Addr} {i : Int} {r : List (D × D)} {s : List (Key × V)} (h : KRep K F μ r s) : (r.any fun kv => decide (kv.1 = D.int i)) = s.any fun kv => decide (kv.1 = (Sum.inl i : Key)) := by
  induction h with
  | nil => rfl
  | @cons j e v r s h1 _ ih =>
    rw [List.any_cons, List.any_cons, ih]
    congr 1
    by_cases q : j = i
    · subst q; simp
    · have h1 : ¬ (D.int j = D.int i) := fun z => q (by cases z; rfl)
      have h2 : ¬ ((Sum.inl j : Key) = Sum.inl i) := fun z => q (by cases z; rfl)
      simp [h1, h2]
theorem krep_repl {K : PySem.W.Frag} {F : Hp} {μ : List Addr} {i : Int} {d : D} {v : V} (rd : Rep K F μ d v) {r : List (D × D)} {s : List (Key × V)} (h : KRep K F μ r s) : KRep K F μ (r.map fun kv => if kv.1 = D.int i then (kv.1, d) else kv) (s.map fun kv => if kv.1 = (Sum.inl i : Key) then (kv.1, v) else kv) := by
  induction h with
  | nil => exact .nil
  | @cons j e u r s h1 _ ih =>
    rw [List.map_cons, List.map_cons]
    by_cases q : j = i
    · subst q
      rw [if_pos rfl, if_pos rfl]
      exact .cons rd ih
    · have g1 : ¬ (D.int j = D.int i) := fun z => q (by cases z; rfl)
      have g2 : ¬ ((Sum.inl j : Key) = Sum.inl i) := fun z => q (by cases z; rfl)
      rw [if_neg g1, if_neg g2]
      exact .cons h1 ih
theorem krep_snoc {K : PySem.W.Frag} {F : Hp} {μ : List Addr} {i : Int} {d : D} {v : V} (rd : Rep K F μ d v) {r : List (D × D)} {s : List (Key × V)} (h : KRep K F μ r s) : KRep K F μ (r ++ [(.int i, d)]) (s ++ [(Sum.inl i, v)]) := by
  induction h with
  | nil => exact .cons rd .nil
  | cons h1 _ ih => exact .cons h1 ih
theorem krep_put {K : PySem.W.Frag} {F : Hp} {μ : List Addr} {i : Int} {d : D} {v : V} (rd : Rep K F μ d v) {r : List (D × D)} {s : List (Key × V)} (h : KRep K F μ r s) : KRep K F μ (putKD r (.int i) d) (putK s (Sum.inl i) v) := by
  unfold putKD putK
  rw [krep_any h]
  split
  · exact krep_repl rd h
  · exact krep_snoc rd h
section
variable {X : Cx} {pins : List (Addr × Obj)} {σ : L2.St} {H F : Hp} {μ : List Addr} {s : Shared} {a : Addr} {A : Around} {E : Value → Shared → Prop}
/-- as a dict whose keys are ints -/
theorem kvs_int (P : Program) (w : World) : ∀ {kvs : List (D × D)} {es : List DictEntry}, Kvs X.K F μ kvs es → (∀ kv ∈ kvs, isTupD kv.1 = false) →
    ∃ vs : List (Key × V), ∃ us : List (Key × Value), KRep X.K F μ kvs vs ∧ KV vs us ∧ Pairs (mixKind P w) es us ∧ ∀ e ∈ es, ∃ k, (mixKind P w).is k e.key = true ∧ e.hash = (mixKind P w).hash k
  | _, _, .nil, _ => ⟨[], [], .nil, .nil, .nil, fun _ h => nomatch h⟩
  | _, _, .cons (k := k) (d := d) (y := y) (v := v) (e := en) h1 h2 h3 h4 h5 h6 r, ht => by
    obtain ⟨vs, us, g3, g4, g5, g6⟩ := kvs_int P w r fun kv hkv => ht kv (List.mem_cons_of_mem _ hkv)
    have hk := ht (k, d) (List.mem_cons_self ..)
    cases k with
    | int i =>
      have : y = V.int i := by cases h2; rfl
      subst this
      obtain ⟨t, et⟩ := h1
      have hi : (mixKind P w).is (Sum.inl i) en.key = true := by rw [et]; exact keyIs_int i t
      refine ⟨(Sum.inl i, v) :: vs, (Sum.inl i, en.val) :: us, .cons h6 g3, .cons ⟨rfl, h5⟩ g4, .cons hi rfl g5, fun e he => ?_⟩
      rcases List.mem_cons.mp he with rfl | he
      · exact ⟨Sum.inl i, hi, by rw [h3, uHash]; rfl⟩
      · exact g6 e he
    | tup _ => cases hk
    | _ => cases h4
/-- the way back -/
theorem back_int {P : Program} {w : World} {K : PySem.W.Frag} {kvs : List (D × D)} {vs : List (Key × V)} (h : KRep K F μ kvs vs) : ∀ {us : List (Key × Value)} {es : List DictEntry}, KV vs us → Pairs (mixKind P w) es us → (∀ e ∈ es, ∃ k, (mixKind P w).is k e.key = true ∧ e.hash = (mixKind P w).hash k) → Kvs K F μ kvs es := by
  induction h with
  | nil =>
    intro us es g1 g2 _
    cases g1
    cases g2
    exact .nil
  | @cons i e v r s h1 _ ih =>
    intro us es g1 g2 g3
    cases g1 with
    | @cons _ x _ us' q1 q2 =>
      cases g2 with
      | @cons en _ es' _ p1 p2 p3 =>
        obtain ⟨k0, v0⟩ := x
        obtain ⟨q3, q4⟩ := q1
        have q3 : Sum.inl i = k0 := q3
        subst q3
        obtain ⟨k', z1, z2⟩ := g3 en (List.mem_cons_self ..)
        have ek : k' = Sum.inl i := (mixKind P w).inj _ _ _ z1 p1
        subst ek
        have p1' : keyIs (Sum.inl i) en.key = true := p1
        rcases keyIs_shape p1' with ⟨j, t, ej, et⟩ | ⟨x, t, ej, et⟩
        · cases ej
          exact .cons (y := .int i) ⟨t, et⟩ (.int i) (by rw [z2, uHash]; rfl) rfl (by rw [p2]; exact q4) h1 (ih q2 p3 fun e he => g3 e (List.mem_cons_of_mem _ he))
        · cases ej
theorem krep_at {K : PySem.W.Frag} {kvs : List (D × D)} {vs : List (Key × V)} (h : KRep K F μ kvs vs) (i : Int) :
    (uHas kvs (.int i) = (valV vs (Sum.inl i)).isSome) ∧ ∀ d, uAt kvs (.int i) = some d → ∃ v, valV vs (Sum.inl i) = some v ∧ Rep K F μ d v := by
  induction h with
  | nil => exact ⟨rfl, fun d h => nomatch h⟩
  | @cons j d0 v0 r s r1 _ ih =>
    by_cases z : j = i
    · subst z
      refine ⟨by simp [uHas, valV], fun d hd => ⟨v0, by simp [valV, List.find?_cons], ?_⟩⟩
      have : some d0 = some d := by simpa [uAt, List.find?_cons] using hd
      cases this
      exact r1
    · have z1 : ¬ (D.int j = D.int i) := fun q => z (by injection q)
      have z2 : ¬ ((Sum.inl j : Key) = Sum.inl i) := fun q => z (by injection q)
      refine ⟨?_, fun d hd => ?_⟩
      · have := ih.1
        simpa [uHas, valV, List.find?_cons, z1, z2, z] using this
      · have hd : uAt r (.int i) = some d := by simpa [uAt, List.find?_cons, z1, z] using hd
        obtain ⟨v, g1, g2⟩ := ih.2 d hd
        exact ⟨v, by simpa [valV, List.find?_cons, z2, z] using g1, g2⟩
/-! ### what stands at a -/
theorem u_raw {es : Array DictEntry} (I : Inv X pins σ H s) (h : H a = some (uHO a es)) : ∃ o ep, s.heap.get? a = some o ∧ o.ExactDict ∧ o.data = .dict es ep := (show ObjOk X.prog X.w H s.heap a (uHO a es) from I.hok a _ h).1
theorem uHO_ok {P : Program} {w : World} {H : Hp} {h : Heap} {es : Array DictEntry} (x : ∃ o ep, h.get? a = some o ∧ o.ExactDict ∧ o.data = .dict es ep) : ObjOk P w H h a (uHO a es) := by
  refine ⟨x, ?_, fun h1 h2 ⟨o, ep, g1, g2, g3⟩ k => ⟨o, ep, k o g1, g2, g3⟩⟩
  obtain ⟨o, ep, g1, _⟩ := x
  exact ⟨o, g1⟩
theorem u_typeIs {es : Array DictEntry} (I : Inv X pins σ H s) (h : H a = some (uHO a es)) : s.TypeIs (.ref a) "dict" := by
  obtain ⟨o, ep, g1, g2, g3⟩ := u_raw I h
  exact ⟨o, g1, g2.1⟩
theorem kind_of {kvs : List (D × D)} {k : D} (h : sameK kvs k = true) : ∀ kv ∈ kvs, isTupD kv.1 = isTupD k := fun kv hkv => by
  have := List.all_eq_true.mp h kv hkv
  simpa using this
theorem u_tup {es : Array DictEntry} {kvs : List (D × D)} (I : Inv X pins σ H s) (e : Same F H) (h : H a = some (uHO a es)) (q : Kvs X.K F μ kvs es.toList) (u : UOk kvs a) (ht : ∀ kv ∈ kvs, isTupD kv.1 = true) : ∃ xs, TupE X X.K F μ s.heap kvs xs ∧ s.heap.DictOfH (nkd X) a xs := by
  obtain ⟨o, ep, g1, g2, g3⟩ := u_raw I h
  obtain ⟨xs, h1, h2⟩ := kvs_tup I e q ht
  exact ⟨xs, h2, o, es, ep, g1, g2, g3, h1, h2.is, h2.nd u.nd⟩
theorem krep_nd {K : PySem.W.Frag} {kvs : List (D × D)} {vs : List (Key × V)} (h : KRep K F μ kvs vs) (nd : (kvs.map (·.1)).Nodup) : (vs.map (·.1)).Nodup := by
  have e : ∃ is : List Int, kvs.map (·.1) = is.map D.int ∧ vs.map (·.1) = is.map Sum.inl := by
    clear nd
    induction h with
    | nil => exact ⟨[], rfl, rfl⟩
    | @cons i e v r s _ _ ih =>
      obtain ⟨is, h1, h2⟩ := ih
      exact ⟨i :: is, by rw [List.map_cons, h1]; rfl, by rw [List.map_cons, h2]; rfl⟩
  obtain ⟨is, h1, h2⟩ := e
  rw [h1] at nd
  rw [h2]
  have n2 : is.Nodup := (List.pairwise_map.mp nd).imp fun h z => h (by rw [z])
  exact List.pairwise_map.mpr (n2.imp fun h z => h (by injection z))
theorem u_int {es : Array DictEntry} {kvs : List (D × D)} (I : Inv X pins σ H s) (h : H a = some (uHO a es)) (q : Kvs X.K F μ kvs es.toList) (u : UOk kvs a) (ht : ∀ kv ∈ kvs, isTupD kv.1 = false) :
    ∃ vs : List (Key × V), ∃ us : List (Key × Value), KRep X.K F μ kvs vs ∧ KV vs us ∧ s.heap.DictOf (mixKind X.prog X.w) a us := by
  obtain ⟨o, ep, g1, g2, g3⟩ := u_raw I h
  obtain ⟨vs, us, h1, h4, h5, h6⟩ := kvs_int X.prog X.w q ht
  refine ⟨vs, us, h1, h4, o, es, ep, g1, g2, g3, fun e he => h6 e (Array.mem_toList_iff.mpr he), h5, ?_⟩
  rw [← h4.keys]
  exact krep_nd h1 u.nd
theorem uok_kind {k : D} (h : uok k = true) : (∃ i, k = .int i) ∨ ∃ xs, k = .tup xs := by
  cases k with
  | int i => exact .inl ⟨i, rfl⟩
  | tup xs => exact .inr ⟨xs, rfl⟩
  | _ => cases h
theorem room_of (hu : A.units + 64 < cLine) : (nkd X).room A.in1 := by show A.units + 1 + 8 < cLine; omega
/-! ### the steps -/
variable {es : Array DictEntry} {kvs : List (D × D)} {k : D} {y : V} {u : Value}
/-- d[k], there -/
theorem u_getItem {d : D} {Q : Value → Shared → Prop} (hu : A.units + 64 < cLine) (I : Inv X pins σ H s) (e : Same F H) (h : H a = some (uHO a es)) (q : Kvs X.K F μ kvs es.toList) (uo : UOk kvs a) (hk : uok k = true) (hs : sameK kvs k = true) (rk : Rep X.K F μ k y) (ru : RelV y u) (hd : uAt kvs k = some d)
    (hQ : ∀ v w' s', Inv X pins σ H s' → RelV v w' → Rep X.K F μ d v → Q w' s') : wpAny (model X.prog X.w) A (getItem (.ref a) u) Q E s := by
  have hkind := kind_of hs
  rcases uok_kind hk with ⟨i, rfl⟩ | ⟨xs, rfl⟩
  · obtain ⟨vs, us, h1, h4, dd⟩ := u_int I h q uo hkind
    obtain ⟨v, g1, g2⟩ := (krep_at h1 i).2 d hd
    have : y = V.int i := by cases rk; rfl
    subst this
    obtain ⟨w', hw, rw'⟩ := RelO.some_of (v := v) (o := valueAt us (Sum.inl i)) (by rw [← g1]; exact h4.val _)
    exact wpAny_getItem_of (kV_is (k := Sum.inl i) ru) dd.mapOf hw (hQ v w' _ (I.tok _) rw' g2)
  · obtain ⟨xs', t, dd⟩ := u_tup I e h q uo hkind
    obtain ⟨p, v, g1, g2, g3⟩ := (t.at hk).2 d hd
    obtain ⟨b, ws, rfl, _, _⟩ : ∃ b ws, y = V.ref b ∧ SqT X.K F b ws ∧ Reps X.K F μ xs ws := by cases rk with | tup q1 q2 => exact ⟨_, _, rfl, q1, q2⟩
    have : u = Value.ref b := ru
    subst this
    exact wpAny_getItem_heap (room_of hu) (nested_is I e hk rk) dd g1 (hQ v p.2 _ (I.tok _) g2 g3)
theorem u_in {Q : Value → Shared → Prop} (hu : A.units + 64 < cLine) (I : Inv X pins σ H s) (e : Same F H) (h : H a = some (uHO a es)) (q : Kvs X.K F μ kvs es.toList) (uo : UOk kvs a) (hk : uok k = true) (hs : sameK kvs k = true) (rk : Rep X.K F μ k y) (ru : RelV y u)
    (hQ : ∀ s', Inv X pins σ H s' → Q (.bool (uHas kvs k)) s') : wpAny (model X.prog X.w) A (compareOp .In u (.ref a)) Q E s := by
  have hkind := kind_of hs
  rcases uok_kind hk with ⟨i, rfl⟩ | ⟨xs, rfl⟩
  · obtain ⟨vs, us, h1, h4, dd⟩ := u_int I h q uo hkind
    have g := (krep_at h1 i).1
    have : y = V.int i := by cases rk; rfl
    subst this
    refine wpAny_in_of (kV_is (k := Sum.inl i) ru) uo.sys dd.mapOf ?_
    rw [← (h4.val (Sum.inl i)).isSome_eq, ← g]
    exact hQ _ (I.tok _)
  · obtain ⟨xs', t, dd⟩ := u_tup I e h q uo hkind
    have g := (t.at hk).1
    obtain ⟨b, ws, rfl, _, _⟩ : ∃ b ws, y = V.ref b ∧ SqT X.K F b ws ∧ Reps X.K F μ xs ws := by cases rk with | tup q1 q2 => exact ⟨_, _, rfl, q1, q2⟩
    have : u = Value.ref b := ru
    subst this
    refine wpAny_in_heap (room_of hu) (nested_is I e hk rk) uo.sys dd ?_
    rw [← g]
    exact hQ _ (I.tok _)
theorem u_notIn {Q : Value → Shared → Prop} (hu : A.units + 64 < cLine) (I : Inv X pins σ H s) (e : Same F H) (h : H a = some (uHO a es)) (q : Kvs X.K F μ kvs es.toList) (uo : UOk kvs a) (hk : uok k = true) (hs : sameK kvs k = true) (rk : Rep X.K F μ k y) (ru : RelV y u)
    (hQ : ∀ s', Inv X pins σ H s' → Q (.bool (!uHas kvs k)) s') : wpAny (model X.prog X.w) A (compareOp .NotIn u (.ref a)) Q E s := by
  have hkind := kind_of hs
  rcases uok_kind hk with ⟨i, rfl⟩ | ⟨xs, rfl⟩
  · obtain ⟨vs, us, h1, h4, dd⟩ := u_int I h q uo hkind
    have g := (krep_at h1 i).1
    have : y = V.int i := by cases rk; rfl
    subst this
    refine wpAny_notIn_of (kV_is (k := Sum.inl i) ru) uo.sys dd.mapOf ?_
    rw [← (h4.val (Sum.inl i)).isSome_eq, ← g]
    exact hQ _ (I.tok _)
  · obtain ⟨xs', t, dd⟩ := u_tup I e h q uo hkind
    have g := (t.at hk).1
    obtain ⟨b, ws, rfl, _, _⟩ : ∃ b ws, y = V.ref b ∧ SqT X.K F b ws ∧ Reps X.K F μ xs ws := by cases rk with | tup q1 q2 => exact ⟨_, _, rfl, q1, q2⟩
    have : u = Value.ref b := ru
    subst this
    refine wpAny_notIn_heap (room_of hu) (nested_is I e hk rk) uo.sys dd ?_
    rw [← g]
    exact hQ _ (I.tok _)
theorem put_nd {kvs : List (D × D)} {k d : D} (nd : (kvs.map (·.1)).Nodup) : ((putKD kvs k d).map (·.1)).Nodup := by
  unfold putKD
  split
  · rw [List.map_map]
    have : ((fun kv : D × D => kv.1) ∘ fun kv => if kv.1 = k then (kv.1, d) else kv) = fun kv => kv.1 := by
      funext kv
      show (if kv.1 = k then (kv.1, d) else kv).1 = kv.1
      split <;> rfl
    rw [this]
    exact nd
  · rename_i h
    rw [List.map_append, List.nodup_append]
    refine ⟨nd, by simp, fun x hx y hy z => ?_⟩
    subst z
    have hy : x = k := by simpa using hy
    subst hy
    obtain ⟨kv, hkv, e⟩ := List.mem_map.mp hx
    exact h (List.any_eq_true.mpr ⟨kv, hkv, decide_eq_true e⟩)
theorem put_kind {kvs : List (D × D)} {k d : D} {b : Bool} (h : ∀ kv ∈ kvs, isTupD kv.1 = b) (hk : isTupD k = b) : ∀ kv ∈ putKD kvs k d, isTupD kv.1 = b := fun kv hkv => by
  unfold putKD at hkv
  split at hkv
  · obtain ⟨x, hx, rfl⟩ := List.mem_map.mp hkv
    split
    · exact h x hx
    · exact h x hx
  · rcases List.mem_append.mp hkv with z | z
    · exact h kv z
    · rw [List.mem_singleton.mp z]; exact hk
theorem put_len {kvs : List (D × D)} {k d : D} : (putKD kvs k d).length ≤ kvs.length + 1 := by
  unfold putKD
  split
  · rw [List.length_map]; omega
  · rw [List.length_append]; simp
theorem UOk.put {kvs : List (D × D)} {k d : D} (u : UOk kvs a) (hs : sameK kvs k = true) (hl : kvs.length < 1000000) : UOk (putKD kvs k d) a :=
  ⟨put_nd u.nd, ⟨isTupD k, put_kind (kind_of hs) rfl⟩, u.sys, by have := put_len (kvs := kvs) (k := k) (d := d); omega⟩
/-- the way back, keys tuples -/
theorem back_tup {h : Heap} {kvs : List (D × D)} {xs : List (NestedKey × Addr × Value)} (hp : Paired (fun (kv : D × D) (x : NestedKey × Addr × Value) => x.1 = nkD kv.1 ∧ uok kv.1 = true ∧ Rep X.K F μ kv.1 (.ref x.2.1) ∧ ∃ v, RelV v x.2.2 ∧ Rep X.K F μ kv.2 v) kvs xs) : Kvs X.K F μ kvs (xs.map (entryOfKey (nkd X))) := by
  induction hp with
  | nil => exact .nil
  | @cons kv x r s h1 _ ih =>
    obtain ⟨q1, q2, q3, v, q4, q5⟩ := h1
    refine .cons (y := .ref x.2.1) rfl q3 ?_ q2 q4 q5 ih
    show (nkd X).hash x.1 = _
    rw [q1]
    exact uHash_eq X.w (uok_key q2)
theorem pr_put {kvs : List (D × D)} {xs : List (NestedKey × Addr × Value)} {k d : D} {b : Addr} {v : V} {r : Value} (hp : Paired (fun (kv : D × D) (x : NestedKey × Addr × Value) => x.1 = nkD kv.1 ∧ uok kv.1 = true ∧ Rep X.K F μ kv.1 (.ref x.2.1) ∧ ∃ v, RelV v x.2.2 ∧ Rep X.K F μ kv.2 v) kvs xs)
    (hk : uok k = true) (rk : Rep X.K F μ k (.ref b)) (rv : RelV v r) (rd : Rep X.K F μ d v) (hh : uHas kvs k = (atKey xs (nkD k)).isSome) :
    Paired (fun (kv : D × D) (x : NestedKey × Addr × Value) => x.1 = nkD kv.1 ∧ uok kv.1 = true ∧ Rep X.K F μ kv.1 (.ref x.2.1) ∧ ∃ v, RelV v x.2.2 ∧ Rep X.K F μ kv.2 v) (putKD kvs k d) (storedH xs (nkD k) b r) := by
  unfold putKD storedH
  unfold uHas at hh
  rw [hh]
  split
  · clear hh
    rename_i hn
    clear hn
    induction hp with
    | nil => exact .nil
    | @cons kv x r' s' h1 _ ih =>
      rw [List.map_cons, List.map_cons]
      refine .cons ?_ ih
      obtain ⟨q1, q2, q3, v', q4, q5⟩ := h1
      by_cases z : kv.1 = k
      · have z2 : x.1 = nkD k := by rw [q1, z]
        rw [if_pos z]
        unfold putAt
        rw [if_pos z2]
        exact ⟨q1, q2, q3, v, rv, rd⟩
      · have z2 : ¬ x.1 = nkD k := fun q => z (nkD_inj (uok_key q2) (uok_key hk) (q1.symm.trans q))
        rw [if_neg z]
        unfold putAt
        rw [if_neg z2]
        exact ⟨q1, q2, q3, v', q4, q5⟩
  · clear hh
    rename_i hn
    clear hn
    induction hp with
    | nil => exact .cons ⟨rfl, hk, rk, v, rv, rd⟩ .nil
    | @cons kv x r' s' h1 _ ih => exact .cons h1 ih
/-- d[k] = v -/
theorem u_setItem {d : D} {v : V} {r : Value} {Q : Unit → Shared → Prop} (hu : A.units + 64 < cLine) (I : Inv X pins σ H s) (e : Same F H) (h : H a = some (uHO a es)) (q : Kvs X.K F μ kvs es.toList) (uo : UOk kvs a) (hk : uok k = true) (hs : sameK kvs k = true) (rk : Rep X.K F μ k y) (ru : RelV y u) (rd : Rep X.K F μ d v) (rv : RelV v r)
    (hQ : ∀ es' s', Inv X pins σ (upd H a (uHO a es')) s' → Kvs X.K F μ (putKD kvs k d) es'.toList → Q () s') : wpAny (model X.prog X.w) A (setItem (.ref a) u r) Q E s := by
  have hkind := kind_of hs
  have mu : Mut (H a) := by rw [h]; trivial
  have hl := uo.len
  have sl := sizeLine_eq
  rcases uok_kind hk with ⟨i, rfl⟩ | ⟨xs, rfl⟩
  · obtain ⟨vs, us, h1, h4, dd⟩ := u_int I h q uo hkind
    have : y = V.int i := by cases rk; rfl
    subst this
    have hz : us.length ≤ sizeLine := by rw [← h4.length, ← h1.length]; omega
    refine wpAny_setItem_pairs (hsz := hz) (kV_is (k := Sum.inl i) ru) dd fun h' dd' hs' => ?_
    obtain ⟨o, es', ep, g1, g2, g3, g4, g5, g6⟩ := dd'
    exact hQ es' _ (d_write I mu hs' ⟨o, g1⟩ (uHO_ok ⟨o, ep, g1, g2, g3⟩)) (back_int (P := X.prog) (w := X.w) (krep_put rd h1) (h4.put (Sum.inl i) rv) g5 fun e he => g4 e (Array.mem_toList_iff.mp he))
  · obtain ⟨xs', t, dd⟩ := u_tup I e h q uo hkind
    obtain ⟨b, ws, rfl, _, _⟩ : ∃ b ws, y = V.ref b ∧ SqT X.K F b ws ∧ Reps X.K F μ xs ws := by cases rk with | tup q1 q2 => exact ⟨_, _, rfl, q1, q2⟩
    have : u = Value.ref b := ru
    subst this
    have hz : xs'.length ≤ sizeLine := by rw [← Paired.length t.pr]; omega
    refine wpAny_setItem_heap (hsz := hz) (room_of hu) (nested_is I e hk rk) dd fun h' dd' hs' => ?_
    obtain ⟨o, es', ep, g1, g2, g3, g4, g5, g6⟩ := dd'
    refine hQ es' _ (d_write I mu hs' ⟨o, g1⟩ (uHO_ok ⟨o, ep, g1, g2, g3⟩)) ?_
    rw [g4]
    exact back_tup (h := s.heap) (pr_put t.pr hk rk rv rd (t.at hk).1)
theorem u_len {Q : Value → Shared → Prop} (I : Inv X pins σ H s) (e : Same F H) (h : H a = some (uHO a es)) (q : Kvs X.K F μ kvs es.toList) (uo : UOk kvs a)
    (hQ : ∀ t s', Inv X pins σ H s' → Q (.int kvs.length t) s') : wpAny (model X.prog X.w) A (call (.builtin "len") [.ref a]) Q E s := by
  obtain ⟨b, hb⟩ := uo.kind
  have hl := uo.len
  cases b with
  | false =>
    obtain ⟨vs, us, h1, h4, dd⟩ := u_int I h q uo hb
    have e1 : us.length = kvs.length := by rw [← h4.length, ← h1.length]
    refine call_len_dict uo.sys dd (by rw [e1]; omega) ?_
    rw [e1]
    exact hQ _ _ (I.tok _)
  | true =>
    obtain ⟨xs, t, dd⟩ := u_tup I e h q uo hb
    have e1 : xs.length = kvs.length := (Paired.length t.pr).symm
    refine call_len_dictH uo.sys dd (by rw [e1]; omega) ?_
    rw [e1]
    exact hQ _ _ (I.tok _)
theorem kvs_keys {K : PySem.W.Frag} : ∀ {kvs : List (D × D)} {es : List DictEntry}, Kvs K F μ kvs es → ∃ ys : List V, Reps K F μ (kvs.map (·.1)) ys ∧ Vals ys (es.map (·.key))
  | _, _, .nil => ⟨[], .nil, .nil⟩
  | _, _, .cons (y := y) h1 h2 _ _ _ _ r => by
    obtain ⟨ys, g1, g2⟩ := kvs_keys r
    exact ⟨y :: ys, .cons h2 g1, .cons h1 g2⟩
theorem items_keys {es : Array DictEntry} {acc : Array Value} (it : ItemsOf (fun i v => ∃ en : DictEntry, es[i]? = some en ∧ v = en.key) acc es.size) : acc.toList = es.toList.map (·.key) := by
  have hl : acc.toList.length = es.toList.length := by rw [Array.length_toList, Array.length_toList, it.1]
  apply List.ext_getElem?
  intro j
  rw [List.getElem?_map]
  cases hj : acc.toList[j]? with
  | none =>
    have h1 := List.getElem?_eq_none_iff.mp hj
    rw [List.getElem?_eq_none (by omega)]
    rfl
  | some v =>
    obtain ⟨en, hen, hv⟩ := it.2 j v (by rw [← Array.getElem?_toList]; exact hj)
    rw [Array.getElem?_toList, hen, hv]
    rfl
/-- list(d) -/
theorem u_list {Q : VK} (hh : A.handled = none) (I : Inv X pins σ H s) (h : H a = some (uHO a es)) (q : Kvs X.K F μ kvs es.toList) (uo : UOk kvs a)
    (hQ : ∀ p ys, H p = none → Reps X.K F μ (kvs.map (·.1)) ys → Q (.ref p) (upd H p (.lst ys))) : wpAny (model X.prog X.w) A (call (.type "list") [.ref a]) (EP X pins σ Q) E s := by
  obtain ⟨o, ep, g1, g2, g3⟩ := u_raw I h
  obtain ⟨ys, r1, r2⟩ := kvs_keys q
  have hl := uo.len
  have hz : es.size ≤ sizeLine := by rw [← Array.length_toList, ← q.length, sizeLine_eq]; omega
  refine PySem.W.kdl_call (kdl_raw uo.sys g2 g3) hh g1 hz fun h' tk acc c hkp hL it => ?_
  have ea := items_keys it
  rw [← ea] at r2
  have hn : H s.heap.objs.size = none := I.hok.fresh (Nat.le_refl _)
  exact ⟨.ref s.heap.objs.size, upd H s.heap.objs.size (.lst ys), I.laid (t' := tk) hkp (Nat.le_refl _) ⟨by rw [← r1.length, List.length_map, sizeLine_eq]; omega, acc.toList, c, r2, by simpa using hL⟩, rfl, hQ _ ys hn r1⟩
/-- a new dict -/
theorem pe_dnewU {pos : Pos} : PE X (.Dict [] [] pos) (fun _ H Q => ∀ p, H p = none → (p == sysModules) = false → Q (.ref p) (upd H p (uHO p #[]))) := ⟨fun pins s σ H Q I h => by
  have hp : H s.heap.objs.size = none := I.hok.fresh (Nat.le_refl _)
  have hb := I.big
  refine wpAny_Dict_empty ?_
  exact ⟨.ref s.heap.objs.size, upd H s.heap.objs.size (uHO s.heap.objs.size #[]), I.laid (t' := s.toks) (fun b u e => Heap.get?_push_of_some _ e) (Nat.le_refl _) (uHO_ok ⟨_, 0, Heap.get?_push_size _ rfl, ⟨rfl, rfl, rfl⟩, rfl⟩), rfl, h _ hp (by rw [beq_eq_false_iff_ne]; exact Nat.ne_of_gt hb)⟩⟩
/-- d[k] -/
theorem ix_dictU {i : Expr} {value : Expr} {d : D} {Q : VK} (hu : X.A.units + 64 < cLine) (I : Inv X pins σ H s) (e : Same F H) (h : H a = some (uHO a es)) (q : Kvs X.K F μ kvs es.toList) (uo : UOk kvs a) (hk : uok k = true) (hs : sameK kvs k = true) (rk : Rep X.K F μ k y) (ru : RelV y u) (hd : uAt kvs k = some d)
    (hQ : ∀ v, Rep X.K F μ d v → Q v H) (hsub : subscripted i false (.ref a) u = operate [.ref a, u] (getItem (.ref a) u)) : wpAny (model X.prog X.w) X.A (subscriptTail value i (.ref a) u) (EP X pins σ Q) X.xe s := by
  have hT := u_typeIs I h
  unfold subscriptTail
  refine wpAny_bind ?_
  rw [getitemInPython_of_ne hT.not_modules]
  refine wpAny_bind (wpAny_specialOf hT PySem.F.slot_dict_getitem.lookup ?_)
  have fin : wpAny (model X.prog X.w) X.A (subscripted i false (.ref a) u) (fun r s₃ => wpAny (model X.prog X.w) X.A (letTemporaryGo value (.ref a) r >>= fun _ => pure r) (EP X pins σ Q) X.xe s₃) X.xe s := by
    rw [hsub]
    exact wpAny_operating (wpAny_mono (u_getItem (E := X.xe) hu I e h q uo hk hs rk ru hd fun v w' s' I' rv r => (⟨v, H, I', rv, hQ v r⟩ : EP X pins σ Q w' s')) (fun r s₃ h₃ => wpAny_bind (wpAny_letTemporaryGo (wpAny_pure h₃))) fun _ _ x => x)
  first
    | exact wpAny_pure (wpAny_bind fin)
    | exact wpAny_bind (wpAny_pure (wpAny_bind fin))
    | exact wpAny_bind fin
end
end Ev

set_option Elab.async false
set_option linter.all false
set_option maxRecDepth 100000
set_option autoImplicit false
set_option maxHeartbeats 2000000
/-! Ev3a: rules of the hand layer's kind that it has not: list.extend(tuple), tuple * 1. -/
namespace PySem
open PySem.Calls
theorem ev_list_extend_tuple (l : Addr) (items : Array Value) (n : Nat) (b : Addr) (items2 : Array Value) (n2 : Nat) (dd : Option Addr) (sl : Array (Option Value)) (hs0 : ¬(!items.isEmpty && Builtin.List.listTooLong (items.size + items2.size)) = true) (hs1 : items.size ≤ sizeLine) (hs2 : items.size + items2.size ≤ sizeLine + 1) :
    Meets (Builtin.«list.extend» ⟨[.ref l, .ref b], []⟩) (fun _ R s => s.heap.get? l = some { cls := .type "list", dict := none, data := .seq items n, slots := #[] } ∧ s.heap.get? b = some { cls := .type "tuple", dict := dd, data := .seq items2 n2, slots := sl } ∧ R (.ok (.ret Value.none)) { s with heap := s.heap.update l (Obj.mapSeq fun x => x ++ items2), toks := s.toks }) :=
  .of_wp fun prog w A R s h => by
    obtain ⟨hp, g, d, tk, os⟩ := s; obtain ⟨hl, hb, h⟩ := h; have f1 := AutoSeq1.idx_int; have f2 := AutoSeq1.sub_tuple_tuple; have f3 := AutoSeq1.sub_list_list; have f4 := AutoSeq1.sub_tuple_list; have f5 := AutoSeq1.sub_list_tuple;
    have hz' : (items ++ items2).size ≤ sizeLine + 1 := by rw [Array.size_append]; exact hs2
    wp_walk using (wpAny_updateSeq hl rfl (hz := hs1) (_hz' := hz')), wpAny_loadPart' hl, wpAny_loadPart' hb; exact ⟨_, rfl, h⟩
theorem ev_list_extend_list (l : Addr) (items : Array Value) (n : Nat) (b : Addr) (items2 : Array Value) (n2 : Nat) (sl : Array (Option Value)) (hs0 : ¬(!items.isEmpty && Builtin.List.listTooLong (items.size + items2.size)) = true) (hs1 : items.size ≤ sizeLine) (hs2 : items.size + items2.size ≤ sizeLine + 1) :
    Meets (Builtin.«list.extend» ⟨[.ref l, .ref b], []⟩) (fun _ R s => s.heap.get? l = some { cls := .type "list", dict := none, data := .seq items n, slots := #[] } ∧ s.heap.get? b = some { cls := .type "list", dict := none, data := .seq items2 n2, slots := sl } ∧ R (.ok (.ret Value.none)) { s with heap := s.heap.update l (Obj.mapSeq fun x => x ++ items2), toks := s.toks }) :=
  .of_wp fun prog w A R s h => by
    obtain ⟨hp, g, d, tk, os⟩ := s; obtain ⟨hl, hb, h⟩ := h; have f1 := AutoSeq1.idx_int; have f2 := AutoSeq1.sub_tuple_tuple; have f3 := AutoSeq1.sub_list_list; have f4 := AutoSeq1.sub_tuple_list; have f5 := AutoSeq1.sub_list_tuple;
    have hz' : (items ++ items2).size ≤ sizeLine + 1 := by rw [Array.size_append]; exact hs2
    wp_walk using (wpAny_updateSeq hl rfl (hz := hs1) (_hz' := hz')), wpAny_loadPart' hl, wpAny_loadPart' hb; exact ⟨_, rfl, h⟩
end PySem
namespace L2
open PySem PySem.Spec PyProof.Rows
theorem ev_tuple_mul1 (l : Addr) (items : Array Value) (n : Nat) (dd : Option Addr) (sl : Array (Option Value)) (u : Tok) :
    Meets (Builtin.«tuple.__mul__» ⟨[.ref l, .int 1 u], []⟩) (fun _ R s => s.heap.get? l = some { cls := .type "tuple", dict := dd, data := .seq items n, slots := sl } ∧
      R (.ok (.ret (Value.ref l))) s) :=
  .of_wp fun prog w A R s h => by
    obtain ⟨hp, g, d, tk, os⟩ := s
    obtain ⟨hl, h⟩ := h
    have f1 := AutoSeq1.idx_int
    have c0 : (decide ((1 : Int) < -(2 ^ 63)) || decide ((1 : Int) ≥ 2 ^ 63)) = false := by decide
    have c1 : (items.isEmpty || (1 : Int) == 1) = true := by simp
    wp_walk using wpAny_loadPart' hl
    repeat (first
      | (refine wpAny_ite_false (decide_eq_false (by rw [c0]; exact Bool.false_ne_true)) ?_; wp_walk using wpAny_loadPart' hl)
      | (refine wpAny_ite_true (decide_eq_true (by rw [c1])) ?_; wp_walk using wpAny_loadPart' hl))
    exact ⟨_, rfl, h⟩
theorem ev_tuple_mul0 (l : Addr) (items : Array Value) (n : Nat) (dd : Option Addr) (sl : Array (Option Value)) (u : Tok) (hne : items.isEmpty = false) :
    Meets (Builtin.«tuple.__mul__» ⟨[.ref l, .int 0 u], []⟩) (fun _ R s => s.heap.get? l = some { cls := .type "tuple", dict := dd, data := .seq items n, slots := sl } ∧
      R (.ok (.ret (Value.ref s.heap.objs.size))) { s with heap := s.heap.push { cls := Value.type "tuple", data := Data.seq #[] }, toks := s.toks }) :=
  .of_wp fun prog w A R s h => by
    obtain ⟨hp, g, d, tk, os⟩ := s
    obtain ⟨hl, h⟩ := h
    have f1 := AutoSeq1.idx_int
    have c0 : (decide ((0 : Int) < -(2 ^ 63)) || decide ((0 : Int) ≥ 2 ^ 63)) = false := by decide
    have c1 : (items.isEmpty || (0 : Int) == 1) = false := by rw [hne]; rfl
    have c2 : (decide ((0 : Int) ≤ 0) || items.isEmpty) = true := by simp
    wp_walk using wpAny_loadPart' hl
    repeat (first
      | (refine wpAny_ite_false (decide_eq_false (by rw [c0]; exact Bool.false_ne_true)) ?_; wp_walk using wpAny_loadPart' hl)
      | (refine wpAny_ite_false (decide_eq_false (by rw [c1]; exact Bool.false_ne_true)) ?_; wp_walk using wpAny_loadPart' hl)
      | (refine wpAny_ite_true (decide_eq_true (by rw [c2])) ?_; wp_walk using wpAny_loadPart' hl))
    exact ⟨_, rfl, h⟩
end L2

set_option Elab.async false
set_option linter.all false
set_option maxRecDepth 100000
set_option autoImplicit false
set_option maxHeartbeats 2000000
/-! Ev3b: list + list, list * int for lists that are kept as they are. -/
namespace PySem
open PySem.Calls
theorem ev_list_add (l : Addr) (items : Array Value) (n : Nat) (b : Addr) (items2 : Array Value) (n2 : Nat) (sl sl2 : Array (Option Value)) (hc0 : items.size + items2.size ≤ sizeLine) :
    Meets (Builtin.«list.__add__» ⟨[.ref l, .ref b], []⟩) (fun _ R s => s.heap.get? l = some { cls := .type "list", dict := none, data := .seq items n, slots := sl } ∧ s.heap.get? b = some { cls := .type "list", dict := none, data := .seq items2 n2, slots := sl2 } ∧ R (.ok (.ret (Value.ref s.heap.objs.size))) { s with heap := s.heap.push { cls := Value.type "list", data := Data.seq (items ++ items2) }, toks := s.toks }) :=
  .of_wp fun prog w A R s h => by obtain ⟨hp, g, d, tk, os⟩ := s; obtain ⟨hl, hb, h⟩ := h; have f1 := AutoSeq1.idx_int; have f2 := AutoSeq1.sub_tuple_tuple; have f3 := AutoSeq1.sub_list_list; have f4 := AutoSeq1.sub_tuple_list; have f5 := AutoSeq1.sub_list_tuple; wp_walk using wpAny_loadPart' hl, wpAny_loadPart' hb; exact ⟨_, rfl, h⟩
theorem ev_list_mul (l : Addr) (items : Array Value) (n : Nat) (sl : Array (Option Value)) (x : Int) (u : Tok) (hc0 : ¬(!Builtin.List.listFitsIndex x) = true) (hc1 : ¬items.size * x.toNat > (2 ^ 63 - 1) / 8) (hc2 : ¬Builtin.List.listTooLong (items.size * x.toNat) = true) :
    Meets (Builtin.«list.__mul__» ⟨[.ref l, .int x u], []⟩) (fun _ R s => s.heap.get? l = some { cls := .type "list", dict := none, data := .seq items n, slots := sl } ∧ R (.ok (.ret (Value.ref s.heap.objs.size))) { s with heap := s.heap.push { cls := Value.type "list", data := Data.seq (List.foldl (fun x1 x2 => x1 ++ x2) #[] (List.replicate (if items.isEmpty = true then 0 else x.toNat) items)) }, toks := s.toks }) :=
  .of_wp fun prog w A R s h => by
    obtain ⟨hp, g, d, tk, os⟩ := s; obtain ⟨hl, h⟩ := h
    have hsz := AutoListH.joined_fits hc2
    wp_walk; refine wpAny_ite_false (decide_eq_false (Nat.not_lt.mpr hsz)) ?_; wp_walk; exact ⟨_, rfl, h⟩
theorem ev_int_rmul_list (a : Int) (t : Tok) (l : Addr) (items : Array Value) (n : Nat) (sl : Array (Option Value)) :
    Meets (Builtin.«int.__rmul__» ⟨[.int a t, .ref l], []⟩) (fun _ R s => s.heap.get? l = some { cls := .type "list", dict := none, data := .seq items n, slots := sl } ∧ R (.ok (.ret Value.notImplemented)) s) :=
  .of_wp fun prog w A R s h => by obtain ⟨hp, g, d, tk, os⟩ := s; obtain ⟨hl, h⟩ := h; wp_walk; exact ⟨_, rfl, h⟩
end PySem
namespace L2
open PySem PySem.Spec PyProof.Rows
section
variable {X : Cx}
def rCatL (K : PySem.W.Frag) : R2 := fun x y H Q => ∃ l b xs zs, x = .ref l ∧ y = .ref b ∧ SqL K H l xs ∧ SqL K H b zs ∧ xs.length + zs.length ≤ sizeLine ∧ ∀ p, H p = none → Q (.ref p) (upd H p (.lst (xs ++ zs)))
theorem op_catL : OpR X (binaryOp .Add) (rCatL X.K) := by
  intro pins s σ H x y v u Q I rx ry h
  obtain ⟨l, b, xs, zs, rfl, rfl, hH, hB, hz, q⟩ := h
  cases rx
  cases ry
  obtain ⟨its, r, ⟨⟨cls, dd, data, sl⟩, n, e, hc, hd0, hd⟩, hs⟩ := I.list hH
  obtain ⟨its2, r2, ⟨⟨cls2, dd2, data2, sl2⟩, n2, e2, hc2, hd02, hd2⟩, hs2⟩ := I.list hB
  simp only at hc hd hd0 hc2 hd2 hd02
  subst hc hd hd0 hc2 hd2 hd02
  have hl := r.length
  have hl2 := r2.length
  refine concat_meets ⟨_, e, rfl⟩ ⟨_, e2, rfl⟩ noFill_list_add seq_list_add PySem.F.slot_list_add PySem.F.entry_list_add (PySem.F.args_list_add_2 _ _) (ev_list_add l its.toArray n b its2.toArray n2 sl sl2 (by rw [List.size_toArray, List.size_toArray]; omega)) ⟨e, e2, ?_⟩
  have ea : its.toArray ++ its2.toArray = (its ++ its2).toArray := by simp
  rw [ea]
  exact ⟨.ref _, _, I.lnew (t' := s.toks) (r.append r2) (by rw [List.length_append]; omega), rfl, q _ I.fresh⟩
def rRepL (K : PySem.W.Frag) : R2 := fun x y H Q => ∃ l k xs, x = .ref l ∧ y = .int k ∧ SqL K H l xs ∧ -(2 ^ 63) ≤ k ∧ k < 2 ^ 63 ∧ xs.length * k.toNat ≤ sizeLine ∧
  ∀ p, H p = none → Q (.ref p) (upd H p (.lst (List.replicate k.toNat xs).flatten))
theorem op_repL : OpR X (binaryOp .Mult) (rRepL X.K) := by
  intro pins s σ H x y v u Q I rx ry h
  obtain ⟨l, k, xs, rfl, rfl, hH, h1, h2, hz, q⟩ := h
  cases rx
  obtain ⟨t, rfl⟩ := ry
  obtain ⟨its, r, ⟨⟨cls, dd, data, sl⟩, n, e, hc, hd0, hd⟩, hs⟩ := I.list hH
  simp only at hc hd hd0
  subst hc hd hd0
  have hl := r.length
  have hlen : its.toArray.size * k.toNat ≤ sizeLine := by rw [List.size_toArray, ← hl]; exact hz
  have hcap : ¬ its.toArray.size * k.toNat > (2 ^ 63 - 1) / 8 := by
    have : (sizeLine : Nat) ≤ (2 ^ 63 - 1) / 8 := by decide
    omega
  have hfit : ¬ (!Builtin.List.listFitsIndex k) = true := by
    rw [fitsIndex_both h1 h2]
    exact Bool.false_ne_true
  have hlong : ¬ Builtin.List.listTooLong (its.toArray.size * k.toNat) = true := by
    rw [notLongL hlen]
    exact Bool.false_ne_true
  have hnew : List.foldl (fun x1 x2 => x1 ++ x2) #[] (List.replicate (if its.toArray.isEmpty = true then 0 else k.toNat) its.toArray) = (List.replicate k.toNat its).flatten.toArray := by
    have f0 : ∀ m : Nat, List.foldl (fun x1 x2 => x1 ++ x2) #[] (List.replicate m its.toArray) = (List.replicate m its).flatten.toArray := fun m => by
      have := foldl_rep its m []
      rw [List.nil_append] at this
      exact this
    rw [f0]
    cases its with
    | nil => simp
    | cons a r' => rw [if_neg (by simp)]
  refine wpAny_binaryOp_repeat_ref (T := "list") (U := "int") (by decide) ⟨_, e, rfl⟩ (fun s' => typeIs_int s' k t) noFill_list_mul PySem.F.fills_int_mul PySem.F.slot_int_rmul repeat_list PySem.F.slot_int_index.lookup
    (call_meets PySem.F.slot_int_rmul (typeIs_int s k t) PySem.F.entry_int_rmul (PySem.F.args_int_rmul_2 _ _) (ev_int_rmul_list k t l its.toArray n sl)
      ⟨e, rfl, ⟨_, e, rfl⟩, call_meets PySem.F.slot_list_mul ⟨_, e, rfl⟩ PySem.F.entry_list_mul (PySem.F.args_list_mul_2 _ _) (ev_list_mul l its.toArray n sl k t hfit hcap hlong) ⟨e, ?_⟩⟩)
  rw [hnew]
  exact ⟨.ref _, _, I.lnew (t' := s.toks) (r.rep k.toNat) (by rw [PyProof.Rows.lm_len_rep_flat, Nat.mul_comm]; exact hz), rfl, q _ I.fresh⟩
end
end L2

set_option Elab.async false
set_option linter.all false
set_option maxRecDepth 100000
set_option autoImplicit false
set_option maxHeartbeats 1000000
/-! Ev3: the primitives by value. -/
namespace Ev
open PySem PySem.Spec PyProof.Rows L2

mutual
theorem D.py_lay : ∀ d : D, d.pl = true → d.py.canLay0 = true
  | .non, _ => by simp [D.py, PyData.canLay0]
  | .bl _, _ => by simp [D.py, PyData.canLay0]
  | .int _, _ => by simp [D.py, PyData.canLay0]
  | .str s, h => by simpa [D.py, PyData.canLay0, D.pl] using h
  | .tup xs, h => by rw [D.pl] at h; simpa [D.py, PyData.canLay0] using D.pys_lay xs h
  | .lst xs, h => by rw [D.pl] at h; simpa [D.py, PyData.canLay0] using D.pys_lay xs h
  | .dic _, h => by simp [D.pl] at h
  | .loc _, h => by simp [D.pl] at h
theorem D.pys_lay : ∀ ds : List D, D.pls ds = true → PyData.canLayAll0 (D.pys ds) = true
  | [], _ => by simp [D.pys, PyData.canLayAll0]
  | d :: ds, h => by
    rw [D.pls, Bool.and_eq_true] at h
    simp [D.pys, PyData.canLayAll0, D.py_lay d h.1, D.pys_lay ds h.2]
end
mutual
theorem D.py_dep : ∀ d : D, d.pl = true → d.py.depth = d.dep
  | .non, _ => by simp [D.py, PyData.depth, D.dep]
  | .bl _, _ => by simp [D.py, PyData.depth, D.dep]
  | .int _, _ => by simp [D.py, PyData.depth, D.dep]
  | .str s, h => by simp [D.py, PyData.depth, D.dep]
  | .tup xs, h => by rw [D.pl] at h; simpa [D.py, PyData.depth, D.dep] using D.pys_dep xs h
  | .lst xs, h => by rw [D.pl] at h; simpa [D.py, PyData.depth, D.dep] using D.pys_dep xs h
  | .dic _, h => by simp [D.pl] at h
  | .loc _, h => by simp [D.pl] at h
theorem D.pys_dep : ∀ ds : List D, D.pls ds = true → PyData.depthAll (D.pys ds) = D.deps ds
  | [], _ => by simp [D.pys, PyData.depthAll, D.deps]
  | d :: ds, h => by
    rw [D.pls, Bool.and_eq_true] at h
    simp [D.pys, PyData.depthAll, D.deps, D.py_dep d h.1, D.pys_dep ds h.2]
end
mutual
theorem D.py_eqv : ∀ a b : D, a.pl = true → b.pl = true → PyData.eqv a.py b.py = D.eqv a b
  | .non, b, _, hb => by cases b <;> first | (simp [D.pl] at hb; done) | simp [D.py, PyData.eqv, D.eqv]
  | .bl _, b, _, hb => by cases b <;> first | (simp [D.pl] at hb; done) | simp [D.py, PyData.eqv, D.eqv]
  | .int _, b, _, hb => by cases b <;> first | (simp [D.pl] at hb; done) | simp [D.py, PyData.eqv, D.eqv]
  | .str _, b, _, hb => by cases b <;> first | (simp [D.pl] at hb; done) | simp [D.py, PyData.eqv, D.eqv]
  | .tup xs, b, ha, hb => by
    cases b <;> first
      | (simp [D.pl] at hb; done)
      | (rw [D.pl] at ha hb; simp only [D.py, PyData.eqv, D.eqv]; exact D.pys_eqv xs _ ha hb)
      | simp [D.py, PyData.eqv, D.eqv]
  | .lst xs, b, ha, hb => by
    cases b <;> first
      | (simp [D.pl] at hb; done)
      | (rw [D.pl] at ha hb; simp only [D.py, PyData.eqv, D.eqv]; exact D.pys_eqv xs _ ha hb)
      | simp [D.py, PyData.eqv, D.eqv]
  | .dic _, _, h, _ => by simp [D.pl] at h
  | .loc _, _, h, _ => by simp [D.pl] at h
theorem D.pys_eqv : ∀ as bs : List D, D.pls as = true → D.pls bs = true → PyData.eqvAll (D.pys as) (D.pys bs) = D.eqvs as bs
  | [], b, _, _ => by cases b <;> simp [D.pys, PyData.eqvAll, D.eqvs]
  | a :: as, b, ha, hb => by
    cases b with
    | nil => simp [D.pys, PyData.eqvAll, D.eqvs]
    | cons b bs =>
      rw [D.pls, Bool.and_eq_true] at ha hb
      simp only [D.pys, PyData.eqvAll, D.eqvs]
      rw [D.py_eqv a b ha.1 hb.1, D.pys_eqv as bs ha.2 hb.2]
end
theorem D.pls_mem {ds : List D} (h : D.pls ds = true) : ∀ d ∈ ds, d.pl = true := by
  induction ds with
  | nil => intro d hd; cases hd
  | cons a as ih =>
    rw [D.pls, Bool.and_eq_true] at h
    intro d hd
    rcases List.mem_cons.mp hd with rfl | hd
    · exact h.1
    · exact ih h.2 d hd
theorem D.py_in (d : D) (hd : d.pl = true) : ∀ ds : List D, D.pls ds = true → ((D.pys ds).any fun z => PyData.eqv z d.py) = inL d ds := by
  intro ds
  induction ds with
  | nil => intro _; simp [D.pys, inL]
  | cons a as ih =>
    intro h
    rw [D.pls, Bool.and_eq_true] at h
    have := ih h.2
    simp only [D.pys, inL, List.any_cons] at this ⊢
    rw [D.py_eqv a d h.1 hd, this]

abbrev gx (X : Cx) (ca : Nat → Addr) (fld : Nat → List Str) : Gs := ⟨X.K, ca, fld⟩
/-- what is wanted behind a primitive of two values, of one, of a handle -/
def r2P (G : Gs) (Wx : WX) (g : D → D → Ms → R D) : R2 := fun x y H Q => ∃ F μ m σ a b, Lk G.K ⟨F, μ, m, σ, H⟩ ∧ Rep G.K F μ a x ∧ Rep G.K F μ b y ∧ Fin G Wx (rD G) ⟨F, μ, m, σ, H⟩ (g a b m) Q
def r1P (G : Gs) (Wx : WX) (g : D → Ms → R D) : V → Hp → VK → Prop := fun x H Q => ∃ F μ m σ a, Lk G.K ⟨F, μ, m, σ, H⟩ ∧ Rep G.K F μ a x ∧ Fin G Wx (rD G) ⟨F, μ, m, σ, H⟩ (g a m) Q

section
variable {G : Gs} {Wx : WX} {F : Hp} {μ : List Addr} {m : Ms} {σ : L2.St} {H : Hp} {Q : VK}
theorem opt_of {α β : Type} {rel : Wd → Wd → α → β → Prop} {w : Wd} {o : Option α} {Q : β → Hp → Prop} (h : Fin G Wx rel w (opt o m) Q) : ∃ a, o = some a ∧ Fin G Wx rel w (.ok a m) Q := by
  cases o with
  | none => exact h.elim
  | some a => exact ⟨a, rfl, h⟩
theorem Fin.same {d : D} {v : V} (L : Lk G.K ⟨F, μ, m, σ, H⟩) (h : Fin G Wx (rD G) ⟨F, μ, m, σ, H⟩ (.ok d m) Q) (r : Rep G.K F μ d v) : Q v H := h v F μ H L (Stp.refl _) r
theorem Fin.tupN {ds : List D} {vs : List V} (L : Lk G.K ⟨F, μ, m, σ, H⟩) (h : Fin G Wx (rD G) ⟨F, μ, m, σ, H⟩ (.ok (.tup ds) m) Q) (r : Reps G.K F μ ds vs) {p : Addr} (hp : H p = none) : Q (.ref p) (upd H p (.tup vs)) := by
  obtain ⟨L1, s1⟩ := L.newF (o := .tup vs) hp
  exact h (.ref p) (upd F p (.tup vs)) μ _ L1 s1 (Rep.tup (SqT.of upd_same) (r.mono s1.fle s1.mu))
theorem Fin.lstN {ds : List D} {vs : List V} (L : Lk G.K ⟨F, μ, m, σ, H⟩) (h : Fin G Wx (rD G) ⟨F, μ, m, σ, H⟩ (.ok (.lst ds) m) Q) (r : Reps G.K F μ ds vs) {p : Addr} (hp : H p = none) : Q (.ref p) (upd H p (.lst vs)) := by
  obtain ⟨L1, s1⟩ := L.newF (o := .lst vs) hp
  exact h (.ref p) (upd F p (.lst vs)) μ _ L1 s1 (Rep.lst (SqL.of upd_same) (r.mono s1.fle s1.mu))
/-- a list that nothing holds yet -/
theorem Fin.freshL {ds : List D} {vs : List V} (L : Lk G.K ⟨F, μ, m, σ, H⟩) (h : Fin G Wx (rF G) ⟨F, μ, m, σ, H⟩ (.ok (.lst ds) m) Q) (r : Reps G.K F μ ds vs) {p : Addr} (hp : H p = none) : Q (.ref p) (upd H p (.lst vs)) := by
  obtain ⟨L1, s1⟩ := L.fresh (o := .lst vs) hp
  refine h (.ref p) F μ _ L1 s1 ⟨p, rfl, hp, L.free hp, fun x q => ?_, vs, upd_same, r⟩
  exact L.notOwn hp x (by cases x <;> exact q)
end

section
variable {X : Cx} {ca : Nat → Addr} {fld : Nat → List Str} {Wx : WX}

/-! ### operators -/
theorem rep_int {K : PySem.W.Frag} {F : Hp} {μ : List Addr} {i : Int} {v : V} (r : Rep K F μ (.int i) v) : v = .int i := by cases r; rfl
theorem rep_bl {K : PySem.W.Frag} {F : Hp} {μ : List Addr} {i : Bool} {v : V} (r : Rep K F μ (.bl i) v) : v = .bl i := by cases r; rfl
theorem rep_str {K : PySem.W.Frag} {F : Hp} {μ : List Addr} {i : Str} {v : V} (r : Rep K F μ (.str i) v) : v = .str i := by cases r; rfl
theorem rep_non {K : PySem.W.Frag} {F : Hp} {μ : List Addr} {v : V} (r : Rep K F μ .non v) : v = .non := by cases r; rfl
theorem rep_tup {K : PySem.W.Frag} {F : Hp} {μ : List Addr} {xs : List D} {v : V} (r : Rep K F μ (.tup xs) v) : ∃ a vs, v = .ref a ∧ SqT K F a vs ∧ Reps K F μ xs vs := by
  cases r with
  | tup h r => exact ⟨_, _, rfl, h, r⟩
theorem rep_lst {K : PySem.W.Frag} {F : Hp} {μ : List Addr} {xs : List D} {v : V} (r : Rep K F μ (.lst xs) v) : ∃ a vs, v = .ref a ∧ SqL K F a vs ∧ Reps K F μ xs vs := by
  cases r with
  | lst h r => exact ⟨_, _, rfl, h, r⟩
theorem rep_non_iff {K : PySem.W.Frag} {F : Hp} {μ : List Addr} {d : D} {v : V} (r : Rep K F μ d v) : decide (v = .non) = decide (d = .non) := by
  cases r <;> rfl

theorem tup_mul1 {pins : List (Addr × Obj)} {s : Shared} {σ : L2.St} {H : Hp} {l : Addr} {u : Value} {vs : List V} {Q : VK} (I : Inv X pins σ H s) (ru : RelV (.int 1) u) (hT : SqT X.K H l vs) (q : Q (.ref l) H) :
    wpAny (model X.prog X.w) X.A (binaryOp .Mult (.ref l) u) (EP X pins σ Q) X.xe s := by
  obtain ⟨t, rfl⟩ := ru
  obtain ⟨its, r, ⟨⟨cls, dd, data, sl⟩, ho, hc, n, hd⟩, hs⟩ := I.tuple hT
  simp only at hc hd
  subst hc hd
  refine wpAny_binaryOp_repeat_ref (T := "tuple") (U := "int") (by decide) ⟨_, ho, rfl⟩ (fun s' => typeIs_int s' 1 t) noFill_tuple_mul F.fills_int_mul F.slot_int_rmul repeat_tuple F.slot_int_index.lookup
    (call_meets F.slot_int_rmul (typeIs_int s 1 t) F.entry_int_rmul (F.args_int_rmul_2 _ _) (int_rmul_tuple 1 t l its.toArray n dd sl)
      ⟨ho, rfl, ⟨_, ho, rfl⟩, call_meets F.slot_tuple_mul ⟨_, ho, rfl⟩ F.entry_tuple_mul (F.args_tuple_mul_2 _ _) (ev_tuple_mul1 l its.toArray n dd sl t) ⟨ho, ?_⟩⟩)
  exact ⟨.ref l, H, I, rfl, q⟩

theorem tup_mul0 {pins : List (Addr × Obj)} {s : Shared} {σ : L2.St} {H : Hp} {l : Addr} {u : Value} {vs : List V} {Q : VK} (I : Inv X pins σ H s) (ru : RelV (.int 0) u) (hT : SqT X.K H l vs) (hne : vs ≠ []) (q : ∀ p, H p = none → Q (.ref p) (upd H p (.tup []))) :
    wpAny (model X.prog X.w) X.A (binaryOp .Mult (.ref l) u) (EP X pins σ Q) X.xe s := by
  obtain ⟨t, rfl⟩ := ru
  obtain ⟨its, r, ⟨⟨cls, dd, data, sl⟩, ho, hc, n, hd⟩, hs⟩ := I.tuple hT
  simp only at hc hd
  subst hc hd
  have hle : its.length = vs.length := r.length.symm
  have hn : its ≠ [] := fun e => hne (by
    rw [e] at hle
    exact List.eq_nil_of_length_eq_zero hle.symm)
  have hi : its.toArray.isEmpty = false := by
    cases its with
    | nil => exact absurd rfl hn
    | cons a b => rfl
  refine wpAny_binaryOp_repeat_ref (T := "tuple") (U := "int") (by decide) ⟨_, ho, rfl⟩ (fun s' => typeIs_int s' 0 t) noFill_tuple_mul F.fills_int_mul F.slot_int_rmul repeat_tuple F.slot_int_index.lookup
    (call_meets F.slot_int_rmul (typeIs_int s 0 t) F.entry_int_rmul (F.args_int_rmul_2 _ _) (int_rmul_tuple 0 t l its.toArray n dd sl)
      ⟨ho, rfl, ⟨_, ho, rfl⟩, call_meets F.slot_tuple_mul ⟨_, ho, rfl⟩ F.entry_tuple_mul (F.args_tuple_mul_2 _ _) (ev_tuple_mul0 l its.toArray n dd sl t hi) ⟨ho, ?_⟩⟩)
  refine ⟨.ref s.heap.objs.size, _, I.laid (t' := s.toks) (o := .tup []) (fun b ob q => Heap.get?_push_of_some _ q) (Nat.le_refl _) ?_, rfl, q _ (I.hok.fresh (Nat.le_refl _))⟩
  exact ⟨by rw [sizeLine_eq]; simp, [], r.rep 0, IsTup.new _ _⟩

theorem op_binE (o : Operator) : OpR X (binaryOp o) (r2P (gx X ca fld) Wx (fun a b m => opt (binD o a b) m)) := by
  intro pins s σ H x y v u Q I rx ry h
  obtain ⟨F, μ, m, σ', a, b, L, ra, rb, h⟩ := h
  obtain ⟨d, e, h⟩ := opt_of h
  unfold binD at e
  split at e
  · -- int + int
    cases rep_int ra; cases rep_int rb
    cases (Option.some.inj e)
    exact op_add pins s σ H _ _ v u Q I rx ry ⟨_, _, rfl, rfl, h.same L (.int _)⟩
  · cases rep_str ra; cases rep_str rb
    split at e
    · rename_i hz
      cases (Option.some.inj e)
      exact op_add_str pins s σ H _ _ v u Q I rx ry ⟨_, _, rfl, rfl, hz, h.same L (.str _)⟩
    · cases e
  · rename_i xs ys
    obtain ⟨pa, va, rfl, sa, la⟩ := rep_tup ra
    obtain ⟨pb, vb, rfl, sb, lb⟩ := rep_tup rb
    split at e
    · rename_i hz
      cases (Option.some.inj e)
      refine op_catA pins s σ H _ _ v u Q I rx ry ⟨pa, pb, va, vb, rfl, rfl, same_sqT L.fro sa, same_sqT L.fro sb, by rw [← la.length, ← lb.length]; exact hz, fun e => ?_, fun _ e => ?_, fun _ _ p hp => h.tupN L (la.append lb) hp⟩
      · subst e
        have : xs = [] := List.eq_nil_of_length_eq_zero la.length
        subst this
        exact h.same L (Rep.tup sb lb)
      · subst e
        have : ys = [] := List.eq_nil_of_length_eq_zero lb.length
        subst this
        rw [List.append_nil] at h
        exact h.same L (Rep.tup sa la)
    · cases e
  · rename_i xs ys
    obtain ⟨pa, va, rfl, sa, la⟩ := rep_lst ra
    obtain ⟨pb, vb, rfl, sb, lb⟩ := rep_lst rb
    split at e
    · rename_i hz
      cases (Option.some.inj e)
      exact op_catL pins s σ H _ _ v u Q I rx ry ⟨pa, pb, va, vb, rfl, rfl, L.fro.seq sa, L.fro.seq sb, by rw [← la.length, ← lb.length]; exact hz, fun p hp => h.lstN L (la.append lb) hp⟩
    · cases e
  · cases rep_int ra; cases rep_int rb
    cases (Option.some.inj e)
    exact op_sub pins s σ H _ _ v u Q I rx ry ⟨_, _, rfl, rfl, h.same L (.int _)⟩
  · cases rep_int ra; cases rep_int rb
    split at e
    · rename_i hz
      cases (Option.some.inj e)
      exact op_mul pins s σ H _ _ v u Q I rx ry ⟨_, _, rfl, rfl, hz, h.same L (.int _)⟩
    · cases e
  · rename_i xs k
    obtain ⟨pa, va, rfl, sa, la⟩ := rep_tup ra
    cases rep_int rb
    split at e
    · rename_i hz
      obtain ⟨h1, h2, h3, h4⟩ := hz
      cases (Option.some.inj e)
      by_cases hk0 : k = 0
      · subst hk0
        cases rx
        refine tup_mul0 I ry (same_sqT L.fro sa) (fun e => ?_) fun p hp => ?_
        · subst e
          have : xs = [] := List.eq_nil_of_length_eq_zero la.length
          subst this
          simp at h4
        · have e : (List.replicate (0 : Int).toNat xs).flatten = [] := by simp
          rw [e] at h
          exact h.tupN L .nil hp
      by_cases hk : k = 1
      · subst hk
        cases rx
        refine tup_mul1 I ry (same_sqT L.fro sa) ?_
        have e : (List.replicate (1 : Int).toNat xs).flatten = xs := by simp
        rw [e] at h
        exact h.same L (Rep.tup sa la)
      · refine op_repT pins s σ H _ _ v u Q I rx ry ⟨pa, k, va, rfl, rfl, same_sqT L.fro sa, fun e => ?_, by omega, h2, by rw [← la.length]; exact h3, fun p hp => h.tupN L (la.flat _) hp⟩
        subst e
        have : xs = [] := List.eq_nil_of_length_eq_zero la.length
        subst this
        simp at h4
    · cases e
  · rename_i xs k
    obtain ⟨pa, va, rfl, sa, la⟩ := rep_lst ra
    cases rep_int rb
    split at e
    · rename_i hz
      cases (Option.some.inj e)
      exact op_repL pins s σ H _ _ v u Q I rx ry ⟨pa, k, va, rfl, rfl, L.fro.seq sa, by omega, by omega, by rw [← la.length]; exact hz.2.2, fun p hp => h.lstN L (la.flat _) hp⟩
    · cases e
  · cases rep_int ra; cases rep_int rb
    split at e
    · rename_i hz
      cases (Option.some.inj e)
      exact op_fdiv pins s σ H _ _ v u Q I rx ry ⟨_, _, rfl, rfl, hz, h.same L (.int _)⟩
    · cases e
  · cases rep_int ra; cases rep_int rb
    split at e
    · rename_i hz
      cases (Option.some.inj e)
      exact op_mod pins s σ H _ _ v u Q I rx ry ⟨_, _, rfl, rfl, hz, h.same L (.int _)⟩
    · cases e
  · cases rep_int ra; cases rep_int rb
    split at e
    · rename_i hz
      cases (Option.some.inj e)
      exact op_pow pins s σ H _ _ v u Q I rx ry ⟨_, _, rfl, rfl, hz, h.same L (.int _)⟩
    · cases e
  · cases e

theorem shaped_of {d : D} (h1 : d.pl = true) (h2 : d.dep ≤ 64) : SeqAt.shaped d.py = true := by
  unfold SeqAt.shaped
  rw [D.py_lay d h1, D.py_dep d h1, decide_eq_true h2]
  rfl
theorem okEq_iff {a b : D} : okEq a b = true ↔ (a.pl = true ∧ b.pl = true ∧ a.dep ≤ 64 ∧ b.dep ≤ 64) := by
  unfold okEq
  simp only [Bool.and_eq_true, decide_eq_true_eq, and_assoc]
theorem op_ltD (hu : X.A.units + 64 < cLine) : OpR X (compareOp .Lt) (fun x y H Q => ∃ d e, Dp X.K H x d ∧ Dp X.K H y e ∧ PySem.W.alike d e = true ∧ d ≠ .none ∧ d.depth ≤ 64 ∧ Q (.bl (PySem.W.dataLt d e)) H) := by
  intro pins s σ H x y v u Q I rx ry h
  obtain ⟨d, e, hd, he, ha, hn, hz, q⟩ := h
  obtain ⟨as, r1⟩ := Dp.reads I d x v hd rx
  obtain ⟨bs, r2⟩ := Dp.reads I e y u he ry
  exact PySem.W.lt_data r1 r2 ha hn (by have := Nat.min_le_left d.depth e.depth; omega) ⟨.bl _, H, I, rfl, q⟩
theorem op_cmpE (o : CmpOp) (hu : X.A.units + 64 < cLine) : OpR X (compareOp o) (r2P (gx X ca fld) Wx (fun a b m => opt (cmpD o a b) m)) := by
  intro pins s σ H x y v u Q I rx ry h
  obtain ⟨F, μ, m, σ', a, b, L, ra, rb, h⟩ := h
  obtain ⟨d, e, h⟩ := opt_of h
  unfold cmpD at e
  split at e
  · cases rep_int ra; cases rep_int rb
    cases (Option.some.inj e)
    exact op_lt pins s σ H _ _ v u Q I rx ry ⟨_, _, rfl, rfl, h.same L (.bl _)⟩
  · cases rep_int ra; cases rep_int rb
    cases (Option.some.inj e)
    exact op_le pins s σ H _ _ v u Q I rx ry ⟨_, _, rfl, rfl, h.same L (.bl _)⟩
  · cases rep_int ra; cases rep_int rb
    cases (Option.some.inj e)
    exact op_gt pins s σ H _ _ v u Q I rx ry ⟨_, _, rfl, rfl, h.same L (.bl _)⟩
  · cases rep_int ra; cases rep_int rb
    cases (Option.some.inj e)
    exact op_ge pins s σ H _ _ v u Q I rx ry ⟨_, _, rfl, rfl, h.same L (.bl _)⟩
  · split at e
    · rename_i xs ys hk
      unfold ltOk at hk
      simp only [Bool.and_eq_true, decide_eq_true_eq] at hk
      obtain ⟨⟨⟨h1, h2⟩, h3⟩, h4⟩ := hk
      cases (Option.some.inj e)
      refine op_ltD hu pins s σ H _ _ v u Q I rx ry ⟨_, _, Rep.dp L.fro h1 ra, Rep.dp L.fro h2 rb, h4, by rw [D.py]; simp, by rw [D.py_dep _ h1]; omega, ?_⟩
      exact h.same L (.bl _)
    · cases e
  · split at e
    · rename_i hk
      obtain ⟨h1, h2, h3, h4⟩ := okEq_iff.mp hk
      cases (Option.some.inj e)
      refine op_eqD hu pins s σ H _ _ v u Q I rx ry ⟨_, _, Rep.dp L.fro h1 ra, Rep.dp L.fro h2 rb, shaped_of h1 h3, shaped_of h2 h4, ?_⟩
      rw [D.py_eqv _ _ h1 h2]
      exact h.same L (.bl _)
    · cases e
  · split at e
    · rename_i hk
      obtain ⟨h1, h2, h3, h4⟩ := okEq_iff.mp hk
      cases (Option.some.inj e)
      refine op_neD hu pins s σ H _ _ v u Q I rx ry ⟨_, _, Rep.dp L.fro h1 ra, Rep.dp L.fro h2 rb, shaped_of h1 h3, shaped_of h2 h4, ?_⟩
      rw [D.py_eqv _ _ h1 h2]
      exact h.same L (.bl _)
    · cases e
  · cases rep_non rb
    cases (Option.some.inj e)
    refine op_isN pins s σ H _ _ v u Q I rx ry ⟨rfl, ?_⟩
    rw [rep_non_iff ra]
    exact h.same L (.bl _)
  · cases rep_non rb
    cases (Option.some.inj e)
    refine op_notN pins s σ H _ _ v u Q I rx ry ⟨rfl, ?_⟩
    rw [rep_non_iff ra]
    exact h.same L (.bl _)
  · cases rep_bl ra; cases rep_bl rb
    cases (Option.some.inj e)
    exact op_isBl pins s σ H _ _ v u Q I rx ry ⟨_, _, rfl, rfl, h.same L (.bl _)⟩
  · cases rep_bl ra; cases rep_bl rb
    cases (Option.some.inj e)
    exact op_notBl pins s σ H _ _ v u Q I rx ry ⟨_, _, rfl, rfl, h.same L (.bl _)⟩
  · cases e

/-! ### handles -/
/-- what a handle's object shows -/
def View (K : PySem.W.Frag) (F : Hp) (μ : List Addr) (H : Hp) (c : D) (v : V) : Prop := match c with
  | .lst xs => ∃ p vs, v = .ref p ∧ SqL K H p vs ∧ Reps K F μ xs vs
  | .tup xs => ∃ p vs, v = .ref p ∧ SqT K H p vs ∧ Reps K F μ xs vs
  | .dic kvs => ∃ p, v = .ref p ∧ ConD K F μ kvs p (H p)
  | .loc _ => False
  | c => Rep K F μ c v
theorem con_view {K : PySem.W.Frag} {F : Hp} {μ : List Addr} {H : Hp} {c : D} {p : Addr} (h : Con K F μ c p (H p)) : View K F μ H c (.ref p) := by
  cases c with
  | lst xs =>
    obtain ⟨vs, h1, h2⟩ := h
    exact ⟨p, vs, rfl, SqL.of h1, h2⟩
  | dic kvs => exact ⟨p, rfl, h⟩
  | _ => exact h.elim
theorem view_of {G : Gs} {F : Hp} {μ : List Addr} {m : Ms} {σ : L2.St} {H : Hp} {w0 : Wd} {h : HV} {v : V} {c : D} (L : Lk G.K ⟨F, μ, m, σ, H⟩) (r : rH G w0 ⟨F, μ, m, σ, H⟩ h v) (e : rd h m = some c) : View G.K F μ H c v := by
  cases h with
  | sl i =>
    have r : σ[i]? = some (some v) := r
    have go : ∀ c', (m.ρ[i]? = some (Sl.ow c') ∨ m.ρ[i]? = some (Sl.rl c')) → c' = c → View G.K F μ H c v := fun c' hc e => by
      subst e
      obtain ⟨p, h1, h2, h3⟩ := L.own i c' hc
      have h1 : σ[i]? = some (some (V.ref p)) := h1
      rw [r] at h1
      cases h1
      exact con_view h3
    unfold rd at e
    simp only at e
    split at e
    · rename_i c' hc
      exact go _ (.inl hc) (Option.some.inj e)
    · rename_i c' hc
      exact go _ (.inr hc) (Option.some.inj e)
    · cases e
  | val d =>
    have r : Rep G.K F μ d v := r
    cases d with
    | loc n =>
      cases r with
      | loc hn =>
        obtain ⟨p, h1, h2, h3⟩ := L.sto n c e
        have h1 : μ[n]? = some p := h1
        rw [hn] at h1
        cases h1
        exact con_view h3.con
    | tup xs =>
      cases (Option.some.inj e)
      obtain ⟨a, vs, h1, h2, h3⟩ := rep_tup r
      exact ⟨a, vs, h1, same_sqT L.fro h2, h3⟩
    | lst xs =>
      cases (Option.some.inj e)
      obtain ⟨a, vs, h1, h2, h3⟩ := rep_lst r
      exact ⟨a, vs, h1, L.fro.seq h2, h3⟩
    | dic kvs =>
      cases (Option.some.inj e)
      cases r with
      | dic h1 h2 h3 => exact ⟨_, rfl, .inr (.inr ⟨_, _, rfl, L.fro _ _ h1, h2, h3⟩)⟩
    | non => cases (Option.some.inj e); exact r
    | bl _ => cases (Option.some.inj e); exact r
    | int _ => cases (Option.some.inj e); exact r
    | str _ => cases (Option.some.inj e); exact r
theorem tup_handle {G : Gs} {F : Hp} {μ : List Addr} {m : Ms} {σ : L2.St} {H : Hp} {w0 : Wd} {h : HV} {v : V} {xs : List D} (L : Lk G.K ⟨F, μ, m, σ, H⟩) (rh : rH G w0 ⟨F, μ, m, σ, H⟩ h v) (e1 : rd h m = some (.tup xs)) : Rep G.K F μ (.tup xs) v := by
  cases h with
  | sl i =>
    exfalso
    unfold rd at e1
    simp only at e1
    split at e1
    · rename_i c' hc
      cases (Option.some.inj e1)
      obtain ⟨p, _, _, h3⟩ := L.own i _ (.inl hc)
      exact h3
    · rename_i c' hc
      cases (Option.some.inj e1)
      obtain ⟨p, _, _, h3⟩ := L.own i _ (.inr hc)
      exact h3
    · cases e1
  | val d' =>
    have rh : Rep G.K F μ d' v := rh
    have ed : d' = .tup xs := by
      cases d' with
      | loc n =>
        exfalso
        obtain ⟨p, _, _, h3⟩ := L.sto n _ e1
        exact h3
      | _ => exact Option.some.inj e1
    subst ed
    exact rh
theorem view_seq {K : PySem.W.Frag} {F : Hp} {μ : List Addr} {H : Hp} {c : D} {v : V} {xs : List D} (h : View K F μ H c v) (e : seqOf c = some xs) : ∃ p vs, v = .ref p ∧ (SqL K H p vs ∨ SqT K H p vs) ∧ Reps K F μ xs vs := by
  cases c with
  | lst ys =>
    cases (Option.some.inj e)
    obtain ⟨p, vs, h1, h2, h3⟩ := h
    exact ⟨p, vs, h1, .inl h2, h3⟩
  | tup ys =>
    cases (Option.some.inj e)
    obtain ⟨p, vs, h1, h2, h3⟩ := h
    exact ⟨p, vs, h1, .inr h2, h3⟩
  | _ => cases e
theorem reps_empty {K : PySem.W.Frag} {F : Hp} {μ : List Addr} {xs : List D} {vs : List V} (r : Reps K F μ xs vs) : vs.isEmpty = xs.isEmpty := by
  cases r <;> rfl

def rHP {α β : Type} (G : Gs) (Wx : WX) (rel : Wd → Wd → α → β → Prop) (g : HV → Ms → R α) : V → Hp → (β → Hp → Prop) → Prop := fun x H Q => ∃ F μ m σ w0 h, Lk G.K ⟨F, μ, m, σ, H⟩ ∧ rH G w0 ⟨F, μ, m, σ, H⟩ h x ∧ Fin G Wx rel ⟨F, μ, m, σ, H⟩ (g h m) Q
/-- the answer of a reading, by its content -/
theorem opt_bind {α β : Type} {G : Gs} {Wx : WX} {rel : Wd → Wd → α → β → Prop} {w : Wd} {o : Option D} {f : D → Option α} {m : Ms} {Q : β → Hp → Prop} (h : Fin G Wx rel w (opt (o.bind f) m) Q) : ∃ c a, o = some c ∧ f c = some a ∧ Fin G Wx rel w (.ok a m) Q := by
  cases o with
  | none => exact h.elim
  | some c =>
    cases e : f c with
    | none =>
      have h : Fin G Wx rel w (opt (f c) m) Q := h
      rw [e] at h
      exact h.elim
    | some a =>
      have h : Fin G Wx rel w (opt (f c) m) Q := h
      rw [e] at h
      exact ⟨c, a, rfl, e, h⟩
theorem tru_view {F : Hp} {μ : List Addr} {H : Hp} {c : D} {v : V} {k : Bool} (h : View X.K F μ H c v) (e : truth c = some k) : TruV X.K v H k := by
  cases c with
  | non => cases rep_non h; cases (Option.some.inj e); rfl
  | bl b => cases rep_bl h; cases (Option.some.inj e); rfl
  | int i => cases rep_int h; cases (Option.some.inj e); rfl
  | str y =>
    cases rep_str h
    unfold truth at e
    simp only at e
    split at e
    · rename_i hz
      cases (Option.some.inj e)
      exact ⟨hz, by
        rw [Bool.eq_iff_iff]
        simp⟩
    · cases e
  | tup xs =>
    obtain ⟨p, vs, rfl, h2, h3⟩ := h
    cases (Option.some.inj e)
    exact .inr (.inl ⟨vs, h2, by rw [reps_empty h3]⟩)
  | lst xs =>
    obtain ⟨p, vs, rfl, h2, h3⟩ := h
    cases (Option.some.inj e)
    exact .inl ⟨vs, h2, by rw [reps_empty h3]⟩
  | dic _ => cases e
  | loc _ => cases e

/-! ### subscripts, slices -/
theorem atL_get {K : PySem.W.Frag} {F : Hp} {μ : List Addr} {xs : List D} {vs : List V} {i : Int} {d : D} (r : Reps K F μ xs vs) (e : atL xs i = some d) : ∃ v, atI vs i = some v ∧ Rep K F μ d v := by
  unfold atL at e
  unfold atI at e ⊢
  rw [← r.length]
  cases q : ixN xs.length i with
  | none => rw [q] at e; cases e
  | some j =>
    rw [q] at e
    exact r.get e
def r2HP (G : Gs) (Wx : WX) (g : HV → D → Ms → R D) : R2 := fun x y H Q => ∃ F μ m σ w0 h b, Lk G.K ⟨F, μ, m, σ, H⟩ ∧ rH G w0 ⟨F, μ, m, σ, H⟩ h x ∧ Rep G.K F μ b y ∧ Fin G Wx (rD G) ⟨F, μ, m, σ, H⟩ (g h b m) Q
theorem ix_E (hu : X.A.units + 64 < cLine) : IxR X (r2HP (gx X ca fld) Wx (fun h b m => opt ((rd h m).bind (idxD · b)) m)) := by
  intro value slice pins s σ H x y v u Q I rx ry h hs
  obtain ⟨F, μ, m, σ', w0, hv, b, L, rh, rb, h⟩ := h
  obtain ⟨c, d, e1, e2, h'⟩ := opt_bind h
  clear h
  have vw := view_of L rh e1
  unfold idxD at e2
  split at e2
  · cases rep_int rb
    obtain ⟨p, vs, rfl, h2, h3⟩ := vw
    obtain ⟨z, hz, rz⟩ := atL_get h3 e2
    exact ix_tup value slice pins s σ H _ _ v u Q I rx ry ⟨p, vs, _, z, rfl, rfl, h2, hz, h'.same L rz⟩ hs
  · cases rep_int rb
    obtain ⟨p, vs, rfl, h2, h3⟩ := vw
    obtain ⟨z, hz, rz⟩ := atL_get h3 e2
    exact ix_list value slice pins s σ H _ _ v u Q I rx ry ⟨p, vs, _, z, rfl, rfl, h2, hz, h'.same L rz⟩ hs
  · rename_i kvs
    split at e2
    · rename_i hk
      rw [Bool.and_eq_true] at hk
      obtain ⟨p, rfl, cd⟩ := vw
      obtain ⟨es, g1, g2, g3⟩ := cd.u
      have : v = Value.ref p := rx
      subst this
      exact ix_dictU hu I L.fro g1 g2 g3 hk.1 hk.2 rb ry e2 (fun v r => h'.same L r) hs
    · cases e2
  · cases e2
theorem slcL_rep {K : PySem.W.Frag} {F : Hp} {μ : List Addr} {xs : List D} {vs : List V} (r : Reps K F μ xs vs) (lo hi : Option Int) : Reps K F μ (slcL xs lo hi) (cutV vs lo hi) := by
  unfold slcL cutV
  rw [r.length]
  exact (r.drop _).take _
theorem sl_E : SlR X (fun x lo hi H Q => rHP (gx X ca fld) Wx (rD (gx X ca fld)) (fun h m => opt ((rd h m).bind (slcD · lo hi)) m) x H Q) := by
  intro pins s σ H x v vl vu lo hi sl Q I rx hs hl hh h
  obtain ⟨F, μ, m, σ', w0, hv, L, rh, h⟩ := h
  obtain ⟨c, d, e1, e2, h⟩ := opt_bind h
  have vw := view_of L rh e1
  unfold slcD at e2
  split at e2
  · rename_i xs
    cases (Option.some.inj e2)
    obtain ⟨p, vs, rfl, h2, h3⟩ := vw
    refine sl_tupA pins s σ H _ v vl vu lo hi sl Q I rx hs hl hh ⟨p, vs, rfl, h2, fun q => ?_, fun _ p hp => h.tupN L (slcL_rep h3 lo hi) hp⟩
    have e : slcL xs lo hi = xs := by
      unfold slcL
      rw [← h3.length] at q
      rw [q.1, q.2, List.drop_zero, Nat.sub_zero, List.take_length]
    rw [e] at h
    have rh' : Rep X.K F μ (.tup xs) (.ref p) := tup_handle L rh e1
    exact h.same L rh'
  · rename_i xs
    cases (Option.some.inj e2)
    obtain ⟨p, vs, rfl, h2, h3⟩ := vw
    exact sl_list pins s σ H _ v vl vu lo hi sl Q I rx hs hl hh ⟨p, vs, rfl, h2, fun p hp => h.lstN L (slcL_rep h3 lo hi) hp⟩
  · cases e2
end
end Ev

set_option Elab.async false
set_option linter.all false
set_option maxRecDepth 100000
set_option autoImplicit false
set_option maxHeartbeats 4000000
/-! Ev3c: c[::-1], c a tuple or a list. -/
namespace HT
open PySem PySem.Spec PyProof.Rows
section
variable {prog : Program} {w : World} {A : Around} {E : Value → Shared → Prop} {s : Shared}
theorem ev_adjust_rev (n : Nat) : Builtin.Slice.sliceAdjust none none (-1) (n : Int) = ((n : Int) - 1, -1) := by
  unfold Builtin.Slice.sliceAdjust
  have h1 : ((-1 : Int) < 0) := by omega
  simp only [h1, if_true]
theorem ev_places_rev (n : Nat) : Builtin.Slice.slicePlaces ((n : Int) - 1) (-1) (-1) = n := by
  unfold Builtin.Slice.slicePlaces
  have h1 : ¬ ((-1 : Int) > 0) := by omega
  simp only [h1, if_false]
  have h2 : (- -1 : Int) = 1 := by omega
  rw [h2, Int.ediv_one]
  split <;> omega
theorem ev_sliceApplied_rev {sl : Addr} {vs : Value} {n : Nat} {Q : Int × Int × Nat → Shared → Prop} (hs : s.heap.IsSliceOf sl .none .none vs) (ps : IsPart vs (some (-1)))
    (h : Q ((n : Int) - 1, -1, n) s) : wpAny (model prog w) A (Builtin.Slice.sliceApplied (.ref sl) (pure (n : Int))) Q E s := by
  obtain ⟨os, hos, hcs, hds⟩ := id hs
  unfold Builtin.Slice.sliceApplied Builtin.Slice.sliceFields
  refine wpAny_bind (wpAny_bind (wpAny_field hos hds (x := .none) rfl (wpAny_bind (wpAny_field hos hds (x := .none) rfl (wpAny_bind (wpAny_field hos hds (x := vs) rfl (wpAny_pure ?_)))))))
  refine wpAny_bind (slicePart_ ps ?_)
  show wpAny _ _ (if ((-1 : Int) == 0) = true then _ else _) _ _ s
  rw [if_neg (by decide)]
  refine wpAny_bind (slicePart_none (wpAny_bind (slicePart_none (wpAny_bind (wpAny_pure ?_)))))
  show wpAny _ _ (match Builtin.Slice.sliceAdjust none none (-1) (n : Int) with | (lo, hi) => pure (lo, (-1 : Int), Builtin.Slice.slicePlaces lo hi (-1))) _ _ s
  rw [ev_adjust_rev n]
  show wpAny _ _ (pure ((n : Int) - 1, (-1 : Int), Builtin.Slice.slicePlaces ((n : Int) - 1) (-1) (-1))) _ _ s
  rw [ev_places_rev]
  exact wpAny_pure h
theorem ev_pick_rev (xs : Array Value) : ((List.range xs.size).filterMap fun (m : Nat) => xs[((xs.size : Int) - 1 + (m : Int) * -1).toNat]?).toArray = xs.toList.reverse.toArray := by
  have e : (fun (m : Nat) => xs[((xs.size : Int) - 1 + (m : Int) * -1).toNat]?) = (fun x => xs[x]?) ∘ fun m => xs.size - 1 - m := by
    funext m
    have : ((xs.size : Int) - 1 + (m : Int) * -1).toNat = xs.size - 1 - m := by omega
    show xs[((xs.size : Int) - 1 + (m : Int) * -1).toNat]? = xs[xs.size - 1 - m]?
    rw [this]
  rw [e, ← List.filterMap_map, ← PySem.W.krv_sliceRange, ← PySem.W.krv_pick]
  rfl
theorem ev_getItem_tuple_rev {t sl : Addr} {items : Array Value} {vs : Value} {Q : Value → Shared → Prop} (ht : IsTup s.heap t items) (hs : s.heap.IsSliceOf sl .none .none vs) (ps : IsPart vs (some (-1)))
    (h : Q (.ref s.heap.objs.size) { s with heap := s.heap.push { cls := .type "tuple", data := .seq items.toList.reverse.toArray } })
    (hsz : items.size ≤ sizeLine) : wpAny (model prog w) A (getItem (.ref t) (.ref sl)) Q E s := by
  have htake : sizeOk (.seq items.toList.reverse.toArray) := by
    show items.toList.reverse.toArray.size ≤ sizeLine
    rw [List.size_toArray, List.length_reverse, Array.length_toList]
    exact hsz
  obtain ⟨os, hos, hcs, hds⟩ := id hs
  have hTs : s.TypeIs (.ref sl) "slice" := ⟨os, hos, hcs⟩
  unfold getItem
  try with_reducible refine wpAny_holding ?_
  first | refine wpAny_bind (wpAny_pure ?_) | skip
  refine wpAny_bind (wpAny_sequenceKey ht.typeIs (by decide) ?_)
  refine wpAny_bind (wpAny_callSpecial?_slot (name := Str.ofString "__getitem__") ht.typeIs PyProof.Rows.slot_tuple_getitem
    (wpAny_call_entry PyProof.Rows.slot_tuple_getitem ht.typeIs entry_tuple_getitem ?_ (args_tuple_getitem _ _)))
  show wpAny _ _ (Builtin.Tuple.tupleItemsOf (.ref t) >>= _) _ _ s
  refine wpAny_bind (tupleItemsOf_ ht ?_)
  refine wpAny_bind (wpAny_typeOf hTs ?_)
  rw [if_pos (by decide)]
  refine wpAny_bind (ev_sliceApplied_rev hs ps ?_)
  have hno : ¬ ((((items.size : Int) - 1) == 0 && (-1 : Int) == 1 && items.size == items.size) = true) := by
    intro q
    rw [Bool.and_eq_true, Bool.and_eq_true] at q
    exact absurd q.1.2 (by decide)
  show wpAny _ _ (if (((items.size : Int) - 1) == 0 && (-1 : Int) == 1 && items.size == items.size) = true then _ else _) _ _ s
  rw [if_neg hno, ev_pick_rev]
  first
    | exact wpAny_bind (m := Builtin.Tuple.tupleExact _) (wpAny_newObj_type (wpAny_pure ⟨_, rfl, wpAny_pure h⟩) htake)
    | exact wpAny_bind (m := Builtin.Tuple.tupleExact _) (wpAny_newObj_type (wpAny_bind (wpAny_pure (wpAny_pure ⟨_, rfl, wpAny_pure h⟩))) htake)
    | exact wpAny_bind (wpAny_bind (m := Builtin.Tuple.tupleExact _) (wpAny_newObj_type (wpAny_pure (wpAny_pure ⟨_, rfl, wpAny_pure h⟩)) htake))
    | exact wpAny_bind (wpAny_bind (m := Builtin.Tuple.tupleExact _) (wpAny_newObj_type (wpAny_pure ⟨_, rfl, wpAny_pure h⟩) htake))
end
end HT
namespace Ev
open PySem PySem.Spec PyProof.Rows L2
/-- c[::-1] -/
def tRevA (K : PySem.W.Frag) (te : TE) : TE := fun σ H Q => te σ H fun x H1 => ∃ a xs, x = .ref a ∧ ((SqT K H1 a xs ∧ ∀ p, H1 p = none → Q (.ref p) (upd H1 p (.tup xs.reverse))) ∨ (SqL K H1 a xs ∧ ∀ p, H1 p = none → Q (.ref p) (upd H1 p (.lst xs.reverse))))
section
variable {X : Cx}
theorem pe_revA {e : Expr} {te : TE} {k : Nat} {p1 p2 p3 pos : Pos} (he : PE X e te) : PE X (.Subscript e (.Slice none none (some (.UnaryOp .USub (.Constant (.int 1) k p1) p2)) p3) pos) (tRevA X.K te) := by
  refine ⟨fun pins s σ H Q I h => ?_⟩
  refine Subscript_ (thn (he.run pins s σ H _ I h) fun v s1 ⟨x, H1, I1, r1, q1⟩ => ?_)
  obtain ⟨a, xs, ex, q⟩ := q1
  subst ex
  cases r1
  have hst : PO X (some (.UnaryOp .USub (.Constant (.int 1) k p1) p2)) (tPart (tUn (rU fun i => .int (-i)) (tC (.int 1)))) := po_some (pe_un un_neg pe_int)
  refine wpAny_Slice (thn (po_none.run pins s1 σ H1 (fun o H2 => o = none ∧ H2 = H1) I1 ⟨rfl, rfl⟩) fun vl s2 ⟨l, H2, I2, pl, el, e2⟩ => ?_)
  subst el e2
  refine thn (po_none.run pins s2 σ H2 (fun o H3 => o = none ∧ H3 = H2) I2 ⟨rfl, rfl⟩) fun vu s3 ⟨u, H3, I3, pu, eu, e3⟩ => ?_
  subst eu e3
  refine thn (hst.run pins s3 σ H3 (fun o H4 => o = some (-1) ∧ H4 = H3) I3 ⟨1, rfl, -1, rfl, rfl, rfl⟩) fun vs s4 ⟨o, H4, I4, ps, eo, e4⟩ => ?_
  subst eo e4
  cases pl
  cases pu
  have I5 : Inv X pins σ H4 { s4 with heap := s4.heap.push { cls := .type "slice", data := .fields #[.none, .none, vs] } } := I4.kept (t' := s4.toks) fun b ob q => Heap.get?_push_of_some _ q
  show wpAny (model X.prog X.w) X.A (subscriptTail e (.Slice none none (some (.UnaryOp .USub (.Constant (.int 1) k p1) p2)) p3) (.ref a) (.ref s4.heap.objs.size)) (EP X pins σ Q) X.xe { s4 with heap := s4.heap.push { cls := .type "slice", data := .fields #[.none, .none, vs] } }
  rcases q with ⟨hx, q⟩ | ⟨hx, q⟩
  · obtain ⟨its, r, ht, hz⟩ := I5.tuple hx
    have hlen := r.length
    refine tail_any (ops := [.ref a, .ref s4.heap.objs.size]) ht.typeIs (PyProof.Rows.slot_tuple_getitem.lookup) ?_ (by with_unfolding_all rfl)
    refine HT.ev_getItem_tuple_rev ht (Heap.IsSliceOf.new _ .none .none vs) ps ?_ (by rw [List.size_toArray]; omega)
    refine ⟨.ref _, _, I5.laid (t' := s4.toks) (o := .tup xs.reverse) (fun b ob q => Heap.get?_push_of_some _ q) (Nat.le_refl _) ?_, rfl, q _ (I5.hok.fresh (Nat.le_refl _))⟩
    exact ⟨by rw [List.length_reverse]; omega, _, r.reverse, IsTup.new _ _⟩
  · obtain ⟨its, r, ht, hz⟩ := I5.list hx
    have hlen := r.length
    refine tail_any (ops := [.ref a, .ref s4.heap.objs.size]) ht.isList.typeIs (PySem.slot_list_getitem.lookup) ?_ (by with_unfolding_all rfl)
    refine wpAny_getItem_list_slice ht.isList (Heap.IsSliceOf.new _ .none .none vs) .none .none ps (by decide) ?_ (by rw [List.size_toArray]; omega)
    rw [PySem.W.krv_pick]
    refine ⟨.ref _, _, I5.laid (t' := s4.toks) (o := .lst xs.reverse) (fun b ob q => Heap.get?_push_of_some _ q) (Nat.le_refl _) ?_, rfl, q _ (I5.hok.fresh (Nat.le_refl _))⟩
    exact ⟨by rw [List.length_reverse]; exact hz, _, 0, r.reverse, Heap.get?_push_size _ rfl⟩
end
theorem Reps.reverse {K : PySem.W.Frag} {F : Hp} {μ : List Addr} : ∀ {ds : List D} {vs : List V}, Reps K F μ ds vs → Reps K F μ ds.reverse vs.reverse
  | _, _, .nil => .nil
  | _, _, .cons h r => by
    rw [List.reverse_cons, List.reverse_cons]
    exact (Reps.reverse r).append (.cons h .nil)
end Ev

set_option Elab.async false
set_option linter.all false
set_option maxRecDepth 100000
set_option autoImplicit false
set_option maxHeartbeats 1000000
/-! Ev4: calls of built-ins, methods of lists, stores. -/
namespace Ev
open PySem PySem.Spec PyProof.Rows L2

theorem get_set {α : Type} {l : List α} {i j : Nat} {a b : α} (h : (l.set i a)[j]? = some b) : (j = i ∧ b = a ∧ i < l.length) ∨ (j ≠ i ∧ l[j]? = some b) := by
  by_cases e : i = j
  · subst e
    by_cases hl : i < l.length
    · rw [List.getElem?_set_self hl] at h
      exact .inl ⟨rfl, (Option.some.inj h).symm, hl⟩
    · rw [List.getElem?_eq_none (by simpa using hl)] at h
      cases h
  · rw [List.getElem?_set_ne e] at h
    exact .inr ⟨fun q => e q.symm, h⟩

section
variable {G : Gs} {F : Hp} {μ : List Addr} {m m' : Ms} {σ : L2.St} {H : Hp}
/-- what a store needs to know of who holds what -/
theorem Lk.upd_at {K : PySem.W.Frag} {p : Addr} {o : HO} {x0 : Nat ⊕ Nat} (L : Lk K ⟨F, μ, m, σ, H⟩) (hp : Own ⟨F, μ, m, σ, H⟩ x0 p)
    (len : m'.ρ.length = m.ρ.length) (mul : m'.S.length = m.S.length)
    (val : ∀ (i : Nat) (d : D), m'.ρ[i]? = some (Sl.val d) → m.ρ[i]? = some (Sl.val d))
    (own : ∀ (i : Nat) (c : D), (m'.ρ[i]? = some (Sl.ow c) ∨ m'.ρ[i]? = some (Sl.rl c)) → (x0 = .inl i ∧ Con K F μ c p (some o) ∧ ∃ c0, m.ρ[i]? = some (Sl.ow c0) ∨ m.ρ[i]? = some (Sl.rl c0)) ∨ (x0 ≠ .inl i ∧ (m.ρ[i]? = some (Sl.ow c) ∨ m.ρ[i]? = some (Sl.rl c))))
    (rls : ∀ (i : Nat) (c : D), m.ρ[i]? = some (Sl.rl c) → m'.ρ[i]? = some (Sl.rl c))
    (sto : ∀ (n : Nat) (c : D), m'.S[n]? = some c → (x0 = .inr n ∧ ConL K F μ c p (some o)) ∨ (x0 ≠ .inr n ∧ m.S[n]? = some c)) :
    Lk K ⟨F, μ, m', σ, upd H p o⟩ ∧ Stp ⟨F, μ, m, σ, H⟩ ⟨F, μ, m', σ, upd H p o⟩ := by
  obtain ⟨hF, hM⟩ := L.ownT hp
  have hF : F p = none := hF
  have back : ∀ x q, Own ⟨F, μ, m', σ, upd H p o⟩ x q → Own ⟨F, μ, m, σ, H⟩ x q := by
    intro x q h
    cases x with
    | inr n => exact h
    | inl i =>
      obtain ⟨⟨c, hc⟩, hs⟩ := h
      rcases own i c hc with ⟨_, _, c0, h0⟩ | ⟨_, h0⟩
      · exact ⟨⟨c0, h0⟩, hs⟩
      · exact ⟨⟨c, h0⟩, hs⟩
  refine ⟨⟨fun a u e => ?_, len.trans L.len, L.mul.trans mul.symm, fun i d e => L.val i d (val i d e), fun i c hc => ?_, fun n c hc => ?_, fun a b q h1 h2 => L.inj a b q (back _ _ h1) (back _ _ h2)⟩, ⟨fun _ _ e => e, List.prefix_refl _, fun q u e n => ?_, fun q x h => .inl ⟨x, back _ _ h⟩, fun q u e => .inl (by rw [e]; simp), fun q e => ?_, fun i c h => ⟨rls i c h, rfl⟩⟩⟩
  · have e : F a = some u := e
    show upd H p o a = some u
    rw [upd_ne (fun q => by rw [q, hF] at e; cases e)]
    exact L.fro a u e
  · rcases own i c hc with ⟨e, hcon, c0, h0⟩ | ⟨ne, h0⟩
    · subst e
      obtain ⟨q, h1, h2, h3⟩ := L.own i c0 h0
      have h1 : σ[i]? = some (some (V.ref q)) := h1
      have hs : σ[i]? = some (some (V.ref p)) := hp.2
      rw [hs] at h1
      cases h1
      exact ⟨p, hs, hF, by show Con K F μ c p (upd H p o p); rw [upd_same]; exact hcon⟩
    · obtain ⟨q, h1, h2, h3⟩ := L.own i c h0
      refine ⟨q, h1, h2, ?_⟩
      have hq : q ≠ p := fun e => by
        subst e
        exact ne (L.inj _ _ q hp ⟨⟨c, h0⟩, h1⟩)
      show Con K F μ c q (upd H p o q)
      rw [upd_ne hq]; exact h3
  · rcases sto n c hc with ⟨e, hcon⟩ | ⟨ne, h0⟩
    · subst e
      exact ⟨p, hp, hF, by show ConL K F μ c p (upd H p o p); rw [upd_same]; exact hcon⟩
    · obtain ⟨q, h1, h2, h3⟩ := L.sto n c h0
      refine ⟨q, h1, h2, ?_⟩
      have hq : q ≠ p := fun e => by
        subst e
        exact ne (L.inj _ _ q hp h1)
      show ConL K F μ c q (upd H p o q)
      rw [upd_ne hq]; exact h3
  · have e : H q = some u := e
    show upd H p o q = some u
    rw [upd_ne (fun z => n x0 (by rw [z]; exact hp))]; exact e
  · have e : upd H p o q = none := e
    by_cases z : q = p
    · rw [z, upd_same] at e; cases e
    · rw [upd_ne z] at e; exact e
theorem wr_of {w0 : Wd} {h : HV} {v : V} {ys : List D} (L : Lk G.K ⟨F, μ, m, σ, H⟩) (r : rH G w0 ⟨F, μ, m, σ, H⟩ h v) (hr : ∃ xs, rd h m = some (.lst xs)) (e : wr h (.lst ys) m = .ok () m') :
    ∃ p vs, v = .ref p ∧ H p = some (.lst vs) ∧ (∀ xs, rd h m = some (.lst xs) → Reps G.K F μ xs vs) ∧
      ∀ us, Reps G.K F μ ys us → Lk G.K ⟨F, μ, m', σ, upd H p (.lst us)⟩ ∧ Stp ⟨F, μ, m, σ, H⟩ ⟨F, μ, m', σ, upd H p (.lst us)⟩ := by
  cases h with
  | sl i =>
    have r : σ[i]? = some (some v) := r
    unfold wr at e
    simp only at e
    split at e
    · rename_i xs0 hc
      cases e
      obtain ⟨p, h1, h2, h3⟩ := L.own i (.lst xs0) (.inl hc)
      have h1 : σ[i]? = some (some (V.ref p)) := h1
      rw [r] at h1
      cases h1
      have hl := (List.getElem?_eq_some_iff.mp hc).1
      skip
      · obtain ⟨vs, h4, h5⟩ := h3
        refine ⟨p, vs, rfl, h4, fun xs ex => ?_, fun us ru => L.upd_at (x0 := .inl i) ⟨⟨_, .inl hc⟩, r⟩ (by simp) rfl (fun j d ej => ?_) (fun j c' hj => ?_) (fun j c' hj => ?_) (fun n c' hn => .inr ⟨by simp, hn⟩)⟩
        · simp only [rd, hc] at ex
          cases (Option.some.inj ex)
          exact h5
        · rcases get_set ej with ⟨_, z, _⟩ | ⟨_, z⟩
          · cases z
          · exact z
        · rcases hj with hj | hj
          · rcases get_set hj with ⟨rfl, z, _⟩ | ⟨ne, z⟩
            · cases z
              exact .inl ⟨rfl, ⟨us, rfl, ru⟩, _, .inl hc⟩
            · exact .inr ⟨fun q => ne (Sum.inl.inj q).symm, .inl z⟩
          · rcases get_set hj with ⟨_, z, _⟩ | ⟨ne, z⟩
            · cases z
            · exact .inr ⟨fun q => ne (Sum.inl.inj q).symm, .inr z⟩
        · have ne : i ≠ j := fun q => by
            subst q
            rw [hc] at hj
            cases hj
          show (m.ρ.set i _)[j]? = _
          rw [List.getElem?_set_ne ne]
          exact hj
    · cases e
  | val d =>
    have r : Rep G.K F μ d v := r
    cases d with
    | loc n =>
      cases r with
      | loc hn =>
        rename_i p
        unfold wr at e
        simp only at e
        split at e
        · rename_i hl
          cases e
          obtain ⟨q, h1, h2, h3⟩ := L.sto n m.S[n] (by simp [hl])
          have h1 : μ[n]? = some q := h1
          rw [hn] at h1
          cases h1
          have h3 : ConL G.K F μ m.S[n] p (H p) := h3
          cases hc : m.S[n] with
          | lst xs0 =>
            rw [hc] at h3
            obtain ⟨vs, h4, h5⟩ := h3
            refine ⟨p, vs, rfl, h4, fun xs ex => ?_, fun us ru => L.upd_at (x0 := .inr n) hn rfl (by simp) (fun j d ej => ej) (fun j c' hj => .inr ⟨by simp, hj⟩) (fun _ _ h => h) (fun k c' hk => ?_)⟩
            · have q : m.S[n]? = some (D.lst xs0) := by rw [List.getElem?_eq_getElem hl, hc]
              simp only [rd, q] at ex
              cases (Option.some.inj ex)
              exact h5
            · rcases get_set hk with ⟨rfl, z, _⟩ | ⟨ne, z⟩
              · cases z
                exact .inl ⟨rfl, us, rfl, ru⟩
              · exact .inr ⟨fun q => ne (Sum.inr.inj q).symm, z⟩
          | dic _ =>
            exfalso
            obtain ⟨xs, ex⟩ := hr
            have q : m.S[n]? = some (m.S[n]) := List.getElem?_eq_getElem hl
            rw [hc] at q
            simp only [rd, q] at ex
            cases (Option.some.inj ex)
          | _ => rw [hc] at h3; exact h3.elim
        · cases e
    | _ => cases e
end

theorem reps_ints {K : PySem.W.Frag} {F : Hp} {μ : List Addr} : ∀ {xs : List D} {vs : List V} {l : List Int}, Reps K F μ xs vs → intsD xs = some l → vs = l.map V.int
  | [], _, l, r, e => by
    cases r
    cases (Option.some.inj e)
    rfl
  | .int i :: xs, _, l, r, e => by
    cases r with
    | cons h r =>
      cases rep_int h
      unfold intsD at e
      cases q : intsD xs with
      | none => rw [q] at e; cases e
      | some l' =>
        rw [q] at e
        cases (Option.some.inj e)
        rw [List.map_cons, reps_ints r q]
  | .non :: _, _, _, _, e | .bl _ :: _, _, _, _, e | .str _ :: _, _, _, _, e | .tup _ :: _, _, _, _, e | .lst _ :: _, _, _, _, e | .dic _ :: _, _, _, _, e | .loc _ :: _, _, _, _, e => by cases e
theorem reps_bools {K : PySem.W.Frag} {F : Hp} {μ : List Addr} : ∀ {xs : List D} {vs : List V} {l : List Bool}, Reps K F μ xs vs → boolsD xs = some l → vs = l.map V.bl
  | [], _, l, r, e => by
    cases r
    cases (Option.some.inj e)
    rfl
  | .bl i :: xs, _, l, r, e => by
    cases r with
    | cons h r =>
      cases rep_bl h
      unfold boolsD at e
      cases q : boolsD xs with
      | none => rw [q] at e; cases e
      | some l' =>
        rw [q] at e
        cases (Option.some.inj e)
        rw [List.map_cons, reps_bools r q]
  | .non :: _, _, _, _, e | .int _ :: _, _, _, _, e | .str _ :: _, _, _, _, e | .tup _ :: _, _, _, _, e | .lst _ :: _, _, _, _, e | .dic _ :: _, _, _, _, e | .loc _ :: _, _, _, _, e => by cases e

/-- the type's name in the language -/
def Ty.nm : Ty → Str
  | .int => "int"
  | .bool => "bool"
  | .str => "str"
  | .tuple => "tuple"
  | .list => "list"
def Ty.ty : Ty → String
  | .int => "int"
  | .bool => "bool"
  | .str => "str"
  | .tuple => "tuple"
  | .list => "list"
def Ag.nm : Ag → Str
  | .all => "all"
  | .any => "any"
  | .sum => "sum"
  | .max => "max"
  | .min => "min"
  | .allT => "all"
def B1.nm : B1 → Str
  | .abs => "abs"
  | .int => "int"
  | .bool => "bool"

section
variable {X : Cx} {ca : Nat → Addr} {fld : Nat → List Str} {Wx : WX}

theorem opt_bindf {α β γ : Type} {G : Gs} {rel : Wd → Wd → β → γ → Prop} {w : Wd} {o : Option D} {f : D → Option α} {m : Ms} {g : α → Ms → R β} {Q : γ → Hp → Prop} (h : Fin G Wx rel w ((opt (o.bind f) m).bind g) Q) : ∃ c a, o = some c ∧ f c = some a ∧ Fin G Wx rel w (g a m) Q := by
  cases o with
  | none => exact h.elim
  | some c =>
    cases e : f c with
    | none => simp only [Option.bind_some, e] at h; exact h.elim
    | some xs => simp only [Option.bind_some, e] at h; exact ⟨c, xs, rfl, e, h⟩
theorem lenD_dic {kvs : List (D × D)} {n : Int} (h : lenD (.dic kvs) = some n) : ∃ r, kvs = (.non, .bl true) :: r ∧ n = r.length := by
  unfold lenD at h
  split at h
  · rename_i e; cases e
  · rename_i e; cases e
  · rename_i e; cases e
  · rename_i r e
    cases e
    exact ⟨r, rfl, (Option.some.inj h).symm⟩
  · cases h
theorem call_lenE : CallR X (.builtin "len") (fun xs H Q => ∃ x, xs = [x] ∧ rHP (gx X ca fld) Wx (rD (gx X ca fld)) (fun h m => (opt ((rd h m).bind lenD) m).bind fun n m => .ok (.int n) m) x H Q) := by
  intro pins s σ H xs us Q I rx ⟨x, e, F, μ, m, σ', w0, h, L, rh, hf⟩
  obtain ⟨c, n, e1, e2, hf⟩ := opt_bindf hf
  have vw := view_of L rh e1
  by_cases hd : ∃ kvs, c = .dic kvs
  · obtain ⟨kvs, rfl⟩ := hd
    obtain ⟨r, rfl, rfl⟩ := lenD_dic e2
    subst e
    obtain ⟨p, rfl, cd⟩ := vw
    obtain ⟨es, g1, g2, g3⟩ := cd.u
    rw [Vals.ref1 rx]
    exact u_len I L.fro g1 g2 g3 fun t s' I' => ⟨.int r.length, H, I', ⟨t, rfl⟩, hf.same L (.int _)⟩
  refine call_len pins s σ H xs us Q I rx ⟨x, n.toNat, e, ?_, ?_⟩
  · cases c with
    | str y =>
      cases rep_str vw
      unfold lenD at e2
      simp only at e2
      split at e2
      · rename_i hz
        cases (Option.some.inj e2)
        exact ⟨hz, rfl⟩
      · cases e2
    | tup ys =>
      obtain ⟨p, vs, rfl, h2, h3⟩ := vw
      cases (Option.some.inj e2)
      exact .inr ⟨vs, h2, by simpa using h3.length⟩
    | lst ys =>
      obtain ⟨p, vs, rfl, h2, h3⟩ := vw
      cases (Option.some.inj e2)
      exact .inl ⟨vs, h2, by simpa using h3.length⟩
    | dic kvs => exact absurd ⟨kvs, rfl⟩ hd
    | loc _ => cases e2
    | non => cases e2
    | bl _ => cases e2
    | int _ => cases e2
  · have hn : ((n.toNat : Nat) : Int) = n := by
      have : 0 ≤ n := by
        unfold lenD at e2
        split at e2 <;> first
          | (split at e2 <;> first | (cases (Option.some.inj e2); exact Int.natCast_nonneg _) | cases e2)
          | (cases (Option.some.inj e2); exact Int.natCast_nonneg _)
          | cases e2
      omega
    rw [hn]
    exact hf.same L (.int _)

theorem call_b1E (f : B1) : CallR X (match f with | .abs => .builtin "abs" | .int => .type "int" | .bool => .type "bool") (fun xs H Q => ∃ x, xs = [x] ∧ r1P (gx X ca fld) Wx (fun a m => opt (b1D f a) m) x H Q) := by
  intro pins s σ H xs us Q I rx h
  obtain ⟨x, e, F, μ, m, σ', a, L, ra, h⟩ := h
  subst e
  obtain ⟨d, e, h⟩ := opt_of h
  unfold b1D at e
  split at e
  · cases rep_int ra
    cases (Option.some.inj e)
    exact call_abs pins s σ H _ us Q I rx ⟨_, rfl, h.same L (.int _)⟩
  · cases rep_int ra
    cases (Option.some.inj e)
    exact call_int1 pins s σ H _ us Q I rx (.inl ⟨_, rfl, h.same L (.int _)⟩)
  · cases rep_bl ra
    cases (Option.some.inj e)
    exact call_int1 pins s σ H _ us Q I rx (.inr ⟨_, rfl, h.same L (.int _)⟩)
  · cases rep_int ra
    cases (Option.some.inj e)
    exact call_bool1 pins s σ H _ us Q I rx (.inl ⟨_, rfl, h.same L (.bl _)⟩)
  · cases rep_bl ra
    cases (Option.some.inj e)
    exact call_bool1 pins s σ H _ us Q I rx (.inr ⟨_, rfl, h.same L (.bl _)⟩)
  · cases e

theorem maxOf {l : List Int} {i m : Int} (h : m ∈ i :: l) (hm : ∀ y ∈ i :: l, y ≤ m) : l.foldl max i = m := by
  have ge : ∀ (l : List Int) (i : Int), i ≤ l.foldl max i ∧ (∀ y ∈ l, y ≤ l.foldl max i) ∧ (l.foldl max i = i ∨ l.foldl max i ∈ l) := by
    intro l
    induction l with
    | nil => intro i; exact ⟨Int.le_refl _, fun y h => (nomatch h), .inl rfl⟩
    | cons a l ih =>
      intro i
      obtain ⟨h1, h2, h3⟩ := ih (max i a)
      refine ⟨by show i ≤ l.foldl max (max i a); omega, fun y hy => ?_, ?_⟩
      · show y ≤ l.foldl max (max i a)
        rcases List.mem_cons.mp hy with rfl | hy
        · omega
        · exact h2 y hy
      · show l.foldl max (max i a) = i ∨ l.foldl max (max i a) ∈ a :: l
        rcases h3 with h3 | h3
        · rw [h3]
          by_cases q : a ≤ i
          · exact .inl (by omega)
          · exact .inr (by rw [show max i a = a by omega]; exact List.mem_cons_self)
        · exact .inr (List.mem_cons_of_mem _ h3)
  obtain ⟨h1, h2, h3⟩ := ge l i
  have hle : l.foldl max i ≤ m := by
    rcases h3 with h3 | h3
    · rw [h3]; exact hm i List.mem_cons_self
    · exact hm _ (List.mem_cons_of_mem _ h3)
  have hge : m ≤ l.foldl max i := by
    rcases List.mem_cons.mp h with rfl | h
    · exact h1
    · exact h2 m h
  omega
theorem minOf {l : List Int} {i m : Int} (h : m ∈ i :: l) (hm : ∀ y ∈ i :: l, m ≤ y) : l.foldl min i = m := by
  have ge : ∀ (l : List Int) (i : Int), l.foldl min i ≤ i ∧ (∀ y ∈ l, l.foldl min i ≤ y) ∧ (l.foldl min i = i ∨ l.foldl min i ∈ l) := by
    intro l
    induction l with
    | nil => intro i; exact ⟨Int.le_refl _, fun y h => (nomatch h), .inl rfl⟩
    | cons a l ih =>
      intro i
      obtain ⟨h1, h2, h3⟩ := ih (min i a)
      refine ⟨by show l.foldl min (min i a) ≤ i; omega, fun y hy => ?_, ?_⟩
      · show l.foldl min (min i a) ≤ y
        rcases List.mem_cons.mp hy with rfl | hy
        · omega
        · exact h2 y hy
      · show l.foldl min (min i a) = i ∨ l.foldl min (min i a) ∈ a :: l
        rcases h3 with h3 | h3
        · rw [h3]
          by_cases q : i ≤ a
          · exact .inl (by omega)
          · exact .inr (by rw [show min i a = a by omega]; exact List.mem_cons_self)
        · exact .inr (List.mem_cons_of_mem _ h3)
  obtain ⟨h1, h2, h3⟩ := ge l i
  have hle : m ≤ l.foldl min i := by
    rcases h3 with h3 | h3
    · rw [h3]; exact hm i List.mem_cons_self
    · exact hm _ (List.mem_cons_of_mem _ h3)
  have hge : l.foldl min i ≤ m := by
    rcases List.mem_cons.mp h with rfl | h
    · exact h1
    · exact h2 m h
  omega

theorem pys_tr : ∀ {ys : List D}, ys.all tup1 = true → (D.pys ys).all PyData.truthy = ys.all tupN ∧ ∀ x ∈ D.pys ys, x.fits63
  | [], _ => ⟨rfl, fun x hx => by cases hx⟩
  | y :: ys, h => by
    rw [List.all_cons, Bool.and_eq_true] at h
    obtain ⟨h1, h2⟩ := pys_tr h.2
    cases y with
    | tup zs =>
      have hz : zs.length ≤ 1000 := of_decide_eq_true h.1
      have ln : ∀ zs : List D, (D.pys zs).length = zs.length := fun zs => by
        induction zs with
        | nil => rfl
        | cons a zs ih => rw [D.pys, List.length_cons, List.length_cons, ih]
      refine ⟨?_, fun x hx => ?_⟩
      · rw [D.pys, List.all_cons, List.all_cons, h1, D.py]
        congr 1
        cases zs <;> simp [PyData.truthy, D.pys, tupN]
      · rw [D.pys] at hx
        rcases List.mem_cons.mp hx with q | q
        · rw [q, D.py]
          show ((D.pys zs).length : Int) < 2 ^ 63
          rw [ln]
          omega
        · exact h2 x q
    | _ => cases h.1
theorem call_agE (f : Ag) (hc : X.calm = true) : CallR X (.builtin (match f with | .all => "all" | .any => "any" | .sum => "sum" | .max => "max" | .min => "min" | .allT => "all")) (fun xs H Q => ∃ x, xs = [x] ∧ rHP (gx X ca fld) Wx (rD (gx X ca fld)) (fun h m => opt ((rd h m).bind (agD f)) m) x H Q) := by
  intro pins s σ H xs us Q I rx h
  obtain ⟨x, e, F, μ, m, σ', w0, hv, L, rh, hf⟩ := h
  subst e
  obtain ⟨c, d, e1, e2, h⟩ := opt_bind hf
  clear hf
  have vw := view_of L rh e1
  unfold agD at e2
  cases e3 : lstOf? c with
  | none =>
    rw [e3] at e2
    cases e2
  | some ys =>
    rw [e3] at e2
    have ec : c = .lst ys := by cases c <;> first | (cases (Option.some.inj e3); rfl) | cases e3
    subst ec
    obtain ⟨p, vs, rfl, h2, h3⟩ := vw
    simp only [Option.bind_some] at e2
    cases f with
    | all =>
      simp only at e2
      cases e4 : boolsD ys with
      | none => rw [e4] at e2; cases e2
      | some l =>
        rw [e4] at e2
        cases (Option.some.inj e2)
        exact cr_all hc pins s σ H _ us Q I rx ⟨p, l, rfl, by rw [← reps_bools h3 e4]; exact h2, h.same L (.bl _)⟩
    | any =>
      simp only at e2
      cases e4 : boolsD ys with
      | none => rw [e4] at e2; cases e2
      | some l =>
        rw [e4] at e2
        cases (Option.some.inj e2)
        exact cr_any hc pins s σ H _ us Q I rx ⟨p, l, rfl, by rw [← reps_bools h3 e4]; exact h2, h.same L (.bl _)⟩
    | sum =>
      simp only at e2
      cases e4 : intsD ys with
      | none => rw [e4] at e2; cases e2
      | some l =>
        rw [e4] at e2
        cases (Option.some.inj e2)
        exact cr_sum hc pins s σ H _ us Q I rx ⟨p, l, rfl, by rw [← reps_ints h3 e4]; exact h2, h.same L (.int _)⟩
    | max =>
      simp only at e2
      cases e4 : intsD ys with
      | none => rw [e4] at e2; cases e2
      | some l =>
        rw [e4] at e2
        cases l with
        | nil => cases e2
        | cons i l =>
          cases (Option.some.inj e2)
          refine cr_max hc pins s σ H _ us Q I rx ⟨p, i :: l, rfl, by rw [← reps_ints h3 e4]; exact h2, by simp, fun k hk hm => ?_⟩
          rw [maxOf hk hm] at h
          exact h.same L (.int _)
    | min =>
      simp only at e2
      cases e4 : intsD ys with
      | none => rw [e4] at e2; cases e2
      | some l =>
        rw [e4] at e2
        cases l with
        | nil => cases e2
        | cons i l =>
          cases (Option.some.inj e2)
          refine cr_min hc pins s σ H _ us Q I rx ⟨p, i :: l, rfl, by rw [← reps_ints h3 e4]; exact h2, by simp, fun k hk hm => ?_⟩
          rw [minOf hk hm] at h
          exact h.same L (.int _)
    | allT =>
      simp only at e2
      split at e2
      · rename_i hq
        rw [Bool.and_eq_true] at hq
        cases (Option.some.inj e2)
        cases rx with
        | cons ru rn =>
          cases rn
          obtain ⟨bs, r2⟩ := Dp.reads I (.list (D.pys ys)) (.ref p) _ (.lst h2 (Reps.dp L.fro hq.1 h3)) ru
          cases ru
          obtain ⟨q1, q2⟩ := pys_tr hq.2
          cases r2 with
          | @list a o vs n _ as2 e1 e2 e3 e4 =>
            refine PySem.W.all_list_data (I.ok.hd hc) ⟨o, e1, e2, n, e3⟩ e4 (PyData.plainAll_of_canLay0 _ (D.pys_lay ys hq.1)) q2 fun h' tk kp => ?_
            rw [q1]
            exact ⟨.bl (ys.all tupN), H, I.kept (t' := tk) kp, rfl, h.same L (.bl _)⟩
      · cases e2

theorem seq_bind {α β : Type} {G : Gs} {rel : Wd → Wd → α → β → Prop} {w : Wd} {o : Option D} {m : Ms} {f : List D → Ms → R α} {Q : β → Hp → Prop} (h : Fin G Wx rel w ((opt (o.bind seqOf) m).bind f) Q) : ∃ c xs, o = some c ∧ seqOf c = some xs ∧ Fin G Wx rel w (f xs m) Q := by
  cases o with
  | none => exact h.elim
  | some c =>
    cases e : seqOf c with
    | none => simp only [Option.bind_some, e] at h; exact h.elim
    | some xs => simp only [Option.bind_some, e] at h; exact ⟨c, xs, rfl, e, h⟩
theorem call_tupE : CallR X (.type "tuple") (fun xs H Q => ∃ x, xs = [x] ∧ rHP (gx X ca fld) Wx (rD (gx X ca fld)) (fun h m => (opt ((rd h m).bind seqOf) m).bind fun xs m => .ok (.tup xs) m) x H Q) := by
  intro pins s σ H xs us Q I rx h
  obtain ⟨x, e, F, μ, m, σ', w0, hv, L, rh, hf⟩ := h
  subst e
  obtain ⟨c, ys, e1, e2, h⟩ := seq_bind hf
  clear hf
  have vw := view_of L rh e1
  cases c with
  | lst zs =>
    cases (Option.some.inj e2)
    obtain ⟨p, vs, rfl, h2, h3⟩ := vw
    exact call_tuple_of pins s σ H _ us Q I rx ⟨p, vs, rfl, .inl ⟨h2, fun q hq => h.tupN L h3 hq⟩⟩
  | tup zs =>
    cases (Option.some.inj e2)
    have rh' := tup_handle L rh e1
    obtain ⟨p, vs, rfl, h2, h3⟩ := vw
    exact call_tuple_of pins s σ H _ us Q I rx ⟨p, vs, rfl, .inr ⟨h2, h.same L rh'⟩⟩
  | _ => cases e2
theorem keysOf_case {c : D} {xs : List D} (h : keysOf c = some xs) : seqOf c = some xs ∨ ∃ kvs, c = uD kvs ∧ xs = kvs.map (·.1) := by
  unfold keysOf at h
  split at h
  · exact .inl h
  · exact .inl h
  · exact .inr ⟨_, rfl, (Option.some.inj h).symm⟩
  · cases h
theorem call_lstE (hc : X.calm = true) : CallR X (.type "list") (fun xs H Q => ∃ x, xs = [x] ∧ rHP (gx X ca fld) Wx (rF (gx X ca fld)) (fun h m => (opt ((rd h m).bind keysOf) m).bind fun xs m => .ok (.lst xs) m) x H Q) := by
  intro pins s σ H xs us Q I rx h
  obtain ⟨x, e, F, μ, m, σ', w0, hv, L, rh, hf⟩ := h
  subst e
  obtain ⟨c, ys, e1, e2, h⟩ := opt_bindf hf
  clear hf
  rcases keysOf_case e2 with e2 | ⟨kvs, rfl, rfl⟩
  · obtain ⟨p, vs, rfl, h2, h3⟩ := view_seq (view_of L rh e1) e2
    exact call_list_of pins s σ H _ us Q I rx ⟨p, vs, rfl, h2, fun q hq => h.freshL L h3 hq⟩
  · obtain ⟨p, rfl, cd⟩ := view_of L rh e1
    obtain ⟨es, g1, g2, g3⟩ := cd.u
    rw [Vals.ref1 rx]
    exact u_list (I.ok.hd hc) I g1 g2 g3 fun p ys hp r => h.freshL L r hp

/-! ### isinstance -/
theorem tyx_of {F : Hp} {μ : List Addr} {H : Hp} {d : D} {v : V} (sm : Same F H) (r : Rep X.K F μ d v) (hl : isLoc d = false) :
    ∃ t : String, TyX X.K H v (.type t) ∧ (match d with | .non => t = "NoneType" | .bl _ => t = "bool" | .int _ => t = "int" | .str _ => t = "str" | .tup _ => t = "tuple" | .lst _ => t = "list" | _ => False) := by
  cases r with
  | non => exact ⟨_, .base .non, rfl⟩
  | bl b => exact ⟨_, .base (.bl b), rfl⟩
  | int i => exact ⟨_, .base (.int i), rfl⟩
  | str s => exact ⟨_, .base (.str s), rfl⟩
  | tup h _ =>
    refine ⟨"tuple", ?_, rfl⟩
    rcases same_sqT sm h with (h | ⟨o, h⟩) | ⟨o, its, n, h, hc, _⟩
    · exact .base (.tup h)
    · exact .fTuple h
    · exact .kTuple h hc
  | lst h _ =>
    refine ⟨"list", ?_, rfl⟩
    rcases sm.seq h with (h | ⟨o, h⟩) | ⟨o, its, n, h, hc, _⟩
    · exact .base (.lst h)
    · exact .base (.frz h)
    · exact .kList h hc
  | loc _ => cases hl
  | dic _ _ _ => cases hl
theorem call_isiE (t : Ty) : CallR X (.builtin "isinstance") (fun xs H Q => ∃ x, xs = [x, .ty t.ty] ∧ r1P (gx X ca fld) Wx (fun a m => if isLoc a then .bad else .ok (.bl (isiD a t)) m) x H Q) := by
  refine CallRw call_isi fun xs H Q ⟨x, e, F, μ, m, σ, a, L, ra, h⟩ => ?_
  have h : Fin (gx X ca fld) Wx (rD (gx X ca fld)) ⟨F, μ, m, σ, H⟩ (if isLoc a then .bad else .ok (.bl (isiD a t)) m) Q := h
  cases hl : isLoc a with
  | true => rw [hl] at h; exact h.elim
  | false =>
    rw [hl] at h
    simp only [Bool.false_eq_true, if_false] at h
    obtain ⟨ty, h1, h2⟩ := tyx_of L.fro ra hl
    refine ⟨x, .ty t.ty, .type ty, .type t.ty, isiD a t, e, .ty _, h1, ?_, h.same L (.bl _)⟩
    cases a <;> first
      | (cases h2; cases t <;> first | exact kit_ty (r := true) (by decide +kernel) | exact kit_ty (r := false) (by decide +kernel))
      | exact h2.elim
theorem call_islE (t : Ty) : CallR X (.builtin "isinstance") (fun xs H Q => ∃ x, xs = [x, .ty t.ty] ∧ r1P (gx X ca fld) Wx (fun a m => islM a t m) x H Q) := by
  refine CallRw call_isi fun xs H Q ⟨x, e, F, μ, m, σ, a, L, ra, h⟩ => ?_
  have h : Fin (gx X ca fld) Wx (rD (gx X ca fld)) ⟨F, μ, m, σ, H⟩ (opt ((rd (.val a) m).bind (islD t)) m) Q := h
  obtain ⟨c, b, e1, e2, h⟩ := opt_bind h
  have vw : View X.K F μ H c x := view_of (G := gx X ca fld) (w0 := ⟨F, μ, m, σ, H⟩) L (show rH (gx X ca fld) ⟨F, μ, m, σ, H⟩ ⟨F, μ, m, σ, H⟩ (.val a) x from ra) e1
  unfold islD at e2
  cases hl : isLoc c with
  | true => rw [hl] at e2; cases e2
  | false =>
    rw [hl] at e2
    simp only [Bool.false_eq_true, if_false] at e2
    obtain rfl := Option.some.inj e2
    have tx : ∃ t : String, TyX X.K H x (.type t) ∧ (match c with | .non => t = "NoneType" | .bl _ => t = "bool" | .int _ => t = "int" | .str _ => t = "str" | .tup _ => t = "tuple" | .lst _ => t = "list" | _ => False) := by
      cases c with
      | tup xs =>
        obtain ⟨p, vs, rfl, h, _⟩ := vw
        refine ⟨"tuple", ?_, rfl⟩
        rcases h with (h | ⟨o, h⟩) | ⟨o, its, n, h, hc, _⟩
        · exact .base (.tup h)
        · exact .fTuple h
        · exact .kTuple h hc
      | lst xs =>
        obtain ⟨p, vs, rfl, h, _⟩ := vw
        refine ⟨"list", ?_, rfl⟩
        rcases h with (h | ⟨o, h⟩) | ⟨o, its, n, h, hc, _⟩
        · exact .base (.lst h)
        · exact .base (.frz h)
        · exact .kList h hc
      | loc _ => cases hl
      | dic _ => cases hl
      | non => exact tyx_of L.fro vw hl
      | bl _ => exact tyx_of L.fro vw hl
      | int _ => exact tyx_of L.fro vw hl
      | str _ => exact tyx_of L.fro vw hl
    obtain ⟨ty, h1, h2⟩ := tx
    refine ⟨x, .ty t.ty, .type ty, .type t.ty, isiD c t, e, .ty _, h1, ?_, h.same L (.bl _)⟩
    cases c <;> first
      | (cases h2; cases t <;> first | exact kit_ty (r := true) (by decide +kernel) | exact kit_ty (r := false) (by decide +kernel))
      | exact h2.elim
end
end Ev

set_option Elab.async false
set_option linter.all false
set_option maxRecDepth 100000
set_option autoImplicit false
set_option maxHeartbeats 2000000
/-! Ev4b: sorted(list). -/
namespace Ev
open PySem PySem.Spec PyProof.Rows L2
section
variable {X : Cx} {ca : Nat → Addr} {fld : Nat → List Str} {Wx : WX}
def PRel (u : Value) (b : D × V) : Prop := RelV b.2 u
theorem each_zip {K : PySem.W.Frag} {F : Hp} {μ : List Addr} : ∀ {ys : List D} {vs : List V} {its : List Value}, Reps K F μ ys vs → Vals vs its → PySem.W.EachIs PRel its (ys.zip vs)
  | [], [], _, .nil, r => by cases r; exact .nil
  | y :: ys, v :: vs, _, .cons h t, r => by
    cases r with
    | cons r1 r2 => exact .cons r1 (each_zip t r2)
theorem zip_reps {K : PySem.W.Frag} {F : Hp} {μ : List Addr} : ∀ {ys : List D} {vs : List V}, Reps K F μ ys vs → ∀ b ∈ ys.zip vs, Rep K F μ b.1 b.2 ∧ b.1 ∈ ys
  | [], [], .nil, b, hb => by cases hb
  | y :: ys, v :: vs, .cons h t, b, hb => by
    rw [List.zip_cons_cons] at hb
    rcases List.mem_cons.mp hb with rfl | hb
    · exact ⟨h, by simp⟩
    · obtain ⟨h1, h2⟩ := zip_reps t b hb
      exact ⟨h1, List.mem_cons_of_mem _ h2⟩
theorem zip_fst {K : PySem.W.Frag} {F : Hp} {μ : List Addr} : ∀ {ys : List D} {vs : List V}, Reps K F μ ys vs → (ys.zip vs).map (·.1) = ys
  | [], [], .nil => rfl
  | y :: ys, v :: vs, .cons h t => by rw [List.zip_cons_cons, List.map_cons, zip_fst t]
theorem each_snd : ∀ {l : List (D × V)} {out : List Value}, PySem.W.EachIs PRel out l → Vals (l.map (·.2)) out
  | [], _, h => by cases h; exact .nil
  | b :: l, _, h => by
    cases h with
    | cons h1 t => exact .cons h1 (each_snd t)
theorem reps_of {K : PySem.W.Frag} {F : Hp} {μ : List Addr} : ∀ {l : List (D × V)}, (∀ b ∈ l, Rep K F μ b.1 b.2) → Reps K F μ (l.map (·.1)) (l.map (·.2))
  | [], _ => .nil
  | b :: l, h => .cons (h b (by simp)) (reps_of fun c hc => h c (by simp [hc]))
theorem each_reads {pins : List (Addr × Obj)} {σ : L2.St} {H : Hp} {s : Shared} {F : Hp} {μ : List Addr} (I : Inv X pins σ H s) (e : Same F H) : ∀ {ys : List D} {vs : List V} {its : List Value}, D.pls ys = true → Reps X.K F μ ys vs → Vals vs its →
    PySem.W.EachIs (fun (u : Value) (b : D × V) => ∃ as, PySem.Reads s.heap u b.1.py as) its (ys.zip vs)
  | [], [], _, _, .nil, r => by cases r; exact .nil
  | y :: ys, v :: vs, _, hp, .cons h t, r => by
    rw [D.pls, Bool.and_eq_true] at hp
    cases r with
    | cons r1 r2 => exact .cons (Dp.reads I _ _ _ (Rep.dp e hp.1 h) r1) (each_reads I e hp.2 t r2)
theorem deps_ge : ∀ {xs : List D} {d : D}, d ∈ xs → d.dep ≤ D.deps xs
  | [], d, hd => by cases hd
  | x :: xs, d, hd => by
    rw [D.deps]
    rcases List.mem_cons.mp hd with q | q
    · rw [q]; exact Nat.le_max_left _ _
    · exact Nat.le_trans (deps_ge q) (Nat.le_max_right _ _)
theorem sort_ok {ys : List D} (h : sortOk ys = true) : D.pls ys = true ∧ D.deps ys ≤ 60 ∧ PySem.W.AllAlike (ys.map D.py) ∧ PySem.W.Sortable (ys.map D.py) := by
  unfold sortOk at h
  simp only [Bool.and_eq_true, Bool.or_eq_true, decide_eq_true_eq] at h
  obtain ⟨⟨⟨k1, k2⟩, k3⟩, k4⟩ := h
  refine ⟨k1, k2, ?_, ?_⟩
  · intro d hd d' hd'
    obtain ⟨a, ha, rfl⟩ := List.mem_map.mp hd
    obtain ⟨b, hb, rfl⟩ := List.mem_map.mp hd'
    exact List.all_eq_true.mp (List.all_eq_true.mp k3 a ha) b hb
  · rcases k4 with k4 | k4
    · refine .inl fun d hd => ?_
      obtain ⟨a, ha, rfl⟩ := List.mem_map.mp hd
      have := List.all_eq_true.mp k4 a ha
      cases a with
      | tup zs =>
        cases zs with
        | nil => cases this
        | cons z zs => exact ⟨z.py, D.pys zs, by rw [D.py, D.pys]⟩
      | _ => cases this
    · refine .inr fun d hd => ?_
      obtain ⟨a, ha, rfl⟩ := List.mem_map.mp hd
      have := List.all_eq_true.mp k4 a ha
      have hpl := D.pls_mem k1 a ha
      cases a with
      | tup zs => cases this
      | non => cases this
      | dic _ => simp [D.pl] at hpl
      | loc _ => simp [D.pl] at hpl
      | _ => rw [D.py]; exact ⟨by simp, by simp⟩
/-- sorted(d), d a dict of any keys -/
theorem call_srtU {pins : List (Addr × Obj)} {s : Shared} {σ : L2.St} {H F : Hp} {μ : List Addr} {m : Ms} {a : Addr} {es : Array DictEntry} {kvs : List (D × D)} {Q : VK} (hc : X.calm = true) (hu : X.A.units + 64 < cLine) (I : Inv X pins σ H s) {σ' : L2.St} (L : Lk X.K ⟨F, μ, m, σ', H⟩) (h : H a = some (uHO a es)) (q : Kvs X.K F μ kvs es.toList) (uo : UOk kvs a) (hk : sortOk (kvs.map (·.1)) = true)
    (hf : Fin (gx X ca fld) Wx (rF (gx X ca fld)) ⟨F, μ, m, σ', H⟩ (.ok (.lst (sortL (kvs.map (·.1)))) m) Q) : wpAny (model X.prog X.w) X.A (call (.builtin "sorted") [.ref a]) (EP X pins σ Q) X.xe s := by
  obtain ⟨k1, k2, hal, hso⟩ := sort_ok hk
  obtain ⟨o, ep, ho, hx, hdt⟩ := u_raw I h
  obtain ⟨vs, rk, rv0⟩ := kvs_keys q
  have hl0 := uo.len
  have hes : es.size = kvs.length := by rw [← Array.length_toList, ← q.length]
  have hz : es.size ≤ sizeLine := by rw [hes, sizeLine_eq]; omega
  have hyl : (kvs.map (·.1)).length = kvs.length := List.length_map ..
  have hvl : vs.length = kvs.length := by rw [← rk.length, hyl]
  refine Calls.call_function_entry PyProof.Rows.kind_sorted PyProof.Rows.plain_sorted PyProof.Rows.entry_sorted (PyProof.Rows.args_sorted1 _) ?_
  unfold Builtin.«sorted»
  refine wpAny_bind (m := checkCount "sorted" 1 1 _) (wpAny_pure ?_)
  refine wpAny_bind (PySem.W.kdu_collect (A := X.A.in1) (kdl_raw uo.sys hx hdt) (I.ok.hd hc) ho hz fun h' tk acc hkp it => ?_)
  have ea := items_keys it
  have rv : Vals vs acc.toList := by rw [ea]; exact rv0
  have I1 : Inv X pins σ H { s with heap := h', toks := tk } := I.kept hkp
  have hal2 : acc.toList.length = kvs.length := by rw [← rv.length, hvl]
  refine wpAny_bind (wpAny_newList ?_ (by rw [hal2, sizeLine_eq]; omega))
  have hoL : (h'.push (seqObj "list" acc.toList.toArray 0)).get? h'.objs.size = some (seqObj "list" acc.toList.toArray 0) := Heap.get?_push_size _ rfl
  show wpAny _ _ _ _ _ { s with heap := h'.push (seqObj "list" acc.toList.toArray 0), toks := tk }
  have er : PySem.W.EachIs (fun (v : Value) (b : D × V) => ∃ as, Reads (h'.push (seqObj "list" acc.toList.toArray 0)) v b.1.py as ∧ h'.objs.size ∉ as) acc.toList ((kvs.map (·.1)).zip vs) :=
    (each_reads I1 L.fro k1 rk rv).mono fun v b ⟨as, r⟩ => ⟨as, PyProof.Rows.Reads.keeps (fun b u e => Heap.get?_push_of_some _ e) r, fun hm => by
      obtain ⟨o, e⟩ := PyProof.On.reads_mem_get r _ hm
      exact absurd (Heap.lt_size e) (Nat.lt_irrefl _)⟩
  have hzl : ((kvs.map (·.1)).zip vs).length = kvs.length := by rw [List.length_zip, hyl, hvl, Nat.min_self]
  have zf := zip_fst rk
  have zr := zip_reps rk
  have ae0 : ∀ (z : List (D × V)) (ys : List D), z.map (·.1) = ys → (z.map fun b : D × V => b.1.py) = ys.map D.py := fun z ys e => by
    rw [← e, List.map_map]
    rfl
  have ae := ae0 _ _ zf
  refine wpAny_bind (wpAny_holding (PySem.W.list_sort_data (s := { s with heap := h'.push (seqObj "list" acc.toList.toArray 0), toks := tk }) (enc := fun b : D × V => b.1.py) (R := PRel) hoL (each_zip rk rv) er (by rw [ae]; exact hal) (by rw [ae]; exact hso) (by rw [hzl, sizeLine_eq]; omega) (fun b hb => ?_) fun out h1 h2' => ?_))
  · obtain ⟨_, hm⟩ := zr b hb
    have hd := D.py_dep b.1 (D.pls_mem k1 b.1 hm)
    have := deps_ge hm
    show X.A.units + 1 + 1 + b.1.py.depth < cLine
    omega
  · obtain ⟨e', he'⟩ := PyProof.Rows.sortedHeap_at (vs := acc.toList) (out := out.toArray) hoL
    have hms : (((kvs.map (·.1)).zip vs).mergeSort (PySem.W.dataLe false fun b : D × V => b.1.py)).map (·.1) = sortL (kvs.map (·.1)) := by
      have hm := List.map_mergeSort (r := PySem.W.dataLe false fun b : D × V => b.1.py) (s := PySem.W.dataLe false D.py) (f := fun b : D × V => b.1) (l := (kvs.map (·.1)).zip vs) (fun a _ b _ => rfl)
      rw [zf] at hm
      exact hm
    have hmem : ∀ b ∈ ((kvs.map (·.1)).zip vs).mergeSort (PySem.W.dataLe false fun b : D × V => b.1.py), Rep X.K F μ b.1 b.2 := fun b hb => (zr b (List.mem_mergeSort.mp hb)).1
    have hr := reps_of hmem
    rw [hms] at hr
    have hol : ((((kvs.map (·.1)).zip vs).mergeSort (PySem.W.dataLe false fun b : D × V => b.1.py)).map (·.2)).length ≤ sizeLine := by
      rw [List.length_map, List.length_mergeSort, hzl, sizeLine_eq]
      omega
    have hH : H h'.objs.size = none := I1.hok.fresh (Nat.le_refl _)
    refine wpAny_pure ⟨_, rfl, .ref h'.objs.size, upd H h'.objs.size (.lst ((((kvs.map (·.1)).zip vs).mergeSort (PySem.W.dataLe false fun b : D × V => b.1.py)).map (·.2))), I1.laid (t' := tk) (fun b u e => ?_) (Nat.le_refl _)
      (show ObjOk X.prog X.w _ _ _ (.lst _) from ⟨hol, out, e', each_snd h2', he'⟩), rfl, hf.freshL L hr hH⟩
    have hb : b < h'.objs.size := Heap.lt_size e
    rw [PyProof.Rows.sortedHeap_old (Nat.ne_of_lt hb) (by rw [size_push']; exact Nat.lt_succ_of_lt hb)]
    exact Heap.get?_push_of_some _ e
theorem keysLD_case {c : D} {xs : List D} (h : keysLD c = some xs) : c = .lst xs ∨ ∃ kvs, c = uD kvs ∧ xs = kvs.map (·.1) := by
  unfold keysLD at h
  split at h
  · cases h; exact .inl rfl
  · exact .inr ⟨_, rfl, (Option.some.inj h).symm⟩
  · cases h
theorem call_srtE (hcm : X.calm = true) (hu : X.A.units + 64 < cLine) : CallR X (.builtin "sorted") (fun xs H Q => ∃ x, xs = [x] ∧ rHP (gx X ca fld) Wx (rF (gx X ca fld)) srtM x H Q) := by
  intro pins s σ H xs us Q I rx h
  obtain ⟨x, e, F, μ, m, σ', w0, hv, L, rh, hf⟩ := h
  subst e
  unfold srtM at hf
  cases e1 : rd hv m with
  | none => rw [e1] at hf; exact hf.elim
  | some c =>
    rw [e1] at hf
    cases e2 : keysLD c with
    | none => simp only [Option.bind_some, e2] at hf; exact hf.elim
    | some ys =>
      simp only [Option.bind_some, e2] at hf
      by_cases hk : sortOk ys = true
      · rw [if_pos hk] at hf
        rcases keysLD_case e2 with ec | ⟨kvs, rfl, rfl⟩
        rotate_left
        · obtain ⟨p, rfl, cd⟩ := view_of L rh e1
          obtain ⟨es, g1, g2, g3⟩ := cd.u
          rw [Vals.ref1 rx]
          exact call_srtU (ca := ca) (fld := fld) (Wx := Wx) hcm hu I L g1 g2 g3 hk hf
        subst ec
        obtain ⟨p, vs, rfl, h2, h3⟩ := view_of L rh e1
        unfold sortOk at hk
        simp only [Bool.and_eq_true, Bool.or_eq_true, decide_eq_true_eq] at hk
        obtain ⟨⟨⟨k1, k2⟩, k3⟩, k4⟩ := hk
        obtain ⟨its, rv, hl, hz⟩ := I.list h2
        have hlen := h3.length
        have hzl : (ys.zip vs).length = ys.length := by rw [List.length_zip, hlen, Nat.min_self]
        rw [Vals.ref1 rx]
        have zf := zip_fst h3
        have zr := zip_reps h3
        have ae : ((ys.zip vs).map fun b : D × V => b.1.py) = ys.map D.py := by
          rw [← zf, List.map_map, zf]
          rfl
        have hal : PySem.W.AllAlike ((ys.zip vs).map fun b : D × V => b.1.py) := by
          rw [ae]
          intro d hd d' hd'
          obtain ⟨a, ha, rfl⟩ := List.mem_map.mp hd
          obtain ⟨b, hb, rfl⟩ := List.mem_map.mp hd'
          exact List.all_eq_true.mp (List.all_eq_true.mp k3 a ha) b hb
        have hso : PySem.W.Sortable ((ys.zip vs).map fun b : D × V => b.1.py) := by
          rw [ae]
          rcases k4 with k4 | k4
          · refine .inl fun d hd => ?_
            obtain ⟨a, ha, rfl⟩ := List.mem_map.mp hd
            have := List.all_eq_true.mp k4 a ha
            cases a with
            | tup zs =>
              cases zs with
              | nil => cases this
              | cons z zs => exact ⟨z.py, D.pys zs, by rw [D.py, D.pys]⟩
            | _ => cases this
          · refine .inr fun d hd => ?_
            obtain ⟨a, ha, rfl⟩ := List.mem_map.mp hd
            have := List.all_eq_true.mp k4 a ha
            have hpl := D.pls_mem k1 a ha
            cases a with
            | tup zs => cases this
            | non => cases this
            | dic _ => simp [D.pl] at hpl
            | loc _ => simp [D.pl] at hpl
            | _ => rw [D.py]; exact ⟨by simp, by simp⟩
        refine PySem.W.sorted_data (enc := fun b : D × V => b.1.py) (R := PRel) hl.isList (each_zip h3 rv) (each_reads I L.fro k1 h3 rv) hal hso (by rw [hzl]; rw [hlen]; exact hz) (fun b hb => ?_) fun out h1 h2' => ?_
        · obtain ⟨_, hm⟩ := zr b hb
          have hd := D.py_dep b.1 (D.pls_mem k1 b.1 hm)
          have := deps_ge hm
          show X.A.units + 2 + b.1.py.depth < cLine
          omega
        · obtain ⟨ep, he'⟩ := PyProof.Rows.sortedAll_at s.heap its out.toArray
          have hms : ((ys.zip vs).mergeSort (PySem.W.dataLe false fun b : D × V => b.1.py)).map (·.1) = sortL ys := by
            have hm := List.map_mergeSort (r := PySem.W.dataLe false fun b : D × V => b.1.py) (s := PySem.W.dataLe false D.py) (f := fun b : D × V => b.1) (l := ys.zip vs) (fun a _ b _ => rfl)
            rw [zf] at hm
            exact hm
          have hmem : ∀ b ∈ (ys.zip vs).mergeSort (PySem.W.dataLe false fun b : D × V => b.1.py), Rep X.K F μ b.1 b.2 := fun b hb => (zr b (List.mem_mergeSort.mp hb)).1
          have hr := reps_of hmem
          rw [hms] at hr
          have hol : (((ys.zip vs).mergeSort (PySem.W.dataLe false fun b : D × V => b.1.py)).map (·.2)).length ≤ sizeLine := by
            rw [List.length_map, List.length_mergeSort, hzl, hlen]
            exact hz
          have hH : H (s.heap.objs.size + 1) = none := I.hok.fresh (Nat.le_succ _)
          exact ⟨.ref _, upd H (s.heap.objs.size + 1) (.lst (((ys.zip vs).mergeSort (PySem.W.dataLe false fun b : D × V => b.1.py)).map (·.2))), I.laid (t' := s.toks) (fun _ _ => PyProof.Rows.sortedAll_old) (Nat.le_succ _) ⟨hol, out, ep, each_snd h2', he'⟩, rfl, hf.freshL L hr hH⟩
      · rw [if_neg hk] at hf
        exact hf.elim
end
end Ev

set_option Elab.async false
set_option linter.all false
set_option maxRecDepth 100000
set_option autoImplicit false
set_option maxHeartbeats 2000000
/-! Ev4c: sorted(list) of tuples, the first of them empty. -/
namespace Ev
open PySem PySem.Spec PySem.W PySem.SeqAt PyProof.Rows L2
section
variable {prog : Program} {w : World} {A : Around} {E : Value → Shared → Prop} {s : Shared}
theorem call_tuple_lt {Q : Value → Shared → Prop} {l b : Addr} {items items2 : Array Value} {e r : Nat → Bool} (hl : s.heap.IsTuple l items) (hb : s.heap.IsTuple b items2)
    (he : ∀ j (h1 : j < items.size) (h2 : j < items2.size), EqAt A.in1 s items[j] items2[j] (e j)) (hr : ∀ j (h1 : j < items.size) (h2 : j < items2.size), e j = false → RcLt A.in1 s items[j] items2[j] (r j))
    (h : Q (.bool (firstLt e r (decide (items.size < items2.size)) (List.range (min items.size items2.size)))) s) : wpAny (model prog w) A (call (.builtin "tuple.__lt__") [.ref l, .ref b]) Q E s := by
  obtain ⟨⟨cls, dd, data, sl⟩, ho, hc, n, hd⟩ := id hl
  obtain ⟨⟨cls2, dd2, data2, sl2⟩, ho2, hc2, n2, hd2⟩ := id hb
  simp only at hc hd hc2 hd2
  subst hc hd hc2 hd2
  exact call_meets F.slot_tuple_lt ⟨_, ho, rfl⟩ F.entry_tuple_lt (F.args_tuple_lt_2 _ _) (tuple_ltAt l b items items2 n n2 dd dd2 sl sl2 e r) ⟨ho, ho2, he, hr, h⟩
theorem oneLt_tup {xs ys : List PyData} {a b : Value} {as bs : List Addr} {Q : Bool → Shared → Prop} (ra : Reads s.heap a (.tuple xs) as) (rb : Reads s.heap b (.tuple ys) bs) (h : alike (.tuple xs) (.tuple ys) = true)
    (hu : A.units + min (PyData.tuple xs).depth (PyData.tuple ys).depth < cLine) (hq : Q (dataLt (.tuple xs) (.tuple ys)) s) : wpAny (model prog w) A (oneLt' true a b) Q E s := by
  have hal : alikeAll xs ys = true := by simpa [alike] using h
  cases ra with
  | @tuple l o vs n _ as₁ h1 h2 h3 h4 =>
    cases rb with
    | @tuple l' o' vs' n' _ bs₁ k1 k2 k3 k4 =>
      have n1 : vs.size = xs.length := by simpa using ReadsAll.length _ _ _ h4
      have n2 : vs'.size = ys.length := by simpa using ReadsAll.length _ _ _ k4
      rw [dataLt_tuple, ← firstLt_toks xs ys hal, ← n1, ← n2] at hq
      rw [oneLt'_eq]
      simp only [if_true]
      refine wpAny_bind (wpAny_cRoomFor (room_here hu) ?_)
      refine wpAny_bind (wpAny_callSpecialIfBound?_slot (T := "tuple") ⟨_, h1, h2⟩ F.slot_tuple_lt (call_tuple_lt (e := pairEq xs ys) (r := fun j => dataLt (xs.getD j .none) (ys.getD j .none)) ⟨_, h1, h2, _, h3⟩ ⟨_, k1, k2, _, k3⟩ (fun j j1 j2 => ?_) (fun j j1 j2 hj => ?_) ?_))
      · have := eqAt_alikeAll xs ys A.in1 s vs.toList vs'.toList _ _ h4 k4 hal (room_in hu) j (by simpa using j1) (by simpa using j2)
        simpa using this
      · have := rcLt_alikeAll xs ys A.in1 s vs.toList vs'.toList _ _ h4 k4 hal (room_in hu) j (by simpa using j1) (by simpa using j2) hj
        simpa using this
      · exact wpAny_truthy_bool hq
end
section
variable {M : Model} {A : Around} {E : Value → Shared → Prop} {s : Shared}
theorem mapM_fun {α β : Type} {f : α → Sem β} {g : α → β} : ∀ (l : List α) {Q : List β → Shared → Prop}, (∀ v ∈ l, ∀ (Q' : β → Shared → Prop), Q' (g v) s → wpAny M A (f v) Q' E s) → Q (l.map g) s → wpAny M A (l.mapM f) Q E s
  | [], _, _, h => by rw [List.mapM_nil]; exact wpAny_pure h
  | x :: l, Q, hf, h => by
    rw [List.mapM_cons]
    exact wpAny_bind (hf x (.head _) _ (wpAny_bind (mapM_fun l (Q := fun bs s' => wpAny M A (pure (g x :: bs)) Q E s') (fun v hv => hf v (.tail _ hv)) (wpAny_pure h))))
def fstV (h : Heap) (v : Value) : Option Value := match v with
  | .ref a => match h.get? a with
    | some o => match o.data with
      | .seq xs _ => xs[0]?
      | _ => none
    | none => none
  | _ => none
theorem kindE {vs : List Value} {Q : SortKind → Shared → Prop} (h2 : 2 ≤ vs.length) (hT : ∀ v ∈ vs, ∃ xs as, Reads s.heap v (.tuple xs) as) (h0 : ∀ v, vs.head? = some v → ∃ as, Reads s.heap v (.tuple []) as) (h : Q oneType' s) :
    wpAny M A (keyKind' vs.toArray) Q E s := by
  obtain ⟨v₁, v₂, rest, rfl⟩ : ∃ v₁ v₂ rest, vs = v₁ :: v₂ :: rest := by
    match vs, h2 with
    | [], h2 => simp at h2
    | [_], h2 => simp at h2
    | v₁ :: v₂ :: rest, _ => exact ⟨v₁, v₂, rest, rfl⟩
  have e0 : fstV s.heap v₁ = none := by
    obtain ⟨as, r⟩ := h0 v₁ rfl
    cases r with
    | @tuple l o xs n _ _ h1 h2 h3 h4 =>
      have hz : xs.toList = [] := by
        cases q : xs.toList with
        | nil => rfl
        | cons f fr => rw [q] at h4; cases h4
      unfold fstV
      simp only [h1, h3]
      rw [← Array.getElem?_toList, hz]
      rfl
  rw [keyKind'_eq, List.mapM_toArray, map_eq_pure_bind]
  refine wpAny_bind (wpAny_bind (mapM_fun (g := fstV s.heap) _ (fun v hv Q' hq => ?_) (wpAny_pure ?_)))
  · obtain ⟨xs, as, r⟩ := hT v hv
    rw [kas_first_eq]
    refine wpAny_bind ((looks_reads r).here ?_)
    rw [if_neg (by simp [dataType])]
    cases r with
    | @tuple l o items n _ _ h1 h2 h3 h4 =>
      refine wpAny_bind (listItems_at h1 h3 (wpAny_pure ?_))
      have e : fstV s.heap (.ref l) = items[0]? := by
        unfold fstV
        simp only [h1, h3]
      rw [← e]
      exact hq
  · rw [if_neg (by simp [e0]), if_neg (by simp [e0])]
    rw [oneTypeOnly'_eq, List.mapM_toArray, map_eq_pure_bind]
    refine wpAny_bind (wpAny_bind (wpAny_bind (kas_mapM (r := Value.type "tuple") _ (fun v hv Q' hq => by
      obtain ⟨xs, as, r⟩ := hT v hv
      exact (looks_reads r).here hq) (wpAny_pure ?_))))
    have hall : ((List.map (fun _ => Value.type "tuple") (v₁ :: v₂ :: rest)).toArray.all fun x => x == Value.type "tuple") = true := by
      simp only [List.all_toArray, List.all_map, List.all_eq_true]
      intro _ _
      exact beq_self_eq_true _
    have h0 : (List.map (fun _ => Value.type "tuple") (v₁ :: v₂ :: rest)).toArray[0]? = some (Value.type "tuple") := by simp
    rw [h0]
    simp only [hall, if_true]
    exact wpAny_pure (wpAny_pure h)
end
section
variable {prog : Program} {w : World} {A : Around} {s : Shared}
theorem sortsE {vs : List Value} {ds : List PyData} (e : EachIs (fun v d => ∃ as, Reads s.heap v d as) vs ds) (hal : AllAlike ds) (ht : ∀ d ∈ ds, ∃ xs, d = .tuple xs) (hh : ds.head? = some (.tuple [])) (hu : ∀ d, d ∈ ds → A.units + d.depth < cLine) : SortsAt prog w A s (dataKind s.heap ds) vs := by
  have room : ∀ {d d' : PyData}, d ∈ ds → A.units + min d.depth d'.depth < cLine := fun {d d'} hd => Nat.lt_of_le_of_lt (Nat.add_le_add_left (Nat.min_le_left _ _) _) (hu d hd)
  refine ⟨fun v hv => ?_, oneType', ?_, fun h2 E Q hq => ?_⟩
  · obtain ⟨d, hd, as, r⟩ := e.left v hv
    exact ⟨_, dataKind_some hal hd r⟩
  · intro E x y a b Q ha hb hq
    obtain ⟨d, as, hd, ra, rfl⟩ := dataKind_inv ha
    obtain ⟨d', as', hd', rb, rfl⟩ := dataKind_inv hb
    have hdd := hal d hd d' hd'
    have hroom := room (d' := d') hd
    obtain ⟨xs, rfl⟩ := ht d hd
    obtain ⟨ys, rfl⟩ := ht d' hd'
    rw [keyLt'_oneType]
    exact oneLt_tup ra rb hdd hroom hq
  · refine kindE h2 (fun v hv => ?_) (fun v hv => ?_) hq
    · obtain ⟨d, hd, as, r⟩ := e.left v hv
      obtain ⟨xs, rfl⟩ := ht d hd
      exact ⟨xs, as, r⟩
    · cases e with
      | nil => cases hv
      | cons h t =>
        cases hv
        cases hh
        exact h
end
section
variable {prog : Program} {w : World} {A : Around} {E : Value → Shared → Prop} {s : Shared} {β : Type} {vs : List Value} {bs : List β} {enc : β → PyData} {R : Value → β → Prop}
theorem sorted_dataE {l : Addr} {Q : Value → Shared → Prop} (hl : s.heap.IsList l vs.toArray) (e : EachIs R vs bs) (er : EachIs (fun v b => ∃ as, Reads s.heap v (enc b) as) vs bs) (hal : AllAlike (bs.map enc)) (ht : ∀ d ∈ bs.map enc, ∃ xs, d = .tuple xs) (hh : (bs.map enc).head? = some (.tuple [])) (hL : bs.length ≤ sizeLine)
    (hu : ∀ b, b ∈ bs → A.units + 2 + (enc b).depth < cLine) (h : ∀ out, out.length = bs.length → EachIs R out (bs.mergeSort (dataLe false enc)) → Q (.ref (s.heap.objs.size + 1)) { s with heap := sortedAll s.heap vs (List.toArray out) }) :
    wpAny (model prog w) A (call (.builtin "sorted") [.ref l]) Q E s := by
  have er' : EachIs (fun v b => ∃ as, Reads (sortingHeap (copyHeap s.heap vs) (s.heap.objs.size + 1) vs) v (enc b) as) vs bs := er.mono fun _ _ ⟨as, r⟩ => ⟨as, PyProof.Rows.Reads.keeps (fun _ _ => sorting_copy_old) r⟩
  exact sorted_vals hl (sortsE (s := { s with heap := sortingHeap (copyHeap s.heap vs) (s.heap.objs.size + 1) vs }) (each_map (R := fun v d => ∃ as, Reads (sortingHeap (copyHeap s.heap vs) (s.heap.objs.size + 1) vs) v d as) enc er') hal ht hh (bound_map hu)) (by rw [e.length]; exact hL)
    (h _ (by rw [sortVals_length false rfl]; exact e.length) (sortVals_data false e er' hal))
end
section
variable {X : Cx} {ca : Nat → Addr} {fld : Nat → List Str} {Wx : WX}
theorem call_srtEE (hcm : X.calm = true) (hu : X.A.units + 64 < cLine) : CallR X (.builtin "sorted") (fun xs H Q => ∃ x, xs = [x] ∧ rHP (gx X ca fld) Wx (rF (gx X ca fld)) srtEM x H Q) := by
  intro pins s σ H xs us Q I rx h
  obtain ⟨x, e, F, μ, m, σ', w0, hv, L, rh, hf⟩ := h
  subst e
  unfold srtEM at hf
  cases e1 : rd hv m with
  | none => rw [e1] at hf; exact hf.elim
  | some c =>
    rw [e1] at hf
    cases c with
    | lst ys =>
      simp only at hf
      by_cases hk : sortE ys = true
      · rw [if_pos hk] at hf
        obtain ⟨p, vs, rfl, h2, h3⟩ := view_of L rh e1
        unfold sortE at hk
        simp only [Bool.and_eq_true, decide_eq_true_eq] at hk
        obtain ⟨⟨⟨⟨k1, k2⟩, k3⟩, k4⟩, k5⟩ := hk
        obtain ⟨its, rv, hl, hz⟩ := I.list h2
        have hlen := h3.length
        have hzl : (ys.zip vs).length = ys.length := by rw [List.length_zip, hlen, Nat.min_self]
        rw [Vals.ref1 rx]
        have zf := zip_fst h3
        have zr := zip_reps h3
        have ae : ((ys.zip vs).map fun b : D × V => b.1.py) = ys.map D.py := by
          rw [← zf, List.map_map, zf]
          rfl
        have hal : PySem.W.AllAlike ((ys.zip vs).map fun b : D × V => b.1.py) := by
          rw [ae]
          intro d hd d' hd'
          obtain ⟨a, ha, rfl⟩ := List.mem_map.mp hd
          obtain ⟨b, hb, rfl⟩ := List.mem_map.mp hd'
          exact List.all_eq_true.mp (List.all_eq_true.mp k3 a ha) b hb
        have hT : ∀ d ∈ ((ys.zip vs).map fun b : D × V => b.1.py), ∃ xs, d = PyData.tuple xs := by
          rw [ae]
          intro d hd
          obtain ⟨a, ha, rfl⟩ := List.mem_map.mp hd
          have := List.all_eq_true.mp k4 a ha
          cases a with
          | tup zs => exact ⟨_, by rw [D.py]⟩
          | _ => cases this
        have hE : ((ys.zip vs).map fun b : D × V => b.1.py).head? = some (PyData.tuple []) := by
          rw [ae]
          unfold fstE at k5
          split at k5
          · rw [List.map_cons, List.head?_cons, D.py, D.pys]
          · cases k5
        refine sorted_dataE (enc := fun b : D × V => b.1.py) (R := PRel) hl.isList (each_zip h3 rv) (each_reads I L.fro k1 h3 rv) hal hT hE (by rw [hzl]; rw [hlen]; exact hz) (fun b hb => ?_) fun out h1 h2' => ?_
        · obtain ⟨_, hm⟩ := zr b hb
          have hd := D.py_dep b.1 (D.pls_mem k1 b.1 hm)
          have := deps_ge hm
          show X.A.units + 2 + b.1.py.depth < cLine
          omega
        · obtain ⟨ep, he'⟩ := PyProof.Rows.sortedAll_at s.heap its out.toArray
          have hms : ((ys.zip vs).mergeSort (PySem.W.dataLe false fun b : D × V => b.1.py)).map (·.1) = sortL ys := by
            have hm := List.map_mergeSort (r := PySem.W.dataLe false fun b : D × V => b.1.py) (s := PySem.W.dataLe false D.py) (f := fun b : D × V => b.1) (l := ys.zip vs) (fun a _ b _ => rfl)
            rw [zf] at hm
            exact hm
          have hmem : ∀ b ∈ (ys.zip vs).mergeSort (PySem.W.dataLe false fun b : D × V => b.1.py), Rep X.K F μ b.1 b.2 := fun b hb => (zr b (List.mem_mergeSort.mp hb)).1
          have hr := reps_of hmem
          rw [hms] at hr
          have hol : (((ys.zip vs).mergeSort (PySem.W.dataLe false fun b : D × V => b.1.py)).map (·.2)).length ≤ sizeLine := by
            rw [List.length_map, List.length_mergeSort, hzl, hlen]
            exact hz
          have hH : H (s.heap.objs.size + 1) = none := I.hok.fresh (Nat.le_succ _)
          exact ⟨.ref _, upd H (s.heap.objs.size + 1) (.lst (((ys.zip vs).mergeSort (PySem.W.dataLe false fun b : D × V => b.1.py)).map (·.2))), I.laid (t' := s.toks) (fun _ _ => PyProof.Rows.sortedAll_old) (Nat.le_succ _) ⟨hol, out, ep, each_snd h2', he'⟩, rfl, hf.freshL L hr hH⟩
      · rw [if_neg hk] at hf
        exact hf.elim
    | _ => exact hf.elim
end
end Ev

set_option Elab.async false
set_option linter.all false
set_option maxRecDepth 100000
set_option autoImplicit false
set_option maxHeartbeats 1000000
/-! Ev5: in, methods of lists, targets. -/
namespace Ev
open PySem PySem.Spec PyProof.Rows L2

section
variable {G : Gs} {Wx : WX} {F : Hp} {μ : List Addr} {m : Ms} {σ : L2.St} {H : Hp}
theorem wr_fin {α β : Type} {rel : Wd → Wd → α → β → Prop} {w0 : Wd} {h : HV} {v : V} {ys : List D} {g : Unit → Ms → R α} {Q : β → Hp → Prop} (ro : RelOk rel) (L : Lk G.K ⟨F, μ, m, σ, H⟩) (r : rH G w0 ⟨F, μ, m, σ, H⟩ h v) (hr : ∃ xs, rd h m = some (.lst xs))
    (hf : Fin G Wx rel ⟨F, μ, m, σ, H⟩ ((wr h (.lst ys) m).bind g) Q) :
    ∃ p vs, v = .ref p ∧ H p = some (.lst vs) ∧ (∀ xs, rd h m = some (.lst xs) → Reps G.K F μ xs vs) ∧
      ∀ us, Reps G.K F μ ys us → ∃ m', Lk G.K ⟨F, μ, m', σ, upd H p (.lst us)⟩ ∧ Fin G Wx rel ⟨F, μ, m', σ, upd H p (.lst us)⟩ (g () m') Q := by
  cases e : wr h (.lst ys) m with
  | ok a m' =>
    rw [e] at hf
    obtain ⟨p, vs, h1, h2, h3, h4⟩ := wr_of L r hr e
    refine ⟨p, vs, h1, h2, h3, fun us ru => ⟨m', (h4 us ru).1, ?_⟩⟩
    exact Fin.step ro (w := ⟨F, μ, m, σ, H⟩) (show Fin G Wx rel _ (g () m') Q from hf) (h4 us ru).2 rfl
  | exc e' m' =>
    exfalso
    unfold wr at e
    split at e <;> (try split at e) <;> cases e
  | bad => rw [e] at hf; exact hf.elim
end

def rU : Wd → Wd → Unit → Unit → Prop := fun _ _ _ _ => True
theorem rU_ok : RelOk rU := fun _ _ _ _ _ _ _ h => h

section
variable {X : Cx} {ca : Nat → Addr} {fld : Nat → List Str} {Wx : WX}

theorem dps_of {F H : Hp} {μ : List Addr} {xs : List D} {vs : List V} (sm : Same F H) (h : D.pls xs = true) (r : Reps X.K F μ xs vs) : DpAll X.K H vs (D.pys xs) := Reps.dp sm h r
theorem inn_room {d : D} {xs : List D} (hu : X.A.units + 65 < cLine) (h : d.dep ≤ 64) (hp : d.pl = true) : X.A.units + 1 + min (PyData.depthAll (D.pys xs)) d.py.depth < cLine := by
  rw [D.py_dep d hp]
  omega
def rInE (G : Gs) (Wx : WX) (n : Bool) (k : Bool → Ms → R D) : R2 := fun x y H Q => ∃ F μ m σ w0 d h, Lk G.K ⟨F, μ, m, σ, H⟩ ∧ Rep G.K F μ d x ∧ rH G w0 ⟨F, μ, m, σ, H⟩ h y ∧ Fin G Wx (rD G) ⟨F, μ, m, σ, H⟩ ((inM n d h m).bind k) Q
theorem op_innE (n : Bool) (hu : X.A.units + 65 < cLine) : OpR X (compareOp (if n then .NotIn else .In)) (rInE (gx X ca fld) Wx n blM) := by
  intro pins s σ H x y v u Q I rx ry h
  obtain ⟨F, μ, m, σ', w0, d, hv, L, rd', rh, hf⟩ := h
  have hf : Fin (gx X ca fld) Wx (rD (gx X ca fld)) ⟨F, μ, m, σ', H⟩ ((opt ((rd hv m).bind (innD d)) m).bind fun b m => .ok (.bl (if n then !b else b)) m) Q := by
    unfold inM at hf
    cases q : opt ((rd hv m).bind (innD d)) m <;> rw [q] at hf <;> exact hf
  obtain ⟨c, b, e1, e2, h⟩ := opt_bindf hf
  clear hf
  have vw := view_of L rh e1
  have key : ∀ (xs : List D) (l : Bool), c = (if l then .lst xs else .tup xs) → okEq d (.tup xs) = true → b = inL d xs → wpAny (model X.prog X.w) X.A (compareOp (if n then .NotIn else .In) v u) (EP X pins σ Q) X.xe s := by
    intro xs l ec ok eb
    obtain ⟨h1, h2, h3, h4⟩ := okEq_iff.mp ok
    have h2 : D.pls xs = true := by simpa [D.pl] using h2
    have hfin : Q (.bl (if n then !inL d xs else inL d xs)) H := by rw [← eb]; exact h.same L (.bl _)
    obtain ⟨as, r1⟩ := Dp.reads I d.py x v (Rep.dp L.fro h1 rd') rx
    have hxs := D.pys_lay xs h2
    have hd := D.py_lay d h1
    have room := inn_room (X := X) (xs := xs) hu h3 h1
    have ein := D.py_in d h1 xs h2
    cases l with
    | true =>
      simp only [if_true] at ec
      subst ec
      obtain ⟨p, vs, rfl, h5, h6⟩ := vw
      obtain ⟨bs, r2⟩ := Dp.reads I (.list (D.pys xs)) (.ref p) u (.lst h5 (dps_of L.fro h2 h6)) ry
      cases n with
      | true => exact SeqAt.notIn_list_reads r2 r1 hxs hd room (by rw [ein]; exact ⟨.bl _, H, I, rfl, hfin⟩)
      | false => exact SeqAt.in_list_reads r2 r1 hxs hd room (by rw [ein]; exact ⟨.bl _, H, I, rfl, hfin⟩)
    | false =>
      simp only [Bool.false_eq_true, if_false] at ec
      subst ec
      obtain ⟨p, vs, rfl, h5, h6⟩ := vw
      obtain ⟨bs, r2⟩ := Dp.reads I (.tuple (D.pys xs)) (.ref p) u (.tup h5 (dps_of L.fro h2 h6)) ry
      cases n with
      | true => exact SeqAt.notIn_tuple_reads r2 r1 hxs hd room (by rw [ein]; exact ⟨.bl _, H, I, rfl, hfin⟩)
      | false => exact SeqAt.in_tuple_reads r2 r1 hxs hd room (by rw [ein]; exact ⟨.bl _, H, I, rfl, hfin⟩)
  unfold innD at e2
  split at e2
  · split at e2
    · rename_i xs ok
      exact key xs false (by simp) ok (Option.some.inj e2).symm
    · cases e2
  · split at e2
    · rename_i xs ok
      exact key xs true (by simp) (by rw [← ok]; simp [okEq, D.pl, D.dep]) (Option.some.inj e2).symm
    · cases e2
  · rename_i kvs
    split at e2
    · rename_i hk
      rw [Bool.and_eq_true] at hk
      cases (Option.some.inj e2)
      obtain ⟨p, rfl, cd⟩ := vw
      obtain ⟨es, g1, g2, g3⟩ := cd.u
      have : u = Value.ref p := ry
      subst this
      cases n with
      | true => exact u_notIn (E := X.xe) (by omega) I L.fro g1 g2 g3 hk.1 hk.2 rd' rx fun s' I' => (⟨.bl _, H, I', rfl, h.same L (.bl _)⟩ : EP X pins σ Q _ s')
      | false => exact u_in (E := X.xe) (by omega) I L.fro g1 g2 g3 hk.1 hk.2 rd' rx fun s' I' => (⟨.bl _, H, I', rfl, h.same L (.bl _)⟩ : EP X pins σ Q _ s')
    · cases e2
  · cases e2

/-! ### methods -/
theorem reps_last {K : PySem.W.Frag} {F : Hp} {μ : List Addr} {xs : List D} {vs : List V} {d : D} (r : Reps K F μ xs vs) (e : xs.getLast? = some d) : ∃ v, vs[vs.length - 1]? = some v ∧ Rep K F μ d v := by
  rw [List.getLast?_eq_getElem?] at e
  rw [← r.length]
  exact r.get e
theorem reps_dropLast {K : PySem.W.Frag} {F : Hp} {μ : List Addr} {xs : List D} {vs : List V} (r : Reps K F μ xs vs) : Reps K F μ xs.dropLast vs.dropLast := by
  rw [List.dropLast_eq_take, List.dropLast_eq_take, r.length]
  exact r.take _
theorem mt_popE : MtR X "list.pop" (fun x vs H Q => vs = [] ∧ rHP (gx X ca fld) Wx (rD (gx X ca fld)) popM x H Q) := by
  intro pins s σ H x xs v us Q I rx rxs h
  obtain ⟨e, F, μ, m, σ', w0, hv, L, rh, hf⟩ := h
  subst e
  unfold popM at hf
  split at hf
  · rename_i ys ey
    split at hf
    · rename_i d ed
      obtain ⟨p, vs, rfl, h2, h3, h4⟩ := wr_fin rD_ok L rh ⟨ys, ey⟩ hf
      have r := h3 ys ey
      obtain ⟨z, hz, rz⟩ := reps_last r ed
      obtain ⟨m', L', hf'⟩ := h4 _ (reps_dropLast r)
      exact mt_pop pins s σ H _ [] v us Q I rx rxs ⟨p, vs, z, rfl, rfl, h2, hz, hf'.same L' rz⟩
    · exact hf.elim
  · exact hf.elim
theorem reps_erase {K : PySem.W.Frag} {F : Hp} {μ : List Addr} {xs : List D} {vs : List V} (r : Reps K F μ xs vs) : ∀ k, Reps K F μ (xs.eraseIdx k) (vs.eraseIdx k) := by
  induction xs generalizing vs with
  | nil => cases r; exact fun k => .nil
  | cons x xs ih =>
    cases r with
    | cons h r =>
      intro k
      cases k with
      | zero => exact r
      | succ k => exact .cons h (ih r k)
theorem mt_popiE : MtR X "list.pop" (fun x vs H Q => ∃ y F μ m σ w0 h d, vs = [y] ∧ Lk X.K ⟨F, μ, m, σ, H⟩ ∧ rH (gx X ca fld) w0 ⟨F, μ, m, σ, H⟩ h x ∧ Rep X.K F μ d y ∧ Fin (gx X ca fld) Wx (rD (gx X ca fld)) ⟨F, μ, m, σ, H⟩ (popiM h d m) Q) := by
  intro pins s σ H x xs v us Q I rx rxs h
  obtain ⟨y, F, μ, m, σ', w0, hv, d, rfl, L, rh, ry, hf⟩ := h
  unfold popiM at hf
  split at hf
  · rename_i ys k ey
    split at hf
    · rename_i hk
      split at hf
      · rename_i d ed
        cases rep_int ry
        obtain ⟨p, vs, rfl, h2, h3, h4⟩ := wr_fin (G := gx X ca fld) rD_ok L rh ⟨ys, ey⟩ hf
        have r := h3 ys ey
        obtain ⟨z, hz, rz⟩ := r.get ed
        obtain ⟨m', L', hf'⟩ := h4 _ (reps_erase r k.toNat)
        have hl := (List.getElem?_eq_some_iff.mp hz).1
        refine mt_popAt pins s σ H _ _ v us Q I rx rxs ⟨p, vs, k, k.toNat, z, rfl, rfl, h2, by omega, by omega, ?_, hz, hf'.same L' rz⟩
        have h9 : ¬ k < 0 := by omega
        have h8 : k < vs.length := by omega
        unfold seqIndex?
        simp [h9, hk.1, h8]
      · exact hf.elim
    · exact hf.elim
  · exact hf.elim
theorem ints_reps {K : PySem.W.Frag} {F : Hp} {μ : List Addr} : ∀ {xs : List D} {vs : List V} {l : List Int}, Reps K F μ xs vs → intsD xs = some l → vs = l.map V.int
  | [], vs, l, r, h => by
    cases r
    cases h
    rfl
  | x :: xs, vs, l, r, h => by
    cases r with
    | cons hx r =>
      cases x with
      | int i =>
        obtain ⟨l', h1, h2⟩ := Option.map_eq_some_iff.mp (show (intsD xs).map (i :: ·) = some l from h)
        subst h2
        rw [ints_reps r h1]
        cases rep_int hx
        rfl
      | _ => cases h
theorem mt_ixE : MtR X "list.index" (fun x vs H Q => ∃ y F μ m σ w0 h d, vs = [y] ∧ Lk X.K ⟨F, μ, m, σ, H⟩ ∧ rH (gx X ca fld) w0 ⟨F, μ, m, σ, H⟩ h x ∧ Rep X.K F μ d y ∧ Fin (gx X ca fld) Wx (rD (gx X ca fld)) ⟨F, μ, m, σ, H⟩ (ixM h d m) Q) := by
  intro pins s σ H x xs v us Q I rx rxs h
  obtain ⟨y, F, μ, m, σ', w0, hv, d, rfl, L, rh, ry, hf⟩ := h
  unfold ixM at hf
  split at hf
  · rename_i ys k ey
    split at hf
    · rename_i l el
      split at hf
      · rename_i j ej
        cases rep_int ry
        obtain ⟨p, vs, rfl, h5, h6⟩ := view_of (G := gx X ca fld) L rh ey
        obtain rfl := ints_reps h6 el
        obtain ⟨hjl, hj1, hj2⟩ := List.findIdx?_eq_some_iff_getElem.mp ej
        refine mt_index pins s σ H _ _ v us Q I rx rxs ⟨p, _, _, j, .int l[j], rfl, rfl, h5, rfl, ?_, ?_, ?_, ?_, hf _ F μ H L (Stp.refl _) (.int _)⟩
        · rw [List.all_map, List.all_eq_true]
          intro i _
          rfl
        · rw [List.getElem?_map, List.getElem?_eq_getElem hjl]
          rfl
        · exact hj1
        · intro i z' hi hz
          rw [List.getElem?_map, List.getElem?_eq_getElem (by omega)] at hz
          cases hz
          have := hj2 i hi
          simpa [eqV] using this
      · exact hf.elim
    · exact hf.elim
  · exact hf.elim
theorem Reps.pys_len : ∀ xs : List D, xs.length = (D.pys xs).length
  | [] => rfl
  | x :: xs => by rw [D.pys, List.length_cons, List.length_cons, Reps.pys_len xs]
theorem items_idx {A : Around} {s : Shared} {x : Value} {k : D} {bs : List Addr} (hx : Reads s.heap x k.py bs) (hk : k.pl = true) (hd : k.dep ≤ 64) (hu : A.units + 65 < cLine) :
    ∀ {xs : List D} {vs : List Value} {as : List Addr}, D.pls xs = true → (xs.all fun a => D.eqv a k == decide (a = k)) = true → ReadsAll s.heap vs (D.pys xs) as → ∀ j (h1 : j < vs.length) (h2 : j < xs.length), SeqAt.EqAt A s vs[j] x (decide (xs[j] = k))
  | [], _, _, _, _, _, j, _, h2 => by simp at h2
  | a :: xs, vs, as, hp, hq, r, j, h1, h2 => by
    rw [D.pls, Bool.and_eq_true] at hp
    rw [List.all_cons, Bool.and_eq_true] at hq
    rw [D.pys] at r
    cases r with
    | cons r1 r2 =>
      cases j with
      | zero =>
        have e := SeqAt.eqAt_reads a.py k.py A s _ x _ _ r1 hx (D.py_lay a hp.1) (D.py_lay k hk) (by rw [D.py_dep k hk]; omega)
        rw [D.py_eqv a k hp.1 hk, eq_of_beq hq.1] at e
        exact e
      | succ j => exact items_idx hx hk hd hu hp.2 hq.2 r2 j (by simpa using h1) (by simpa using h2)
theorem mt_ixdE (hu : X.A.units + 65 + 1 < cLine) : MtR X "list.index" (fun x vs H Q => ∃ y F μ m σ w0 h d, vs = [y] ∧ Lk X.K ⟨F, μ, m, σ, H⟩ ∧ rH (gx X ca fld) w0 ⟨F, μ, m, σ, H⟩ h x ∧ Rep X.K F μ d y ∧ Fin (gx X ca fld) Wx (rD (gx X ca fld)) ⟨F, μ, m, σ, H⟩ (ixdM h d m) Q) := by
  intro pins s σ H x xs v us Q I rx rxs h
  obtain ⟨y, F, μ, m, σ', w0, hv, d, rfl, L, rh, ry, hf⟩ := h
  unfold ixdM at hf
  split at hf
  · rename_i ys ey
    split at hf
    · rename_i hk
      unfold ixOk at hk
      simp only [Bool.and_eq_true, decide_eq_true_eq] at hk
      obtain ⟨⟨⟨k1, k2⟩, k3⟩, k4⟩ := hk
      obtain ⟨g1, g2, g3, g4⟩ := okEq_iff.mp k1
      have g2 : D.pls ys = true := by simpa [D.pl] using g2
      obtain ⟨p, vs, rfl, h5, h6⟩ := view_of (G := gx X ca fld) L rh ey
      cases rxs with
      | cons ru rn =>
        cases rn
        obtain ⟨as, r1⟩ := Dp.reads I d.py _ _ (Rep.dp L.fro g1 ry) ru
        obtain ⟨bs, r2⟩ := Dp.reads I (.list (D.pys ys)) (.ref p) v (.lst h5 (dps_of L.fro g2 h6)) rx
        cases r2 with
        | @list a o vs n _ as2 e1 e2 e3 e4 =>
          have ln : vs.toList.length = ys.length := by
            rw [SeqAt.ReadsAll.length _ _ _ e4, ← Reps.pys_len ys]
          refine SeqAt.call_list_index (vs := vs.toList) (ks := ys) (k := d) (by rw [Array.toArray_toList]; exact ⟨o, e1, e2, n, e3⟩) ⟨ln, fun j q1 q2 => items_idx r1 g1 g3 (by show X.A.units + 1 + 65 < cLine; omega) g2 k2 e4 j q1 q2⟩ k4 k3 ?_
          exact ⟨.int (ys.idxOf d : Nat), H, I.tok _, ⟨_, rfl⟩, hf (.int (ys.idxOf d : Nat)) F μ H L (Stp.refl _) (.int _)⟩
    · exact hf.elim
  · exact hf.elim
theorem mt_appE : MtR X "list.append" (fun x vs H Q => ∃ y F μ m σ w0 h d, vs = [y] ∧ Lk X.K ⟨F, μ, m, σ, H⟩ ∧ rH (gx X ca fld) w0 ⟨F, μ, m, σ, H⟩ h x ∧ Rep X.K F μ d y ∧ Fin (gx X ca fld) Wx (rD (gx X ca fld)) ⟨F, μ, m, σ, H⟩ (appM h d m) Q) := by
  intro pins s σ H x xs v us Q I rx rxs h
  obtain ⟨y, F, μ, m, σ', w0, hv, d, rfl, L, rh, ry, hf⟩ := h
  unfold appM at hf
  split at hf
  · rename_i ys ey
    split at hf
    · rename_i hz
      obtain ⟨p, vs, rfl, h2, h3, h4⟩ := wr_fin (G := gx X ca fld) rD_ok L rh ⟨ys, ey⟩ hf
      have r := h3 ys ey
      obtain ⟨m', L', hf'⟩ := h4 (vs ++ [y]) (r.append (.cons ry .nil))
      exact mt_append pins s σ H _ _ v us Q I rx rxs ⟨p, vs, y, rfl, rfl, h2, by rw [← r.length]; exact hz, hf'.same L' .non⟩
    · exact hf.elim
  · exact hf.elim
theorem extend_tup {pins : List (Addr × Obj)} {s : Shared} {σ : L2.St} {H : Hp} {l b : Addr} {xs zs : List V} {Q : VK} (I : Inv X pins σ H s) (hH : H l = some (.lst xs)) (hB : SqT X.K H b zs) (hz : xs.length + zs.length ≤ sizeLine)
    (q : Q .non (upd H l (.lst (xs ++ zs)))) : wpAny (model X.prog X.w) X.A (call (.builtin "list.extend") [.ref l, .ref b]) (EP X pins σ Q) X.xe s := by
  obtain ⟨z, its, n, r, hl, e⟩ := I.lstM hH
  obtain ⟨its2, r2, ⟨⟨cls, dd, data, sl⟩, ho, hc, n2, hd⟩, hs⟩ := I.tuple hB
  simp only at hc hd
  subst hc hd
  have hl2 := r2.length
  have hsz : its.toArray.size + its2.toArray.size ≤ sizeLine := by rw [List.size_toArray, List.size_toArray]; omega
  have hlong : ¬ (!its.toArray.isEmpty && Builtin.List.listTooLong (its.toArray.size + its2.toArray.size)) = true := by
    rw [notLongL hsz, Bool.and_false]
    exact Bool.false_ne_true
  refine call_meets F.slot_list_extend ⟨_, e, rfl⟩ F.entry_list_extend (F.args_list_extend_2 _ _)
    (ev_list_extend_tuple l its.toArray n b its2.toArray n2 dd sl hlong (by rw [List.size_toArray]; omega) (by omega)) ⟨e, ho, ?_⟩
  refine ⟨.non, _, I.lset (its' := its ++ its2) hH e (by simp) (r.append r2) ?_, rfl, q⟩
  rw [List.length_append]
  omega
theorem extend_lst {pins : List (Addr × Obj)} {s : Shared} {σ : L2.St} {H : Hp} {l b : Addr} {xs zs : List V} {Q : VK} (I : Inv X pins σ H s) (hH : H l = some (.lst xs)) (hB : SqL X.K H b zs) (hz : xs.length + zs.length ≤ sizeLine)
    (q : Q .non (upd H l (.lst (xs ++ zs)))) : wpAny (model X.prog X.w) X.A (call (.builtin "list.extend") [.ref l, .ref b]) (EP X pins σ Q) X.xe s := by
  obtain ⟨z, its, n, r, hl, e⟩ := I.lstM hH
  obtain ⟨its2, r2, ⟨⟨cls, dd, data, sl⟩, n2, ho, hc, hd0, hd⟩, hs⟩ := I.list hB
  simp only at hc hd hd0
  subst hc hd hd0
  have hl2 := r2.length
  have hsz : its.toArray.size + its2.toArray.size ≤ sizeLine := by rw [List.size_toArray, List.size_toArray]; omega
  have hlong : ¬ (!its.toArray.isEmpty && Builtin.List.listTooLong (its.toArray.size + its2.toArray.size)) = true := by
    rw [notLongL hsz, Bool.and_false]
    exact Bool.false_ne_true
  refine call_meets F.slot_list_extend ⟨_, e, rfl⟩ F.entry_list_extend (F.args_list_extend_2 _ _)
    (ev_list_extend_list l its.toArray n b its2.toArray n2 sl hlong (by rw [List.size_toArray]; omega) (by omega)) ⟨e, ho, ?_⟩
  refine ⟨.non, _, I.lset (its' := its ++ its2) hH e (by simp) (r.append r2) ?_, rfl, q⟩
  rw [List.length_append]
  omega
theorem mt_extE : MtR X "list.extend" (fun x vs H Q => ∃ y F μ m σ w0 w1 h g, vs = [y] ∧ Lk X.K ⟨F, μ, m, σ, H⟩ ∧ rH (gx X ca fld) w0 ⟨F, μ, m, σ, H⟩ h x ∧ rH (gx X ca fld) w1 ⟨F, μ, m, σ, H⟩ g y ∧ Fin (gx X ca fld) Wx (rD (gx X ca fld)) ⟨F, μ, m, σ, H⟩ (extM h g m) Q) := by
  intro pins s σ H x xs v us Q I rx rxs h
  obtain ⟨y, F, μ, m, σ', w0, w1, hv, gv, rfl, L, rh, rg, hf⟩ := h
  unfold extM at hf
  split at hf
  · rename_i ys zs ey ez
    split at hf
    · rename_i hz
      obtain ⟨p, vs, rfl, h2, h3, h4⟩ := wr_fin (G := gx X ca fld) rD_ok L rh ⟨ys, ey⟩ hf
      have r := h3 ys ey
      obtain ⟨c, ec, es⟩ := Option.bind_eq_some_iff.mp ez
      obtain ⟨p', vs', rfl, h5, h6⟩ := view_seq (view_of L rg ec) es
      obtain ⟨m', L', hf'⟩ := h4 (vs ++ vs') (r.append h6)
      have hz' : vs.length + vs'.length ≤ sizeLine := by rw [← r.length, ← h6.length]; exact hz
      cases rx
      cases rxs with
      | cons ry rt =>
        cases rt
        cases ry
        rcases h5 with h5 | h5
        · exact extend_lst I h2 h5 hz' (hf'.same L' .non)
        · exact extend_tup I h2 h5 hz' (hf'.same L' .non)
    · exact hf.elim
  · exact hf.elim

/-! ### stores -/
theorem set_E : PSet X (fun o i v H Q => ∃ F μ m σ w0 h k d, Lk X.K ⟨F, μ, m, σ, H⟩ ∧ rH (gx X ca fld) w0 ⟨F, μ, m, σ, H⟩ h o ∧ Rep X.K F μ k i ∧ Rep X.K F μ d v ∧ Fin (gx X ca fld) Wx rU ⟨F, μ, m, σ, H⟩ (setM h k d m) (fun _ H' => Q H')) := by
  intro pins s σ H o i v ov iv u Q I ro ri rv h
  obtain ⟨F, μ, m, σ', w0, hv, k, d, L, rh, rk, rd', hf⟩ := h
  unfold setM at hf
  split at hf
  · rename_i ys k ey
    split at hf
    · rename_i hz
      have hf : Fin (gx X ca fld) Wx rU ⟨F, μ, m, σ', H⟩ ((wr hv (.lst (ys.set k.toNat d)) m).bind fun _ m => .ok () m) (fun _ H' => Q H') := by
        cases q : wr hv (.lst (ys.set k.toNat d)) m <;> rw [q] at hf <;> exact hf
      obtain ⟨p, vs, rfl, h2, h3, h4⟩ := wr_fin (G := gx X ca fld) rU_ok L rh ⟨ys, ey⟩ hf
      have r := h3 ys ey
      obtain ⟨m', L', hf'⟩ := h4 _ (r.set rd' k.toNat)
      cases rep_int rk
      refine set_list pins s σ H _ _ v ov iv u Q I ro ri rv ⟨p, vs, k, k.toNat, rfl, rfl, h2, ?_, hf' () F μ _ L' (Stp.refl _) trivial⟩
      have hl := r.length
      unfold ixN
      rw [if_pos hz.1, if_pos (by omega)]
    · exact hf.elim
  · exact hf.elim

/-! ### targets -/
/-- a slot gets a value -/
theorem put1_ok {G : Gs} {F : Hp} {μ : List Addr} {m m' : Ms} {σ : L2.St} {H : Hp} {i : Nat} {d : D} {v : V} {K : PySem.W.Frag} (L : Lk K ⟨F, μ, m, σ, H⟩) (r : Rep K F μ d v) (e : put1 i d m = .ok () m') :
    Lk K ⟨F, μ, m', σ.set i (some v), H⟩ ∧ Stp ⟨F, μ, m, σ, H⟩ ⟨F, μ, m', σ.set i (some v), H⟩ := by
  unfold put1 at e
  split at e
  · cases e
  · rename_i hn hi0
    cases e
    have hi : i < m.ρ.length := (List.getElem?_eq_some_iff.mp hi0).1
    have hl : i < σ.length := by
      have := L.len
      simp only at this
      omega
    have back : ∀ x q, Own ⟨F, μ, { m with ρ := m.ρ.set i (.val d) }, σ.set i (some v), H⟩ x q → Own ⟨F, μ, m, σ, H⟩ x q := by
      intro x q h
      cases x with
      | inr n => exact h
      | inl j =>
        obtain ⟨⟨c, hc⟩, hs⟩ := h
        have hs : (σ.set i (some v))[j]? = some (some (V.ref q)) := hs
        rcases hc with hc | hc
        · rcases get_set hc with ⟨_, z, _⟩ | ⟨ne, z⟩
          · cases z
          · rw [List.getElem?_set_ne (Ne.symm ne)] at hs
            exact ⟨⟨c, .inl z⟩, hs⟩
        · rcases get_set hc with ⟨_, z, _⟩ | ⟨ne, z⟩
          · cases z
          · rw [List.getElem?_set_ne (Ne.symm ne)] at hs
            exact ⟨⟨c, .inr z⟩, hs⟩
    refine ⟨⟨L.fro, by simpa using L.len, L.mul, fun j d' ej => ?_, fun j c hc => ?_, L.sto, fun a b q h1 h2 => L.inj a b q (back _ _ h1) (back _ _ h2)⟩, ⟨fun _ _ e => e, List.prefix_refl _, fun _ _ e _ => e, fun q x h => .inl ⟨x, back _ _ h⟩, fun q u e => .inl (by rw [e]; simp), fun _ e => e, fun j c hj => ?_⟩⟩
    · rcases get_set ej with ⟨rfl, z, _⟩ | ⟨ne, z⟩
      · cases z
        exact ⟨v, by simp [hl], r⟩
      · obtain ⟨v', h1, h2⟩ := L.val j d' z
        exact ⟨v', by rw [List.getElem?_set_ne (Ne.symm ne)]; exact h1, h2⟩
    · have z : j ≠ i ∧ (m.ρ[j]? = some (Sl.ow c) ∨ m.ρ[j]? = some (Sl.rl c)) := by
        rcases hc with hc | hc
        · rcases get_set hc with ⟨_, z, _⟩ | ⟨ne, z⟩
          · cases z
          · exact ⟨ne, .inl z⟩
        · rcases get_set hc with ⟨_, z, _⟩ | ⟨ne, z⟩
          · cases z
          · exact ⟨ne, .inr z⟩
      obtain ⟨p, h1, h2⟩ := L.own j c z.2
      exact ⟨p, by rw [List.getElem?_set_ne (Ne.symm z.1)]; exact h1, h2⟩
    · have ne : i ≠ j := fun q => by
        subst q
        have hj : m.ρ[i]? = some (Sl.rl c) := hj
        rw [hi0] at hj
        exact hn c (Option.some.inj hj)
      exact ⟨by show (m.ρ.set i _)[j]? = _; rw [List.getElem?_set_ne ne]; exact hj, by show (σ.set i _)[j]? = σ[j]?; rw [List.getElem?_set_ne ne]⟩
  · cases e
/-- the slots of a target -/
def Tg.sl : Tg → List Nat
  | .n i => [i]
  | .t is => is
/-- what is wanted behind a target's store -/
def tgE (X : Cx) (tg : Tg) : L2.TG := fun v σ H Q => ∃ F μ m d m', Lk X.K ⟨F, μ, m, σ, H⟩ ∧ Rep X.K F μ d v ∧ bindTg tg d m = .ok () m' ∧
  ∀ σ', Lk X.K ⟨F, μ, m', σ', H⟩ → Stp ⟨F, μ, m, σ, H⟩ ⟨F, μ, m', σ', H⟩ → σ'.length = σ.length → (∀ j, j ∉ tg.sl → σ'[j]? = σ[j]?) → Q σ' H
def tgsE (X : Cx) (is : List Nat) : L2.TGs := fun vs σ H Q => ∃ F μ m ds m', Lk X.K ⟨F, μ, m, σ, H⟩ ∧ Reps X.K F μ ds vs ∧ putAll is ds m = .ok () m' ∧
  ∀ σ', Lk X.K ⟨F, μ, m', σ', H⟩ → Stp ⟨F, μ, m, σ, H⟩ ⟨F, μ, m', σ', H⟩ → σ'.length = σ.length → (∀ j, j ∉ is → σ'[j]? = σ[j]?) → Q σ' H
theorem PGw {e : Expr} {t t' : L2.TG} (h : PG X e t) (q : ∀ v σ H Q, t' v σ H Q → t v σ H Q) : PG X e t' := ⟨fun pins s σ H v u Q I r hw => h.run pins s σ H v u Q I r (q _ _ _ _ hw)⟩
theorem PGsw {es : List Expr} {t t' : L2.TGs} (h : PGs X es t) (q : ∀ v σ H Q, t' v σ H Q → t v σ H Q) : PGs X es t' := ⟨fun pins s σ H v u Q I r hw => h.run pins s σ H v u Q I r (q _ _ _ _ hw)⟩
theorem put1_bind {i : Nat} {d : D} {m m' : Ms} {f : Unit → Ms → R Unit} (e : (put1 i d m).bind f = .ok () m') : ∃ m1, put1 i d m = .ok () m1 ∧ f () m1 = .ok () m' := by
  cases q : put1 i d m with
  | ok a m1 => rw [q] at e; exact ⟨m1, rfl, e⟩
  | exc _ _ => rw [q] at e; cases e
  | bad => rw [q] at e; cases e
theorem pg_nameE {i : Nat} {x : Str} {pos : Pos} (h : PG X (.Name x pos) (gName i)) : PG X (.Name x pos) (tgE X (.n i)) := by
  refine PGw h fun v σ H Q ⟨F, μ, m, d, m', L, r, e, hq⟩ => ?_
  have e : put1 i d m = .ok () m' := e
  obtain ⟨L', s'⟩ := put1_ok (G := gx X (fun _ => 0) (fun _ => [])) L r e
  exact hq _ L' s' (by simp) fun j hj => List.getElem?_set_ne (fun q => hj (by simp [Tg.sl, q]))
theorem pgs_nilE : PGs X [] (tgsE X []) := by
  refine PGsw pgs_nil fun vs σ H Q ⟨F, μ, m, ds, m', L, r, e, hq⟩ => ?_
  cases r with
  | nil =>
    cases e
    exact ⟨rfl, hq σ L (Stp.refl _) rfl fun _ _ => rfl⟩
  | cons _ _ => cases e
theorem pgs_consE {i : Nat} {is : List Nat} {x : Str} {pos : Pos} {es : List Expr} (h : PG X (.Name x pos) (gName i)) (hr : PGs X es (tgsE X is)) : PGs X (.Name x pos :: es) (tgsE X (i :: is)) := by
  refine PGsw (pgs_cons h hr rfl) fun vs σ H Q ⟨F, μ, m, ds, m', L, r, e, hq⟩ => ?_
  cases r with
  | nil => cases e
  | @cons d v ds vs h1 hr =>
    obtain ⟨m1, e1, e2⟩ := put1_bind (show (put1 i d m).bind (fun _ m => putAll is ds m) = .ok () m' from e)
    obtain ⟨L1, s1⟩ := put1_ok (G := gx X (fun _ => 0) (fun _ => [])) L h1 e1
    refine ⟨v, vs, rfl, F, μ, m1, ds, m', L1, hr, e2, fun σ' L' s' hl ho => hq σ' L' (s1.trans s') (by rw [hl]; simp) fun j hj => ?_⟩
    rw [ho j fun q => hj (List.mem_cons_of_mem _ q)]
    exact List.getElem?_set_ne (fun q => hj (by simp [q]))
theorem pg_tupE {is : List Nat} {es : List Expr} {k : Nat} {pos : Pos} (hc : X.calm = true) (h : PGs X es (tgsE X is)) (hn : (assignEach es X.env).length = is.length) (hst : (assignEach es X.env).findIdx? (·.1) = none) :
    PG X (.Tuple es k pos) (tgE X (.t is)) := by
  have p1 := pg_tup (k := k) (pos := pos) (n := is.length) hc h hn hst
  have p2 := pg_unl (k := k) (pos := pos) (n := is.length) hc h hn hst
  have p3 : PG X (.Tuple es k pos) (fun v σ H Q => gTup X.K is.length (tgsE X is) v σ H Q ∨ gUnl X.K is.length (tgsE X is) v σ H Q) :=
    ⟨fun pins s σ H v u Q I r hw => hw.elim (p1.run pins s σ H v u Q I r) (p2.run pins s σ H v u Q I r)⟩
  refine PGw p3 fun v σ H Q ⟨F, μ, m, d, m', L, r, e, hq⟩ => ?_
  unfold bindTg at e
  cases d with
  | tup ds =>
    simp only at e
    split at e
    · rename_i hl
      obtain ⟨a, vs, rfl, h2, h3⟩ := rep_tup r
      exact .inl ⟨a, vs, rfl, same_sqT L.fro h2, by rw [← h3.length, hl], F, μ, m, ds, m', L, h3, e, hq⟩
    · cases e
  | lst ds =>
    simp only at e
    split at e
    · rename_i hl
      obtain ⟨a, vs, rfl, h2, h3⟩ := rep_lst r
      exact .inr ⟨a, vs, rfl, same_sqL L.fro h2, by rw [← h3.length, hl], F, μ, m, ds, m', L, h3, e, hq⟩
    · cases e
  | _ => cases e
end
end Ev

set_option Elab.async false
set_option linter.all false
set_option maxRecDepth 100000
set_option autoImplicit false
set_option maxHeartbeats 1000000
/-! Ev6: what is walked: enumerate of a tuple, zip of a list or tuple with a list or tuple; the walks over the evaluator's items. -/
namespace PySem
open Sem (wp)
open AutoSeq1 (wpAny_loadPart')
theorem ev_enumerate_newT (l : Addr) (items : Array Value) (n : Nat) (dct : Option Addr) (sl : Array (Option Value)) :
    Meets (Builtin.«enumerate.__new__» ⟨[.type "enumerate", .ref l], []⟩) (fun _ R s => s.heap.get? l = some { cls := .type "tuple", dict := dct, data := .seq items n, slots := sl } ∧
      R (.ok (.ret (.ref (s.heap.push { cls := .type "tuple_iterator", data := .fields #[.ref l, .int 0 0] }).objs.size)))
        { s with heap := (s.heap.push { cls := .type "tuple_iterator", data := .fields #[.ref l, .int 0 0] }).push { cls := .type "enumerate", data := .fields #[.none, .bool false, .ref s.heap.objs.size, rawInt 0, .none, .none] } }) :=
  .of_wp fun prog w A R s h => by
    obtain ⟨hp, g, d, tk, os⟩ := s; obtain ⟨hl, h⟩ := h
    have hsub := sub_enumerate
    have hL : Heap.IsTuple (Shared.heap ⟨hp, g, d, tk, os⟩) l items := ⟨_, hl, rfl, n, rfl⟩
    wp_walk using wpAny_loadPart' hl
    refine wpAny_stack_any fun st => wpAny_pure ?_
    split
    · rename_i c _ _ _ _ _
      cases (c == Value.type "enumerate")
      · wp_walk using wpAny_loadPart' hl, wpAny_pyIter_tuple hL
        exact ⟨_, rfl, h⟩
      · wp_walk using wpAny_loadPart' hl, wpAny_pyIter_tuple hL
        exact ⟨_, rfl, h⟩
    · wp_walk using wpAny_loadPart' hl, wpAny_pyIter_tuple hL
      exact ⟨_, rfl, h⟩
theorem ev_enumerate_tuple {prog : Program} {w : World} {A : Around} {E : Value → Shared → Prop} {s : Shared} {l : Addr} {items : Array Value} {Q : Value → Shared → Prop} (hL : s.heap.IsTuple l items)
    (h : ∀ h', IsEnum h' (s.heap.objs.size + 1) s.heap.objs.size 0 .none → h'.IsTupleIter s.heap.objs.size l 0 → h'.objs.size = s.heap.objs.size + 2 →
      (∀ b o, s.heap.get? b = some o → h'.get? b = some o) → Q (.ref (s.heap.objs.size + 1)) { s with heap := h' }) :
    wpAny (model prog w) A (call (.type "enumerate") [.ref l]) Q E s := by
  obtain ⟨⟨c, dct, dt, sl⟩, hl, hc, n, hd⟩ := hL
  replace hc : c = .type "tuple" := hc
  replace hd : dt = .seq items n := hd
  subst hc hd
  refine callType_new F.called_enumerate (by decide) (F.typeCall_enumerate_1 _) (F.newCall_enumerate_1 _) (fun obj => F.args_object_init_2 obj _) F.entry_enumerate_new
    (ev_enumerate_newT l items n dct sl) ⟨hl, ?_⟩
  have hz : (s.heap.push { cls := .type "tuple_iterator", data := .fields #[.ref l, .int 0 0] }).objs.size = s.heap.objs.size + 1 := Heap.size_push ..
  show _ ∧ _
  rw [hz]
  have he : IsEnum ((s.heap.push { cls := .type "tuple_iterator", data := .fields #[.ref l, .int 0 0] }).push { cls := .type "enumerate", data := .fields #[.none, .bool false, .ref s.heap.objs.size, rawInt 0, .none, .none] }) (s.heap.objs.size + 1) s.heap.objs.size 0 .none := by
    have := Heap.get?_push_size (s.heap.push { cls := .type "tuple_iterator", data := .fields #[.ref l, .int 0 0] })
      (o := { cls := .type "enumerate", data := .fields #[.none, .bool false, .ref s.heap.objs.size, rawInt 0, .none, .none] }) rfl
    rw [hz] at this
    exact this
  refine ⟨⟨_, he, rfl⟩, h _ he ⟨_, Heap.get?_push_of_some _ (Heap.get?_push_size _ rfl), rfl, rfl⟩ ?_ fun b o e => Heap.get?_push_of_some _ (Heap.get?_push_of_some _ e)⟩
  rw [Heap.size_push, hz]
end PySem
namespace Ev
open PySem PySem.Spec PyProof.Rows L2

/-- a list (b) or a tuple -/
def SqK (b : Bool) (K : PySem.W.Frag) (H : Hp) (a : Addr) (xs : List V) : Prop := if b then SqL K H a xs else SqT K H a xs
def SqIt (b : Bool) (h : Heap) (it a : Addr) (i : Nat) : Prop := if b then h.IsListIter it a i else h.IsTupleIter it a i
def SqAt (b : Bool) (h : Heap) (a : Addr) (items : Array Value) : Prop := if b then h.IsList a items else h.IsTuple a items
section
variable {X : Cx} {pins : List (Addr × Obj)} {σ : L2.St} {H : Hp} {s : Shared} {a : Addr} {xs ys : List V}
theorem SqK.items {b : Bool} (I : Inv X pins σ H s) (h : SqK b X.K H a xs) : ∃ its : List Value, Vals xs its ∧ SqAt b s.heap a its.toArray := by
  cases b with
  | true => obtain ⟨its, r, p, _⟩ := I.list h; exact ⟨its, r, p.isList⟩
  | false => obtain ⟨its, r, p, _⟩ := I.tuple h; exact ⟨its, r, p⟩
theorem SqK.inj {b : Bool} (I : Inv X pins σ H s) (h : SqK b X.K H a xs) (h' : SqK b X.K H a ys) : xs = ys := by
  cases b with
  | true => exact I.list_inj h h'
  | false => exact I.tuple_inj h h'
end
theorem sqIt_obj {b : Bool} {h : Heap} {it a : Addr} {i : Nat} (x : SqIt b h it a i) : ∃ o, h.get? it = some o ∧ ∀ v, o.data ≠ .cell v := by
  cases b with
  | true => obtain ⟨o, e, _, d⟩ := x; exact ⟨o, e, fun v q => by rw [d] at q; cases q⟩
  | false => obtain ⟨o, e, _, d⟩ := x; exact ⟨o, e, fun v q => by rw [d] at q; cases q⟩
theorem sqIt_at {b : Bool} {h h' : Heap} {it a : Addr} {i : Nat} (x : SqIt b h it a i) (k : ∀ o, h.get? it = some o → h'.get? it = some o) : SqIt b h' it a i := by
  cases b with
  | true => exact Heap.IsListIter.at x k
  | false => exact Heap.IsTupleIter.at x k
theorem sqAt_lt {b : Bool} {h : Heap} {a : Addr} {items : Array Value} (x : SqAt b h a items) : a < h.objs.size := by
  cases b with
  | true => obtain ⟨o, e, _⟩ := x; exact Heap.lt_size e
  | false => obtain ⟨o, e, _⟩ := x; exact Heap.lt_size e
theorem drawsK {prog : Program} {w : World} {A : Around} (b : Bool) (hh : A.handled = none) (it a : Addr) (hne : a ≠ it) (items : Array Value) :
    Draws prog w A it [it, a] items.size (fun i v => items[i]? = some v) (fun i h => SqIt b h it a i ∧ SqAt b h a items) := by
  cases b with
  | true => exact Draws.list hh it a hne items
  | false => exact Draws.tuple hh it a hne items

/-! ### enumerate -/
def IteK (b : Bool) (K : PySem.W.Frag) (a : Addr) : L2.It :=
  ⟨fun i H => ∃ (xs : List V) (x : V), SqK b K H a xs ∧ xs[i]? = some x, fun i H v H' => ∃ T x, v = .ref T ∧ H T = none ∧ H' = upd H T (.tup [.int (i : Nat), x]) ∧ ∀ xs, SqK b K H a xs → xs[i]? = some x, fun i H => ∃ xs : List V, SqK b K H a xs ∧ xs.length = i⟩
theorem turn_enumK {P : Program} {w : World} {K : PySem.W.Frag} {elts : List Expr} {kk : Nat} {tpos : Pos} (b : Bool) (a e it : Addr) (hae : a ≠ e) (hai : a ≠ it) :
    Turn P w K (.Tuple elts kk tpos) (IteK b K a) [e, it] e (fun i h => (∃ old, IsEnum h e it ((i : Nat) : Int) old) ∧ SqIt b h it a i ∧ e ≠ it) where
  mem := by simp
  obj := fun i h st c hb => by
    obtain ⟨⟨old, he⟩, hi, _⟩ := st
    have e' : c = e ∨ c = it := by simpa using hb
    rcases e' with z | z
    · rw [z]; exact ⟨_, he, fun v q => nomatch q⟩
    · rw [z]; exact sqIt_obj hi
  keep := fun i h h' st k => let ⟨⟨old, he⟩, hi, hne⟩ := st; ⟨⟨old, k e (by simp) _ he⟩, sqIt_at hi fun o q => k it (by simp) o q, hne⟩
  item := by
    intro X hP hw hK hc i pins s σ H E I hf st hg
    subst hP hw hK
    obtain ⟨⟨old, he⟩, hit, hne⟩ := st
    obtain ⟨xs, x, hq, hx⟩ := hg
    obtain ⟨its, rv, p⟩ := SqK.items I hq
    obtain ⟨u, hu, ru⟩ := rv.get hx
    have hel : e < s.heap.objs.size := Heap.lt_size he
    obtain ⟨_, q, _⟩ := sqIt_obj hit
    have hil : it < s.heap.objs.size := Heap.lt_size q
    have hi : i < its.toArray.size := by
      have := (List.getElem?_eq_some_iff.mp hu).1
      simpa using this
    refine wpAny_pyNext_enum_itemD (drawsK (prog := X.prog) (w := X.w) (A := X.A.in1) b (I.ok.hd hc) it a hai its.toArray) he ⟨hit, p⟩ hi hne (by simp only [List.mem_cons, List.not_mem_nil, or_false, not_or]; exact ⟨hne, Ne.symm hae⟩) fun x' h' tk hP ho hst hT hsz hk => ?_
    have hx' : x' = u := by
      have : its[i]? = some x' := by simpa using hP
      rw [hu] at this
      exact (Option.some.inj this).symm
    subst hx'
    refine ⟨_, rfl, wpAny_letOwnedTupleGo_enum (s := { s with heap := h', toks := tk + 1 }) ho fun h'' he' sb => ?_⟩
    have hT2 : h''.get? s.heap.objs.size = some { cls := .type "tuple", data := .seq #[.int i tk, x'] } := (sb.2 _ (Nat.ne_of_gt hel)).trans hT
    have new : ObjOk X.prog X.w (upd H s.heap.objs.size (.tup [.int (i : Nat), x])) h'' s.heap.objs.size (.tup [.int (i : Nat), x]) :=
      ⟨by show 2 ≤ sizeLine; decide, [.int i tk, x'], .cons ⟨_, rfl⟩ (.cons ru .nil), ⟨_, hT2, rfl, _, rfl⟩⟩
    have I1 : Inv X pins σ (upd H s.heap.objs.size (.tup [.int (i : Nat), x])) { s with heap := h'', toks := tk + 1 } :=
      I.turnedNew (ch := [e, it]) (fun b ob hb q => (sb.2 b (fun z => hb (by simp [z]))).trans (hk b ob (fun z => hb (by simp [z])) (fun z => hb (by simp [z])) q)) hf (Nat.le_refl _) new
    refine ⟨.ref s.heap.objs.size, _, I1, rfl, ⟨_, x, rfl, I.hok.fresh (Nat.le_refl _), rfl, fun ys hy => by rw [SqK.inj I hy hq]; exact hx⟩, ⟨⟨x', ?_⟩, sqIt_at hst.1 fun o q => (sb.2 it (Ne.symm hne)).trans q, hne⟩, fun c hb => ?_⟩
    · have e1 : ((i + 1 : Nat) : Int) = (i : Int) + 1 := by omega
      rw [e1]; exact he'
    · have hb' : c < s.heap.objs.size := by
        have e' : c = e ∨ c = it := by simpa using hb
        rcases e' with z | z
        · rw [z]; exact hel
        · rw [z]; exact hil
      rw [upd_ne (Nat.ne_of_lt hb')]
      exact (hf c hb).1
  done := by
    intro X hP hw hK hc i pins s σ H E I hf st hg
    subst hP hw hK
    obtain ⟨⟨old, he⟩, hit, hne⟩ := st
    obtain ⟨xs, hq, hx⟩ := hg
    obtain ⟨its, rv, p⟩ := SqK.items I hq
    obtain ⟨f0, f1, f2, f3, f4, f5⟩ := hf it (by simp)
    have hl := rv.length
    have en : its.toArray.size = i := by simp; omega
    refine wpAny_pyNext_enum_endD (drawsK (prog := X.prog) (w := X.w) (A := X.A.in1) b (I.ok.hd hc) it a hai its.toArray) he (by rw [en]; exact ⟨hit, p⟩) fun h' eb => ⟨rfl, I.turned (t' := s.toks) (fun b o hb q => eb b o hb q) f0 f1 f3 f4 f5⟩
  self := fun A i s Q E st h => let ⟨⟨_, he⟩, _⟩ := st; wpAny_pyIter_enum he h
def iEnumK (K : PySem.W.Frag) (ta : TA) : TI := fun σ H R => ta σ H fun vs H1 => ∃ b a xs, vs = [.ref a] ∧ SqK b K H1 a xs ∧ R (IteK b K a) H1
theorem pi_enumK {X : Cx} {e : Expr} {ta : TA} {p pos tpos : Pos} {elts : List Expr} {kk : Nat} (hg : Gl X "enumerate") (hm : X.mg "enumerate" = none) (ha : PA X [e] ta) (hs : starEach [e] X.env = [(false, eval e X.env)]) :
    PI X (.Tuple elts kk tpos) (.Call (.Name "enumerate" p) [e] [] pos) (iEnumK X.K ta) := by
  refine ⟨fun pins s σ H R I h => ?_⟩
  refine Call_ (ld_blt I hg hm boot_enumerate (PyProof.Rows.callWith_type1 (thn (ha.run pos pins s σ H _ I h) fun us s1 ⟨vs, H1, I1, r1, q1⟩ => ?_) hs rfl))
  obtain ⟨b, a, xs, ex, hq, q⟩ := q1
  subst ex
  cases r1 with
  | cons r rr =>
    cases rr
    cases r
    obtain ⟨its, rv, p'⟩ := SqK.items I1 hq
    have hlt := sqAt_lt p'
    have fin : ∀ (h' : Heap), IsEnum h' (s1.heap.objs.size + 1) s1.heap.objs.size 0 .none → SqIt b h' s1.heap.objs.size a 0 → (∀ b o, s1.heap.get? b = some o → h'.get? b = some o) →
        PIE X pins σ (.Tuple elts kk tpos) R (.ref (s1.heap.objs.size + 1)) { s1 with heap := h' } := fun h' he hit hk => by
      have I2 : Inv X pins σ H1 { s1 with heap := h' } := I1.kept (t' := s1.toks) hk
      refine ⟨s1.heap.objs.size + 1, [s1.heap.objs.size + 1, s1.heap.objs.size], _, _, H1, rfl, I2, turn_enumK b a (s1.heap.objs.size + 1) s1.heap.objs.size (Nat.ne_of_lt (Nat.lt_succ_of_lt hlt)) (Nat.ne_of_lt hlt), ⟨⟨.none, he⟩, hit, Nat.succ_ne_self _⟩, fun c hb => ?_, q⟩
      have e' : c = s1.heap.objs.size + 1 ∨ c = s1.heap.objs.size := by simpa using hb
      have hle : s1.heap.objs.size ≤ c := by
        rcases e' with z | z
        · rw [z]; exact Nat.le_add_right _ _
        · rw [z]; exact Nat.le_refl _
      exact I1.fpOk hle (I1.hok.fresh hle)
    cases b with
    | true => exact call_enumerate_list p' fun h' he hit hsz hk => wpAny_pyIter_enum he (fin h' he hit hk)
    | false => exact ev_enumerate_tuple p' fun h' he hit hsz hk => wpAny_pyIter_enum he (fin h' he hit hk)

/-! ### zip -/
def ItzK (b1 b2 : Bool) (K : PySem.W.Frag) (a1 a2 : Addr) : L2.It :=
  ⟨fun i H => ∃ (xs ys : List V) (x y : V), SqK b1 K H a1 xs ∧ SqK b2 K H a2 ys ∧ xs[i]? = some x ∧ ys[i]? = some y,
    fun i H v H' => ∃ T x y, v = .ref T ∧ H T = none ∧ H' = upd H T (.tup [x, y]) ∧ (∀ xs, SqK b1 K H a1 xs → xs[i]? = some x) ∧ ∀ ys, SqK b2 K H a2 ys → ys[i]? = some y,
    fun i H => ∃ xs ys : List V, SqK b1 K H a1 xs ∧ SqK b2 K H a2 ys ∧ i ≤ xs.length ∧ i ≤ ys.length ∧ (i = xs.length ∨ i = ys.length)⟩
theorem turn_zipK {P : Program} {w : World} {K : PySem.W.Frag} {elts : List Expr} {kk : Nat} {tpos : Pos} (b1 b2 : Bool) {a1 a2 z TI TO i1 i2 : Addr} (D : ZipSep2 z TI TO i1 i2 [i1, a1] [i2, a2]) (n1 : a1 ≠ i1) (n2 : a2 ≠ i2) :
    Turn P w K (.Tuple elts kk tpos) (ItzK b1 b2 K a1 a2) [z, TI, TO, i1, i2] z (fun i h => IsZip h z TI TO .none ∧ IsTupOf2 h TI (.ref i1) (.ref i2) ∧ (∃ x y, IsTupOf2 h TO x y) ∧ SqIt b1 h i1 a1 i ∧ SqIt b2 h i2 a2 i) where
  mem := by simp
  obj := fun i h st c hc => by
    obtain ⟨hz, hTI, ⟨x, y, hTO⟩, h1, h2⟩ := st
    have e' : c = z ∨ c = TI ∨ c = TO ∨ c = i1 ∨ c = i2 := by simpa using hc
    rcases e' with q | q | q | q | q
    · rw [q]; exact ⟨_, hz, fun v q => nomatch q⟩
    · rw [q]; exact ⟨_, hTI, fun v q => nomatch q⟩
    · rw [q]; exact ⟨_, hTO, fun v q => nomatch q⟩
    · rw [q]; exact sqIt_obj h1
    · rw [q]; exact sqIt_obj h2
  keep := fun i h h' st k => by
    obtain ⟨hz, hTI, ⟨x, y, hTO⟩, h1, h2⟩ := st
    exact ⟨k z (by simp) _ hz, k TI (by simp) _ hTI, ⟨x, y, k TO (by simp) _ hTO⟩, sqIt_at h1 fun o q => k i1 (by simp) o q, sqIt_at h2 fun o q => k i2 (by simp) o q⟩
  item := by
    intro X hP hw hK hc i pins s σ H E I hf st hg
    subst hP hw hK
    obtain ⟨hz, hTI, ⟨x0, y0, hTO⟩, h1, h2⟩ := st
    obtain ⟨xs, ys, x, y, hqx, hqy, hx, hy⟩ := hg
    obtain ⟨its, rv, p⟩ := SqK.items I hqx
    obtain ⟨its2, rv2, p2⟩ := SqK.items I hqy
    obtain ⟨u, hu, ru⟩ := rv.get hx
    obtain ⟨u2, hu2, ru2⟩ := rv2.get hy
    have hzl : z < s.heap.objs.size := Heap.lt_size hz
    have hi1 : i < its.toArray.size := by simpa using (List.getElem?_eq_some_iff.mp hu).1
    have hi2 : i < its2.toArray.size := by simpa using (List.getElem?_eq_some_iff.mp hu2).1
    refine wpAny_pyNext_zipD2_item D (drawsK (prog := X.prog) (w := X.w) (A := X.A.in1) b1 (I.ok.hd hc) i1 a1 n1 its.toArray) (drawsK (prog := X.prog) (w := X.w) (A := X.A.in1) b2 (I.ok.hd hc) i2 a2 n2 its2.toArray) hz hTI hTO ⟨h1, p⟩ ⟨h2, p2⟩ hi1 hi2 fun w1 w2 h' tk hP1 hP2 z' TO' st1' st2' hT hsz hk => ?_
    have e1 : w1 = u := by
      have : its[i]? = some w1 := by simpa using hP1
      rw [hu] at this
      exact (Option.some.inj this).symm
    have e2 : w2 = u2 := by
      have : its2[i]? = some w2 := by simpa using hP2
      rw [hu2] at this
      exact (Option.some.inj this).symm
    subst e1 e2
    refine ⟨_, rfl, wpAny_letOwnedTupleGo_zip (s := { s with heap := h', toks := tk }) z' fun h'' z'' sb => ?_⟩
    have hT2 : h''.get? s.heap.objs.size = some { cls := .type "tuple", data := .seq #[w1, w2] } := (sb.2 _ (Nat.ne_of_gt hzl)).trans hT
    have new : ObjOk X.prog X.w (upd H s.heap.objs.size (.tup [x, y])) h'' s.heap.objs.size (.tup [x, y]) :=
      ⟨by show 2 ≤ sizeLine; decide, [w1, w2], .cons ru (.cons ru2 .nil), ⟨_, hT2, rfl, _, rfl⟩⟩
    have I1 : Inv X pins σ (upd H s.heap.objs.size (.tup [x, y])) { s with heap := h'', toks := tk } :=
      I.turnedNew (t' := tk) (ch := [z, TI, TO, i1, i2]) (fun c o hb q => (sb.2 c (fun q' => hb (by simp [q']))).trans (hk c o (fun q' => hb (by simp [q'])) (fun q' => hb (by simp [q'])) (fun q' => hb (by simp [q'])) (fun q' => hb (by simp [q'])) q)) hf (Nat.le_refl _) new
    refine ⟨.ref s.heap.objs.size, _, I1, rfl, ⟨_, x, y, rfl, I.hok.fresh (Nat.le_refl _), rfl, fun l hl => by rw [SqK.inj I hl hqx]; exact hx, fun l hl => by rw [SqK.inj I hl hqy]; exact hy⟩, ⟨z'', ?_, ⟨w1, w2, ?_⟩, ?_, ?_⟩, fun c hcm => ?_⟩
    · exact (sb.2 _ D.TIz).trans (hk _ _ D.TIz D.TITO D.TIi1 D.TIi2 hTI)
    · exact (sb.2 _ D.TOz).trans TO'
    · exact sqIt_at st1'.1 fun o q => (sb.2 _ (Ne.symm D.zi1)).trans q
    · exact sqIt_at st2'.1 fun o q => (sb.2 _ (Ne.symm D.zi2)).trans q
    · have hlt : c < s.heap.objs.size := by
        have e' : c = z ∨ c = TI ∨ c = TO ∨ c = i1 ∨ c = i2 := by simpa using hcm
        rcases e' with q | q | q | q | q
        · rw [q]; exact hzl
        · rw [q]; exact Heap.lt_size hTI
        · rw [q]; exact Heap.lt_size hTO
        · rw [q]; obtain ⟨_, e1, _⟩ := sqIt_obj h1; exact Heap.lt_size e1
        · rw [q]; obtain ⟨_, e2, _⟩ := sqIt_obj h2; exact Heap.lt_size e2
      rw [upd_ne (Nat.ne_of_lt hlt)]
      exact (hf c hcm).1
  done := by
    intro X hP hw hK hc i pins s σ H E I hf st hg
    subst hP hw hK
    obtain ⟨hz, hTI, ⟨x0, y0, hTO⟩, h1, h2⟩ := st
    obtain ⟨xs, ys, hqx, hqy, hl1, hl2, hend⟩ := hg
    obtain ⟨its, rv, p⟩ := SqK.items I hqx
    obtain ⟨its2, rv2, p2⟩ := SqK.items I hqy
    have l1 := rv.length
    have l2 := rv2.length
    refine wpAny_pyNext_zipD2_end D (drawsK (prog := X.prog) (w := X.w) (A := X.A.in1) b1 (I.ok.hd hc) i1 a1 n1 its.toArray) (drawsK (prog := X.prog) (w := X.w) (A := X.A.in1) b2 (I.ok.hd hc) i2 a2 n2 its2.toArray) hz hTI hTO ⟨h1, p⟩ ⟨h2, p2⟩ (by simp; omega) (by simp; omega) (by simp; omega)
      fun h' tk hk => ⟨rfl, I.turnedL (t' := tk) (ch := [z, TI, TO, i1, i2]) (fun c o hb q => hk c o (fun q' => hb (by simp [q'])) (fun q' => hb (by simp [q'])) (fun q' => hb (by simp [q'])) (fun q' => hb (by simp [q'])) q) hf⟩
  self := fun A i s Q E st h => wpAny_pyIter_zip st.1 h
theorem begK {b : Bool} {a : Addr} {items : Array Value} : ∃ o, Begins (.ref a) o (fun h => SqAt b h a items) ∧ ∀ (h : Heap) (it : Addr), h.get? it = some o → SqIt b h it a 0 := by
  cases b with
  | true => exact ⟨_, begins_list a items, fun h it e => ⟨_, e, rfl, rfl⟩⟩
  | false => exact ⟨_, begins_tuple a items, fun h it e => ⟨_, e, rfl, rfl⟩⟩
def iZipK (K : PySem.W.Frag) (ta : TA) : TI := fun σ H R => ta σ H fun vs H1 => ∃ b1 b2 a1 a2 xs ys, vs = [.ref a1, .ref a2] ∧ SqK b1 K H1 a1 xs ∧ SqK b2 K H1 a2 ys ∧ R (ItzK b1 b2 K a1 a2) H1
theorem pi_zipK {X : Cx} {e e2 : Expr} {ta : TA} {p pos tpos : Pos} {elts : List Expr} {kk : Nat} (hg : Gl X "zip") (hm : X.mg "zip" = none) (ha : PA X [e, e2] ta)
    (hs : starEach [e, e2] X.env = (false, eval e X.env) :: starEach [e2] X.env) (hpl : (backTo pos (starEach [e2] X.env)).any (·.1) = false) :
    PI X (.Tuple elts kk tpos) (.Call (.Name "zip" p) [e, e2] [] pos) (iZipK X.K ta) := by
  refine ⟨fun pins s σ H R I h => ?_⟩
  refine Call_ (ld_blt I hg hm PyProof.Rows.boot_zip (PyProof.Rows.callWith_type1 (thn (ha.run pos pins s σ H _ I h) fun us s1 ⟨vs, H1, I1, r1, q1⟩ => ?_) hs hpl))
  obtain ⟨b1, b2, a1, a2, xs, ys, ex, hqx, hqy, q⟩ := q1
  subst ex
  cases r1 with
  | cons r rr =>
    cases rr with
    | cons r' rr =>
      cases rr
      cases r
      cases r'
      have fresh5 : ∀ c, c ∈ [s1.heap.objs.size + 4, s1.heap.objs.size + 2, s1.heap.objs.size + 3, s1.heap.objs.size, s1.heap.objs.size + 1] → FpOk X pins H1 c := fun c hcm => by
        have e' : c = s1.heap.objs.size + 4 ∨ c = s1.heap.objs.size + 2 ∨ c = s1.heap.objs.size + 3 ∨ c = s1.heap.objs.size ∨ c = s1.heap.objs.size + 1 := by simpa using hcm
        have hle : s1.heap.objs.size ≤ c := by
          rcases e' with z | z | z | z | z
          · rw [z]; exact Nat.le_add_right _ _
          · rw [z]; exact Nat.le_add_right _ _
          · rw [z]; exact Nat.le_add_right _ _
          · rw [z]; exact Nat.le_refl _
          · rw [z]; exact Nat.le_add_right _ _
        exact I1.fpOk hle (I1.hok.fresh hle)
      obtain ⟨its, rv, p1⟩ := SqK.items I1 hqx
      obtain ⟨its2, rv2, p2⟩ := SqK.items I1 hqy
      have l1 := sqAt_lt p1
      have l2 := sqAt_lt p2
      obtain ⟨o1, B1, g1⟩ := begK (b := b1) (a := a1) (items := its.toArray)
      obtain ⟨o2, B2, g2⟩ := begK (b := b2) (a := a2) (items := its2.toArray)
      refine zip_begins2 B1 B2 p1 p2 fun h' hz hTI hTO e1 e2 hsz hk => wpAny_pyIter_zip hz ?_
      have I2 : Inv X pins σ H1 { s1 with heap := h' } := I1.kept (t' := s1.toks) hk
      exact ⟨s1.heap.objs.size + 4, [s1.heap.objs.size + 4, s1.heap.objs.size + 2, s1.heap.objs.size + 3, s1.heap.objs.size, s1.heap.objs.size + 1], _, _, H1, rfl, I2,
        turn_zipK b1 b2 (zip_sep2 (N := s1.heap.objs.size) (fp1 := [a1]) (fp2 := [a2]) (by simpa using l1) (by simpa using l2)) (Nat.ne_of_lt l1) (Nat.ne_of_lt (Nat.lt_succ_of_lt l2)), ⟨hz, hTI, ⟨_, _, hTO⟩, g1 _ _ e1, g2 _ _ e2⟩, fresh5, q⟩

/-! ### a list or a tuple -/
def IlK (b : Bool) (K : PySem.W.Frag) (a : Addr) : L2.It := if b then Itl K a else Itt K a
theorem pi_seqK {X : Cx} {tg l : Expr} {tl : TE} (hl : PE X l tl) : PI X tg l (fun σ H R => tl σ H fun x H1 => ∃ b a xs, x = .ref a ∧ SqK b X.K H1 a xs ∧ R (IlK b X.K a) H1) := by
  refine ⟨fun pins s σ H R I h => ?_⟩
  refine thn (hl.run pins s σ H _ I h) fun v s1 ⟨x, H1, I1, r1, q1⟩ => ?_
  obtain ⟨b, a, xs, e, hq, q⟩ := q1
  subst e
  cases r1
  cases b with
  | true =>
    obtain ⟨its, rv, p, hz⟩ := I1.list hq
    refine wpAny_pyIter_list p.isList ?_
    refine ⟨s1.heap.objs.size, [s1.heap.objs.size], _, _, H1, rfl, I1.kept (t' := s1.toks) fun b o e => Heap.get?_push_of_some _ e, turn_list a _, ⟨_, Heap.get?_push_size _ rfl, rfl, rfl⟩, fun b hb => ?_, q⟩
    have e : b = s1.heap.objs.size := by simpa using hb
    subst e
    exact I1.fpOk (Nat.le_refl _) (I1.hok.fresh (Nat.le_refl _))
  | false =>
    obtain ⟨its, rv, p, hz⟩ := I1.tuple hq
    refine wpAny_pyIter_tuple (show s1.heap.IsTuple a its.toArray from p) ?_
    refine ⟨s1.heap.objs.size, [s1.heap.objs.size], _, _, H1, rfl, I1.kept (t' := s1.toks) fun b o e => Heap.get?_push_of_some _ e, turn_tuple a _, ⟨_, Heap.get?_push_size _ rfl, rfl, rfl⟩, fun b hb => ?_, q⟩
    have e : b = s1.heap.objs.size := by simpa using hb
    subst e
    exact I1.fpOk (Nat.le_refl _) (I1.hok.fresh (Nat.le_refl _))
end Ev

set_option Elab.async false
set_option linter.all false
set_option maxRecDepth 100000
set_option autoImplicit false
set_option maxHeartbeats 1000000
/-! Ev7: each construct of the language, from its parts: expressions, tests, handles. -/
namespace Ev
open PySem PySem.Spec PyProof.Rows L2

/-! ### looks at the text -/
def plainE : Expr → Bool
  | .Starred .. => false
  | .Slice .. => false
  | .Set .. => false
  | _ => true
def plainT : Expr → Bool
  | .UnaryOp .Not _ _ => false
  | .BoolOp .. => false
  | .IfExp .. => false
  | .Compare .. => false
  | _ => true
def noCall0 : Expr → Bool
  | .Call (.Name _ _) [] [] _ => false
  | _ => true
def isCompE : Expr → Bool
  | .ListComp .. => true
  | .SetComp .. => true
  | .DictComp .. => true
  | _ => false
def isTupE : Expr → Bool
  | .Tuple .. => true
  | _ => false
theorem star_cons {e : Expr} {es : List Expr} {env : Env} (h : plainE e = true) : starEach (e :: es) env = (false, eval e env) :: starEach es env := by
  cases e <;> first | rfl | cases h
theorem star_any {es : List Expr} {env : Env} {pos : Pos} (h : es.all plainE = true) : (backTo pos (starEach es env)).any (·.1) = false := by
  induction es with
  | nil => rfl
  | cons e es ih =>
    rw [List.all_cons, Bool.and_eq_true] at h
    rw [star_cons h.1]
    show (false || (backTo pos (starEach es env)).any (·.1)) = false
    rw [ih h.2]
    rfl
theorem mark_plain {e : Expr} {op : CmpOp} (h : plainE e = true) : behindInMarks op e = false := by
  cases e <;> first | rfl | cases h
theorem plainIx_of {e : Expr} (h : plainE e = true) : L2.PlainIx e := fun o i => by
  cases e <;> first | rfl | cases h
theorem attrBase_of {o : Expr} {env : Env} {f : Str} {whole : Sem Value} (h : noCall0 o = true) : attributeBase o f env whole = whole := by
  unfold attributeBase
  split
  · cases h
  · rfl
theorem isTrue_plainT {e : Expr} {env : Env} {whole : Sem Value} (h : plainT e = true) : isTrue e env whole = (do let v ← whole; standAt e.pos; holding [v] (truthy v)) := by
  cases e <;> first
    | rfl
    | (rename_i op _ _; cases op <;> first | rfl | cases h)
    | cases h
theorem fold_plain {e : Expr} {env : Env} (h : plainE e = true) (x : Value) : foldedSetIterable e env x = pure x := by
  cases e <;> first | rfl | cases h
theorem swapsF {e : Expr} {t : Option Expr} {l : Nat} {env : Env} (h : isCompE e = false) : swapsWith e t l env = pure false := by
  cases e <;> first | rfl | cases h

theorem Fin.bnd {α β γ δ : Type} {G : Gs} {Wx : WX} {rel : Wd → Wd → α → β → Prop} {rel' : Wd → Wd → γ → δ → Prop} {w : Wd} (ro : RelOk rel') {r : R α} {g : α → Ms → R γ} {Q : δ → Hp → Prop} (h : Fin G Wx rel' w (r.bind g) Q) :
    Fin G Wx rel w r (fun b H1 => ∃ a F μ m, Lk G.K ⟨F, μ, m, w.σ, H1⟩ ∧ Stp w ⟨F, μ, m, w.σ, H1⟩ ∧ rel w ⟨F, μ, m, w.σ, H1⟩ a b ∧ Fin G Wx rel' ⟨F, μ, m, w.σ, H1⟩ (g a m) Q) := by
  cases r with
  | ok a m => exact fun b F μ H L s rr => ⟨a, F, μ, m, L, s, rr, h.step ro s rfl⟩
  | exc e m => exact h
  | bad => exact h.elim

section
variable {X : Cx} {ca : Nat → Addr} {fld : Nat → List Str} {Wx : WX} {cl : Nat → List D → List D → Rc}

abbrev SE (cl : Nat → List D → List D → Rc) (ca : Nat → Addr) (fld : Nat → List Str) (Wx : WX) (X : Cx) (x : Ev.X) (e : Expr) : Prop := PE X e (TG (gx X ca fld) Wx (rD (gx X ca fld)) (evX cl x))
abbrev SH (cl : Nat → List D → List D → Rc) (ca : Nat → Addr) (fld : Nat → List Str) (Wx : WX) (X : Cx) (x : H) (e : Expr) : Prop := PE X e (TG (gx X ca fld) Wx (rH (gx X ca fld)) (evH cl x))
abbrev SA (cl : Nat → List D → List D → Rc) (ca : Nat → Addr) (fld : Nat → List Str) (Wx : WX) (X : Cx) (x : Xs) (e : List Expr) : Prop := PA X e (TG (gx X ca fld) Wx (rDs (gx X ca fld)) (evXs cl x))
abbrev ST (cl : Nat → List D → List D → Rc) (ca : Nat → Addr) (fld : Nat → List Str) (Wx : WX) (X : Cx) (x : T) (e : Expr) : Prop := PT X e (TG (gx X ca fld) Wx rB (evT cl x))
abbrev SW (cl : Nat → List D → List D → Rc) (ca : Nat → Addr) (fld : Nat → List Str) (Wx : WX) (X : Cx) (x : T) (e : Expr) : Prop := PW X e (TG (gx X ca fld) Wx rB (evT cl x))
abbrev SF (cl : Nat → List D → List D → Rc) (ca : Nat → Addr) (fld : Nat → List Str) (Wx : WX) (X : Cx) (x : Fx) (e : Expr) : Prop := PE X e (TG (gx X ca fld) Wx (rF (gx X ca fld)) (evF cl x))

theorem tg_in {α β : Type} {G : Gs} {rel : Wd → Wd → α → β → Prop} {f g : Ms → R α} {σ : L2.St} {H : Hp} {Q : β → Hp → Prop} (e : ∀ m, f m = g m) (h : TG G Wx rel f σ H Q) : ∃ F μ m, Lk G.K ⟨F, μ, m, σ, H⟩ ∧ Fin G Wx rel ⟨F, μ, m, σ, H⟩ (g m) Q := by
  obtain ⟨F, μ, m, L, h⟩ := h
  rw [e m] at h
  exact ⟨F, μ, m, L, h⟩

/-! ### names, constants -/
theorem c_v {i : Nat} {x : Str} {pos : Pos} (h : PE X (.Name x pos) (tVar i)) : SE cl ca fld Wx X (.v i) (.Name x pos) :=
  PEw h fun σ H Q h => by
    obtain ⟨F, μ, m, L, h⟩ := tg_in (g := fun m => match m.ρ[i]? with | some (.val d) => .ok d m | _ => .bad) (fun m => by rw [evX] <;> rfl) h
    split at h
    · rename_i d e
      obtain ⟨v, h1, h2⟩ := L.val i d e
      exact ⟨v, h1, h.same L h2⟩
    · exact h.elim
theorem c_o {i : Nat} {x : Str} {pos : Pos} (h : PE X (.Name x pos) (tVar i)) : SH cl ca fld Wx X (.o i) (.Name x pos) :=
  PEw h fun σ H Q h => by
    obtain ⟨F, μ, m, L, h⟩ := tg_in (g := fun m => match m.ρ[i]? with | some (.ow _) => .ok (.sl i) m | some (.rl _) => .ok (.sl i) m | some (.val d) => .ok (.val d) m | _ => .bad) (fun m => by rw [evH] <;> rfl) h
    split at h
    · rename_i c e
      obtain ⟨p, h1, h2⟩ := L.own i c (.inl e)
      exact ⟨.ref p, h1, h (.ref p) F μ H L (Stp.refl _) h1⟩
    · rename_i c e
      obtain ⟨p, h1, h2⟩ := L.own i c (.inr e)
      exact ⟨.ref p, h1, h (.ref p) F μ H L (Stp.refl _) h1⟩
    · rename_i d e
      obtain ⟨v, h1, h2⟩ := L.val i d e
      exact ⟨v, h1, h v F μ H L (Stp.refl _) h2⟩
    · exact h.elim
theorem c_kn {j : Nat} {pos : Pos} : SE cl ca fld Wx X .kn (.Constant .none j pos) :=
  PEw pe_non fun σ H Q h => by
    obtain ⟨F, μ, m, L, h⟩ := tg_in (g := fun m => .ok .non m) (fun m => by rw [evX] <;> rfl) h
    exact h.same L .non
theorem c_kb {b : Bool} {j : Nat} {pos : Pos} : SE cl ca fld Wx X (.kb b) (.Constant (.bool b) j pos) :=
  PEw pe_bl fun σ H Q h => by
    obtain ⟨F, μ, m, L, h⟩ := tg_in (g := fun m => .ok (.bl b) m) (fun m => by rw [evX] <;> rfl) h
    exact h.same L (.bl _)
theorem c_ki {b : Int} {j : Nat} {pos : Pos} : SE cl ca fld Wx X (.ki b) (.Constant (.int b) j pos) :=
  PEw pe_int fun σ H Q h => by
    obtain ⟨F, μ, m, L, h⟩ := tg_in (g := fun m => .ok (.int b) m) (fun m => by rw [evX] <;> rfl) h
    exact h.same L (.int _)
theorem c_ks {b : Str} {j : Nat} {pos : Pos} : SE cl ca fld Wx X (.ks b) (.Constant (.str b) j pos) :=
  PEw pe_str fun σ H Q h => by
    obtain ⟨F, μ, m, L, h⟩ := tg_in (g := fun m => .ok (.str b) m) (fun m => by rw [evX] <;> rfl) h
    exact h.same L (.str _)
theorem c_gl {x : Str} {d : D} {v : V} {pos : Pos} (h : PE X (.Name x pos) (tC v)) (r : ∀ F μ, Rep X.K F μ d v) : SE cl ca fld Wx X (.gl x d) (.Name x pos) :=
  PEw h fun σ H Q h => by
    obtain ⟨F, μ, m, L, h⟩ := tg_in (g := fun m => .ok d m) (fun m => by rw [evX] <;> rfl) h
    exact h.same L (r F μ)
/-- what a slot owned is kept as it is from now on -/
theorem mv_of {i : Nat} {c cv : D} {F : Hp} {μ : List Addr} {m : Ms} {σ : L2.St} {H : Hp} {p : Addr} {o : HO} (L : Lk X.K ⟨F, μ, m, σ, H⟩) (e : m.ρ[i]? = some (.ow c)) (h1 : σ[i]? = some (some (V.ref p))) (h2 : F p = none) (h4 : H p = some o) (rep : Same F (upd F p o) → Rep X.K (upd F p o) μ cv (.ref p)) :
    Lk X.K ⟨upd F p o, μ, { m with ρ := m.ρ.set i (.val cv) }, σ, H⟩ ∧ Stp ⟨F, μ, m, σ, H⟩ ⟨upd F p o, μ, { m with ρ := m.ρ.set i (.val cv) }, σ, H⟩ ∧ Rep X.K (upd F p o) μ cv (.ref p) := by
  have hi := (List.getElem?_eq_some_iff.mp e).1
  have back : ∀ x q, Own ⟨upd F p o, μ, { m with ρ := m.ρ.set i (.val cv) }, σ, H⟩ x q → Own ⟨F, μ, m, σ, H⟩ x q ∧ x ≠ .inl i := by
    intro x q hq
    cases x with
    | inr n => exact ⟨hq, by simp⟩
    | inl j =>
      obtain ⟨⟨c, hc⟩, hs⟩ := hq
      rcases hc with hc | hc
      · rcases get_set hc with ⟨_, z, _⟩ | ⟨ne, z⟩
        · cases z
        · exact ⟨⟨⟨c, .inl z⟩, hs⟩, fun q => ne (Sum.inl.inj q)⟩
      · rcases get_set hc with ⟨_, z, _⟩ | ⟨ne, z⟩
        · cases z
        · exact ⟨⟨⟨c, .inr z⟩, hs⟩, fun q => ne (Sum.inl.inj q)⟩
  have own0 : Own ⟨F, μ, m, σ, H⟩ (.inl i) p := ⟨⟨_, .inl e⟩, h1⟩
  have sm : Same F (upd F p o) := fun a u q => by
    rw [upd_ne (fun z => by rw [z, h2] at q; cases q)]; exact q
  have L' : Lk X.K ⟨upd F p o, μ, { m with ρ := m.ρ.set i (.val cv) }, σ, H⟩ := by
    refine ⟨fun a u q => ?_, by simpa using L.len, L.mul, fun j d ej => ?_, fun j c hc => ?_, fun n c hc => ?_, fun a b q q1 q2 => L.inj a b q (back _ _ q1).1 (back _ _ q2).1⟩
    · have q : upd F p o a = some u := q
      by_cases z : a = p
      · subst z; rw [upd_same] at q; cases q; exact h4
      · rw [upd_ne z] at q; exact L.fro a u q
    · rcases get_set ej with ⟨rfl, z, _⟩ | ⟨ne, z⟩
      · cases z
        exact ⟨.ref p, h1, rep sm⟩
      · obtain ⟨v, q1, q2⟩ := L.val j d z
        exact ⟨v, q1, q2.mono sm (List.prefix_refl _)⟩
    · have z : j ≠ i ∧ (m.ρ[j]? = some (Sl.ow c) ∨ m.ρ[j]? = some (Sl.rl c)) := by
        rcases hc with hc | hc
        · rcases get_set hc with ⟨_, z, _⟩ | ⟨ne, z⟩
          · cases z
          · exact ⟨ne, .inl z⟩
        · rcases get_set hc with ⟨_, z, _⟩ | ⟨ne, z⟩
          · cases z
          · exact ⟨ne, .inr z⟩
      obtain ⟨q, q1, q2, q3⟩ := L.own j c z.2
      refine ⟨q, q1, ?_, q3.mono sm (List.prefix_refl _)⟩
      show upd F p o q = none
      rw [upd_ne (fun y => by
        subst y
        exact z.1 (Sum.inl.inj (L.inj (.inl j) (.inl i) q ⟨⟨c, z.2⟩, q1⟩ own0)))]
      exact q2
    · obtain ⟨q, q1, q2, q3⟩ := L.sto n c hc
      refine ⟨q, q1, ?_, q3.mono sm (List.prefix_refl _)⟩
      show upd F p o q = none
      rw [upd_ne (fun y => by
        subst y
        have := L.inj (.inr n) (.inl i) q q1 own0
        cases this)]
      exact q2
  refine ⟨L', ⟨sm, List.prefix_refl _, fun _ _ q _ => q, fun q x hq => .inl ⟨x, (back _ _ hq).1⟩, fun q u eq => ?_, fun _ q => q, fun j c hj => ?_⟩, rep sm⟩
  · by_cases z : q = p
    · subst z; exact .inr (.inr (.inl ⟨_, own0⟩))
    · have eq : upd F p o q = some u := eq
      rw [upd_ne z] at eq
      exact .inl (by show F q ≠ none; rw [eq]; simp)
  · have hj : m.ρ[j]? = some (Sl.rl c) := hj
    have ne : i ≠ j := fun q => by
      subst q
      rw [e] at hj
      cases hj
    exact ⟨by show (m.ρ.set i _)[j]? = _; rw [List.getElem?_set_ne ne]; exact hj, rfl⟩
/-- an owned list is handed on -/
theorem c_mv {i : Nat} {x : Str} {pos : Pos} (h : PE X (.Name x pos) (tVar i)) : SE cl ca fld Wx X (.mv i) (.Name x pos) :=
  PEw h fun σ H Q h => by
    obtain ⟨F, μ, m, L, h⟩ := tg_in (g := fun m => match m.ρ[i]? with | some (.ow (.lst xs)) => .ok (.lst xs) { m with ρ := m.ρ.set i (.val (.lst xs)) } | some (.ow (.dic ((.non, .bl true) :: kvs))) => .ok (uD kvs) { m with ρ := m.ρ.set i (.val (uD kvs)) } | some (.val d) => .ok d m | _ => .bad) (fun m => by rw [evX] <;> rfl) h
    split at h
    · rename_i xs e
      obtain ⟨p, h1, h2, h3⟩ := L.own i (.lst xs) (.inl e)
      obtain ⟨vs, h4, h5⟩ := h3
      have k := mv_of (cv := .lst xs) L e h1 h2 h4 fun sm => .lst (SqL.of upd_same) (h5.mono sm (List.prefix_refl _))
      exact ⟨.ref p, h1, h (.ref p) _ μ H k.1 k.2.1 k.2.2⟩
    · rename_i kvs e
      obtain ⟨p, h1, h2, h3⟩ := L.own i (uD kvs) (.inl e)
      obtain ⟨es, h4, h5, h6⟩ := ConD.u h3
      have k := mv_of (cv := uD kvs) L e h1 h2 h4 fun sm => .dic upd_same (h5.mono sm (List.prefix_refl _)) h6
      exact ⟨.ref p, h1, h (.ref p) _ μ H k.1 k.2.1 k.2.2⟩
    · rename_i d e
      obtain ⟨v, h1, h2⟩ := L.val i d e
      exact ⟨v, h1, h.same L h2⟩
    · exact h.elim
theorem c_hx {x : Ev.X} {e : Expr} (h : SE cl ca fld Wx X x e) : SH cl ca fld Wx X (.x x) e :=
  PEw h fun σ H Q h => by
    obtain ⟨F, μ, m, L, h⟩ := tg_in (g := fun m => (evX cl x m).bind fun d m => .ok (.val d) m) (fun m => by rw [evH] <;> rfl) h
    refine TG.mono (Fin.bind (rel := rD (gx X ca fld)) rH_ok L h) fun v H1 ⟨d, F1, μ1, m1, L1, s1, r1, h1⟩ => h1 v F1 μ1 H1 L1 (Stp.refl _) r1

/-! ### operators -/
theorem c_bin {o : Operator} {a b : Ev.X} {l r : Expr} {pos : Pos} (ha : SE cl ca fld Wx X a l) (hb : SE cl ca fld Wx X b r) : SE cl ca fld Wx X (.bin o a b) (.BinOp l o r pos) :=
  PEw (pe_op (op_binE (ca := ca) (fld := fld) (Wx := Wx) o) ha hb) fun σ H Q h => by
    obtain ⟨F, μ, m, L, h⟩ := tg_in (g := fun m => (evX cl a m).bind fun x m => (evX cl b m).bind fun y m => opt (binD o x y) m) (fun m => by rw [evX] <;> rfl) h
    refine TG.mono (Fin.bind (rel := rD (gx X ca fld)) rD_ok L h) fun v H1 ⟨d, F1, μ1, m1, L1, s1, r1, h1⟩ => ?_
    refine TG.mono (Fin.bind (rel := rD (gx X ca fld)) rD_ok L1 h1) fun u H2 ⟨e, F2, μ2, m2, L2, s2, r2, h2⟩ => ?_
    exact ⟨F2, μ2, m2, σ, d, e, L2, Rep.mono s2.fle s2.mu r1, r2, h2⟩
theorem c_neg {a : Ev.X} {l : Expr} {pos : Pos} (ha : SE cl ca fld Wx X a l) : SE cl ca fld Wx X (.neg a) (.UnaryOp .USub l pos) :=
  PEw (pe_un un_neg ha) fun σ H Q h => by
    obtain ⟨F, μ, m, L, h⟩ := tg_in (g := fun m => (evX cl a m).bind fun x m => match x with | .int i => .ok (.int (-i)) m | _ => .bad) (fun m => by rw [evX] <;> rfl) h
    refine TG.mono (Fin.bind (rel := rD (gx X ca fld)) rD_ok L h) fun v H1 ⟨d, F1, μ1, m1, L1, s1, r1, h1⟩ => ?_
    split at h1
    · cases rep_int r1
      exact ⟨_, rfl, h1.same L1 (.int _)⟩
    · exact h1.elim
theorem cmpD_bl {o : CmpOp} {a b d : D} (h : cmpD o a b = some d) : ∃ k, d = .bl k := by
  unfold cmpD at h
  split at h <;> first
    | (cases (Option.some.inj h); exact ⟨_, rfl⟩)
    | (split at h <;> first | (cases (Option.some.inj h); exact ⟨_, rfl⟩) | cases h)
    | cases h
theorem c_cmp {o : CmpOp} {a b : Ev.X} {l r : Expr} {pos : Pos} (hu : X.A.units + 64 < cLine) (hp : plainE r = true) (ha : SE cl ca fld Wx X a l) (hb : SE cl ca fld Wx X b r) : SE cl ca fld Wx X (.cmp o a b) (.Compare l [o] [r] pos) :=
  PEw (pe_cmpR (op_cmpE (ca := ca) (fld := fld) (Wx := Wx) o hu) ha hb (mark_plain hp)) fun σ H Q h => by
    obtain ⟨F, μ, m, L, h⟩ := tg_in (g := fun m => (evX cl a m).bind fun x m => (evX cl b m).bind fun y m => opt (cmpD o x y) m) (fun m => by rw [evX] <;> rfl) h
    refine TG.mono (Fin.bind (rel := rD (gx X ca fld)) rD_ok L h) fun v H1 ⟨d, F1, μ1, m1, L1, s1, r1, h1⟩ => ?_
    refine TG.mono (Fin.bind (rel := rD (gx X ca fld)) rD_ok L1 h1) fun u H2 ⟨e, F2, μ2, m2, L2, s2, r2, h2⟩ => ?_
    exact ⟨F2, μ2, m2, σ, d, e, L2, Rep.mono s2.fle s2.mu r1, r2, h2⟩
def blR (z : D) (m : Ms) : R Bool := match z with
  | .bl k => .ok k m
  | _ => .bad
theorem t_cmp {o : CmpOp} {a b : Ev.X} {l r : Expr} {pos : Pos} (hu : X.A.units + 64 < cLine) (hp : plainE r = true) (ha : SE cl ca fld Wx X a l) (hb : SE cl ca fld Wx X b r) : ST cl ca fld Wx X (.cmp o a b) (.Compare l [o] [r] pos) :=
  PTw (pt_cmpR (op_cmpE (ca := ca) (fld := fld) (Wx := Wx) o hu) ha hb (mark_plain hp)) fun σ H Q h => by
    obtain ⟨F, μ, m, L, h⟩ := tg_in (g := fun m => (evX cl a m).bind fun x m => (evX cl b m).bind fun y m => (opt (cmpD o x y) m).bind blR) (fun m => by rw [evT] <;> rfl) h
    refine TG.mono (Fin.bind (rel := rD (gx X ca fld)) rB_ok L h) fun v H1 ⟨d, F1, μ1, m1, L1, s1, r1, h1⟩ => ?_
    refine TG.mono (Fin.bind (rel := rD (gx X ca fld)) rB_ok L1 h1) fun u H2 ⟨e, F2, μ2, m2, L2, s2, r2, h2⟩ => ?_
    refine ⟨F2, μ2, m2, σ, d, e, L2, Rep.mono s2.fle s2.mu r1, r2, (Fin.bnd (rel := rD (gx X ca fld)) rB_ok h2).mono fun z H3 ⟨q, F3, μ3, m3, L3, s3, r3, h3⟩ => ?_⟩
    unfold blR at h3
    split at h3
    · cases rep_bl r3
      exact ⟨_, rfl, h3 _ F3 μ3 H3 L3 (Stp.refl _) rfl⟩
    · exact h3.elim
theorem c_cm2 {o o' : CmpOp} {a b c : Ev.X} {l r k : Expr} {pos : Pos} (hu : X.A.units + 64 < cLine) (hp : plainE r = true) (hp' : plainE k = true) (ha : SE cl ca fld Wx X a l) (hb : SE cl ca fld Wx X b r) (hc : SE cl ca fld Wx X c k) :
    SE cl ca fld Wx X (.cm2 o o' a b c) (.Compare l [o, o'] [r, k] pos) :=
  PEw (pe_chain (op_cmpE (ca := ca) (fld := fld) (Wx := Wx) o hu) (op_cmpE (ca := ca) (fld := fld) (Wx := Wx) o' hu) ha hb hc (by show behindInMarks o' k = false; exact mark_plain hp')) fun σ H Q h => by
    obtain ⟨F, μ, m, L, h⟩ := tg_in (g := fun m => (evX cl a m).bind fun x m => (evX cl b m).bind fun y m => (opt (cmpD o x y) m).bind fun z m => match z with
      | .bl true => (evX cl c m).bind fun w m => opt (cmpD o' y w) m
      | .bl false => .ok (.bl false) m
      | _ => .bad) (fun m => by rw [evX] <;> rfl) h
    refine TG.mono (Fin.bind (rel := rD (gx X ca fld)) rD_ok L h) fun v H1 ⟨d, F1, μ1, m1, L1, s1, r1, h1⟩ => ?_
    refine TG.mono (Fin.bind (rel := rD (gx X ca fld)) rD_ok L1 h1) fun u H2 ⟨e, F2, μ2, m2, L2, s2, r2, h2⟩ => ?_
    refine ⟨F2, μ2, m2, σ, d, e, L2, Rep.mono s2.fle s2.mu r1, r2, (Fin.bnd (rel := rD (gx X ca fld)) rD_ok h2).mono fun z H3 ⟨q, F3, μ3, m3, L3, s3, r3, h3⟩ => ?_⟩
    split at h3
    · cases rep_bl r3
      refine ⟨true, rfl, ?_⟩
      rw [if_pos rfl]
      refine TG.mono (Fin.bind (rel := rD (gx X ca fld)) rD_ok L3 h3) fun u' H4 ⟨e', F4, μ4, m4, L4, s4, r4, h4⟩ => ?_
      exact ⟨F4, μ4, m4, σ, e, e', L4, Rep.mono (s3.trans s4).fle (s3.trans s4).mu r2, r4, h4⟩
    · cases rep_bl r3
      refine ⟨false, rfl, ?_⟩
      rw [if_neg Bool.false_ne_true]
      exact h3.same L3 (.bl _)
    · exact h3.elim
theorem t_cm2 {o o' : CmpOp} {a b c : Ev.X} {l r k : Expr} {pos : Pos} (hu : X.A.units + 64 < cLine) (hp : plainE r = true) (hp' : plainE k = true) (ha : SE cl ca fld Wx X a l) (hb : SE cl ca fld Wx X b r) (hc : SE cl ca fld Wx X c k) :
    ST cl ca fld Wx X (.cm2 o o' a b c) (.Compare l [o, o'] [r, k] pos) :=
  PTw (pt_chain (op_cmpE (ca := ca) (fld := fld) (Wx := Wx) o hu) (op_cmpE (ca := ca) (fld := fld) (Wx := Wx) o' hu) ha hb hc (by show behindInMarks o' k = false; exact mark_plain hp')) fun σ H Q h => by
    obtain ⟨F, μ, m, L, h⟩ := tg_in (g := fun m => (evX cl a m).bind fun x m => (evX cl b m).bind fun y m => (opt (cmpD o x y) m).bind fun z m => match z with
      | .bl true => (evX cl c m).bind fun w m => (opt (cmpD o' y w) m).bind blR
      | .bl false => .ok false m
      | _ => .bad) (fun m => by rw [evT] <;> rfl) h
    refine TG.mono (Fin.bind (rel := rD (gx X ca fld)) rB_ok L h) fun v H1 ⟨d, F1, μ1, m1, L1, s1, r1, h1⟩ => ?_
    refine TG.mono (Fin.bind (rel := rD (gx X ca fld)) rB_ok L1 h1) fun u H2 ⟨e, F2, μ2, m2, L2, s2, r2, h2⟩ => ?_
    refine ⟨F2, μ2, m2, σ, d, e, L2, Rep.mono s2.fle s2.mu r1, r2, (Fin.bnd (rel := rD (gx X ca fld)) rB_ok h2).mono fun z H3 ⟨q, F3, μ3, m3, L3, s3, r3, h3⟩ => ?_⟩
    split at h3
    · cases rep_bl r3
      refine ⟨true, rfl, ?_⟩
      rw [if_pos rfl]
      refine TG.mono (Fin.bind (rel := rD (gx X ca fld)) rB_ok L3 h3) fun u' H4 ⟨e', F4, μ4, m4, L4, s4, r4, h4⟩ => ?_
      refine ⟨F4, μ4, m4, σ, e, e', L4, Rep.mono (s3.trans s4).fle (s3.trans s4).mu r2, r4, (Fin.bnd (rel := rD (gx X ca fld)) rB_ok h4).mono fun z' H5 ⟨q', F5, μ5, m5, L5, s5, r5, h5⟩ => ?_⟩
      unfold blR at h5
      split at h5
      · cases rep_bl r5
        exact ⟨_, rfl, h5 _ F5 μ5 H5 L5 (Stp.refl _) rfl⟩
      · exact h5.elim
    · cases rep_bl r3
      refine ⟨false, rfl, ?_⟩
      rw [if_neg Bool.false_ne_true]
      exact ⟨false, rfl, h3 _ F3 μ3 H3 L3 (Stp.refl _) rfl⟩
    · exact h3.elim
theorem c_inn {n : Bool} {a : Ev.X} {c : H} {l r : Expr} {pos : Pos} (hu : X.A.units + 65 < cLine) (hp : plainE r = true) (ha : SE cl ca fld Wx X a l) (hb : SH cl ca fld Wx X c r) : SE cl ca fld Wx X (.inn n a c) (.Compare l [if n then .NotIn else .In] [r] pos) :=
  PEw (pe_cmpR (op_innE (ca := ca) (fld := fld) (Wx := Wx) n hu) ha hb (mark_plain hp)) fun σ H Q h => by
    obtain ⟨F, μ, m, L, h⟩ := tg_in (g := fun m => (evX cl a m).bind fun x m => (evH cl c m).bind fun h m => (inM n x h m).bind blM) (fun m => by rw [evX] <;> rfl) h
    refine TG.mono (Fin.bind (rel := rD (gx X ca fld)) rD_ok L h) fun v H1 ⟨d, F1, μ1, m1, L1, s1, r1, h1⟩ => ?_
    refine TG.mono (Fin.bind (rel := rH (gx X ca fld)) rD_ok L1 h1) fun u H2 ⟨e, F2, μ2, m2, L2, s2, r2, h2⟩ => ?_
    exact ⟨F2, μ2, m2, σ, _, d, e, L2, Rep.mono s2.fle s2.mu r1, r2, h2⟩
theorem t_inn {n : Bool} {a : Ev.X} {c : H} {l r : Expr} {pos : Pos} (hu : X.A.units + 65 < cLine) (hp : plainE r = true) (ha : SE cl ca fld Wx X a l) (hb : SH cl ca fld Wx X c r) : ST cl ca fld Wx X (.inn n a c) (.Compare l [if n then .NotIn else .In] [r] pos) :=
  PTw (pt_cmpR (op_innE (ca := ca) (fld := fld) (Wx := Wx) n hu) ha hb (mark_plain hp)) fun σ H Q h => by
    obtain ⟨F, μ, m, L, h⟩ := tg_in (g := fun m => (evX cl a m).bind fun x m => (evH cl c m).bind fun h m => inM n x h m) (fun m => by rw [evT] <;> rfl) h
    refine TG.mono (Fin.bind (rel := rD (gx X ca fld)) rB_ok L h) fun v H1 ⟨d, F1, μ1, m1, L1, s1, r1, h1⟩ => ?_
    refine TG.mono (Fin.bind (rel := rH (gx X ca fld)) rB_ok L1 h1) fun u H2 ⟨e, F2, μ2, m2, L2, s2, r2, h2⟩ => ?_
    refine ⟨F2, μ2, m2, σ, _, d, e, L2, Rep.mono s2.fle s2.mu r1, r2, ?_⟩
    cases hq : inM n d e m2 with
    | ok k m3 =>
      rw [hq] at h2
      refine fun v' F3 μ3 H3 L3 s3 r3 => ?_
      have r3 : Rep X.K F3 μ3 (.bl k) v' := r3
      cases rep_bl r3
      exact ⟨k, rfl, h2 k F3 μ3 H3 L3 s3 rfl⟩
    | exc e' m3 => rw [hq] at h2; exact h2
    | bad => rw [hq] at h2; exact h2.elim

/-! ### and, or, not -/
theorem c_and {a b : Ev.X} {l r : Expr} {rest : List Expr} {pos : Pos} (ha : SE cl ca fld Wx X a l) (hb : SE cl ca fld Wx X b (.BoolOp .And (r :: rest) pos)) : SE cl ca fld Wx X (.and a b) (.BoolOp .And (l :: r :: rest) pos) :=
  PEw (pe_and ha hb) fun σ H Q h => by
    obtain ⟨F, μ, m, L, h⟩ := tg_in (g := fun m => (evX cl a m).bind fun x m => match x with
      | .bl true => evX cl b m
      | .bl false => .ok (.bl false) m
      | _ => .bad) (fun m => by rw [evX] <;> rfl) h
    refine TG.mono (Fin.bind (rel := rD (gx X ca fld)) rD_ok L h) fun v H1 ⟨d, F1, μ1, m1, L1, s1, r1, h1⟩ => ?_
    split at h1
    · cases rep_bl r1
      refine ⟨true, rfl, ?_⟩
      rw [if_pos rfl]
      exact ⟨F1, μ1, m1, L1, h1⟩
    · cases rep_bl r1
      refine ⟨false, rfl, ?_⟩
      rw [if_neg Bool.false_ne_true]
      exact h1.same L1 (.bl _)
    · exact h1.elim
theorem c_or {a b : Ev.X} {l r : Expr} {rest : List Expr} {pos : Pos} (ha : SE cl ca fld Wx X a l) (hb : SE cl ca fld Wx X b (.BoolOp .Or (r :: rest) pos)) : SE cl ca fld Wx X (.or a b) (.BoolOp .Or (l :: r :: rest) pos) :=
  PEw (pe_or ha hb) fun σ H Q h => by
    obtain ⟨F, μ, m, L, h⟩ := tg_in (g := fun m => (evX cl a m).bind fun x m => match x with
      | .bl true => .ok (.bl true) m
      | .bl false => evX cl b m
      | _ => .bad) (fun m => by rw [evX] <;> rfl) h
    refine TG.mono (Fin.bind (rel := rD (gx X ca fld)) rD_ok L h) fun v H1 ⟨d, F1, μ1, m1, L1, s1, r1, h1⟩ => ?_
    split at h1
    · cases rep_bl r1
      refine ⟨true, rfl, ?_⟩
      rw [if_pos rfl]
      exact h1.same L1 (.bl _)
    · cases rep_bl r1
      refine ⟨false, rfl, ?_⟩
      rw [if_neg Bool.false_ne_true]
      exact ⟨F1, μ1, m1, L1, h1⟩
    · exact h1.elim
theorem c_one {a : Ev.X} {op : BoolOp} {l : Expr} {pos : Pos} (ha : SE cl ca fld Wx X a l) : SE cl ca fld Wx X (.one a) (.BoolOp op [l] pos) :=
  PEw (pe_one ha) fun σ H Q h => tg_in (g := evX cl a) (fun m => by rw [evX] <;> rfl) h
theorem tru_of {F : Hp} {μ : List Addr} {m : Ms} {σ : L2.St} {H : Hp} {w0 : Wd} {h : HV} {v : V} {α β : Type} {rel : Wd → Wd → α → β → Prop} {w : Wd} {g : Bool → Ms → R α} {Q : β → Hp → Prop} (L : Lk X.K ⟨F, μ, m, σ, H⟩) (r : rH (gx X ca fld) w0 ⟨F, μ, m, σ, H⟩ h v)
    (hf : Fin (gx X ca fld) Wx rel w ((truM h m).bind g) Q) : ∃ k, TruV X.K v H k ∧ Fin (gx X ca fld) Wx rel w (g k m) Q := by
  unfold truM at hf
  obtain ⟨c, k, e1, e2, hf⟩ := opt_bindf hf
  exact ⟨k, tru_view (view_of (G := gx X ca fld) L r e1) e2, hf⟩
theorem c_not {c : H} {l : Expr} {pos : Pos} (hc : SH cl ca fld Wx X c l) : SE cl ca fld Wx X (.not c) (.UnaryOp .Not l pos) :=
  PEw (pe_notT hc) fun σ H Q h => by
    obtain ⟨F, μ, m, L, h⟩ := tg_in (g := fun m => (evH cl c m).bind fun h m => (truM h m).bind fun b m => .ok (.bl (!b)) m) (fun m => by rw [evX] <;> rfl) h
    refine TG.mono (Fin.bind (rel := rH (gx X ca fld)) rD_ok L h) fun v H1 ⟨d, F1, μ1, m1, L1, s1, r1, h1⟩ => ?_
    obtain ⟨k, e1, h2⟩ := tru_of L1 r1 h1
    exact ⟨k, e1, h2.same L1 (.bl _)⟩
theorem t_h {c : H} {l : Expr} (hp : plainT l = true) (hc : SH cl ca fld Wx X c l) : ST cl ca fld Wx X (.h c) l :=
  PTw (pt_truth hc fun whole => isTrue_plainT hp) fun σ H Q h => by
    obtain ⟨F, μ, m, L, h⟩ := tg_in (g := fun m => (evH cl c m).bind fun h m => (truM h m).bind fun b m => .ok b m) (fun m => by
      rw [evT]
      cases evH cl c m with
      | ok h m =>
        show truM h m = (truM h m).bind _
        cases truM h m <;> rfl
      | exc _ _ => rfl
      | bad => rfl) h
    refine TG.mono (Fin.bind (rel := rH (gx X ca fld)) rB_ok L h) fun v H1 ⟨d, F1, μ1, m1, L1, s1, r1, h1⟩ => ?_
    obtain ⟨k, e1, h2⟩ := tru_of L1 r1 h1
    exact ⟨k, e1, h2 k F1 μ1 H1 L1 (Stp.refl _) rfl⟩
theorem w_one {a : T} {op : BoolOp} {l : Expr} {pos : Pos} (ha : ST cl ca fld Wx X a l) : SW cl ca fld Wx X (.one a) (.BoolOp op [l] pos) := by
  cases op with
  | And => exact PWw (pw_and1 ha) fun σ H Q h => tg_in (g := evT cl a) (fun m => by rw [evT] <;> rfl) h
  | Or => exact PWw (pw_or1 ha) fun σ H Q h => tg_in (g := evT cl a) (fun m => by rw [evT] <;> rfl) h
theorem w_and {a b : T} {l r : Expr} {rest : List Expr} {pos : Pos} (ha : ST cl ca fld Wx X a l) (hb : SW cl ca fld Wx X b (.BoolOp .And (r :: rest) pos)) : SW cl ca fld Wx X (.and a b) (.BoolOp .And (l :: r :: rest) pos) :=
  PWw (pw_and ha hb) fun σ H Q h => by
    obtain ⟨F, μ, m, L, h⟩ := tg_in (g := fun m => (evT cl a m).bind fun x m => if x then evT cl b m else .ok false m) (fun m => by rw [evT] <;> rfl) h
    refine TG.mono (Fin.bind (rel := rB) rB_ok L h) fun v H1 ⟨d, F1, μ1, m1, L1, s1, r1, h1⟩ => ?_
    cases (show d = v from r1)
    cases v with
    | true =>
      rw [if_pos rfl]
      exact ⟨F1, μ1, m1, L1, h1⟩
    | false =>
      rw [if_neg Bool.false_ne_true]
      exact h1 false F1 μ1 H1 L1 (Stp.refl _) rfl
theorem w_or {a b : T} {l r : Expr} {rest : List Expr} {pos : Pos} (ha : ST cl ca fld Wx X a l) (hb : SW cl ca fld Wx X b (.BoolOp .Or (r :: rest) pos)) : SW cl ca fld Wx X (.or a b) (.BoolOp .Or (l :: r :: rest) pos) :=
  PWw (pw_or ha hb) fun σ H Q h => by
    obtain ⟨F, μ, m, L, h⟩ := tg_in (g := fun m => (evT cl a m).bind fun x m => if x then .ok true m else evT cl b m) (fun m => by rw [evT] <;> rfl) h
    refine TG.mono (Fin.bind (rel := rB) rB_ok L h) fun v H1 ⟨d, F1, μ1, m1, L1, s1, r1, h1⟩ => ?_
    cases (show d = v from r1)
    cases v with
    | true =>
      rw [if_pos rfl]
      exact h1 true F1 μ1 H1 L1 (Stp.refl _) rfl
    | false =>
      rw [if_neg Bool.false_ne_true]
      exact ⟨F1, μ1, m1, L1, h1⟩
theorem t_not {a : T} {l : Expr} {pos : Pos} (ha : ST cl ca fld Wx X a l) : ST cl ca fld Wx X (.not a) (.UnaryOp .Not l pos) :=
  PTw (pt_not ha) fun σ H Q h => by
    obtain ⟨F, μ, m, L, h⟩ := tg_in (g := fun m => (evT cl a m).bind fun x m => .ok (!x) m) (fun m => by rw [evT] <;> rfl) h
    refine TG.mono (Fin.bind (rel := rB) rB_ok L h) fun v H1 ⟨d, F1, μ1, m1, L1, s1, r1, h1⟩ => ?_
    cases (show d = v from r1)
    exact h1 (!v) F1 μ1 H1 L1 (Stp.refl _) rfl
theorem c_ife {t : T} {a b : Ev.X} {c l r : Expr} {pos : Pos} (ht : ST cl ca fld Wx X t c) (ha : SE cl ca fld Wx X a l) (hb : SE cl ca fld Wx X b r) : SE cl ca fld Wx X (.ife t a b) (.IfExp c l r pos) :=
  PEw (pe_ifExp ht ha hb) fun σ H Q h => by
    obtain ⟨F, μ, m, L, h⟩ := tg_in (g := fun m => (evT cl t m).bind fun k m => if k then evX cl a m else evX cl b m) (fun m => by rw [evX] <;> rfl) h
    refine TG.mono (Fin.bind (rel := rB) rD_ok L h) fun v H1 ⟨d, F1, μ1, m1, L1, s1, r1, h1⟩ => ?_
    cases (show d = v from r1)
    cases v with
    | true =>
      rw [if_pos rfl]
      exact ⟨F1, μ1, m1, L1, h1⟩
    | false =>
      rw [if_neg Bool.false_ne_true]
      exact ⟨F1, μ1, m1, L1, h1⟩

/-! ### arguments, tuples -/
theorem a_nil : SA cl ca fld Wx X .nil [] :=
  PAw pa_nil fun σ H Q h => by
    obtain ⟨F, μ, m, L, h⟩ := tg_in (g := fun m => .ok [] m) (fun m => by rw [evXs] <;> rfl) h
    exact h [] F μ H L (Stp.refl _) .nil
theorem a_cons {x : Ev.X} {r : Xs} {e : Expr} {es : List Expr} (hp : plainE e = true) (hx : SE cl ca fld Wx X x e) (hr : SA cl ca fld Wx X r es) : SA cl ca fld Wx X (.cons x r) (e :: es) :=
  PAw (pa_cons hx hr (star_cons hp)) fun σ H Q h => by
    obtain ⟨F, μ, m, L, h⟩ := tg_in (g := fun m => (evX cl x m).bind fun d m => (evXs cl r m).bind fun ds m => .ok (d :: ds) m) (fun m => by rw [evXs] <;> rfl) h
    refine TG.mono (Fin.bind (rel := rD (gx X ca fld)) rDs_ok L h) fun v H1 ⟨d, F1, μ1, m1, L1, s1, r1, h1⟩ => ?_
    refine TG.mono (Fin.bind (rel := rDs (gx X ca fld)) rDs_ok L1 h1) fun vs H2 ⟨ds, F2, μ2, m2, L2, s2, r2, h2⟩ => ?_
    exact h2 (v :: vs) F2 μ2 H2 L2 (Stp.refl _) (.cons (Rep.mono s2.fle s2.mu r1) r2)
theorem c_tup {es : Xs} {l : List Expr} {k : Nat} {pos : Pos} (h : SA cl ca fld Wx X es l) : SE cl ca fld Wx X (.tup es) (.Tuple l k pos) :=
  PEw (pe_tup h) fun σ H Q h => by
    obtain ⟨F, μ, m, L, h⟩ := tg_in (g := fun m => (evXs cl es m).bind fun ds m => if ds.length ≤ sizeLine then .ok (.tup ds) m else .bad) (fun m => by rw [evX] <;> rfl) h
    refine TG.mono (Fin.bind (rel := rDs (gx X ca fld)) rD_ok L h) fun vs H1 ⟨ds, F1, μ1, m1, L1, s1, r1, h1⟩ => ?_
    split at h1
    · rename_i hz
      exact ⟨by rw [← Reps.length r1]; exact hz, fun p hp => h1.tupN L1 r1 hp⟩
    · exact h1.elim
theorem f_disp {es : Xs} {l : List Expr} {pos : Pos} (h : SA cl ca fld Wx X es l) : SF cl ca fld Wx X (.disp es) (.List l pos) :=
  PEw (pe_lst h) fun σ H Q h => by
    obtain ⟨F, μ, m, L, h⟩ := tg_in (g := fun m => (evXs cl es m).bind fun ds m => if ds.length ≤ sizeLine then .ok (.lst ds) m else .bad) (fun m => by rw [evF] <;> rfl) h
    refine TG.mono (Fin.bind (rel := rDs (gx X ca fld)) rF_ok L h) fun vs H1 ⟨ds, F1, μ1, m1, L1, s1, r1, h1⟩ => ?_
    split at h1
    · rename_i hz
      exact ⟨by rw [← Reps.length r1]; exact hz, fun p hp => h1.freshL L1 r1 hp⟩
    · exact h1.elim

/-! ### built-ins -/
theorem one_arg {c : H} {e : Expr} (hp : plainE e = true) (hc : SH cl ca fld Wx X c e) : PA X [e] (fun σ H Q => TG (gx X ca fld) Wx (rH (gx X ca fld)) (evH cl c) σ H fun v H1 => Q [v] H1) :=
  PAw (pa_cons hc pa_nil (star_cons hp)) fun σ H Q h => TG.mono h fun v H1 h => h
theorem one_argX {c : Ev.X} {e : Expr} (hp : plainE e = true) (hc : SE cl ca fld Wx X c e) : PA X [e] (fun σ H Q => TG (gx X ca fld) Wx (rD (gx X ca fld)) (evX cl c) σ H fun v H1 => Q [v] H1) :=
  PAw (pa_cons hc pa_nil (star_cons hp)) fun σ H Q h => TG.mono h fun v H1 h => h
theorem c_len {c : H} {e : Expr} {p pos : Pos} (hg : Gl X "len") (hm : X.mg "len" = none) (hp : plainE e = true) (hc : SH cl ca fld Wx X c e) : SE cl ca fld Wx X (.len c) (.Call (.Name "len" p) [e] [] pos) :=
  PEw (pe_callB (call_lenE (ca := ca) (fld := fld) (Wx := Wx)) hg hm PySem.boot_len (one_arg hp hc) (by decide) (by decide) (star_cons hp) (star_any rfl)) fun σ H Q h => by
    obtain ⟨F, μ, m, L, h⟩ := tg_in (g := fun m => (evH cl c m).bind lenM) (fun m => by rw [evX] <;> rfl) h
    exact TG.mono (Fin.bind (rel := rH (gx X ca fld)) rD_ok L h) fun v H1 ⟨d, F1, μ1, m1, L1, s1, r1, h1⟩ => ⟨v, rfl, F1, μ1, m1, σ, _, d, L1, r1, h1⟩
theorem c_ag {f : Ag} {c : H} {e : Expr} {p pos : Pos} (hcm : X.calm = true) (hg : Gl X f.nm) (hm : X.mg f.nm = none) (hp : plainE e = true) (hc : SH cl ca fld Wx X c e) : SE cl ca fld Wx X (.ag f c) (.Call (.Name f.nm p) [e] [] pos) :=
  PEw (pe_callB (call_agE (ca := ca) (fld := fld) (Wx := Wx) f hcm) hg hm (by cases f <;> decide +kernel) (one_arg hp hc) (by cases f <;> decide) (by cases f <;> decide) (star_cons hp) (star_any rfl)) fun σ H Q h => by
    obtain ⟨F, μ, m, L, h⟩ := tg_in (g := fun m => (evH cl c m).bind fun h m => agM f h m) (fun m => by rw [evX] <;> rfl) h
    exact TG.mono (Fin.bind (rel := rH (gx X ca fld)) rD_ok L h) fun v H1 ⟨d, F1, μ1, m1, L1, s1, r1, h1⟩ => ⟨v, rfl, F1, μ1, m1, σ, _, d, L1, r1, h1⟩
theorem c_b1 {f : B1} {a : Ev.X} {e : Expr} {p pos : Pos} (hg : Gl X f.nm) (hm : X.mg f.nm = none) (hp : plainE e = true) (ha : SE cl ca fld Wx X a e) : SE cl ca fld Wx X (.b1 f a) (.Call (.Name f.nm p) [e] [] pos) := by
  have key : ∀ σ H Q, TG (gx X ca fld) Wx (rD (gx X ca fld)) (evX cl (.b1 f a)) σ H Q → TG (gx X ca fld) Wx (rD (gx X ca fld)) (evX cl a) σ H fun v H1 => ∃ x, [v] = [x] ∧ r1P (gx X ca fld) Wx (fun a m => opt (b1D f a) m) x H1 Q := fun σ H Q h => by
    obtain ⟨F, μ, m, L, h⟩ := tg_in (g := fun m => (evX cl a m).bind fun x m => opt (b1D f x) m) (fun m => by rw [evX] <;> rfl) h
    exact TG.mono (Fin.bind (rel := rD (gx X ca fld)) rD_ok L h) fun v H1 ⟨d, F1, μ1, m1, L1, s1, r1, h1⟩ => ⟨v, rfl, F1, μ1, m1, σ, d, L1, r1, h1⟩
  cases f with
  | abs => exact PEw (pe_callB (call_b1E (ca := ca) (fld := fld) (Wx := Wx) .abs) hg hm (by decide +kernel) (one_argX hp ha) (by decide) (by decide) (star_cons hp) (star_any rfl)) key
  | int => exact PEw (pe_callTy (call_b1E (ca := ca) (fld := fld) (Wx := Wx) .int) hg hm (by decide +kernel) (one_argX hp ha) (by decide) (by decide) (star_cons hp) (star_any rfl)) key
  | bool => exact PEw (pe_callTy (call_b1E (ca := ca) (fld := fld) (Wx := Wx) .bool) hg hm (by decide +kernel) (one_argX hp ha) (by decide) (by decide) (star_cons hp) (star_any rfl)) key
theorem c_tupOf {c : H} {e : Expr} {p pos : Pos} (hg : Gl X "tuple") (hm : X.mg "tuple" = none) (hp : plainE e = true) (hc : SH cl ca fld Wx X c e) : SE cl ca fld Wx X (.tupOf c) (.Call (.Name "tuple" p) [e] [] pos) :=
  PEw (pe_callTy (call_tupE (ca := ca) (fld := fld) (Wx := Wx)) hg hm (by decide +kernel) (one_arg hp hc) (by decide) (by decide) (star_cons hp) (star_any rfl)) fun σ H Q h => by
    obtain ⟨F, μ, m, L, h⟩ := tg_in (g := fun m => (evH cl c m).bind tupM) (fun m => by rw [evX] <;> rfl) h
    exact TG.mono (Fin.bind (rel := rH (gx X ca fld)) rD_ok L h) fun v H1 ⟨d, F1, μ1, m1, L1, s1, r1, h1⟩ => ⟨v, rfl, F1, μ1, m1, σ, _, d, L1, r1, h1⟩
theorem f_lstOf {c : H} {e : Expr} {p pos : Pos} (hcm : X.calm = true) (hg : Gl X "list") (hm : X.mg "list" = none) (hp : plainE e = true) (hc : SH cl ca fld Wx X c e) : SF cl ca fld Wx X (.lstOf c) (.Call (.Name "list" p) [e] [] pos) :=
  PEw (pe_callTy (call_lstE (ca := ca) (fld := fld) (Wx := Wx) hcm) hg hm (by decide +kernel) (one_arg hp hc) (by decide) (by decide) (star_cons hp) (star_any rfl)) fun σ H Q h => by
    obtain ⟨F, μ, m, L, h⟩ := tg_in (g := fun m => (evH cl c m).bind lstM) (fun m => by rw [evF] <;> rfl) h
    exact TG.mono (Fin.bind (rel := rH (gx X ca fld)) rF_ok L h) fun v H1 ⟨d, F1, μ1, m1, L1, s1, r1, h1⟩ => ⟨v, rfl, F1, μ1, m1, σ, _, d, L1, r1, h1⟩
theorem f_srt {c : H} {e : Expr} {p pos : Pos} (hcm : X.calm = true) (hu : X.A.units + 64 < cLine) (hg : Gl X "sorted") (hm : X.mg "sorted" = none) (hp : plainE e = true) (hc : SH cl ca fld Wx X c e) : SF cl ca fld Wx X (.srt c) (.Call (.Name "sorted" p) [e] [] pos) :=
  PEw (pe_callB (call_srtE (ca := ca) (fld := fld) (Wx := Wx) hcm hu) hg hm (by decide +kernel) (one_arg hp hc) (by decide) (by decide) (star_cons hp) (star_any rfl)) fun σ H Q h => by
    obtain ⟨F, μ, m, L, h⟩ := tg_in (g := fun m => (evH cl c m).bind srtM) (fun m => by rw [evF] <;> rfl) h
    exact TG.mono (Fin.bind (rel := rH (gx X ca fld)) rF_ok L h) fun v H1 ⟨d, F1, μ1, m1, L1, s1, r1, h1⟩ => ⟨v, rfl, F1, μ1, m1, σ, _, d, L1, r1, h1⟩
theorem f_srtE {c : H} {e : Expr} {p pos : Pos} (hcm : X.calm = true) (hu : X.A.units + 64 < cLine) (hg : Gl X "sorted") (hm : X.mg "sorted" = none) (hp : plainE e = true) (hc : SH cl ca fld Wx X c e) : SF cl ca fld Wx X (.srtE c) (.Call (.Name "sorted" p) [e] [] pos) :=
  PEw (pe_callB (call_srtEE (ca := ca) (fld := fld) (Wx := Wx) hcm hu) hg hm (by decide +kernel) (one_arg hp hc) (by decide) (by decide) (star_cons hp) (star_any rfl)) fun σ H Q h => by
    obtain ⟨F, μ, m, L, h⟩ := tg_in (g := fun m => (evH cl c m).bind srtEM) (fun m => by rw [evF] <;> rfl) h
    exact TG.mono (Fin.bind (rel := rH (gx X ca fld)) rF_ok L h) fun v H1 ⟨d, F1, μ1, m1, L1, s1, r1, h1⟩ => ⟨v, rfl, F1, μ1, m1, σ, _, d, L1, r1, h1⟩
theorem c_isi {t : Ty} {a : Ev.X} {e : Expr} {p q pos : Pos} (hg : Gl X "isinstance") (hm : X.mg "isinstance" = none) (hg2 : Gl X t.nm) (hm2 : X.mg t.nm = none) (hp : plainE e = true) (ha : SE cl ca fld Wx X a e) :
    SE cl ca fld Wx X (.isi a t) (.Call (.Name "isinstance" p) [e, .Name t.nm q] [] pos) := by
  have ht : PE X (.Name t.nm q) (tC (.ty t.ty)) := pe_bltn hg2 hm2 (u := .type t.ty) (by cases t <;> decide +kernel) rfl (by cases t <;> decide) (by cases t <;> decide)
  refine PEw (pe_callB (call_isiE (ca := ca) (fld := fld) (Wx := Wx) t) hg hm (by decide +kernel) (pa_cons ha (pa_cons ht pa_nil (star_cons rfl)) (star_cons hp)) (by decide) (by decide) (star_cons hp) (star_any rfl)) fun σ H Q h => ?_
  obtain ⟨F, μ, m, L, h⟩ := tg_in (g := fun m => (evX cl a m).bind fun x m => isiM x t m) (fun m => by rw [evX] <;> rfl) h
  exact TG.mono (Fin.bind (rel := rD (gx X ca fld)) rD_ok L h) fun v H1 ⟨d, F1, μ1, m1, L1, s1, r1, h1⟩ => ⟨v, rfl, F1, μ1, m1, σ, d, L1, r1, h1⟩

theorem c_isl {t : Ty} {a : Ev.X} {e : Expr} {p q pos : Pos} (hg : Gl X "isinstance") (hm : X.mg "isinstance" = none) (hg2 : Gl X t.nm) (hm2 : X.mg t.nm = none) (hp : plainE e = true) (ha : SE cl ca fld Wx X a e) :
    SE cl ca fld Wx X (.isl a t) (.Call (.Name "isinstance" p) [e, .Name t.nm q] [] pos) := by
  have ht : PE X (.Name t.nm q) (tC (.ty t.ty)) := pe_bltn hg2 hm2 (u := .type t.ty) (by cases t <;> decide +kernel) rfl (by cases t <;> decide) (by cases t <;> decide)
  refine PEw (pe_callB (call_islE (ca := ca) (fld := fld) (Wx := Wx) t) hg hm (by decide +kernel) (pa_cons ha (pa_cons ht pa_nil (star_cons rfl)) (star_cons hp)) (by decide) (by decide) (star_cons hp) (star_any rfl)) fun σ H Q h => ?_
  obtain ⟨F, μ, m, L, h⟩ := tg_in (g := fun m => (evX cl a m).bind fun x m => islM x t m) (fun m => by rw [evX] <;> rfl) h
  exact TG.mono (Fin.bind (rel := rD (gx X ca fld)) rD_ok L h) fun v H1 ⟨d, F1, μ1, m1, L1, s1, r1, h1⟩ => ⟨v, rfl, F1, μ1, m1, σ, d, L1, r1, h1⟩

theorem c_rev {c : H} {l : Expr} {k : Nat} {p1 p2 p3 pos : Pos} (hc : SH cl ca fld Wx X c l) : SE cl ca fld Wx X (.rev c) (.Subscript l (.Slice none none (some (.UnaryOp .USub (.Constant (.int 1) k p1) p2)) p3) pos) :=
  PEw (pe_revA hc) fun σ H Q h => by
    obtain ⟨F, μ, m, L, h⟩ := tg_in (g := fun m => (evH cl c m).bind revM) (fun m => by rw [evX] <;> rfl) h
    refine TG.mono (Fin.bind (rel := rH (gx X ca fld)) rD_ok L h) fun v H1 ⟨d, F1, μ1, m1, L1, s1, r1, h1⟩ => ?_
    obtain ⟨c, x, e1, e2, h2⟩ := opt_bind h1
    have vw := view_of L1 r1 e1
    unfold revD at e2
    split at e2
    · cases (Option.some.inj e2)
      obtain ⟨p, vs, rfl, h3, h4⟩ := vw
      exact ⟨p, vs, rfl, .inl ⟨h3, fun q hq => h2.tupN L1 h4.reverse hq⟩⟩
    · cases (Option.some.inj e2)
      obtain ⟨p, vs, rfl, h3, h4⟩ := vw
      exact ⟨p, vs, rfl, .inr ⟨h3, fun q hq => h2.lstN L1 h4.reverse hq⟩⟩
    · cases e2
/-! ### subscripts, slices -/
theorem c_idx {c : H} {i : Ev.X} {l r : Expr} {pos : Pos} (hu : X.A.units + 64 < cLine) (hp : plainE r = true) (hc : SH cl ca fld Wx X c l) (hi : SE cl ca fld Wx X i r) : SE cl ca fld Wx X (.idx c i) (.Subscript l r pos) :=
  PEw (pe_ix (ix_E (ca := ca) (fld := fld) (Wx := Wx) hu) hc hi (plainIx_of hp)) fun σ H Q h => by
    obtain ⟨F, μ, m, L, h⟩ := tg_in (g := fun m => (evH cl c m).bind fun h m => (evX cl i m).bind fun x m => idxM h x m) (fun m => by rw [evX] <;> rfl) h
    refine TG.mono (Fin.bind (rel := rH (gx X ca fld)) rD_ok L h) fun v H1 ⟨d, F1, μ1, m1, L1, s1, r1, h1⟩ => ?_
    refine TG.mono (Fin.bind (rel := rD (gx X ca fld)) rD_ok L1 h1) fun u H2 ⟨e, F2, μ2, m2, L2, s2, r2, h2⟩ => ?_
    exact ⟨F2, μ2, m2, σ, _, d, e, L2, rH.later r1 s2 rfl, r2, h2⟩
abbrev SO (cl : Nat → List D → List D → Rc) (ca : Nat → Addr) (fld : Nat → List Str) (Wx : WX) (X : Cx) (x : Xo) (e : Option Expr) : Prop := PO X e (TG (gx X ca fld) Wx (fun _ _ (a b : Option Int) => a = b) (evXo cl x))
theorem POw {e : Option Expr} {t t' : TO} (h : PO X e t) (q : ∀ σ H Q, t' σ H Q → t σ H Q) : PO X e t' := ⟨fun pins s σ H Q I hw => h.run pins s σ H Q I (q _ _ _ hw)⟩
theorem o_none : SO cl ca fld Wx X .none none :=
  POw po_none fun σ H Q h => by
    obtain ⟨F, μ, m, L, h⟩ := tg_in (g := fun m => .ok none m) (fun m => by rw [evXo] <;> rfl) h
    exact h none F μ H L (Stp.refl _) rfl
theorem o_some {x : Ev.X} {e : Expr} (hx : SE cl ca fld Wx X x e) : SO cl ca fld Wx X (.some x) (some e) :=
  POw (po_some hx) fun σ H Q h => by
    obtain ⟨F, μ, m, L, h⟩ := tg_in (g := fun m => (evX cl x m).bind fun d m => match d with | .int i => .ok (some i) m | _ => .bad) (fun m => by rw [evXo] <;> rfl) h
    refine TG.mono (Fin.bind (rel := rD (gx X ca fld)) (fun _ _ _ _ _ _ _ h => h) L h) fun v H1 ⟨d, F1, μ1, m1, L1, s1, r1, h1⟩ => ?_
    split at h1
    · cases rep_int r1
      exact ⟨_, rfl, h1 (some _) F1 μ1 H1 L1 (Stp.refl _) rfl⟩
    · exact h1.elim
theorem c_slc {c : H} {lo hi : Xo} {l : Expr} {a b : Option Expr} {p2 pos : Pos} (hc : SH cl ca fld Wx X c l) (hl : SO cl ca fld Wx X lo a) (hh : SO cl ca fld Wx X hi b) : SE cl ca fld Wx X (.slc c lo hi) (.Subscript l (.Slice a b none p2) pos) :=
  PEw (pe_slice (sl_E (ca := ca) (fld := fld) (Wx := Wx)) hc hl hh) fun σ H Q h => by
    obtain ⟨F, μ, m, L, h⟩ := tg_in (g := fun m => (evH cl c m).bind fun h m => (evXo cl lo m).bind fun l m => (evXo cl hi m).bind fun k m => slcM h l k m) (fun m => by rw [evX] <;> rfl) h
    refine TG.mono (Fin.bind (rel := rH (gx X ca fld)) rD_ok L h) fun v H1 ⟨d, F1, μ1, m1, L1, s1, r1, h1⟩ => ?_
    refine TG.mono (Fin.bind (rel := fun _ _ (a b : Option Int) => a = b) rD_ok L1 h1) fun u H2 ⟨e, F2, μ2, m2, L2, s2, r2, h2⟩ => ?_
    refine TG.mono (Fin.bind (rel := fun _ _ (a b : Option Int) => a = b) rD_ok L2 h2) fun u' H3 ⟨e', F3, μ3, m3, L3, s3, r3, h3⟩ => ?_
    cases (show e = u from r2)
    cases (show e' = u' from r3)
    exact ⟨F3, μ3, m3, σ, _, d, L3, rH.later r1 (s2.trans s3) rfl, h3⟩
end
end Ev

set_option Elab.async false
set_option linter.all false
set_option maxRecDepth 100000
set_option autoImplicit false
set_option maxHeartbeats 1000000
/-! Ev8: fresh lists, methods, calls. -/
namespace Ev
open PySem PySem.Spec PyProof.Rows L2

section
variable {X : Cx} {ca : Nat → Addr} {fld : Nat → List Str} {Wx : WX} {cl : Nat → List D → List D → Rc}

/-! ### fresh lists -/
/-- what is fresh, once it stays as it is -/
theorem con_rep {K : PySem.W.Frag} {F : Hp} {μ : List Addr} {c : D} {p : Addr} {o : Option HO} (h : ConL K F μ c p o) : ∃ u, o = some u ∧ ∀ F', Same F F' → F' p = some u → Rep K F' μ c (.ref p) := by
  cases c with
  | lst xs => obtain ⟨vs, h1, h2⟩ := h; exact ⟨.lst vs, h1, fun F' sm e => .lst (SqL.of e) (h2.mono sm (List.prefix_refl _))⟩
  | dic kvs => obtain ⟨r, es, rfl, h1, h2, h3⟩ := h; exact ⟨uHO p es, h1, fun F' sm e => .dic e (h2.mono sm (List.prefix_refl _)) h3⟩
  | _ => exact h.elim
/-- a fresh list is kept as it is from now on -/
theorem rF.frz {K : PySem.W.Frag} {w : Wd} {F' : Hp} {μ' : List Addr} {m' : Ms} {σ : L2.St} {H' : Hp} {c : D} {p : Addr} (L' : Lk K ⟨F', μ', m', σ, H'⟩) (s' : Stp w ⟨F', μ', m', σ, H'⟩) (h1 : w.H p = none) (h2 : F' p = none)
    (h3 : ∀ x, ¬ Own ⟨F', μ', m', σ, H'⟩ x p) (h4 : ConL K F' μ' c p (H' p)) : ∃ F2, Lk K ⟨F2, μ', m', σ, H'⟩ ∧ Stp w ⟨F2, μ', m', σ, H'⟩ ∧ Rep K F2 μ' c (.ref p) := by
  obtain ⟨o, h5, h6⟩ := con_rep h4
  have sm : Same F' (upd F' p o) := fun a u e => by
    rw [upd_ne (fun q => by rw [q, h2] at e; cases e)]; exact e
  refine ⟨upd F' p o, L'.freeze (p := p) (o := o) h5 h2 h3, ⟨s'.fle.trans sm, s'.mu, s'.keep, s'.own, fun q u e => ?_, s'.there, s'.rls⟩, h6 _ sm upd_same⟩
  by_cases z : q = p
  · subst z; exact .inr (.inl h1)
  · have e : upd F' p o q = some u := e
    rw [upd_ne z] at e
    exact s'.fnew q u e
theorem fr_of {f : Fx} {σ : L2.St} {H : Hp} {Q : VK} (h : TG (gx X ca fld) Wx (rD (gx X ca fld)) (evX cl (.fr f)) σ H Q) : TG (gx X ca fld) Wx (rF (gx X ca fld)) (evF cl f) σ H Q := by
    obtain ⟨F, μ, m, L, h⟩ := tg_in (g := evF cl f) (fun m => by rw [evX] <;> rfl) h
    refine ⟨F, μ, m, L, ?_⟩
    cases q : evF cl f m with
    | ok c m' =>
      rw [q] at h
      intro v F' μ' H' L' s' ⟨p, e1, h1, h2, h3, h4⟩
      subst e1
      obtain ⟨F2, L2, s2, r2⟩ := rF.frz L' s' h1 h2 h3 h4
      exact h (.ref p) F2 μ' H' L2 s2 r2
    | exc e' m' => rw [q] at h; exact h
    | bad => rw [q] at h; exact h.elim
theorem c_fr {f : Fx} {e : Expr} (hf : SF cl ca fld Wx X f e) : SE cl ca fld Wx X (.fr f) e :=
  PEw hf fun σ H Q h => fr_of h
/-- a fresh list goes to the store -/
theorem Lk.store {K : PySem.W.Frag} {w : Wd} {F : Hp} {μ : List Addr} {m : Ms} {σ : L2.St} {H : Hp} {c : D} {p : Addr} (L : Lk K ⟨F, μ, m, σ, H⟩) (s : Stp w ⟨F, μ, m, σ, H⟩) (h1 : w.H p = none) (h2 : F p = none)
    (h3 : ∀ x, ¬ Own ⟨F, μ, m, σ, H⟩ x p) (h4 : ConL K F μ c p (H p)) : Lk K ⟨F, μ ++ [p], { m with S := m.S ++ [c] }, σ, H⟩ ∧ Stp w ⟨F, μ ++ [p], { m with S := m.S ++ [c] }, σ, H⟩ := by
  have pre : μ <+: μ ++ [p] := List.prefix_append _ _
  have hl : μ.length = m.S.length := L.mul
  have same : Same F F := fun _ _ h => h
  have own : ∀ x q, Own ⟨F, μ ++ [p], { m with S := m.S ++ [c] }, σ, H⟩ x q → Own ⟨F, μ, m, σ, H⟩ x q ∨ (x = .inr μ.length ∧ q = p) := by
    intro x q hq
    cases x with
    | inl i => exact .inl hq
    | inr n =>
      have hq : (μ ++ [p])[n]? = some q := hq
      rcases Nat.lt_trichotomy n μ.length with z | z | z
      · rw [List.getElem?_append_left z] at hq; exact .inl hq
      · subst z
        rw [List.getElem?_append_right (Nat.le_refl _)] at hq
        simp at hq
        exact .inr ⟨rfl, hq.symm⟩
      · rw [List.getElem?_eq_none (by simp; omega)] at hq; cases hq
  refine ⟨⟨L.fro, L.len, by simp [hl], fun i d e => ?_, fun i c' e => ?_, fun n c' e => ?_, fun a b q qa qb => ?_⟩, ⟨s.fle, s.mu.trans pre, s.keep, fun q x hq => ?_, s.fnew, s.there, s.rls⟩⟩
  · obtain ⟨v, e1, e2⟩ := L.val i d e
    exact ⟨v, e1, e2.mono same pre⟩
  · obtain ⟨q, e1, e2, e3⟩ := L.own i c' e
    exact ⟨q, e1, e2, e3.mono same pre⟩
  · have e : (m.S ++ [c])[n]? = some c' := e
    rcases Nat.lt_trichotomy n m.S.length with z | z | z
    · rw [List.getElem?_append_left z] at e
      obtain ⟨q, e1, e2, e3⟩ := L.sto n c' e
      exact ⟨q, pre_get pre e1, e2, e3.mono same pre⟩
    · subst z
      rw [List.getElem?_append_right (Nat.le_refl _)] at e
      simp at e
      subst e
      refine ⟨p, ?_, h2, h4.mono same pre⟩
      show (μ ++ [p])[m.S.length]? = some p
      rw [← hl]
      simp
    · rw [List.getElem?_eq_none (by simp; omega)] at e; cases e
  · rcases own a q qa with za | ⟨za, zq⟩ <;> rcases own b q qb with zb | ⟨zb, zq'⟩
    · exact L.inj a b q za zb
    · subst zq'; exact absurd za (h3 _)
    · subst zq; exact absurd zb (h3 _)
    · rw [za, zb]
  · rcases own x q hq with z | ⟨_, z⟩
    · exact s.own q x z
    · subst z; exact .inr h1
theorem mk_of {f : Fx} {σ : L2.St} {H : Hp} {Q : VK} (h : TG (gx X ca fld) Wx (rD (gx X ca fld)) (evX cl (.mk f)) σ H Q) : TG (gx X ca fld) Wx (rF (gx X ca fld)) (evF cl f) σ H Q := by
    obtain ⟨F, μ, m, L, h⟩ := tg_in (g := fun m => (evF cl f m).bind fun c m => .ok (.loc m.S.length) { m with S := m.S ++ [c] }) (fun m => by rw [evX] <;> rfl) h
    refine ⟨F, μ, m, L, ?_⟩
    cases q : evF cl f m with
    | ok c m' =>
      rw [q] at h
      intro v F' μ' H' L' s' ⟨p, e1, h1, h2, h3, h4⟩
      subst e1
      obtain ⟨L2, s2⟩ := Lk.store L' s' h1 h2 h3 h4
      refine h (.ref p) F' (μ' ++ [p]) H' L2 s2 (.loc ?_)
      show (μ' ++ [p])[m'.S.length]? = some p
      rw [← L'.mul]
      simp
    | exc e' m' => rw [q] at h; exact h
    | bad => rw [q] at h; exact h.elim
theorem c_mk {f : Fx} {e : Expr} (hf : SF cl ca fld Wx X f e) : SE cl ca fld Wx X (.mk f) e :=
  PEw hf fun σ H Q h => mk_of h

/-! ### methods -/
theorem tyV_list {F : Hp} {μ : List Addr} {m : Ms} {σ : L2.St} {H : Hp} {w0 : Wd} {h : HV} {v : V} {xs : List D} (L : Lk X.K ⟨F, μ, m, σ, H⟩) (r : rH (gx X ca fld) w0 ⟨F, μ, m, σ, H⟩ h v) (e : rd h m = some (.lst xs)) : tyV X.K "list" v H := by
  obtain ⟨p, vs, rfl, h1, h2⟩ := view_of (G := gx X ca fld) L r e
  exact .inl ⟨rfl, _, h1⟩
theorem kL_of {h : HV} {m : Ms} (e : kL h m = true) : ∃ xs, rd h m = some (.lst xs) := by
  unfold kL at e
  split at e
  · exact ⟨_, by assumption⟩
  · cases e
theorem c_pop {c : H} {o : Expr} {apos cpos : Pos} (hb : noCall0 o = true) (hl : (apos.endLine == cpos.line) = true) (hc : SH cl ca fld Wx X c o) : SE cl ca fld Wx X (.pop c) (.Call (.Attribute o "pop" apos) [] [] cpos) :=
  PEw (pe_bm0 PySem.F.plainAttrs_list PySem.F.slot_list_pop PySem.F.type_list_pop (mt_popE (ca := ca) (fld := fld) (Wx := Wx)) hc (attrBase_of hb) hl) fun σ H Q h => by
    obtain ⟨F, μ, m, L, h⟩ := tg_in (g := fun m => (evH cl c m).bind popM) (fun m => by rw [evX] <;> rfl) h
    refine TG.mono (Fin.bind (rel := rH (gx X ca fld)) rD_ok L h) fun v H1 ⟨d, F1, μ1, m1, L1, s1, r1, h1⟩ => ?_
    refine ⟨?_, rfl, F1, μ1, m1, σ, _, d, L1, r1, h1⟩
    cases q : rd d m1 with
    | none => unfold popM at h1; rw [q] at h1; exact h1.elim
    | some z =>
      cases z with
      | lst xs => exact tyV_list L1 r1 q
      | _ => unfold popM at h1; rw [q] at h1; exact h1.elim
theorem hfew1 {e : Expr} {cpos : Pos} {env : Env} (hp : plainE e = true) : ((backTo cpos (starEach [e] env)).all (fun x => !x.1) && (backToKw cpos (keywordEach [] env)).all (fun x => x.1.isSome)
      && decide (([e] : List Expr).length + ([] : List Keyword).length + (if ([] : List Keyword).isEmpty then 0 else 1) < 30)) = true := by
  rw [star_cons hp]
  rfl
theorem c_app {c : H} {x : Ev.X} {o e : Expr} {apos cpos : Pos} (hb : noCall0 o = true) (hp : plainE e = true) (hl : (apos.endLine == cpos.line) = true) (hc : SH cl ca fld Wx X c o) (hx : SE cl ca fld Wx X x e) : SE cl ca fld Wx X (.app c x) (.Call (.Attribute o "append" apos) [e] [] cpos) :=
  PEw (pe_bm PySem.F.plainAttrs_list PySem.F.slot_list_append PySem.F.type_list_append (mt_appE (ca := ca) (fld := fld) (Wx := Wx)) hc (one_argX hp hx) (attrBase_of hb) (hfew1 hp) hl (star_cons hp) (star_any rfl)) fun σ H Q h => by
    obtain ⟨F, μ, m, L, h⟩ := tg_in (g := fun m => (evH cl c m).bind fun h m => if kL h m then (evX cl x m).bind fun d m => appM h d m else .bad) (fun m => by rw [evX] <;> rfl) h
    refine TG.mono (Fin.bind (rel := rH (gx X ca fld)) rD_ok L h) fun v H1 ⟨d, F1, μ1, m1, L1, s1, r1, h1⟩ => ?_
    by_cases k : kL d m1 = true
    · rw [if_pos k] at h1
      obtain ⟨xs, ex⟩ := kL_of k
      refine ⟨tyV_list L1 r1 ex, ?_⟩
      refine TG.mono (Fin.bind (rel := rD (gx X ca fld)) rD_ok L1 h1) fun u H2 ⟨e, F2, μ2, m2, L2, s2, r2, h2⟩ => ?_
      exact ⟨u, F2, μ2, m2, σ, _, d, e, rfl, L2, rH.later r1 s2 rfl, r2, h2⟩
    · rw [if_neg k] at h1
      exact h1.elim
theorem c_popi {c : H} {x : Ev.X} {o e : Expr} {apos cpos : Pos} (hb : noCall0 o = true) (hp : plainE e = true) (hl : (apos.endLine == cpos.line) = true) (hc : SH cl ca fld Wx X c o) (hx : SE cl ca fld Wx X x e) : SE cl ca fld Wx X (.popi c x) (.Call (.Attribute o "pop" apos) [e] [] cpos) :=
  PEw (pe_bm PySem.F.plainAttrs_list PySem.F.slot_list_pop PySem.F.type_list_pop (mt_popiE (ca := ca) (fld := fld) (Wx := Wx)) hc (one_argX hp hx) (attrBase_of hb) (hfew1 hp) hl (star_cons hp) (star_any rfl)) fun σ H Q h => by
    obtain ⟨F, μ, m, L, h⟩ := tg_in (g := fun m => (evH cl c m).bind fun h m => if kL h m then (evX cl x m).bind fun d m => popiM h d m else .bad) (fun m => by rw [evX] <;> rfl) h
    refine TG.mono (Fin.bind (rel := rH (gx X ca fld)) rD_ok L h) fun v H1 ⟨d, F1, μ1, m1, L1, s1, r1, h1⟩ => ?_
    by_cases k : kL d m1 = true
    · rw [if_pos k] at h1
      obtain ⟨xs, ex⟩ := kL_of k
      refine ⟨tyV_list L1 r1 ex, ?_⟩
      refine TG.mono (Fin.bind (rel := rD (gx X ca fld)) rD_ok L1 h1) fun u H2 ⟨e, F2, μ2, m2, L2, s2, r2, h2⟩ => ?_
      exact ⟨u, F2, μ2, m2, σ, _, d, e, rfl, L2, rH.later r1 s2 rfl, r2, h2⟩
    · rw [if_neg k] at h1
      exact h1.elim
theorem c_ix {c : H} {x : Ev.X} {o e : Expr} {apos cpos : Pos} (hb : noCall0 o = true) (hp : plainE e = true) (hl : (apos.endLine == cpos.line) = true) (hc : SH cl ca fld Wx X c o) (hx : SE cl ca fld Wx X x e) : SE cl ca fld Wx X (.ix c x) (.Call (.Attribute o "index" apos) [e] [] cpos) :=
  PEw (pe_bm PySem.F.plainAttrs_list PySem.F.slot_list_index PySem.F.type_list_index (mt_ixE (ca := ca) (fld := fld) (Wx := Wx)) hc (one_argX hp hx) (attrBase_of hb) (hfew1 hp) hl (star_cons hp) (star_any rfl)) fun σ H Q h => by
    obtain ⟨F, μ, m, L, h⟩ := tg_in (g := fun m => (evH cl c m).bind fun h m => if kL h m then (evX cl x m).bind fun d m => ixM h d m else .bad) (fun m => by rw [evX] <;> rfl) h
    refine TG.mono (Fin.bind (rel := rH (gx X ca fld)) rD_ok L h) fun v H1 ⟨d, F1, μ1, m1, L1, s1, r1, h1⟩ => ?_
    by_cases k : kL d m1 = true
    · rw [if_pos k] at h1
      obtain ⟨xs, ex⟩ := kL_of k
      refine ⟨tyV_list L1 r1 ex, ?_⟩
      refine TG.mono (Fin.bind (rel := rD (gx X ca fld)) rD_ok L1 h1) fun u H2 ⟨e, F2, μ2, m2, L2, s2, r2, h2⟩ => ?_
      exact ⟨u, F2, μ2, m2, σ, _, d, e, rfl, L2, rH.later r1 s2 rfl, r2, h2⟩
    · rw [if_neg k] at h1
      exact h1.elim
theorem c_ixd {c : H} {x : Ev.X} {o e : Expr} {apos cpos : Pos} (hu : X.A.units + 65 + 1 < cLine) (hb : noCall0 o = true) (hp : plainE e = true) (hl : (apos.endLine == cpos.line) = true) (hc : SH cl ca fld Wx X c o) (hx : SE cl ca fld Wx X x e) : SE cl ca fld Wx X (.ixd c x) (.Call (.Attribute o "index" apos) [e] [] cpos) :=
  PEw (pe_bm PySem.F.plainAttrs_list PySem.F.slot_list_index PySem.F.type_list_index (mt_ixdE (ca := ca) (fld := fld) (Wx := Wx) hu) hc (one_argX hp hx) (attrBase_of hb) (hfew1 hp) hl (star_cons hp) (star_any rfl)) fun σ H Q h => by
    obtain ⟨F, μ, m, L, h⟩ := tg_in (g := fun m => (evH cl c m).bind fun h m => if kL h m then (evX cl x m).bind fun d m => ixdM h d m else .bad) (fun m => by rw [evX] <;> rfl) h
    refine TG.mono (Fin.bind (rel := rH (gx X ca fld)) rD_ok L h) fun v H1 ⟨d, F1, μ1, m1, L1, s1, r1, h1⟩ => ?_
    by_cases k : kL d m1 = true
    · rw [if_pos k] at h1
      obtain ⟨xs, ex⟩ := kL_of k
      refine ⟨tyV_list L1 r1 ex, ?_⟩
      refine TG.mono (Fin.bind (rel := rD (gx X ca fld)) rD_ok L1 h1) fun u H2 ⟨e, F2, μ2, m2, L2, s2, r2, h2⟩ => ?_
      exact ⟨u, F2, μ2, m2, σ, _, d, e, rfl, L2, rH.later r1 s2 rfl, r2, h2⟩
    · rw [if_neg k] at h1
      exact h1.elim
theorem c_ext {c g : H} {o e : Expr} {apos cpos : Pos} (hb : noCall0 o = true) (hp : plainE e = true) (hl : (apos.endLine == cpos.line) = true) (hc : SH cl ca fld Wx X c o) (hx : SH cl ca fld Wx X g e) : SE cl ca fld Wx X (.ext c g) (.Call (.Attribute o "extend" apos) [e] [] cpos) :=
  PEw (pe_bm PySem.F.plainAttrs_list PySem.F.slot_list_extend PySem.F.type_list_extend (mt_extE (ca := ca) (fld := fld) (Wx := Wx)) hc (one_arg hp hx) (attrBase_of hb) (hfew1 hp) hl (star_cons hp) (star_any rfl)) fun σ H Q h => by
    obtain ⟨F, μ, m, L, h⟩ := tg_in (g := fun m => (evH cl c m).bind fun h m => if kL h m then (evH cl g m).bind fun g m => extM h g m else .bad) (fun m => by rw [evX] <;> rfl) h
    refine TG.mono (Fin.bind (rel := rH (gx X ca fld)) rD_ok L h) fun v H1 ⟨d, F1, μ1, m1, L1, s1, r1, h1⟩ => ?_
    by_cases k : kL d m1 = true
    · rw [if_pos k] at h1
      obtain ⟨xs, ex⟩ := kL_of k
      refine ⟨tyV_list L1 r1 ex, ?_⟩
      refine TG.mono (Fin.bind (rel := rH (gx X ca fld)) rD_ok L1 h1) fun u H2 ⟨e, F2, μ2, m2, L2, s2, r2, h2⟩ => ?_
      exact ⟨u, F2, μ2, m2, σ, _, _, d, e, rfl, L2, rH.later r1 s2 rfl, r2, h2⟩
    · rw [if_neg k] at h1
      exact h1.elim

/-! ### calls -/
/-- where a callee starts -/
abbrev Wd.ent (w : Wd) : Wd := ⟨w.F, w.μ, ⟨[], w.m.S⟩, [], w.H⟩
theorem Lk.ent {K : PySem.W.Frag} {w : Wd} (L : Lk K w) : Lk K w.ent :=
  ⟨L.fro, rfl, L.mul, fun i d e => by simp at e, fun i c e => by simp at e, L.sto, fun a b q qa qb => by
    cases a with
    | inl i => obtain ⟨⟨c, hc⟩, _⟩ := qa; simp at hc
    | inr n =>
      cases b with
      | inl i => obtain ⟨⟨c, hc⟩, _⟩ := qb; simp at hc
      | inr k => exact L.inj _ _ q qa qb⟩
theorem own_ent {w : Wd} {x : Nat ⊕ Nat} {p : Addr} (h : Own w.ent x p) : ∃ n, x = .inr n ∧ w.μ[n]? = some p := by
  cases x with
  | inl i => obtain ⟨⟨c, hc⟩, _⟩ := h; simp at hc
  | inr n => exact ⟨n, rfl, h⟩
/-- behind a call -/
theorem Lk.back {K : PySem.W.Frag} {F F' : Hp} {μ μ' : List Addr} {m : Ms} {σ : L2.St} {H H' : Hp} {S' : List D} (L : Lk K ⟨F, μ, m, σ, H⟩) (L' : Lk K ⟨F', μ', ⟨[], S'⟩, [], H'⟩) (s' : Stp ⟨F, μ, ⟨[], m.S⟩, [], H⟩ ⟨F', μ', ⟨[], S'⟩, [], H'⟩) :
    Lk K ⟨F', μ', { m with S := S' }, σ, H'⟩ ∧ Stp ⟨F, μ, m, σ, H⟩ ⟨F', μ', { m with S := S' }, σ, H'⟩ := by
  have nown : ∀ (i : Nat) (p : Addr), Own ⟨F, μ, m, σ, H⟩ (.inl i) p → ∀ x, ¬ Own ⟨F, μ, ⟨[], m.S⟩, [], H⟩ x p := fun i p ho x hx => by
    obtain ⟨n, rfl, hn⟩ := own_ent (w := ⟨F, μ, m, σ, H⟩) hx
    have := L.inj (.inl i) (.inr n) p ho hn
    cases this
  refine ⟨⟨L'.fro, L.len, L'.mul, fun i d e => ?_, fun i c e => ?_, L'.sto, fun a b q qa qb => ?_⟩, ⟨s'.fle, s'.mu, fun p o h hn => s'.keep p o h fun x hx => ?_, fun p x hx => ?_, fun p o h => ?_, s'.there, fun i c h => ⟨h, rfl⟩⟩⟩
  · obtain ⟨v, e1, e2⟩ := L.val i d e
    exact ⟨v, e1, e2.mono s'.fle s'.mu⟩
  · obtain ⟨p, e1, e2, e3⟩ := L.own i c e
    have ho : Own ⟨F, μ, m, σ, H⟩ (.inl i) p := ⟨⟨c, e⟩, e1⟩
    obtain ⟨o, eo⟩ := e3.some
    have k := s'.keep p o eo (nown i p ho)
    refine ⟨p, e1, ?_, ?_⟩
    · cases q : F' p with
      | none => exact q
      | some u =>
        rcases s'.fnew p u q with z | z | ⟨y, z⟩ | ⟨xs, z⟩
        · exact absurd e2 z
        · have eo : H p = some o := eo
          have z : H p = none := z
          rw [z] at eo; cases eo
        · exact absurd z (nown i p ho y)
        · exact (Con.nt (show Con K F μ c p (H p) from e3) z).elim
    · have e3 : Con K F μ c p (H p) := e3
      have eo : H p = some o := eo
      rw [eo] at e3
      show Con K F' μ' c p (H' p)
      rw [show H' p = some o from k]
      exact e3.mono s'.fle s'.mu
  · have half : ∀ (i n : Nat), Own ⟨F', μ', { m with S := S' }, σ, H'⟩ (.inl i) q → Own ⟨F', μ', { m with S := S' }, σ, H'⟩ (.inr n) q → False := fun i n q1 q2 => by
      have q1 : Own ⟨F, μ, m, σ, H⟩ (.inl i) q := q1
      rcases s'.own q (.inr n) q2 with ⟨y, z⟩ | z
      · exact nown i q q1 y z
      · obtain ⟨_, z2⟩ := L.ownT q1
        have z : H q = none := z
        rw [show (⟨F, μ, m, σ, H⟩ : Wd).H q = none from z] at z2
        exact z2
    cases a with
    | inl i =>
      cases b with
      | inl j => exact L.inj (.inl i) (.inl j) q qa qb
      | inr n => exact (half i n qa qb).elim
    | inr n =>
      cases b with
      | inl j => exact (half j n qb qa).elim
      | inr k => exact L'.inj (.inr n) (.inr k) q qa qb
  · obtain ⟨n, rfl, hn'⟩ := own_ent (w := ⟨F, μ, m, σ, H⟩) hx
    exact hn (.inr n) hn'
  · cases x with
    | inl i => exact .inl ⟨.inl i, hx⟩
    | inr n =>
      rcases s'.own p (.inr n) hx with ⟨y, z⟩ | z
      · obtain ⟨k, rfl, hk⟩ := own_ent (w := ⟨F, μ, m, σ, H⟩) z
        exact .inl ⟨.inr k, hk⟩
      · exact .inr z
  · rcases s'.fnew p o h with z | z | ⟨y, z⟩ | z
    · exact .inl z
    · exact .inr (.inl z)
    · obtain ⟨k, rfl, hk⟩ := own_ent (w := ⟨F, μ, m, σ, H⟩) z
      exact .inr (.inr (.inl ⟨.inr k, hk⟩))
    · exact .inr (.inr (.inr z))
/-- what a def promises -/
def finC (G : Gs) (w : Wd) (r : Rc) (Q : VK) (E : XK) : Prop := match r with
  | .ok d S' => ∀ (v : V) (F' : Hp) (μ' : List Addr) (H' : Hp), Lk G.K ⟨F', μ', ⟨[], S'⟩, [], H'⟩ → Stp w ⟨F', μ', ⟨[], S'⟩, [], H'⟩ → Rep G.K F' μ' d v → Q v H'
  | .own c S' => ∀ (v : V) (F' : Hp) (μ' : List Addr) (H' : Hp), Lk G.K ⟨F', μ', ⟨[], S'⟩, [], H'⟩ → Stp w ⟨F', μ', ⟨[], S'⟩, [], H'⟩ → rF G w ⟨F', μ', ⟨[], S'⟩, [], H'⟩ c v → Q v H'
  | .exc e S' => ∀ (c : Value) (dx : Option Addr) (F' : Hp) (μ' : List Addr) (H' : Hp), Lk G.K ⟨F', μ', ⟨[], S'⟩, [], H'⟩ → Stp w ⟨F', μ', ⟨[], S'⟩, [], H'⟩ → XRep G F' μ' e c dx → E c dx H'
  | .bad => False
def spC (G : Gs) (g : List D → List D → Rc) : Sp := fun vs H Q E => ∃ F μ S ds, Lk G.K ⟨F, μ, ⟨[], S⟩, [], H⟩ ∧ Reps G.K F μ ds vs ∧ finC G ⟨F, μ, ⟨[], S⟩, [], H⟩ (g ds S) Q E
/-- a promise for the calls of f -/
structure Cal (X : Cx) (ca : Nat → Addr) (fld : Nat → List Str) (cl : Nat → List D → List D → Rc) (f : Nat) (nm : Str) : Prop where
  ok : ∃ (a : Addr) (fd : FuncData) (k : Nat) (ps : List Str), FnOk X.prog X.w X.K X.mg X.base (L2.CX X.prog X.w) k a fd ps (spC (gx X ca fld) (cl f)) ∧ Room k X.A ∧ X.mg nm = some (.ref a) ∧ PySem.W.keepIn X.K (.ref a) = true ∧ Binds X.K fd ps []
theorem c_call {f : Nat} {nm : Str} {es : Xs} {e : Expr} {l : List Expr} {p pos : Pos} (C : Cal X ca fld cl f nm) (tk : Takes X Wx) (hg : Gl X nm) (hdb : (nm == ("__debug__" : Str)) = false) (hp : plainE e = true) (hpl : l.all plainE = true) (hes : SA cl ca fld Wx X es (e :: l)) :
    SE cl ca fld Wx X (.call f es) (.Call (.Name nm p) (e :: l) [] pos) := by
  obtain ⟨a, fd, k, ps, F, hr, hm, hk, hb⟩ := C.ok
  refine PEw (pe_callS F hr hg hm hk hb (passAt tk) hes hdb (star_cons hp) (star_any hpl)) fun σ H Q h => ?_
  obtain ⟨F0, μ, m, L, h⟩ := tg_in (g := fun m => (evXs cl es m).bind fun ds m => ofRc (cl f ds m.S) m) (fun m => by rw [evX] <;> rfl) h
  refine TG.mono (Fin.bind (rel := rDs (gx X ca fld)) rD_ok L h) fun vs H1 ⟨ds, F1, μ1, m1, L1, s1, r1, h1⟩ => ?_
  refine ⟨F1, μ1, m1.S, ds, L1.ent, r1, ?_⟩
  unfold ofRc at h1
  cases q : cl f ds m1.S with
  | ok d S' =>
    rw [q] at h1
    intro v F' μ' H' L' s' rv
    obtain ⟨L2, s2⟩ := Lk.back L1 L' s'
    exact h1 v F' μ' H' L2 s2 rv
  | exc e' S' =>
    rw [q] at h1
    intro c dx F' μ' H' L' s' rv
    obtain ⟨L2, s2⟩ := Lk.back L1 L' s'
    exact h1 c dx F' μ' H' L2 s2 rv
  | own c S' => rw [q] at h1; exact h1.elim
  | bad => rw [q] at h1; exact h1.elim
/-- a call whose result is the caller's -/
theorem f_callF {f : Nat} {nm : Str} {es : Xs} {e : Expr} {l : List Expr} {p pos : Pos} (C : Cal X ca fld cl f nm) (tk : Takes X Wx) (hg : Gl X nm) (hdb : (nm == ("__debug__" : Str)) = false) (hp : plainE e = true) (hpl : l.all plainE = true) (hes : SA cl ca fld Wx X es (e :: l)) :
    SF cl ca fld Wx X (.callF f es) (.Call (.Name nm p) (e :: l) [] pos) := by
  obtain ⟨a, fd, k, ps, F, hr, hm, hk, hb⟩ := C.ok
  refine PEw (pe_callS F hr hg hm hk hb (passAt tk) hes hdb (star_cons hp) (star_any hpl)) fun σ H Q h => ?_
  obtain ⟨F0, μ, m, L, h⟩ := tg_in (g := fun m => (evXs cl es m).bind fun ds m => ofRcO (cl f ds m.S) m) (fun m => by rw [evF] <;> rfl) h
  refine TG.mono (Fin.bind (rel := rDs (gx X ca fld)) rF_ok L h) fun vs H1 ⟨ds, F1, μ1, m1, L1, s1, r1, h1⟩ => ?_
  refine ⟨F1, μ1, m1.S, ds, L1.ent, r1, ?_⟩
  unfold ofRcO at h1
  cases q : cl f ds m1.S with
  | own c S' =>
    rw [q] at h1
    intro v F' μ' H' L' s' rv
    obtain ⟨L2, s2⟩ := Lk.back L1 L' s'
    obtain ⟨p, ev, hn, hF, ho, hc⟩ := rv
    have hn : H1 p = none := hn
    refine h1 v F' μ' H' L2 s2 ⟨p, ev, hn, hF, fun x hx => ?_, hc⟩
    cases x with
    | inl i => exact L1.notOwn hn (.inl i) hx
    | inr k => exact ho (.inr k) hx
  | ok d S' => rw [q] at h1; exact h1.elim
  | exc e' S' =>
    rw [q] at h1
    intro c dx F' μ' H' L' s' rv
    obtain ⟨L2, s2⟩ := Lk.back L1 L' s'
    exact h1 c dx F' μ' H' L2 s2 rv
  | bad => rw [q] at h1; exact h1.elim
end
end Ev

set_option Elab.async false
set_option linter.all false
set_option maxRecDepth 100000
set_option autoImplicit false
set_option maxHeartbeats 1000000
/-! Ev9: what is walked. -/
namespace Ev
open PySem PySem.Spec PyProof.Rows L2

theorem get_set_ne {α : Type} {l : List α} {i j : Nat} {a : α} (h : j ≠ i) : (l.set i a)[j]? = l[j]? := List.getElem?_set_ne (Ne.symm h)

/-! ### locks -/
theorem lockR_own {ρ : List Sl} {h : HV} {i : Nat} {c : D} : (lockR ρ h)[i]? = some (Sl.ow c) ∨ (lockR ρ h)[i]? = some (Sl.rl c) ↔ ρ[i]? = some (Sl.ow c) ∨ ρ[i]? = some (Sl.rl c) := by
  unfold lockR
  split
  · rename_i j
    split
    · rename_i c' e
      by_cases z : i = j
      · subst z
        have hl := (List.getElem?_eq_some_iff.mp e).1
        rw [List.getElem?_set_self hl, e]
        constructor
        · rintro (q | q)
          · cases q
          · cases q; exact .inl rfl
        · rintro (q | q)
          · cases q; exact .inr rfl
          · cases q
      · rw [get_set_ne z]
    · exact Iff.rfl
  · exact Iff.rfl
theorem lockR_val {ρ : List Sl} {h : HV} {i : Nat} {d : D} : (lockR ρ h)[i]? = some (Sl.val d) ↔ ρ[i]? = some (Sl.val d) := by
  unfold lockR
  split
  · rename_i j
    split
    · rename_i c' e
      by_cases z : i = j
      · subst z
        have hl := (List.getElem?_eq_some_iff.mp e).1
        rw [List.getElem?_set_self hl, e]
        constructor <;> (intro q; cases q)
      · rw [get_set_ne z]
    · exact Iff.rfl
  · exact Iff.rfl
theorem lockR_len {ρ : List Sl} {h : HV} : (lockR ρ h).length = ρ.length := by
  unfold lockR
  split
  · split
    · simp
    · rfl
  · rfl
theorem lockR_rl {ρ : List Sl} {h : HV} {i : Nat} {c : D} (e : ρ[i]? = some (Sl.rl c)) : (lockR ρ h)[i]? = some (Sl.rl c) := by
  unfold lockR
  split
  · rename_i j
    split
    · rename_i c' e'
      by_cases z : i = j
      · subst z; rw [e] at e'; cases e'
      · rw [get_set_ne z]; exact e
    · exact e
  · exact e
section
variable {K : PySem.W.Frag} {F F' : Hp} {μ μ' : List Addr} {m m' : Ms} {σ σ' : L2.St} {H H' : Hp}
/-- other slots, the same owners and values -/
theorem Lk.slots {ρ : List Sl} (L : Lk K ⟨F, μ, m, σ, H⟩) (hl : ρ.length = m.ρ.length) (ho : ∀ (i : Nat) (c : D), ρ[i]? = some (Sl.ow c) ∨ ρ[i]? = some (Sl.rl c) → m.ρ[i]? = some (Sl.ow c) ∨ m.ρ[i]? = some (Sl.rl c)) (hv : ∀ (i : Nat) (d : D), ρ[i]? = some (Sl.val d) → m.ρ[i]? = some (Sl.val d)) :
    Lk K ⟨F, μ, { m with ρ := ρ }, σ, H⟩ :=
  ⟨L.fro, hl.trans L.len, L.mul, fun i d e => L.val i d (hv i d e), fun i c e => L.own i c (ho i c e), L.sto, fun a b q qa qb => by
    have up : ∀ x, Own ⟨F, μ, { m with ρ := ρ }, σ, H⟩ x q → Own ⟨F, μ, m, σ, H⟩ x q := fun x hx => by
      cases x with
      | inr n => exact hx
      | inl i => obtain ⟨⟨c, hc⟩, hs⟩ := hx; exact ⟨⟨c, ho i c hc⟩, hs⟩
    exact L.inj a b q (up a qa) (up b qb)⟩
theorem own_slots {ρ : List Sl} {x : Nat ⊕ Nat} {q : Addr} (ho : ∀ (i : Nat) (c : D), ρ[i]? = some (Sl.ow c) ∨ ρ[i]? = some (Sl.rl c) → m.ρ[i]? = some (Sl.ow c) ∨ m.ρ[i]? = some (Sl.rl c)) (hx : Own ⟨F, μ, { m with ρ := ρ }, σ, H⟩ x q) : Own ⟨F, μ, m, σ, H⟩ x q := by
  cases x with
  | inr n => exact hx
  | inl i => obtain ⟨⟨c, hc⟩, hs⟩ := hx; exact ⟨⟨c, ho i c hc⟩, hs⟩
theorem Lk.lock (L : Lk K ⟨F, μ, m, σ, H⟩) (h : HV) : Lk K ⟨F, μ, { m with ρ := lockR m.ρ h }, σ, H⟩ ∧ Stp ⟨F, μ, m, σ, H⟩ ⟨F, μ, { m with ρ := lockR m.ρ h }, σ, H⟩ :=
  ⟨L.slots lockR_len (fun i c e => lockR_own.mp e) fun i d e => lockR_val.mp e,
    ⟨fun _ _ e => e, List.prefix_refl _, fun _ _ e _ => e, fun p x hx => .inl ⟨x, own_slots (fun i c e => lockR_own.mp e) hx⟩, fun p o e => .inl (by rw [e]; simp), fun _ e => e, fun i c e => ⟨lockR_rl e, rfl⟩⟩⟩
/-- the weaker step -/
structure Stq (w w' : Wd) : Prop where
  fle : Same w.F w'.F
  mu : w.μ <+: w'.μ
  rls : ∀ (i : Nat) (c : D), w.m.ρ[i]? = some (Sl.rl c) → w'.m.ρ[i]? = some (Sl.rl c) ∧ w'.σ[i]? = w.σ[i]?
theorem Stp.q {w w' : Wd} (s : Stp w w') : Stq w w' := ⟨s.fle, s.mu, s.rls⟩
theorem Stq.refl (w : Wd) : Stq w w := (Stp.refl w).q
theorem Stq.trans {w w1 w' : Wd} (a : Stq w w1) (b : Stq w1 w') : Stq w w' :=
  ⟨a.fle.trans b.fle, a.mu.trans b.mu, fun i c h => let ⟨h1, e1⟩ := a.rls i c h; let ⟨h2, e2⟩ := b.rls i c h1; ⟨h2, e2.trans e1⟩⟩
theorem unlock_base {h : HV} (s : Stq ⟨F, μ, { m with ρ := lockR m.ρ h }, σ, H⟩ ⟨F', μ', m', σ', H'⟩) :
    unlockR m'.ρ m.ρ h = m'.ρ ∨ ∃ j c, h = .sl j ∧ m.ρ[j]? = some (Sl.ow c) ∧ m'.ρ[j]? = some (Sl.rl c) ∧ unlockR m'.ρ m.ρ h = m'.ρ.set j (Sl.ow c) := by
  unfold unlockR
  split
  · rename_i j
    split
    · rename_i c e
      refine .inr ⟨j, c, rfl, e, ?_⟩
      have hl := (List.getElem?_eq_some_iff.mp e).1
      have e2 : (lockR m.ρ (.sl j))[j]? = some (Sl.rl c) := by
        unfold lockR
        simp only [e]
        rw [List.getElem?_set_self hl]
      obtain ⟨e3, e4⟩ := s.rls j c e2
      exact ⟨e3, rfl⟩
    · exact .inl rfl
  · exact .inl rfl
theorem unlock_own {h : HV} (s : Stq ⟨F, μ, { m with ρ := lockR m.ρ h }, σ, H⟩ ⟨F', μ', m', σ', H'⟩) (i : Nat) (c' : D)
    (q : (unlockR m'.ρ m.ρ h)[i]? = some (Sl.ow c') ∨ (unlockR m'.ρ m.ρ h)[i]? = some (Sl.rl c')) : m'.ρ[i]? = some (Sl.ow c') ∨ m'.ρ[i]? = some (Sl.rl c') := by
  rcases unlock_base s with e | ⟨j, c, rfl, e1, e2, e4⟩
  · rw [e] at q; exact q
  · rw [e4] at q
    by_cases z : i = j
    · subst z
      rw [List.getElem?_set_self (List.getElem?_eq_some_iff.mp e2).1] at q
      rcases q with q | q
      · cases q; exact .inr e2
      · cases q
    · rw [get_set_ne z] at q; exact q
/-- behind the walk -/
theorem Lk.unlock {h : HV} (L : Lk K ⟨F', μ', m', σ', H'⟩) (s : Stq ⟨F, μ, { m with ρ := lockR m.ρ h }, σ, H⟩ ⟨F', μ', m', σ', H'⟩) : Lk K ⟨F', μ', { m' with ρ := unlockR m'.ρ m.ρ h }, σ', H'⟩ := by
  refine L.slots ?_ (unlock_own s) fun i d q => ?_
  · rcases unlock_base s with e | ⟨j, c, rfl, e1, e2, e4⟩
    · rw [e]
    · rw [e4]; simp
  · rcases unlock_base s with e | ⟨j, c, rfl, e1, e2, e4⟩
    · rw [e] at q; exact q
    · rw [e4] at q
      by_cases z : i = j
      · subst z; rw [List.getElem?_set_self (List.getElem?_eq_some_iff.mp e2).1] at q; cases q
      · rw [get_set_ne z] at q; exact q
theorem Stp.unlock {h : HV} {w0 : Wd} (s00 : Stp w0 ⟨F', μ', m', σ', H'⟩) (s0 : ∀ (i : Nat) (c : D), w0.m.ρ[i]? = some (Sl.rl c) → m.ρ[i]? = some (Sl.rl c)) (s : Stq ⟨F, μ, { m with ρ := lockR m.ρ h }, σ, H⟩ ⟨F', μ', m', σ', H'⟩) :
    Stp w0 ⟨F', μ', { m' with ρ := unlockR m'.ρ m.ρ h }, σ', H'⟩ := by
  refine ⟨s00.fle, s00.mu, s00.keep, fun p x hx => s00.own p x (own_slots (unlock_own s) hx), s00.fnew, s00.there, fun i c' q => ?_⟩
  obtain ⟨q2, q3⟩ := s00.rls i c' q
  refine ⟨?_, q3⟩
  show (unlockR m'.ρ m.ρ h)[i]? = _
  rcases unlock_base s with e | ⟨j, c, rfl, e1, e2, e4⟩
  · rw [e]; exact q2
  · rw [e4]
    by_cases z : i = j
    · subst z
      have q2 := s0 i c' q
      rw [e1] at q2; cases q2
    · rw [get_set_ne z]; exact q2
end

/-! ### items -/
/-- J serves xs -/
def Srv (K : PySem.W.Frag) (J : L2.It) (xs : List D) (w0 : Wd) : Prop := ∀ w, Lk K w → Stq w0 w →
  J.stop xs.length w.H ∧ ∀ i d, xs[i]? = some d → J.go i w.H ∧ ∀ x H', J.yld i w.H x H' → ∃ F', Lk K ⟨F', w.μ, w.m, w.σ, H'⟩ ∧ Stp w ⟨F', w.μ, w.m, w.σ, H'⟩ ∧ Rep K F' w.μ d x
theorem Srv.step {K : PySem.W.Frag} {J : L2.It} {xs : List D} {w0 w1 : Wd} (h : Srv K J xs w0) (s : Stq w0 w1) : Srv K J xs w1 := fun w L s' => h w L (s.trans s')
def rI (G : Gs) : Wd → Wd → Wk → L2.It → Prop := fun _ w k J => Srv G.K J k.xs ⟨w.F, w.μ, k.lock w.m, w.σ, w.H⟩
theorem rI_ok {G : Gs} : RelOk (rI G) := fun _ _ _ _ _ _ _ h => h
theorem seqOf_case {c : D} {xs : List D} (e : seqOf c = some xs) : c = .tup xs ∨ c = .lst xs := by
  unfold seqOf at e
  split at e
  · cases e; exact .inl rfl
  · cases e; exact .inr rfl
  · cases e
theorem hold {K : PySem.W.Frag} {ca : Nat → Addr} {fld : Nat → List Str} {F : Hp} {μ : List Addr} {m : Ms} {σ : L2.St} {H : Hp} {w0 : Wd} {h : HV} {v : V} {c : D} {xs : List D} (L : Lk K ⟨F, μ, m, σ, H⟩) (r : rH ⟨K, ca, fld⟩ w0 ⟨F, μ, m, σ, H⟩ h v) (nl : isLocH h = false) (e : rd h m = some c) (es : seqOf c = some xs) :
    ∃ b a, v = .ref a ∧ ∀ w', Lk K w' → Stq ⟨F, μ, { m with ρ := lockR m.ρ h }, σ, H⟩ w' → ∃ vs, SqK b K w'.H a vs ∧ Reps K w'.F w'.μ xs vs := by
  cases h with
  | val d =>
    have ed : d = c := by
      cases d <;> first | (cases e; rfl) | cases nl
    subst ed
    have r : Rep K F μ d v := r
    rcases seqOf_case es with z | z
    · subst z
      obtain ⟨a, vs, rfl, h2, h3⟩ := rep_tup r
      exact ⟨false, a, rfl, fun w' L' s' => ⟨vs, same_sqT L'.fro (same_sqT s'.fle h2), h3.mono s'.fle s'.mu⟩⟩
    · subst z
      obtain ⟨a, vs, rfl, h2, h3⟩ := rep_lst r
      exact ⟨true, a, rfl, fun w' L' s' => ⟨vs, L'.fro.seq (s'.fle.seq h2), h3.mono s'.fle s'.mu⟩⟩
  | sl i =>
    have hr : m.ρ[i]? = some (Sl.ow c) ∨ m.ρ[i]? = some (Sl.rl c) := by
      unfold rd at e
      simp only at e
      split at e
      · rename_i q; cases e; exact .inl q
      · rename_i q; cases e; exact .inr q
      · cases e
    have hk : (lockR m.ρ (.sl i))[i]? = some (Sl.rl c) := by
      rcases hr with q | q
      · unfold lockR
        simp only [q]
        rw [List.getElem?_set_self (List.getElem?_eq_some_iff.mp q).1]
      · exact lockR_rl q
    obtain ⟨p, e1, e2, e3⟩ := L.own i c hr
    have e1 : σ[i]? = some (some (V.ref p)) := e1
    have r : σ[i]? = some (some v) := r
    rw [e1] at r
    cases r
    rcases seqOf_case es with z | z
    · subst z
      exact e3.elim
    subst z
    obtain ⟨vs0, h5, h6⟩ := e3
    refine ⟨true, p, rfl, fun w' L' s' => ?_⟩
    obtain ⟨k1, k2⟩ := s'.rls i _ hk
    obtain ⟨p', f1, f2, f3⟩ := L'.own i _ (.inr k1)
    rw [k2] at f1
    have f1 : σ[i]? = some (some (V.ref p')) := f1
    rw [e1] at f1
    cases f1
    obtain ⟨vs, h7, h8⟩ := f3
    exact ⟨vs, SqL.of h7, h8⟩
theorem IlK_go {b : Bool} {K : PySem.W.Frag} {a : Addr} {i : Nat} {H : Hp} {vs : List V} {v : V} (h : SqK b K H a vs) (e : vs[i]? = some v) : (IlK b K a).go i H := by
  cases b with
  | true => exact ⟨vs, v, h, e⟩
  | false => exact ⟨vs, v, h, e⟩
theorem IlK_stop {b : Bool} {K : PySem.W.Frag} {a : Addr} {i : Nat} {H : Hp} {vs : List V} (h : SqK b K H a vs) (e : vs.length ≤ i) : (IlK b K a).stop i H := by
  cases b with
  | true => exact ⟨vs, h, e⟩
  | false => exact ⟨vs, h, e⟩
theorem IlK_yld {b : Bool} {K : PySem.W.Frag} {a : Addr} {i : Nat} {H H' : Hp} {vs : List V} {x : V} (h : SqK b K H a vs) (y : (IlK b K a).yld i H x H') : H' = H ∧ vs[i]? = some x := by
  cases b with
  | true => exact ⟨y.1, y.2 vs h⟩
  | false => exact ⟨y.1, y.2 vs h⟩
theorem srv_seq {K : PySem.W.Frag} {xs : List D} {b : Bool} {a : Addr} {w0 : Wd} (h : ∀ w', Lk K w' → Stq w0 w' → ∃ vs, SqK b K w'.H a vs ∧ Reps K w'.F w'.μ xs vs) : Srv K (IlK b K a) xs w0 := fun w L s => by
  obtain ⟨vs, h1, h2⟩ := h w L s
  refine ⟨IlK_stop h1 (by rw [h2.length]; exact Nat.le_refl _), fun i d e => ?_⟩
  obtain ⟨v, e1, e2⟩ := h2.get e
  refine ⟨IlK_go h1 e1, fun x H' y => ?_⟩
  obtain ⟨rfl, e3⟩ := IlK_yld h1 y
  rw [e1] at e3
  cases e3
  exact ⟨w.F, L, Stp.refl _, e2⟩
theorem enumL_get : ∀ {xs : List D} {k i : Nat} {d : D}, (enumL k xs)[i]? = some d → ∃ y, xs[i]? = some y ∧ d = .tup [.int ((k + i : Nat) : Int), y]
  | [], _, _, _, e => by simp [enumL] at e
  | x :: xs, k, 0, d, e => by
    simp [enumL] at e
    exact ⟨x, rfl, by rw [← e]; simp⟩
  | x :: xs, k, i + 1, d, e => by
    rw [enumL, List.getElem?_cons_succ] at e
    obtain ⟨y, e1, e2⟩ := enumL_get e
    refine ⟨y, by simpa using e1, ?_⟩
    rw [e2, show k + 1 + i = k + (i + 1) by omega]
theorem enumL_len : ∀ {xs : List D} {k : Nat}, (enumL k xs).length = xs.length
  | [], _ => rfl
  | _ :: xs, k => by rw [enumL, List.length_cons, List.length_cons, enumL_len]
theorem srv_enum {K : PySem.W.Frag} {xs : List D} {b : Bool} {a : Addr} {w0 : Wd} (h : ∀ w', Lk K w' → Stq w0 w' → ∃ vs, SqK b K w'.H a vs ∧ Reps K w'.F w'.μ xs vs) : Srv K (IteK b K a) (enumL 0 xs) w0 := fun w L s => by
  obtain ⟨vs, h1, h2⟩ := h w L s
  refine ⟨⟨vs, h1, by rw [enumL_len, h2.length]⟩, fun i d e => ?_⟩
  obtain ⟨y, e0, ed⟩ := enumL_get e
  obtain ⟨v, e1, e2⟩ := h2.get e0
  refine ⟨⟨vs, v, h1, e1⟩, fun x H' y' => ?_⟩
  obtain ⟨T, x', rfl, hT, rfl, hx⟩ := y'
  have q := hx vs h1
  rw [e1] at q
  cases q
  obtain ⟨L2, s2⟩ := L.newF (p := T) (o := .tup [.int (i : Nat), v]) hT
  refine ⟨_, L2, s2, ?_⟩
  rw [ed]
  refine .tup (SqT.of upd_same) (.cons ?_ (.cons (e2.mono s2.fle (List.prefix_refl _)) .nil))
  rw [Nat.zero_add]
  exact .int _
theorem zipL_get : ∀ {xs ys : List D} {i : Nat} {d : D}, (zipL xs ys)[i]? = some d → ∃ x y, xs[i]? = some x ∧ ys[i]? = some y ∧ d = .tup [x, y]
  | [], _, _, _, e => by simp [zipL] at e
  | _ :: _, [], _, _, e => by simp [zipL] at e
  | x :: xs, y :: ys, 0, d, e => by
    simp [zipL] at e
    exact ⟨x, y, rfl, rfl, e.symm⟩
  | x :: xs, y :: ys, i + 1, d, e => by
    rw [zipL, List.getElem?_cons_succ] at e
    obtain ⟨x', y', e1, e2, e3⟩ := zipL_get e
    exact ⟨x', y', by simpa using e1, by simpa using e2, e3⟩
theorem zipL_len : ∀ {xs ys : List D}, (zipL xs ys).length ≤ xs.length ∧ (zipL xs ys).length ≤ ys.length ∧ ((zipL xs ys).length = xs.length ∨ (zipL xs ys).length = ys.length)
  | [], ys => by simp [zipL]
  | _ :: _, [] => by simp [zipL]
  | x :: xs, y :: ys => by
    obtain ⟨h1, h2, h3⟩ := zipL_len (xs := xs) (ys := ys)
    simp only [zipL, List.length_cons]
    omega
theorem srv_zip {K : PySem.W.Frag} {xs ys : List D} {b c : Bool} {a a' : Addr} {w0 : Wd} (h : ∀ w', Lk K w' → Stq w0 w' → ∃ vs, SqK b K w'.H a vs ∧ Reps K w'.F w'.μ xs vs) (h' : ∀ w', Lk K w' → Stq w0 w' → ∃ vs, SqK c K w'.H a' vs ∧ Reps K w'.F w'.μ ys vs) :
    Srv K (ItzK b c K a a') (zipL xs ys) w0 := fun w L s => by
  obtain ⟨vs, h1, h2⟩ := h w L s
  obtain ⟨us, h3, h4⟩ := h' w L s
  obtain ⟨z1, z2, z3⟩ := zipL_len (xs := xs) (ys := ys)
  refine ⟨⟨vs, us, h1, h3, by rw [← h2.length]; exact z1, by rw [← h4.length]; exact z2, by rw [← h2.length, ← h4.length]; exact z3⟩, fun i d e => ?_⟩
  obtain ⟨x, y, e1, e2, ed⟩ := zipL_get e
  obtain ⟨v, f1, f2⟩ := h2.get e1
  obtain ⟨u, g1, g2⟩ := h4.get e2
  refine ⟨⟨vs, us, v, u, h1, h3, f1, g1⟩, fun t H' y' => ?_⟩
  obtain ⟨T, x', y', rfl, hT, rfl, hx, hy⟩ := y'
  have q := hx vs h1
  rw [f1] at q
  cases q
  have q := hy us h3
  rw [g1] at q
  cases q
  obtain ⟨L2, s2⟩ := L.newF (p := T) (o := .tup [v, u]) hT
  refine ⟨_, L2, s2, ?_⟩
  rw [ed]
  exact .tup (SqT.of upd_same) (.cons (f2.mono s2.fle (List.prefix_refl _)) (.cons (g2.mono s2.fle (List.prefix_refl _)) .nil))
theorem rng_get {lo : Int} {n i : Nat} {d : D} (e : (rng lo n)[i]? = some d) : i < n ∧ d = .int (lo + i) := by
  unfold rng at e
  rw [List.getElem?_map] at e
  cases q : (List.range n)[i]? with
  | none => rw [q] at e; cases e
  | some j =>
    rw [q] at e
    obtain ⟨h1, h2⟩ := List.getElem?_eq_some_iff.mp q
    simp at h1 h2
    subst h2
    exact ⟨h1, (Option.some.inj e).symm⟩
theorem rng_len {lo : Int} {n : Nat} : (rng lo n).length = n := by simp [rng]
theorem srv_rng {K : PySem.W.Frag} {lo : Int} {n : Nat} {w0 : Wd} : Srv K (Itr lo n) (rng lo n) w0 := fun w L s => by
  refine ⟨by show n ≤ _; rw [rng_len]; exact Nat.le_refl _, fun i d e => ?_⟩
  obtain ⟨h1, rfl⟩ := rng_get e
  refine ⟨h1, fun x H' y => ?_⟩
  obtain ⟨rfl, rfl⟩ := y
  exact ⟨w.F, L, Stp.refl _, .int _⟩

theorem rngd_get {hi : Int} {n i : Nat} {d : D} (e : (rngd hi n)[i]? = some d) : i < n ∧ d = .int (hi - i) := by
  unfold rngd at e
  rw [List.getElem?_map] at e
  cases q : (List.range n)[i]? with
  | none => rw [q] at e; cases e
  | some j =>
    rw [q] at e
    obtain ⟨h1, h2⟩ := List.getElem?_eq_some_iff.mp q
    simp at h1 h2
    subst h2
    exact ⟨h1, (Option.some.inj e).symm⟩
theorem rngd_len {hi : Int} {n : Nat} : (rngd hi n).length = n := by simp [rngd]
theorem srv_rngd {K : PySem.W.Frag} {hi : Int} {n : Nat} {w0 : Wd} : Srv K (Itc hi (-1) n) (rngd hi n) w0 := fun w L s => by
  refine ⟨by show n ≤ _; rw [rngd_len]; exact Nat.le_refl _, fun i d e => ?_⟩
  obtain ⟨h1, rfl⟩ := rngd_get e
  refine ⟨h1, fun x H' y => ?_⟩
  obtain ⟨rfl, rfl⟩ := y
  refine ⟨w.F, L, Stp.refl _, ?_⟩
  have : hi + (i : Nat) * (-1 : Int) = hi - i := by omega
  rw [this]
  exact .int _
section
variable {X : Cx} {ca : Nat → Addr} {fld : Nat → List Str} {Wx : WX} {cl : Nat → List D → List D → Rc}
abbrev SI (cl : Nat → List D → List D → Rc) (ca : Nat → Addr) (fld : Nat → List Str) (Wx : WX) (X : Cx) (it : Ev.It) (tg e : Expr) : Prop := PI X tg e (TG (gx X ca fld) Wx (rI (gx X ca fld)) (evIt cl it))
theorem PIw {tg e : Expr} {t t' : TI} (h : PI X tg e t) (q : ∀ σ H Q, t' σ H Q → t σ H Q) : PI X tg e t' := ⟨fun pins s σ H Q I hw => h.run pins s σ H Q I (q _ _ _ hw)⟩
theorem rd_bind {α β : Type} {rel : Wd → Wd → α → β → Prop} {G : Gs} {w : Wd} {h : HV} {m : Ms} {g : List D → Ms → R α} {f : D → Option (List D)} {Q : β → Hp → Prop} (hf : Fin G Wx rel w (if isLocH h then .bad else (opt ((rd h m).bind f) m).bind g) Q) :
    isLocH h = false ∧ ∃ c xs, rd h m = some c ∧ f c = some xs ∧ Fin G Wx rel w (g xs m) Q := by
  by_cases k : isLocH h = true
  · rw [if_pos k] at hf; exact hf.elim
  · rw [if_neg k] at hf
    obtain ⟨c, xs, e1, e2, hf⟩ := opt_bindf hf
    exact ⟨by simpa using k, c, xs, e1, e2, hf⟩
theorem itemsOf_seq : itemsOf = seqOf := by
  funext d
  cases d <;> rfl
theorem i_h {c : H} {tg e : Expr} (hc : SH cl ca fld Wx X c e) : SI cl ca fld Wx X (.h c) tg e :=
  PIw (pi_seqK hc) fun σ H Q h => by
    obtain ⟨F, μ, m, L, h⟩ := tg_in (g := fun m => (evH cl c m).bind walkM) (fun m => by rw [evIt] <;> rfl) h
    refine TG.mono (Fin.bind (rel := rH (gx X ca fld)) rI_ok L h) fun v H1 ⟨d, F1, μ1, m1, L1, s1, r1, h1⟩ => ?_
    unfold walkM at h1
    obtain ⟨nl, c', xs, e1, e2, h1⟩ := rd_bind h1
    rw [itemsOf_seq] at e2
    obtain ⟨b, a, rfl, hv⟩ := hold L1 r1 nl e1 e2
    obtain ⟨L2, s2⟩ := L1.lock d
    obtain ⟨vs, h2, h3⟩ := hv _ L2 (Stq.refl _)
    exact ⟨b, a, vs, rfl, h2, h1 _ F1 μ1 H1 L1 (Stp.refl _) (srv_seq hv)⟩
theorem i_rg1 {x : Ev.X} {tg e : Expr} {p pos : Pos} (hg : Gl X "range") (hm : X.mg "range" = none) (hp : plainE e = true) (hx : SE cl ca fld Wx X x e) : SI cl ca fld Wx X (.rg1 x) tg (.Call (.Name "range" p) [e] [] pos) :=
  PIw (pi_range1 hg hm (one_argX hp hx) (star_cons hp)) fun σ H Q h => by
    obtain ⟨F, μ, m, L, h⟩ := tg_in (g := fun m => (evX cl x m).bind rng1M) (fun m => by rw [evIt] <;> rfl) h
    refine TG.mono (Fin.bind (rel := rD (gx X ca fld)) rI_ok L h) fun v H1 ⟨d, F1, μ1, m1, L1, s1, r1, h1⟩ => ?_
    unfold rng1M at h1
    split at h1
    · split at h1
      · rename_i hz
        cases rep_int r1
        exact ⟨_, rfl, hz.1, hz.2, h1 _ F1 μ1 H1 L1 (Stp.refl _) srv_rng⟩
      · exact h1.elim
    · exact h1.elim
theorem two_argX {x y : Ev.X} {e e2 : Expr} (hp : plainE e = true) (hp2 : plainE e2 = true) (hx : SE cl ca fld Wx X x e) (hy : SE cl ca fld Wx X y e2) : PA X [e, e2] (fun σ H Q => TG (gx X ca fld) Wx (rD (gx X ca fld)) (evX cl x) σ H fun v H1 => TG (gx X ca fld) Wx (rD (gx X ca fld)) (evX cl y) σ H1 fun u H2 => Q [v, u] H2) :=
  PAw (pa_cons hx (pa_cons hy pa_nil (star_cons hp2)) (star_cons hp)) fun σ H Q h => TG.mono h fun v H1 h => TG.mono h fun u H2 h => h
theorem two_argH {x y : H} {e e2 : Expr} (hp : plainE e = true) (hp2 : plainE e2 = true) (hx : SH cl ca fld Wx X x e) (hy : SH cl ca fld Wx X y e2) : PA X [e, e2] (fun σ H Q => TG (gx X ca fld) Wx (rH (gx X ca fld)) (evH cl x) σ H fun v H1 => TG (gx X ca fld) Wx (rH (gx X ca fld)) (evH cl y) σ H1 fun u H2 => Q [v, u] H2) :=
  PAw (pa_cons hx (pa_cons hy pa_nil (star_cons hp2)) (star_cons hp)) fun σ H Q h => TG.mono h fun v H1 h => TG.mono h fun u H2 h => h
theorem star2 {e e2 : Expr} {env : Env} (hp : plainE e = true) (hp2 : plainE e2 = true) : starEach [e, e2] env = [(false, eval e env), (false, eval e2 env)] := by
  rw [star_cons hp, star_cons hp2]; rfl
theorem star1 {e : Expr} {env : Env} (hp : plainE e = true) : starEach [e] env = [(false, eval e env)] := by
  rw [star_cons hp]; rfl
theorem i_rg2 {x y : Ev.X} {tg e e2 : Expr} {p pos : Pos} (hg : Gl X "range") (hm : X.mg "range" = none) (hp : plainE e = true) (hp2 : plainE e2 = true) (hx : SE cl ca fld Wx X x e) (hy : SE cl ca fld Wx X y e2) : SI cl ca fld Wx X (.rg2 x y) tg (.Call (.Name "range" p) [e, e2] [] pos) :=
  PIw (pi_range2 hg hm (two_argX hp hp2 hx hy) (star2 hp hp2) (star1 hp2)) fun σ H Q h => by
    obtain ⟨F, μ, m, L, h⟩ := tg_in (g := fun m => (evX cl x m).bind fun a m => (evX cl y m).bind fun b m => rng2M a b m) (fun m => by rw [evIt] <;> rfl) h
    refine TG.mono (Fin.bind (rel := rD (gx X ca fld)) rI_ok L h) fun v H1 ⟨d, F1, μ1, m1, L1, s1, r1, h1⟩ => ?_
    refine TG.mono (Fin.bind (rel := rD (gx X ca fld)) rI_ok L1 h1) fun u H2 ⟨d2, F2, μ2, m2, L2, s2, r2, h2⟩ => ?_
    unfold rng2M at h2
    split at h2
    · split at h2
      · rename_i hz
        cases rep_int r1
        cases rep_int r2
        exact ⟨_, _, rfl, hz, h2 _ F2 μ2 H2 L2 (Stp.refl _) srv_rng⟩
      · exact h2.elim
    · exact h2.elim
theorem i_rgd {x y : Ev.X} {tg e e2 : Expr} {k : Nat} {p p1 p2 pos : Pos} (hg : Gl X "range") (hm : X.mg "range" = none) (hp : plainE e = true) (hp2 : plainE e2 = true) (hx : SE cl ca fld Wx X x e) (hy : SE cl ca fld Wx X y e2) :
    SI cl ca fld Wx X (.rgd x y) tg (.Call (.Name "range" p) [e, e2, .UnaryOp .USub (.Constant (.int 1) k p1) p2] [] pos) := by
  have hc : PE X (.UnaryOp .USub (.Constant (.int 1) k p1) p2) (tUn (L2.rU fun i => V.int (-i)) (tC (V.int 1))) := pe_un un_neg pe_int
  have hs3 : starEach [.UnaryOp .USub (.Constant (.int 1) k p1) p2] X.env = [(false, eval (.UnaryOp .USub (.Constant (.int 1) k p1) p2) X.env)] := star1 (by rfl)
  have ha : PA X [e, e2, .UnaryOp .USub (.Constant (.int 1) k p1) p2] (fun σ H Q => TG (gx X ca fld) Wx (rD (gx X ca fld)) (evX cl x) σ H fun v H1 => TG (gx X ca fld) Wx (rD (gx X ca fld)) (evX cl y) σ H1 fun u H2 => Q [v, u, .int (-1)] H2) :=
    PAw (pa_cons hx (pa_cons hy (pa_cons hc pa_nil (by rw [hs3]; rfl)) (star_cons hp2)) (star_cons hp)) fun σ H Q h => TG.mono h fun v H1 h => TG.mono h fun u H2 h => ⟨1, rfl, h⟩
  refine PIw (pi_range3 hg hm ha (star_cons hp) (by rw [star_cons hp2, hs3]; rfl)) fun σ H Q h => ?_
  obtain ⟨F, μ, m, L, h⟩ := tg_in (g := fun m => (evX cl x m).bind fun a m => (evX cl y m).bind fun b m => rngdM a b m) (fun m => by rw [evIt] <;> rfl) h
  refine TG.mono (Fin.bind (rel := rD (gx X ca fld)) rI_ok L h) fun v H1 ⟨d, F1, μ1, m1, L1, s1, r1, h1⟩ => ?_
  refine TG.mono (Fin.bind (rel := rD (gx X ca fld)) rI_ok L1 h1) fun u H2 ⟨d2, F2, μ2, m2, L2, s2, r2, h2⟩ => ?_
  unfold rngdM at h2
  split at h2
  · split at h2
    · rename_i hz
      cases rep_int r1
      cases rep_int r2
      exact ⟨_, _, _, _, rfl, RgC.neg hz.1 hz.2.1 hz.2.2.1 hz.2.2.2, h2 _ F2 μ2 H2 L2 (Stp.refl _) srv_rngd⟩
    · exact h2.elim
  · exact h2.elim
theorem i_en {c : H} {e : Expr} {elts : List Expr} {kk : Nat} {tpos p pos : Pos} (hg : Gl X "enumerate") (hm : X.mg "enumerate" = none) (hp : plainE e = true) (hc : SH cl ca fld Wx X c e) : SI cl ca fld Wx X (.en c) (.Tuple elts kk tpos) (.Call (.Name "enumerate" p) [e] [] pos) :=
  PIw (pi_enumK hg hm (one_arg hp hc) (star1 hp)) fun σ H Q h => by
    obtain ⟨F, μ, m, L, h⟩ := tg_in (g := fun m => (evH cl c m).bind enumM) (fun m => by rw [evIt] <;> rfl) h
    refine TG.mono (Fin.bind (rel := rH (gx X ca fld)) rI_ok L h) fun v H1 ⟨d, F1, μ1, m1, L1, s1, r1, h1⟩ => ?_
    unfold enumM at h1
    obtain ⟨nl, c', xs, e1, e2, h1⟩ := rd_bind h1
    obtain ⟨b, a, rfl, hv⟩ := hold L1 r1 nl e1 e2
    obtain ⟨L2, s2⟩ := L1.lock d
    obtain ⟨vs, h2, h3⟩ := hv _ L2 (Stq.refl _)
    exact ⟨b, a, vs, rfl, h2, h1 _ F1 μ1 H1 L1 (Stp.refl _) (srv_enum hv)⟩
theorem lockR_valH {ρ : List Sl} {h : HV} (k : isValH h = true) : lockR ρ h = ρ := by
  cases h with
  | val d => rfl
  | sl i => cases k
theorem i_zp {c d : H} {e e2 : Expr} {elts : List Expr} {kk : Nat} {tpos p pos : Pos} (hg : Gl X "zip") (hm : X.mg "zip" = none) (hp : plainE e = true) (hp2 : plainE e2 = true) (hc : SH cl ca fld Wx X c e) (hd : SH cl ca fld Wx X d e2) : SI cl ca fld Wx X (.zp c d) (.Tuple elts kk tpos) (.Call (.Name "zip" p) [e, e2] [] pos) :=
  PIw (pi_zipK hg hm (two_argH hp hp2 hc hd) (star_cons hp) (star_any (by simp [hp2]))) fun σ H Q h => by
    obtain ⟨F, μ, m, L, h⟩ := tg_in (g := fun m => (evH cl c m).bind fun h m => (evH cl d m).bind fun g m => zipM h g m) (fun m => by rw [evIt] <;> rfl) h
    refine TG.mono (Fin.bind (rel := rH (gx X ca fld)) rI_ok L h) fun v H1 ⟨h', F1, μ1, m1, L1, s1, r1, h1⟩ => ?_
    refine TG.mono (Fin.bind (rel := rH (gx X ca fld)) rI_ok L1 h1) fun u H2 ⟨g', F2, μ2, m2, L2, s2, r2, h2⟩ => ?_
    unfold zipM at h2
    by_cases kz : (isValH h' && isValH g') = true
    · rw [if_pos kz] at h2
      rw [Bool.and_eq_true] at kz
      obtain ⟨c1, xs, e1, e2, h2⟩ := opt_bindf h2
      obtain ⟨c2, ys, e3, e4, h2⟩ := opt_bindf h2
      have nl : ∀ {h : HV}, isValH h = true → isLocH h = false := fun {h} k => by
        cases h with
        | val d => cases d <;> first | rfl | cases k
        | sl i => rfl
      obtain ⟨b, a, rfl, hv⟩ := hold L2 (rH.later r1 s2 rfl) (nl kz.1) e1 e2
      obtain ⟨b', a', rfl, hv'⟩ := hold L2 r2 (nl kz.2) e3 e4
      rw [lockR_valH kz.1] at hv
      rw [lockR_valH kz.2] at hv'
      obtain ⟨vs, k1, k2⟩ := hv _ L2 (Stq.refl _)
      obtain ⟨us, k3, k4⟩ := hv' _ L2 (Stq.refl _)
      exact ⟨b, b', a, a', vs, us, rfl, k1, k3, h2 _ F2 μ2 H2 L2 (Stp.refl _) (srv_zip hv hv')⟩
    · rw [if_neg kz] at h2
      exact h2.elim
end
end Ev

set_option Elab.async false
set_option linter.all false
set_option maxRecDepth 100000
set_option autoImplicit false
set_option maxHeartbeats 1000000
/-! Ev10: comprehensions. -/
namespace Ev
open PySem PySem.Spec PyProof.Rows L2

/-! ### own slots emptied, and back -/
theorem wipeR_len {ρ : List Sl} : ∀ {own : List Nat}, (wipeR ρ own).length = ρ.length
  | [] => rfl
  | i :: is => by unfold wipeR; rw [List.length_set, wipeR_len]
theorem wipeR_out {ρ : List Sl} {j : Nat} : ∀ {own : List Nat}, j ∉ own → (wipeR ρ own)[j]? = ρ[j]?
  | [], _ => rfl
  | i :: is, h => by
    unfold wipeR
    rw [get_set_ne (fun e => h (by simp [e]))]
    exact wipeR_out fun m => h (List.mem_cons_of_mem _ m)
theorem wipeR_in {ρ : List Sl} {j : Nat} {s : Sl} : ∀ {own : List Nat}, j ∈ own → (wipeR ρ own)[j]? = some s → s = .un
  | [], h, _ => by cases h
  | i :: is, h, e => by
    unfold wipeR at e
    by_cases z : j = i
    · subst z
      have := (List.getElem?_eq_some_iff.mp e).1
      rw [List.length_set] at this
      rw [List.getElem?_set_self this] at e
      exact (Option.some.inj e).symm
    · rw [get_set_ne z] at e
      rcases List.mem_cons.mp h with q | q
      · exact absurd q z
      · exact wipeR_in q e
theorem wipe_out' {σ : L2.St} {j : Nat} : ∀ {own : List Nat}, j ∉ own → (wipe σ own)[j]? = σ[j]?
  | [], _ => rfl
  | i :: is, h => by
    unfold wipe
    rw [get_set_ne (fun e => h (by simp [e]))]
    exact wipe_out' fun m => h (List.mem_cons_of_mem _ m)
theorem wipe_in {σ : L2.St} {j : Nat} : ∀ {own : List Nat}, j ∈ own → j < σ.length → (wipe σ own)[j]? = some none
  | [], h, _ => by cases h
  | i :: is, h, e => by
    unfold wipe
    by_cases z : j = i
    · subst z
      rw [List.getElem?_set_self (by rw [wipe_length]; exact e)]
    · rw [get_set_ne z]
      rcases List.mem_cons.mp h with q | q
      · exact absurd q z
      · exact wipe_in q e
theorem wipe_same {σ σ' : L2.St} {own : List Nat} (hl : σ'.length = (wipe σ own).length) (h : ∀ j, j ∉ own → σ'[j]? = (wipe σ own)[j]?) : wipe σ' own = wipe σ own := by
  rw [wipe_length] at hl
  refine List.ext_getElem? fun j => ?_
  by_cases z : j ∈ own
  · by_cases k : j < σ.length
    · rw [wipe_in z (by omega), wipe_in z k]
    · rw [List.getElem?_eq_none (by rw [wipe_length]; omega), List.getElem?_eq_none (by rw [wipe_length]; omega)]
  · rw [wipe_out' z, h j z]
theorem backR_len {ρ ρ0 : List Sl} : ∀ {own : List Nat}, (backR ρ ρ0 own).length = ρ.length
  | [] => rfl
  | i :: is => by unfold backR; rw [List.length_set, backR_len]
theorem backR_out {ρ ρ0 : List Sl} {j : Nat} : ∀ {own : List Nat}, j ∉ own → (backR ρ ρ0 own)[j]? = ρ[j]?
  | [], _ => rfl
  | i :: is, h => by
    unfold backR
    rw [get_set_ne (fun e => h (by simp [e]))]
    exact backR_out fun m => h (List.mem_cons_of_mem _ m)
theorem backR_in {ρ ρ0 : List Sl} {j : Nat} {s : Sl} : ∀ {own : List Nat}, j ∈ own → (backR ρ ρ0 own)[j]? = some s → s = (ρ0[j]?).getD .un
  | [], h, _ => by cases h
  | i :: is, h, e => by
    unfold backR at e
    by_cases z : j = i
    · subst z
      have := (List.getElem?_eq_some_iff.mp e).1
      rw [List.length_set] at this
      rw [List.getElem?_set_self this] at e
      exact (Option.some.inj e).symm
    · rw [get_set_ne z] at e
      rcases List.mem_cons.mp h with q | q
      · exact absurd q z
      · exact backR_in q e
theorem plainS_ow {ρ : List Sl} {i : Nat} {c : D} (h : plainS ρ i = true) (e : ρ[i]? = some (Sl.ow c) ∨ ρ[i]? = some (Sl.rl c)) : False := by
  unfold plainS at h
  rcases e with e | e <;> rw [e] at h <;> cases h

/-! ### a block's state -/
structure At (K : PySem.W.Frag) (w0 : Wd) (Dd : Addr) (ac : List D) (w : Wd) : Prop where
  L : Lk K w
  S : Stp w0 w
  new : w0.H Dd = none
  fr : w.F Dd = none
  no : ∀ x, ¬ Own w x Dd
  ac : ∃ vs, w.H Dd = some (.lst vs) ∧ Reps K w.F w.μ ac vs
section
variable {K : PySem.W.Frag} {F F' : Hp} {μ μ' : List Addr} {m m' : Ms} {σ σ' : L2.St} {H H' : Hp} {w0 w w' wI : Wd} {Dd : Addr} {ac : List D} {own : List Nat}
theorem At.step (a : At K w0 Dd ac w) (L : Lk K w') (s : Stp w w') : At K w0 Dd ac w' := by
  obtain ⟨vs, e1, e2⟩ := a.ac
  refine ⟨L, a.S.trans s, a.new, ?_, fun x hx => ?_, vs, s.keep _ _ e1 a.no, e2.mono s.fle s.mu⟩
  · cases q : w'.F Dd with
    | none => rfl
    | some o =>
      rcases s.fnew _ _ q with z | z | ⟨y, z⟩ | ⟨_, z⟩
      · exact absurd a.fr z
      · rw [z] at e1; cases e1
      · exact absurd z (a.no y)
      · rw [z] at e1; cases e1
  · rcases s.own _ x hx with ⟨y, z⟩ | z
    · exact a.no y z
    · rw [z] at e1; cases e1
/-- other slots -/
theorem At.slots {ρ : List Sl} (a : At K w0 Dd ac ⟨F, μ, m, σ, H⟩) (L : Lk K ⟨F, μ, { m with ρ := ρ }, σ', H⟩) (hw : ∀ (i : Nat) (c : D), ρ[i]? = some (Sl.ow c) ∨ ρ[i]? = some (Sl.rl c) → (m.ρ[i]? = some (Sl.ow c) ∨ m.ρ[i]? = some (Sl.rl c)) ∧ σ'[i]? = σ[i]?)
    (hr : ∀ (i : Nat) (c : D), w0.m.ρ[i]? = some (Sl.rl c) → ρ[i]? = some (Sl.rl c) ∧ σ'[i]? = w0.σ[i]?) : At K w0 Dd ac ⟨F, μ, { m with ρ := ρ }, σ', H⟩ := by
  have up : ∀ x q, Own ⟨F, μ, { m with ρ := ρ }, σ', H⟩ x q → Own ⟨F, μ, m, σ, H⟩ x q := fun x q hx => by
    cases x with
    | inr n => exact hx
    | inl i =>
      obtain ⟨⟨c, hc⟩, hs⟩ := hx
      obtain ⟨h1, h2⟩ := hw i c hc
      exact ⟨⟨c, h1⟩, by rw [← h2]; exact hs⟩
  exact ⟨L, ⟨a.S.fle, a.S.mu, a.S.keep, fun p x hx => a.S.own p x (up x p hx), a.S.fnew, a.S.there, hr⟩, a.new, a.fr, fun x hx => a.no x (up x _ hx), a.ac⟩
/-- one more -/
theorem At.push {d : D} {v : V} {vs : List V} (a : At K w0 Dd ac ⟨F, μ, m, σ, H⟩) (e : H Dd = some (.lst vs)) (r : Rep K F μ d v) : At K w0 Dd (ac ++ [d]) ⟨F, μ, m, σ, upd H Dd (.lst (vs ++ [v]))⟩ := by
  obtain ⟨vs', e1, e2⟩ := a.ac
  have e1 : H Dd = some (.lst vs') := e1
  rw [e] at e1
  cases e1
  have L := a.L
  have nf : F Dd = none := a.fr
  have keepO : ∀ (x : Nat ⊕ Nat) (p : Addr), Own ⟨F, μ, m, σ, H⟩ x p → upd H Dd (.lst (vs ++ [v])) p = H p := fun x p hx => upd_ne fun z => a.no x (z ▸ hx)
  refine ⟨⟨fun b o q => ?_, L.len, L.mul, L.val, fun i c q => ?_, fun n c q => ?_, fun x y p hx hy => L.inj x y p hx hy⟩, ⟨a.S.fle, a.S.mu, fun p o q hn => ?_, fun p x hx => a.S.own p x hx, a.S.fnew, fun p q => ?_, a.S.rls⟩, a.new, a.fr, fun x hx => a.no x hx, vs ++ [v], upd_same, e2.append (.cons r .nil)⟩
  · show upd H Dd _ b = some o
    have q : F b = some o := q
    rw [upd_ne (fun z => by rw [z, nf] at q; cases q)]
    exact L.fro b o q
  · obtain ⟨p, q1, q2, q3⟩ := L.own i c q
    refine ⟨p, q1, q2, ?_⟩
    show Con K F μ c p (upd H Dd _ p)
    rw [keepO (.inl i) p ⟨⟨c, q⟩, q1⟩]; exact q3
  · obtain ⟨p, q1, q2, q3⟩ := L.sto n c q
    refine ⟨p, q1, q2, ?_⟩
    show ConL K F μ c p (upd H Dd _ p)
    rw [keepO (.inr n) p q1]; exact q3
  · show upd H Dd _ p = some o
    have nw : w0.H Dd = none := a.new
    rw [upd_ne (fun z => by rw [z, nw] at q; cases q)]
    exact a.S.keep p o q hn
  · have q : upd H Dd (.lst (vs ++ [v])) p = none := q
    by_cases z : p = Dd
    · subst z; rw [upd_same] at q; cases q
    · rw [upd_ne z] at q; exact a.S.there p q
theorem Lk.wipe (L : Lk K ⟨F, μ, m, σ, H⟩) (own : List Nat) : Lk K ⟨F, μ, { m with ρ := wipeR m.ρ own }, L2.wipe σ own, H⟩ := by
  have out : ∀ {i : Nat} {s : Sl}, s ≠ .un → (wipeR m.ρ own)[i]? = some s → i ∉ own ∧ m.ρ[i]? = some s := fun {i s} hs e => by
    by_cases z : i ∈ own
    · exact absurd (wipeR_in z e) hs
    · rw [wipeR_out z] at e; exact ⟨z, e⟩
  have up : ∀ x q, Own ⟨F, μ, { m with ρ := wipeR m.ρ own }, L2.wipe σ own, H⟩ x q → Own ⟨F, μ, m, σ, H⟩ x q := fun x q hx => by
    cases x with
    | inr n => exact hx
    | inl i =>
      obtain ⟨⟨c, hc⟩, hs⟩ := hx
      rcases hc with hc | hc
      · obtain ⟨z, e⟩ := out (by simp) hc
        exact ⟨⟨c, .inl e⟩, by rw [← wipe_out' z]; exact hs⟩
      · obtain ⟨z, e⟩ := out (by simp) hc
        exact ⟨⟨c, .inr e⟩, by rw [← wipe_out' z]; exact hs⟩
  refine ⟨L.fro, by simpa [wipeR_len, wipe_length] using L.len, L.mul, fun i d e => ?_, fun i c e => ?_, L.sto, fun a b q qa qb => L.inj a b q (up a q qa) (up b q qb)⟩
  · obtain ⟨z, e⟩ := out (by simp) e
    obtain ⟨v, e1, e2⟩ := L.val i d e
    exact ⟨v, by show (L2.wipe σ own)[i]? = _; rw [wipe_out' z]; exact e1, e2⟩
  · have z : i ∉ own ∧ (m.ρ[i]? = some (Sl.ow c) ∨ m.ρ[i]? = some (Sl.rl c)) := by
      rcases e with e | e
      · obtain ⟨z, e⟩ := out (by simp) e; exact ⟨z, .inl e⟩
      · obtain ⟨z, e⟩ := out (by simp) e; exact ⟨z, .inr e⟩
    obtain ⟨p, e1, e2⟩ := L.own i c z.2
    exact ⟨p, by show (L2.wipe σ own)[i]? = _; rw [wipe_out' z.1]; exact e1, e2⟩
/-- no slot of own is locked -/
def NoRl (w : Wd) (own : List Nat) : Prop := ∀ i ∈ own, ∀ c, w.m.ρ[i]? ≠ some (Sl.rl c)
theorem At.wipe (a : At K w0 Dd ac ⟨F, μ, m, σ, H⟩) (h0 : NoRl w0 own) : At K w0 Dd ac ⟨F, μ, { m with ρ := wipeR m.ρ own }, L2.wipe σ own, H⟩ := by
  refine a.slots (a.L.wipe own) (fun i c e => ?_) fun i c e => ?_
  · have z : i ∉ own := fun z => by
      rcases e with e | e
      · have := wipeR_in z e; cases this
      · have := wipeR_in z e; cases this
    rw [wipeR_out z] at e
    exact ⟨e, wipe_out' z⟩
  · have z : i ∉ own := fun z => h0 i z c e
    obtain ⟨e1, e2⟩ := a.S.rls i c e
    exact ⟨by rw [wipeR_out z]; exact e1, by rw [wipe_out' z]; exact e2⟩
theorem Stq.wipe (s : Stq wI ⟨F, μ, m, σ, H⟩) (h0 : NoRl wI own) : Stq wI ⟨F, μ, { m with ρ := wipeR m.ρ own }, L2.wipe σ own, H'⟩ :=
  ⟨s.fle, s.mu, fun i c e => by
    have z : i ∉ own := fun z => h0 i z c e
    obtain ⟨e1, e2⟩ := s.rls i c e
    exact ⟨by show (wipeR m.ρ own)[i]? = _; rw [wipeR_out z]; exact e1, by show (L2.wipe σ own)[i]? = _; rw [wipe_out' z]; exact e2⟩⟩
end

/-! ### the loop of a clause -/
section
variable {α : Type}
theorem bind_okE {β : Type} {r : R α} {f : α → Ms → R β} {b : β} {m' : Ms} (h : r.bind f = .ok b m') : ∃ a m, r = .ok a m ∧ f a m = .ok b m' := by
  cases r with
  | ok a m => exact ⟨a, m, rfl, h⟩
  | exc _ _ => cases h
  | bad => cases h
theorem compL_cons {own : List Nat} {bd : D → Ms → R Unit} {ts : Ms → R Bool} {elt : Ms → R (List D)} {d : D} {r : List D} {m mE : Ms} {zs : List D} (h : compL own bd ts elt (d :: r) m = .ok zs mE) :
    ∃ m1 b m2, bd d { m with ρ := wipeR m.ρ own } = .ok () m1 ∧ ts m1 = .ok b m2 ∧ ((b = true ∧ ∃ ys m3 zs', elt m2 = .ok ys m3 ∧ compL own bd ts elt r m3 = .ok zs' mE ∧ zs = ys ++ zs') ∨ (b = false ∧ compL own bd ts elt r m2 = .ok zs mE)) := by
  rw [compL] at h
  obtain ⟨_, m1, h1, h⟩ := bind_okE h
  obtain ⟨b, m2, h2, h⟩ := bind_okE h
  refine ⟨m1, b, m2, h1, h2, ?_⟩
  cases b with
  | true =>
    rw [if_pos rfl] at h
    obtain ⟨ys, m3, h3, h⟩ := bind_okE h
    obtain ⟨zs', m4, h4, h⟩ := bind_okE h
    cases h
    exact .inl ⟨rfl, ys, m3, zs', h3, h4, rfl⟩
  | false =>
    rw [if_neg Bool.false_ne_true] at h
    exact .inr ⟨rfl, h⟩
end
/-- the state ahead of turn i -/
def Wc (K : PySem.W.Frag) (w0 wI : Wd) (Dd : Addr) (own : List Nat) (σ : L2.St) (lp : List D → Ms → R (List D)) (xs ds : List D) (mE : Ms) (i k : Nat) (H : Hp) : Prop :=
  k = xs.length - i ∧ i ≤ xs.length ∧ ∃ F μ m ac zs, At K w0 Dd ac ⟨F, μ, { m with ρ := wipeR m.ρ own }, wipe σ own, H⟩ ∧ Stq wI ⟨F, μ, { m with ρ := wipeR m.ρ own }, wipe σ own, H⟩ ∧ lp (xs.drop i) m = .ok zs mE ∧ ac ++ zs = ds
section
variable {X : Cx} {w0 wI : Wd} {Dd : Addr} {own : List Nat} {σ : L2.St} {tg : Tg} {ts : Ms → R Bool} {elt : Ms → R (List D)} {xs ds : List D} {mE : Ms} {i k : Nat} {H : Hp} {J : L2.It}
theorem Wc.next {F : Hp} {μ : List Addr} {m : Ms} {σ2 : L2.St} {ac zs : List D} {lp : List D → Ms → R (List D)} (h0 : NoRl w0 own) (hI : NoRl wI own) (a : At X.K w0 Dd ac ⟨F, μ, m, σ2, H⟩) (s : Stq wI ⟨F, μ, m, σ2, H⟩) (hw : wipe σ2 own = wipe σ own) (hi : i < xs.length)
    (hl : lp (xs.drop (i + 1)) m = .ok zs mE) (hd : ac ++ zs = ds) : Wc X.K w0 wI Dd own σ lp xs ds mE (i + 1) (xs.length - (i + 1)) H := by
  have a' := a.wipe h0
  have s' := s.wipe (H' := H) hI
  rw [hw] at a' s'
  exact ⟨rfl, hi, F, μ, m, ac, zs, a', s', hl, hd⟩
theorem Wc.turn (sv : Srv X.K J xs wI) (hsl : ∀ j ∈ tg.sl, j ∈ own) (h : Wc X.K w0 wI Dd own σ (compL own (bindTg tg) ts elt) xs ds mE i k H) :
    (i = xs.length ∧ J.stop i H ∧ ∃ F μ, At X.K w0 Dd ds ⟨F, μ, { mE with ρ := wipeR mE.ρ own }, wipe σ own, H⟩ ∧ Stq wI ⟨F, μ, { mE with ρ := wipeR mE.ρ own }, wipe σ own, H⟩) ∨
    (i < xs.length ∧ J.go i H ∧ ∀ x H', J.yld i H x H' → tgE X tg x (wipe σ own) H' fun σ2 H2 => wipe σ2 own = wipe σ own ∧ ∃ F μ m b m2 ac zs, At X.K w0 Dd ac ⟨F, μ, m, σ2, H2⟩ ∧ Stq wI ⟨F, μ, m, σ2, H2⟩ ∧ ts m = .ok b m2 ∧ ac ++ zs = ds ∧
      ((b = true ∧ ∃ ys m3 zs', elt m2 = .ok ys m3 ∧ compL own (bindTg tg) ts elt (xs.drop (i + 1)) m3 = .ok zs' mE ∧ zs = ys ++ zs') ∨ (b = false ∧ compL own (bindTg tg) ts elt (xs.drop (i + 1)) m2 = .ok zs mE))) := by
  obtain ⟨ek, hi, F, μ, m, ac, zs, a, s, hl, hd⟩ := h
  obtain ⟨st, it⟩ := sv _ a.L s
  rcases Nat.lt_or_eq_of_le hi with lt | e
  · have ex : xs[i]? = some xs[i] := by simp [lt]
    obtain ⟨go, yl⟩ := it i _ ex
    refine .inr ⟨lt, go, fun x H' y => ?_⟩
    obtain ⟨F1, L1, s1, r1⟩ := yl x H' y
    rw [List.drop_eq_getElem_cons lt] at hl
    obtain ⟨m1, b, m2, e1, e2, e3⟩ := compL_cons hl
    refine ⟨F1, μ, { m with ρ := wipeR m.ρ own }, xs[i], m1, L1, r1, e1, fun σ' L' s' hl' ho => ⟨wipe_same hl' fun j hj => ho j fun q => hj (hsl j q), F1, μ, m1, b, m2, ac, zs, (a.step L1 s1).step L' s', (s.trans s1.q).trans s'.q, e2, hd, e3⟩⟩
  · subst e
    rw [List.drop_length] at hl
    cases hl
    rw [List.append_nil] at hd
    subst hd
    exact .inl ⟨rfl, st, F, μ, a, s⟩
end
theorem calm_ok {α : Type} {r : R α} {a : α} {m : Ms} (h : calm r = .ok a m) : r = .ok a m := by
  cases r <;> first | exact h | cases h
theorem Fin.calmE {α β γ : Type} {G : Gs} {Wx : WX} {rel : Wd → Wd → β → γ → Prop} {w : Wd} {r : R α} {g : α → Ms → R β} {Q : γ → Hp → Prop} (h : Fin G Wx rel w ((calm r).bind g) Q) : ∃ a m, r = .ok a m ∧ Fin G Wx rel w (g a m) Q := by
  cases r with
  | ok a m => exact ⟨a, m, rfl, h⟩
  | exc _ _ => exact h.elim
  | bad => exact h.elim
theorem compG_ok {own : List Nat} {k : Wk} {lp : List D → Ms → R (List D)} {m m' : Ms} {ds : List D} (h : compG own k lp m = .ok ds m') :
    own.all (plainS (k.lock m).ρ) = true ∧ ∃ mE, lp k.xs (k.lock m) = .ok ds mE ∧ m' = k.unlock m.ρ { mE with ρ := backR mE.ρ m.ρ own } := by
  unfold compG at h
  split at h
  · obtain ⟨ds', mE, h1, h2⟩ := bind_okE h
    cases h2
    exact ⟨by assumption, mE, h1, rfl⟩
  · cases h
theorem plain_norl {K : PySem.W.Frag} {F : Hp} {μ : List Addr} {m : Ms} {σ : L2.St} {H : Hp} {k : Wk} {own : List Nat} (h : own.all (plainS (k.lock m).ρ) = true) : NoRl ⟨F, μ, k.lock m, σ, H⟩ own := fun i hi c e =>
  plainS_ow (List.all_eq_true.mp h i hi) (.inr e)
/-- behind the loop -/
theorem At.back {K : PySem.W.Frag} {w0 : Wd} {Dd : Addr} {F F' : Hp} {μ μ' : List Addr} {m mE : Ms} {σ : L2.St} {H H' : Hp} {k : Wk} {own : List Nat} {ds : List D} (L : Lk K ⟨F, μ, m, σ, H⟩) (hp : own.all (plainS (k.lock m).ρ) = true) (h0 : NoRl w0 own)
    (s0 : Stp w0 ⟨F, μ, m, σ, H⟩) (a : At K w0 Dd ds ⟨F', μ', { mE with ρ := wipeR mE.ρ own }, L2.wipe σ own, H'⟩) (s : Stq ⟨F, μ, k.lock m, σ, H⟩ ⟨F', μ', { mE with ρ := wipeR mE.ρ own }, L2.wipe σ own, H'⟩) :
    At K w0 Dd ds ⟨F', μ', k.unlock m.ρ { mE with ρ := backR mE.ρ m.ρ own }, σ, H'⟩ := by
  have pl : ∀ (i : Nat) (c : D), i ∈ own → ¬ (m.ρ[i]? = some (Sl.ow c) ∨ m.ρ[i]? = some (Sl.rl c)) := fun i c hi e =>
    plainS_ow (List.all_eq_true.mp hp i hi) (lockR_own.mpr e)
  have inb : ∀ {i : Nat} {s : Sl}, i ∈ own → s ≠ .un → (backR mE.ρ m.ρ own)[i]? = some s → m.ρ[i]? = some s := fun {i s} hi hs e => by
    have z := backR_in hi e
    cases q : m.ρ[i]? with
    | none => rw [q] at z; exact absurd z hs
    | some u => rw [q] at z; rw [z]; rfl
  have ow : ∀ (i : Nat) (c : D), (backR mE.ρ m.ρ own)[i]? = some (Sl.ow c) ∨ (backR mE.ρ m.ρ own)[i]? = some (Sl.rl c) → i ∉ own := fun i c e z => by
    rcases e with e | e
    · exact pl i c z (.inl (inb z (by simp) e))
    · exact pl i c z (.inr (inb z (by simp) e))
  have sameO : ∀ (i : Nat), i ∉ own → (backR mE.ρ m.ρ own)[i]? = (wipeR mE.ρ own)[i]? := fun i z => by rw [backR_out z, wipeR_out z]
  have La := a.L
  have lb : Lk K ⟨F', μ', { mE with ρ := backR mE.ρ m.ρ own }, σ, H'⟩ := by
    refine ⟨La.fro, ?_, La.mul, fun i d e => ?_, fun i c e => ?_, La.sto, fun x y q qx qy => ?_⟩
    · have := La.len
      simp only [wipeR_len, wipe_length] at this
      simpa [backR_len] using this
    · by_cases z : i ∈ own
      · have e1 := inb z (by simp) e
        obtain ⟨v, e2, e3⟩ := L.val i d e1
        exact ⟨v, e2, e3.mono s.fle s.mu⟩
      · rw [sameO i z] at e
        obtain ⟨v, e2, e3⟩ := La.val i d e
        exact ⟨v, by have e2 : (L2.wipe σ own)[i]? = _ := e2; rw [wipe_out' z] at e2; exact e2, e3⟩
    · have z := ow i c e
      rw [sameO i z] at e
      obtain ⟨p, e2, e3⟩ := La.own i c e
      exact ⟨p, by have e2 : (L2.wipe σ own)[i]? = _ := e2; rw [wipe_out' z] at e2; exact e2, e3⟩
    · have up : ∀ x, Own ⟨F', μ', { mE with ρ := backR mE.ρ m.ρ own }, σ, H'⟩ x q → Own ⟨F', μ', { mE with ρ := wipeR mE.ρ own }, L2.wipe σ own, H'⟩ x q := fun x hx => by
        cases x with
        | inr n => exact hx
        | inl i =>
          obtain ⟨⟨c, hc⟩, hs⟩ := hx
          have z := ow i c hc
          rw [sameO i z] at hc
          exact ⟨⟨c, hc⟩, by show (L2.wipe σ own)[i]? = _; rw [wipe_out' z]; exact hs⟩
      exact La.inj x y q (up x qx) (up y qy)
  have ab : At K w0 Dd ds ⟨F', μ', { mE with ρ := backR mE.ρ m.ρ own }, σ, H'⟩ :=
    At.slots (m := { mE with ρ := wipeR mE.ρ own }) a lb (fun i c e => by
      have z := ow i c e
      rw [sameO i z] at e
      exact ⟨e, (wipe_out' z).symm⟩) fun i c e => by
        have z : i ∉ own := fun z => h0 i z c e
        obtain ⟨e1, e2⟩ := a.S.rls i c e
        have e2 : (L2.wipe σ own)[i]? = w0.σ[i]? := e2
        rw [wipe_out' z] at e2
        exact ⟨by rw [sameO i z]; exact e1, e2⟩
  have sb : Stq ⟨F, μ, k.lock m, σ, H⟩ ⟨F', μ', { mE with ρ := backR mE.ρ m.ρ own }, σ, H'⟩ := ⟨s.fle, s.mu, fun i c e => by
    have z : i ∉ own := fun z => plainS_ow (List.all_eq_true.mp hp i z) (.inr e)
    obtain ⟨e1, e2⟩ := s.rls i c e
    exact ⟨by show (backR mE.ρ m.ρ own)[i]? = _; rw [sameO i z]; exact e1, rfl⟩⟩
  have s0r : ∀ (i : Nat) (c : D), w0.m.ρ[i]? = some (Sl.rl c) → m.ρ[i]? = some (Sl.rl c) := fun i c e => (s0.rls i c e).1
  have su := ab.S.unlock s0r sb
  refine ⟨ab.L.unlock sb, su, ab.new, ab.fr, fun x hx => ab.no x (own_slots (unlock_own sb) hx), ab.ac⟩

/-! ### the rules -/
def WF : WX := fun _ _ _ _ => False
section
variable {X : Cx} {ca : Nat → Addr} {fld : Nat → List Str} {Wx : WX} {cl : Nat → List D → List D → Rc}
abbrev STs (cl : Nat → List D → List D → Rc) (ca : Nat → Addr) (fld : Nat → List Str) (X : Cx) (x : Ts) (e : List Expr) : Prop := PTs X e (TG (gx X ca fld) WF rB (evTs cl x))
theorem PTsw {e : List Expr} {t t' : TT} (h : PTs X e t) (q : ∀ σ H Q, t' σ H Q → t σ H Q) : PTs X e t' := ⟨fun pins s σ H Q I hw => h.run pins s σ H Q I (q _ _ _ hw)⟩
theorem ts_nil : STs cl ca fld X .nil [] :=
  PTsw pts_nil fun σ H Q h => by
    obtain ⟨F, μ, m, L, h⟩ := tg_in (g := fun m => .ok true m) (fun m => by rw [evTs] <;> rfl) h
    exact h true F μ H L (Stp.refl _) rfl
theorem ts_one {t : T} {e : Expr} (h : ST cl ca fld WF X t e) : STs cl ca fld X (.cons t .nil) [e] :=
  PTsw (pts_one h) fun σ H Q h => by
    refine tg_in (g := evT cl t) (fun m => ?_) h
    rw [evTs]
    cases evT cl t m with
    | ok x m' =>
      show (if x then evTs cl .nil m' else .ok false m') = _
      cases x
      · rfl
      · rw [evTs]; rfl
    | exc _ _ => rfl
    | bad => rfl
/-- the new list, empty -/
theorem At.new0 {K : PySem.W.Frag} {F : Hp} {μ : List Addr} {m : Ms} {σ : L2.St} {H : Hp} {Dd : Addr} (L : Lk K ⟨F, μ, m, σ, H⟩) (h : H Dd = none) : At K ⟨F, μ, m, σ, H⟩ Dd [] ⟨F, μ, m, σ, upd H Dd (.lst [])⟩ := by
  obtain ⟨L1, s1⟩ := L.fresh (p := Dd) (o := .lst []) h
  exact ⟨L1, s1, h, L.free h, fun x hx => L.notOwn h x hx, [], upd_same, .nil⟩
theorem At.lock {K : PySem.W.Frag} {w0 : Wd} {F : Hp} {μ : List Addr} {m : Ms} {σ : L2.St} {H : Hp} {Dd : Addr} {ac : List D} (a : At K w0 Dd ac ⟨F, μ, m, σ, H⟩) (k : Wk) : At K w0 Dd ac ⟨F, μ, k.lock m, σ, H⟩ := by
  obtain ⟨L1, s1⟩ := a.L.lock k.l
  exact a.step L1 s1
theorem At.acc {K : PySem.W.Frag} {w0 : Wd} {F : Hp} {μ : List Addr} {m : Ms} {σ : L2.St} {H : Hp} {Dd : Addr} {ac zs ds : List D} {d : D} (a : At K w0 Dd ac ⟨F, μ, m, σ, H⟩) (e : ac ++ ([d] ++ zs) = ds) (h : ds.length ≤ sizeLine) : ∃ vs, H Dd = some (.lst vs) ∧ vs.length < sizeLine := by
  obtain ⟨vs, e1, e2⟩ := a.ac
  refine ⟨vs, e1, ?_⟩
  rw [← e2.length]
  rw [← e] at h
  simp at h
  omega
theorem lc_of {own : List Nat} {tg : Tg} {it : Ev.It} {ifs : Ts} {elt : Ev.X} (hsl : ∀ j ∈ tg.sl, j ∈ own) {σ : L2.St} {H : Hp} {Q : VK} (h : TG (gx X ca fld) Wx (rF (gx X ca fld)) (evF cl (.comp own tg it ifs elt)) σ H Q) :
    tLc (TG (gx X ca fld) Wx (rI (gx X ca fld)) (evIt cl it)) (tgE X tg) (TG (gx X ca fld) WF rB (evTs cl ifs)) (TG (gx X ca fld) WF (rD (gx X ca fld)) (evX cl elt)) own σ H Q := by
  obtain ⟨F, μ, m, L, h⟩ := tg_in (g := fun m => (evIt cl it m).bind fun k m =>
      (calm (compG own k (compL own (bindTg tg) (evTs cl ifs) (fun m => (evX cl elt m).bind fun d m => .ok [d] m)) m)).bind fun ds m' => if ds.length ≤ sizeLine then .ok (.lst ds) m' else .bad) (fun m => by rw [evF] <;> rfl) h
  refine TG.mono (Fin.bind (rel := rI (gx X ca fld)) rF_ok L h) fun J H1 ⟨k, F1, μ1, m1, L1, s1, sv, h1⟩ => ?_
  intro Dd hD
  obtain ⟨ds, m', e1, h1⟩ := Fin.calmE h1
  obtain ⟨hp, mE, e2, rfl⟩ := compG_ok e1
  by_cases hz : ds.length ≤ sizeLine
  · rw [if_pos hz] at h1
    have nI := plain_norl (K := X.K) (F := F1) (μ := μ1) (σ := σ) (H := H1) hp
    have n0 : NoRl ⟨F1, μ1, m1, σ, H1⟩ own := fun i hi c e => plainS_ow (List.all_eq_true.mp hp i hi) (lockR_own.mpr (.inr e))
    have a0 := (At.new0 L1 hD).lock k
    have q0 : Stq ⟨F1, μ1, k.lock m1, σ, H1⟩ ⟨F1, μ1, k.lock m1, σ, upd H1 Dd (.lst [])⟩ := ⟨fun _ _ e => e, List.prefix_refl _, fun i c e => ⟨e, rfl⟩⟩
    refine ⟨Wc X.K ⟨F1, μ1, m1, σ, H1⟩ ⟨F1, μ1, k.lock m1, σ, H1⟩ Dd own σ (compL own (bindTg tg) (evTs cl ifs) (fun m => (evX cl elt m).bind fun d m => .ok [d] m)) k.xs ds mE,
      ⟨_, rfl, Nat.zero_le _, F1, μ1, k.lock m1, [], ds, a0.wipe n0, q0.wipe nI, by rw [List.drop_zero]; exact e2, rfl⟩, fun i kk H2 hW => ?_⟩
    rcases hW.turn sv hsl with ⟨_, st, F2, μ2, a, s⟩ | ⟨lt, go, yl⟩
    · refine .inl ⟨st, ?_⟩
      have ab := At.back L1 hp n0 (Stp.refl _) a s
      exact h1 (.ref Dd) F2 μ2 H2 ab.L ab.S ⟨Dd, rfl, hD, ab.fr, ab.no, ab.ac⟩
    · refine .inr ⟨go, fun H' => Wc X.K ⟨F1, μ1, m1, σ, H1⟩ ⟨F1, μ1, k.lock m1, σ, H1⟩ Dd own σ (compL own (bindTg tg) (evTs cl ifs) (fun m => (evX cl elt m).bind fun d m => .ok [d] m)) k.xs ds mE (i + 1) (k.xs.length - (i + 1)) H', fun H' q => ⟨k.xs.length - (i + 1), by have := hW.1; omega, q⟩, fun x H' y => ?_⟩
      obtain ⟨F2, μ2, m2, d2, m2', L2, r2, b2, cont⟩ := yl x H' y
      refine ⟨F2, μ2, m2, d2, m2', L2, r2, b2, fun σ' L' s' hl ho => ?_⟩
      obtain ⟨hw, F3, μ3, m3, b, m4, ac, zs, a3, s3, et, hd, hb⟩ := cont σ' L' s' hl ho
      refine ⟨hw, F3, μ3, m3, a3.L, ?_⟩
      rw [et]
      intro b' F4 μ4 H4 L4 s4 rb
      have rb : b = b' := rb
      subst rb
      have a4 := a3.step L4 s4
      rcases hb with ⟨rfl, ys, m5, zs', ee, el, ez⟩ | ⟨rfl, el⟩
      · rw [if_pos rfl]
        obtain ⟨d, m6, e6, e7⟩ := bind_okE ee
        cases e7
        refine ⟨F4, μ4, m4, L4, ?_⟩
        rw [e6]
        intro v F5 μ5 H5 L5 s5 r5
        have a5 := a4.step L5 s5
        subst ez
        obtain ⟨vs, ev, hvs⟩ := a5.acc hd hz
        exact ⟨vs, ev, hvs, Wc.next n0 nI (a5.push ev r5) ⟨(s3.trans s4.q).trans s5.q |>.fle, ((s3.trans s4.q).trans s5.q).mu, ((s3.trans s4.q).trans s5.q).rls⟩ hw lt el (by rw [← hd, List.append_assoc])⟩
      · rw [if_neg Bool.false_ne_true]
        exact Wc.next n0 nI a4 (s3.trans s4.q) hw lt el hd
  · rw [if_neg hz] at h1
    exact h1.elim
theorem Stq.back {K : PySem.W.Frag} {wJ : Wd} {F F' : Hp} {μ μ' : List Addr} {m mE : Ms} {σ : L2.St} {H H' : Hp} {k : Wk} {own : List Nat} (hp : own.all (plainS (k.lock m).ρ) = true) (sJ : Stq wJ ⟨F, μ, m, σ, H⟩)
    (s : Stq ⟨F, μ, k.lock m, σ, H⟩ ⟨F', μ', { mE with ρ := wipeR mE.ρ own }, L2.wipe σ own, H'⟩) : Stq wJ ⟨F', μ', k.unlock m.ρ { mE with ρ := backR mE.ρ m.ρ own }, σ, H'⟩ := by
  have sb : Stq ⟨F, μ, k.lock m, σ, H⟩ ⟨F', μ', { mE with ρ := backR mE.ρ m.ρ own }, σ, H'⟩ := ⟨s.fle, s.mu, fun i c e => by
    have z : i ∉ own := fun z => plainS_ow (List.all_eq_true.mp hp i z) (.inr e)
    obtain ⟨e1, e2⟩ := s.rls i c e
    have e1 : (wipeR mE.ρ own)[i]? = _ := e1
    rw [wipeR_out z] at e1
    exact ⟨by show (backR mE.ρ m.ρ own)[i]? = _; rw [backR_out z]; exact e1, rfl⟩⟩
  refine ⟨sJ.fle.trans s.fle, sJ.mu.trans s.mu, fun i c e => ?_⟩
  obtain ⟨e1, e2⟩ := sJ.rls i c e
  have e1 : m.ρ[i]? = some (Sl.rl c) := e1
  refine ⟨?_, e2⟩
  show (unlockR (backR mE.ρ m.ρ own) m.ρ k.l)[i]? = _
  have el : (backR mE.ρ m.ρ own)[i]? = some (Sl.rl c) := (sb.rls i c (lockR_rl e1)).1
  rcases unlock_base sb with q | ⟨j, c', _, q1, q2, q4⟩
  · have q : unlockR (backR mE.ρ m.ρ own) m.ρ k.l = backR mE.ρ m.ρ own := q
    rw [q]; exact el
  · have q4 : unlockR (backR mE.ρ m.ρ own) m.ρ k.l = (backR mE.ρ m.ρ own).set j (Sl.ow c') := q4
    rw [q4]
    by_cases z : i = j
    · subst z; rw [e1] at q1; cases q1
    · rw [get_set_ne z]; exact el
theorem lc2_of {own own1 : List Nat} {tg tg1 : Tg} {it it1 : Ev.It} {ifs ifs1 : Ts} {elt : Ev.X} (hsl : ∀ j ∈ tg.sl, j ∈ own) (hsl1 : ∀ j ∈ tg1.sl, j ∈ own1) {σ : L2.St} {H : Hp} {Q : VK} (h : TG (gx X ca fld) Wx (rF (gx X ca fld)) (evF cl (.com2 own own1 tg it ifs tg1 it1 ifs1 elt)) σ H Q) :
    tLc2 (TG (gx X ca fld) Wx (rI (gx X ca fld)) (evIt cl it)) (tgE X tg) (TG (gx X ca fld) WF rB (evTs cl ifs)) (TG (gx X ca fld) WF (rI (gx X ca fld)) (evIt cl it1)) (tgE X tg1) (TG (gx X ca fld) WF rB (evTs cl ifs1)) (TG (gx X ca fld) WF (rD (gx X ca fld)) (evX cl elt)) own own1 σ H Q := by
  obtain ⟨F, μ, m, L, h⟩ := tg_in (g := fun m => (evIt cl it m).bind fun k m =>
      (calm (compG own k (compL own (bindTg tg) (evTs cl ifs) (fun m => (evIt cl it1 m).bind fun k1 m =>
        compG own1 k1 (compL own1 (bindTg tg1) (evTs cl ifs1) (fun m => (evX cl elt m).bind fun d m => .ok [d] m)) m)) m)).bind fun ds m' => if ds.length ≤ sizeLine then .ok (.lst ds) m' else .bad) (fun m => by rw [evF] <;> rfl) h
  refine TG.mono (Fin.bind (rel := rI (gx X ca fld)) rF_ok L h) fun J H1 ⟨k, F1, μ1, m1, L1, s1, sv, h1⟩ => ?_
  intro Dd hD
  obtain ⟨ds, m', e1, h1⟩ := Fin.calmE h1
  obtain ⟨hp, mE, e2, rfl⟩ := compG_ok e1
  by_cases hz : ds.length ≤ sizeLine
  · rw [if_pos hz] at h1
    have nI := plain_norl (K := X.K) (F := F1) (μ := μ1) (σ := σ) (H := H1) hp
    have n0 : NoRl ⟨F1, μ1, m1, σ, H1⟩ own := fun i hi c e => plainS_ow (List.all_eq_true.mp hp i hi) (lockR_own.mpr (.inr e))
    have a0 := (At.new0 L1 hD).lock k
    have q0 : Stq ⟨F1, μ1, k.lock m1, σ, H1⟩ ⟨F1, μ1, k.lock m1, σ, upd H1 Dd (.lst [])⟩ := ⟨fun _ _ e => e, List.prefix_refl _, fun i c e => ⟨e, rfl⟩⟩
    refine ⟨Wc X.K ⟨F1, μ1, m1, σ, H1⟩ ⟨F1, μ1, k.lock m1, σ, H1⟩ Dd own σ (compL own (bindTg tg) (evTs cl ifs) (fun m => (evIt cl it1 m).bind fun k1 m =>
        compG own1 k1 (compL own1 (bindTg tg1) (evTs cl ifs1) (fun m => (evX cl elt m).bind fun d m => .ok [d] m)) m)) k.xs ds mE,
      ⟨_, rfl, Nat.zero_le _, F1, μ1, k.lock m1, [], ds, a0.wipe n0, q0.wipe nI, by rw [List.drop_zero]; exact e2, rfl⟩, fun i kk H2 hW => ?_⟩
    rcases hW.turn sv hsl with ⟨_, st, F2, μ2, a, s⟩ | ⟨lt, go, yl⟩
    · refine .inl ⟨st, ?_⟩
      have ab := At.back L1 hp n0 (Stp.refl _) a s
      exact h1 (.ref Dd) F2 μ2 H2 ab.L ab.S ⟨Dd, rfl, hD, ab.fr, ab.no, ab.ac⟩
    · refine .inr ⟨go, fun H' => Wc X.K ⟨F1, μ1, m1, σ, H1⟩ ⟨F1, μ1, k.lock m1, σ, H1⟩ Dd own σ (compL own (bindTg tg) (evTs cl ifs) (fun m => (evIt cl it1 m).bind fun k1 m =>
        compG own1 k1 (compL own1 (bindTg tg1) (evTs cl ifs1) (fun m => (evX cl elt m).bind fun d m => .ok [d] m)) m)) k.xs ds mE (i + 1) (k.xs.length - (i + 1)) H', fun H' q => ⟨k.xs.length - (i + 1), by have := hW.1; omega, q⟩, fun x H' y => ?_⟩
      obtain ⟨F2, μ2, m2, d2, m2', L2, r2, b2, cont⟩ := yl x H' y
      refine ⟨F2, μ2, m2, d2, m2', L2, r2, b2, fun σ' L' s' hl ho => ?_⟩
      obtain ⟨hw, F3, μ3, m3, b, m4, ac, zs, a3, s3, et, hd, hb⟩ := cont σ' L' s' hl ho
      refine ⟨hw, F3, μ3, m3, a3.L, ?_⟩
      rw [et]
      intro b' F4 μ4 H4 L4 s4 rb
      have rb : b = b' := rb
      subst rb
      have a4 := a3.step L4 s4
      rcases hb with ⟨rfl, ys, m5, zs', ee, el, ez⟩ | ⟨rfl, el⟩
      · rw [if_pos rfl]
        obtain ⟨k1, m4', e6, e7⟩ := bind_okE ee
        subst ez
        refine ⟨F4, μ4, m4, L4, ?_⟩
        rw [e6]
        intro J1 F5 μ5 H5 L5 s5 sv1
        have a5 := a4.step L5 s5
        have q5 : Stq ⟨F1, μ1, k.lock m1, σ, H1⟩ ⟨F5, μ5, m4', σ', H5⟩ := (s3.trans s4.q).trans s5.q
        obtain ⟨hp1, mE1, el1, rfl⟩ := compG_ok e7
        have nI1 := plain_norl (K := X.K) (F := F5) (μ := μ5) (σ := σ') (H := H5) hp1
        have n01 : NoRl ⟨F1, μ1, m1, σ, H1⟩ own1 := fun i hi c e => plainS_ow (List.all_eq_true.mp hp1 i hi) (lockR_own.mpr (.inr (a5.S.rls i c e).1))
        have hz1 : (ac ++ ys).length ≤ sizeLine := by
          rw [← hd] at hz
          simp at hz ⊢
          omega
        refine ⟨Wc X.K ⟨F1, μ1, m1, σ, H1⟩ ⟨F5, μ5, k1.lock m4', σ', H5⟩ Dd own1 σ' (compL own1 (bindTg tg1) (evTs cl ifs1) (fun m => (evX cl elt m).bind fun d m => .ok [d] m)) k1.xs (ac ++ ys) mE1,
          ⟨_, rfl, Nat.zero_le _, F5, μ5, k1.lock m4', ac, ys, (a5.lock k1).wipe n01, (Stq.refl _).wipe nI1, by rw [List.drop_zero]; exact el1, rfl⟩, fun j kk1 H6 hW1 => ?_⟩
        rcases hW1.turn sv1 hsl1 with ⟨_, st, F7, μ7, a7, s7⟩ | ⟨lt1, go1, yl1⟩
        · refine .inl ⟨st, ?_⟩
          have ab := At.back L5 hp1 n01 a5.S a7 s7
          exact Wc.next n0 nI ab (Stq.back (K := X.K) hp1 q5 s7) hw lt el (by rw [← hd, List.append_assoc])
        · refine .inr ⟨go1, fun H' => Wc X.K ⟨F1, μ1, m1, σ, H1⟩ ⟨F5, μ5, k1.lock m4', σ', H5⟩ Dd own1 σ' (compL own1 (bindTg tg1) (evTs cl ifs1) (fun m => (evX cl elt m).bind fun d m => .ok [d] m)) k1.xs (ac ++ ys) mE1 (j + 1) (k1.xs.length - (j + 1)) H', fun H' q => ⟨k1.xs.length - (j + 1), by have := hW1.1; omega, q⟩, fun x1 H7 y1 => ?_⟩
          obtain ⟨F8, μ8, m8, d8, m8', L8, r8, b8, cont1⟩ := yl1 x1 H7 y1
          refine ⟨F8, μ8, m8, d8, m8', L8, r8, b8, fun σ3 L9 s9 hl9 ho9 => ?_⟩
          obtain ⟨hw1, F10, μ10, m10, b1, m11, ac1, zs1, a10, s10, et1, hd1, hb1⟩ := cont1 σ3 L9 s9 hl9 ho9
          refine ⟨hw1, F10, μ10, m10, a10.L, ?_⟩
          rw [et1]
          intro b1' F11 μ11 H11 L11 s11 rb1
          have rb1 : b1 = b1' := rb1
          subst rb1
          have a11 := a10.step L11 s11
          rcases hb1 with ⟨rfl, ys1, m12, zs1', ee1, el1', ez1⟩ | ⟨rfl, el1'⟩
          · rw [if_pos rfl]
            obtain ⟨d, m13, e13, e14⟩ := bind_okE ee1
            cases e14
            refine ⟨F11, μ11, m11, L11, ?_⟩
            rw [e13]
            intro v F14 μ14 H14 L14 s14 r14
            have a14 := a11.step L14 s14
            subst ez1
            obtain ⟨vs, ev, hvs⟩ := a14.acc hd1 hz1
            exact ⟨vs, ev, hvs, Wc.next n01 nI1 (a14.push ev r14) ⟨(s10.trans s11.q).trans s14.q |>.fle, ((s10.trans s11.q).trans s14.q).mu, ((s10.trans s11.q).trans s14.q).rls⟩ hw1 lt1 el1' (by rw [← hd1, List.append_assoc])⟩
          · rw [if_neg Bool.false_ne_true]
            exact Wc.next n01 nI1 a11 (s10.trans s11.q) hw1 lt1 el1' hd1
      · rw [if_neg Bool.false_ne_true]
        exact Wc.next n0 nI a4 (s3.trans s4.q) hw lt el hd
  · rw [if_neg hz] at h1
    exact h1.elim
theorem f_comp {own : List (Str × Nat)} {tg : Tg} {it : Ev.It} {ifs : Ts} {elt : Ev.X} {tge iter e : Expr} {ifsE : List Expr} {scope : Scope} {pos : Pos} (hc : X.calm = true) (hN : X.N.Nodup) (ok : BlkOk X.N X.env.scope scope own) (hsl : ∀ j ∈ tg.sl, j ∈ own.map (·.2)) (hs : plainE iter = true)
    (hi : SI cl ca fld Wx X it tge iter)
    (hg : ∀ (s : Shared) (H : Hp) (C : Addr) (cl' : List (Str × Addr)) (fp : List Addr), PG (X.blk s H scope (compEnvC scope cl' C X.env) fp) tge (tgE X tg))
    (ht : ∀ (s : Shared) (H : Hp) (C : Addr) (cl' : List (Str × Addr)) (fp : List Addr), STs cl ca fld (X.blk s H scope (compEnvC scope cl' C X.env) fp) ifs ifsE)
    (he : ∀ (s : Shared) (H : Hp) (C : Addr) (cl' : List (Str × Addr)) (fp : List Addr), SE cl ca fld WF (X.blk s H scope (compEnvC scope cl' C X.env) fp) elt e) :
    SF cl ca fld Wx X (.comp (own.map (·.2)) tg it ifs elt) (.ListComp e [⟨tge, iter, ifsE, 0⟩] scope pos) :=
  PEw (pe_lc (g := tgE X tg) (tt := TG (gx X ca fld) WF rB (evTs cl ifs)) (te := TG (gx X ca fld) WF (rD (gx X ca fld)) (evX cl elt)) hc hN hi ok hg ht he (fun x => fold_plain hs x)) fun σ H Q h => lc_of hsl h
theorem f_com2 {own : List (Str × Nat)} {own1 : List Nat} {tg tg1 : Tg} {it it1 : Ev.It} {ifs ifs1 : Ts} {elt : Ev.X} {tge tge1 iter iter1 e : Expr} {ifsE ifsE1 : List Expr} {scope : Scope} {pos : Pos} (hc : X.calm = true) (hN : X.N.Nodup) (ok : BlkOk X.N X.env.scope scope own) (hv : ∀ i ∈ own1, i ∈ own.map (·.2))
    (hsl : ∀ j ∈ tg.sl, j ∈ own.map (·.2)) (hsl1 : ∀ j ∈ tg1.sl, j ∈ own1) (hs : plainE iter = true) (hs1 : plainE iter1 = true)
    (hi : SI cl ca fld Wx X it tge iter)
    (hg : ∀ (s : Shared) (H : Hp) (C : Addr) (cl' : List (Str × Addr)) (fp : List Addr), PG (X.blk s H scope (compEnvC scope cl' C X.env) fp) tge (tgE X tg))
    (ht : ∀ (s : Shared) (H : Hp) (C : Addr) (cl' : List (Str × Addr)) (fp : List Addr), STs cl ca fld (X.blk s H scope (compEnvC scope cl' C X.env) fp) ifs ifsE)
    (hi1 : ∀ (s : Shared) (H : Hp) (C : Addr) (cl' : List (Str × Addr)) (fp : List Addr), SI cl ca fld WF (X.blk s H scope (compEnvC scope cl' C X.env) fp) it1 tge1 iter1)
    (hg1 : ∀ (s : Shared) (H : Hp) (C : Addr) (cl' : List (Str × Addr)) (fp : List Addr), PG (X.blk s H scope (compEnvC scope cl' C X.env) fp) tge1 (tgE X tg1))
    (ht1 : ∀ (s : Shared) (H : Hp) (C : Addr) (cl' : List (Str × Addr)) (fp : List Addr), STs cl ca fld (X.blk s H scope (compEnvC scope cl' C X.env) fp) ifs1 ifsE1)
    (he : ∀ (s : Shared) (H : Hp) (C : Addr) (cl' : List (Str × Addr)) (fp : List Addr), SE cl ca fld WF (X.blk s H scope (compEnvC scope cl' C X.env) fp) elt e) :
    SF cl ca fld Wx X (.com2 (own.map (·.2)) own1 tg it ifs tg1 it1 ifs1 elt) (.ListComp e [⟨tge, iter, ifsE, 0⟩, ⟨tge1, iter1, ifsE1, 0⟩] scope pos) :=
  PEw (pe_lc2 (g := tgE X tg) (tt := TG (gx X ca fld) WF rB (evTs cl ifs)) (wi1 := TG (gx X ca fld) WF (rI (gx X ca fld)) (evIt cl it1)) (g1 := tgE X tg1) (tt1 := TG (gx X ca fld) WF rB (evTs cl ifs1)) (te := TG (gx X ca fld) WF (rD (gx X ca fld)) (evX cl elt)) hc hN hi ok hv hg ht hi1 hg1 ht1 he (fun x => fold_plain hs x) (fun env x => fold_plain hs1 x)) fun σ H Q h => lc2_of hsl hsl1 h
end
end Ev

set_option Elab.async false
set_option linter.all false
set_option maxRecDepth 100000
set_option autoImplicit false
set_option maxHeartbeats 1000000
/-! Ev11: statements. -/
namespace Ev
open PySem PySem.Spec PyProof.Rows L2

/-! ### list + list, list * int -/
section
variable {X : Cx} {ca : Nat → Addr} {fld : Nat → List Str} {Wx : WX} {cl : Nat → List D → List D → Rc}
theorem view_lst {K : PySem.W.Frag} {F : Hp} {μ : List Addr} {H : Hp} {xs : List D} {v : V} (h : View K F μ H (.lst xs) v) : ∃ p vs, v = .ref p ∧ SqL K H p vs ∧ Reps K F μ xs vs := by
  obtain ⟨p, vs, h1, h2, h3⟩ := h
  exact ⟨p, vs, h1, h2, h3⟩
theorem f_cat {a b : H} {l r : Expr} {pos : Pos} (ha : SH cl ca fld Wx X a l) (hb : SH cl ca fld Wx X b r) : SF cl ca fld Wx X (.cat a b) (.BinOp l .Add r pos) :=
  PEw (pe_op op_catL ha hb) fun σ H Q h => by
    obtain ⟨F, μ, m, L, h⟩ := tg_in (g := fun m => (evH cl a m).bind fun h m => (evH cl b m).bind fun g m => catM h g m) (fun m => by rw [evF] <;> rfl) h
    refine TG.mono (Fin.bind (rel := rH (gx X ca fld)) rF_ok L h) fun v H1 ⟨d, F1, μ1, m1, L1, s1, r1, h1⟩ => ?_
    refine TG.mono (Fin.bind (rel := rH (gx X ca fld)) rF_ok L1 h1) fun u H2 ⟨e, F2, μ2, m2, L2, s2, r2, h2⟩ => ?_
    have r1' := rH.later r1 s2 rfl
    unfold catM at h2
    split at h2
    · rename_i xs ys ex ey
      split at h2
      · rename_i hz
        obtain ⟨p, vs, rfl, h3, h4⟩ := view_lst (view_of (G := gx X ca fld) L2 r1' ex)
        obtain ⟨q, us, rfl, h5, h6⟩ := view_lst (view_of (G := gx X ca fld) L2 r2 ey)
        exact ⟨p, q, vs, us, rfl, rfl, h3, h5, by rw [← h4.length, ← h6.length]; exact hz, fun p' hp => h2.freshL L2 (h4.append h6) hp⟩
      · exact h2.elim
    · exact h2.elim
theorem f_rep {a : H} {n : Ev.X} {l r : Expr} {pos : Pos} (ha : SH cl ca fld Wx X a l) (hb : SE cl ca fld Wx X n r) : SF cl ca fld Wx X (.rep a n) (.BinOp l .Mult r pos) :=
  PEw (pe_op op_repL ha hb) fun σ H Q h => by
    obtain ⟨F, μ, m, L, h⟩ := tg_in (g := fun m => (evH cl a m).bind fun h m => (evX cl n m).bind fun k m => repM h k m) (fun m => by rw [evF] <;> rfl) h
    refine TG.mono (Fin.bind (rel := rH (gx X ca fld)) rF_ok L h) fun v H1 ⟨d, F1, μ1, m1, L1, s1, r1, h1⟩ => ?_
    refine TG.mono (Fin.bind (rel := rD (gx X ca fld)) rF_ok L1 h1) fun u H2 ⟨e, F2, μ2, m2, L2, s2, r2, h2⟩ => ?_
    have r1' := rH.later r1 s2 rfl
    unfold repM at h2
    split at h2
    · rename_i xs k ex
      split at h2
      · rename_i hz
        obtain ⟨p, vs, rfl, h3, h4⟩ := view_lst (view_of (G := gx X ca fld) L2 r1' ex)
        cases rep_int r2
        exact ⟨p, k, vs, rfl, rfl, h3, by omega, by omega, by rw [← h4.length]; exact hz.2.2, fun p' hp => h2.freshL L2 (h4.flat _) hp⟩
      · exact h2.elim
    · exact h2.elim
end

section
variable {X : Cx} {ca : Nat → Addr} {fld : Nat → List Str} {Wx : WX} {cl : Nat → List D → List D → Rc}
theorem c_b2 {mx : Bool} {a b : Ev.X} {l r : Expr} {p pos : Pos} (hcm : X.calm = true) (hg : Gl X (if mx then "max" else "min")) (hm : X.mg (if mx then "max" else "min") = none) (hp : plainE l = true) (hp2 : plainE r = true) (ha : SE cl ca fld Wx X a l) (hb : SE cl ca fld Wx X b r) :
    SE cl ca fld Wx X (.b2 mx a b) (.Call (.Name (if mx then "max" else "min") p) [l, r] [] pos) := by
  have key : ∀ σ H Q, TG (gx X ca fld) Wx (rD (gx X ca fld)) (evX cl (.b2 mx a b)) σ H Q → TG (gx X ca fld) Wx (rD (gx X ca fld)) (evX cl a) σ H fun v H1 => TG (gx X ca fld) Wx (rD (gx X ca fld)) (evX cl b) σ H1 fun u H2 => ∃ i j, [v, u] = [.int i, .int j] ∧ Q (.int (if mx then (if j > i then j else i) else (if j < i then j else i))) H2 := fun σ H Q h => by
    obtain ⟨F, μ, m, L, h⟩ := tg_in (g := fun m => (evX cl a m).bind fun x m => (evX cl b m).bind fun y m => opt (b2D mx x y) m) (fun m => by rw [evX] <;> rfl) h
    refine TG.mono (Fin.bind (rel := rD (gx X ca fld)) rD_ok L h) fun v H1 ⟨d, F1, μ1, m1, L1, s1, r1, h1⟩ => ?_
    refine TG.mono (Fin.bind (rel := rD (gx X ca fld)) rD_ok L1 h1) fun u H2 ⟨e, F2, μ2, m2, L2, s2, r2, h2⟩ => ?_
    obtain ⟨z, ez, h2⟩ := opt_of h2
    unfold b2D at ez
    split at ez
    · cases rep_int r1
      cases rep_int r2
      cases (Option.some.inj ez)
      exact ⟨_, _, rfl, h2.same L2 (.int _)⟩
    · cases ez
  cases mx with
  | true => exact PEw (pe_callB (call_max2 hcm) hg hm (by decide +kernel) (two_argX hp hp2 ha hb) (by decide) (by decide) (star_cons hp) (star_any (by simp [hp2]))) key
  | false => exact PEw (pe_callB (call_min2 hcm) hg hm (by decide +kernel) (two_argX hp hp2 ha hb) (by decide) (by decide) (star_cons hp) (star_any (by simp [hp2]))) key
theorem f_slcL {c : H} {lo hi : Xo} {l : Expr} {a b : Option Expr} {p2 pos : Pos} (hc : SH cl ca fld Wx X c l) (hl : SO cl ca fld Wx X lo a) (hh : SO cl ca fld Wx X hi b) : SF cl ca fld Wx X (.slcL c lo hi) (.Subscript l (.Slice a b none p2) pos) :=
  PEw (pe_slice sl_list hc hl hh) fun σ H Q h => by
    obtain ⟨F, μ, m, L, h⟩ := tg_in (g := fun m => (evH cl c m).bind fun h m => (evXo cl lo m).bind fun l m => (evXo cl hi m).bind fun k m => slcFM h l k m) (fun m => by rw [evF] <;> rfl) h
    refine TG.mono (Fin.bind (rel := rH (gx X ca fld)) rF_ok L h) fun v H1 ⟨d, F1, μ1, m1, L1, s1, r1, h1⟩ => ?_
    refine TG.mono (Fin.bind (rel := fun _ _ (a b : Option Int) => a = b) rF_ok L1 h1) fun u H2 ⟨e, F2, μ2, m2, L2, s2, r2, h2⟩ => ?_
    refine TG.mono (Fin.bind (rel := fun _ _ (a b : Option Int) => a = b) rF_ok L2 h2) fun u' H3 ⟨e', F3, μ3, m3, L3, s3, r3, h3⟩ => ?_
    cases (show e = u from r2)
    cases (show e' = u' from r3)
    have r1' := rH.later r1 (s2.trans s3) rfl
    unfold slcFM at h3
    split at h3
    · rename_i xs ex
      obtain ⟨p, vs, rfl, h4, h5⟩ := view_lst (view_of (G := gx X ca fld) L3 r1' ex)
      exact ⟨p, vs, rfl, h4, fun p' hp => h3.freshL L3 (slcL_rep h5 _ _) hp⟩
    · exact h3.elim
theorem reps_rg {K : PySem.W.Frag} {F : Hp} {μ : List Addr} {i : Int} : ∀ l : List Nat, Reps K F μ (l.map fun (k : Nat) => D.int (i + k)) (l.map fun (k : Nat) => V.int (i + k))
  | [] => .nil
  | _ :: l => .cons (.int _) (reps_rg l)
theorem f_lrg {a : Ev.X} {e : Expr} {p q pos pos2 : Pos} (hcm : X.calm = true) (hg : Gl X "list") (hm : X.mg "list" = none) (hg2 : Gl X "range") (hm2 : X.mg "range" = none) (hp : plainE e = true) (ha : SE cl ca fld Wx X a e) : SF cl ca fld Wx X (.lrg a) (.Call (.Name "list" p) [.Call (.Name "range" q) [e] [] pos] [] pos2) :=
  PEw (pe_listRg hcm hg hm (prg_1 hg2 hm2 ha (star_cons hp)) rfl) fun σ H Q h => by
    obtain ⟨F, μ, m, L, h⟩ := tg_in (g := fun m => (evX cl a m).bind lrgM) (fun m => by rw [evF] <;> rfl) h
    refine TG.mono (Fin.bind (rel := rD (gx X ca fld)) rF_ok L h) fun v H1 ⟨d, F1, μ1, m1, L1, s1, r1, h1⟩ => ?_
    unfold lrgM at h1
    split at h1
    · rename_i j
      split at h1
      · rename_i hj
        cases rep_int r1
        refine ⟨j, rfl, ⟨by omega, by omega, by omega, by omega, by omega⟩, fun p' hp' => ?_⟩
        have e : rgV 0 j = (List.range j.toNat).map fun (k : Nat) => V.int (0 + k) := by unfold rgV; rw [Int.sub_zero]
        rw [e]
        exact h1.freshL L1 (reps_rg _) hp'
      · exact h1.elim
    · exact h1.elim
theorem c_trg {a : Ev.X} {e : Expr} {p q pos pos2 : Pos} (hcm : X.calm = true) (hg : Gl X "tuple") (hm : X.mg "tuple" = none) (hg2 : Gl X "range") (hm2 : X.mg "range" = none) (hp : plainE e = true) (ha : SE cl ca fld Wx X a e) : SE cl ca fld Wx X (.trg a) (.Call (.Name "tuple" p) [.Call (.Name "range" q) [e] [] pos] [] pos2) :=
  PEw (pe_tupRg hcm hg hm (prg_1 hg2 hm2 ha (star_cons hp)) rfl) fun σ H Q h => by
    obtain ⟨F, μ, m, L, h⟩ := tg_in (g := fun m => (evX cl a m).bind trgM) (fun m => by rw [evX] <;> rfl) h
    refine TG.mono (Fin.bind (rel := rD (gx X ca fld)) rD_ok L h) fun v H1 ⟨d, F1, μ1, m1, L1, s1, r1, h1⟩ => ?_
    unfold trgM at h1
    split at h1
    · rename_i j
      split at h1
      · rename_i hj
        cases rep_int r1
        refine ⟨j, rfl, ⟨by omega, by omega, by omega, by omega, by omega⟩, fun p' hp' => ?_⟩
        have e : rgV 0 j = (List.range j.toNat).map fun (k : Nat) => V.int (0 + k) := by unfold rgV; rw [Int.sub_zero]
        rw [e]
        exact h1.tupN L1 (reps_rg _) hp'
      · exact h1.elim
    · exact h1.elim
theorem f_lrg2 {a b : Ev.X} {e e2 : Expr} {p q pos pos2 : Pos} (hcm : X.calm = true) (hg : Gl X "list") (hm : X.mg "list" = none) (hg2 : Gl X "range") (hm2 : X.mg "range" = none) (hp : plainE e = true) (hp2 : plainE e2 = true) (ha : SE cl ca fld Wx X a e) (hb : SE cl ca fld Wx X b e2) : SF cl ca fld Wx X (.lrg2 a b) (.Call (.Name "list" p) [.Call (.Name "range" q) [e, e2] [] pos] [] pos2) :=
  PEw (pe_listRg hcm hg hm (prg_2 hg2 hm2 ha hb (star_cons hp) (star_cons hp2) (star_any (by simp [hp2]))) rfl) fun σ H Q h => by
    obtain ⟨F, μ, m, L, h⟩ := tg_in (g := fun m => (evX cl a m).bind fun x m => (evX cl b m).bind fun y m => lrg2M x y m) (fun m => by rw [evF] <;> rfl) h
    refine TG.mono (Fin.bind (rel := rD (gx X ca fld)) rF_ok L h) fun v H1 ⟨d, F1, μ1, m1, L1, s1, r1, h1⟩ => ?_
    refine TG.mono (Fin.bind (rel := rD (gx X ca fld)) rF_ok L1 h1) fun v2 H2 ⟨d2, F2, μ2, m2, L2, s2, r2, h2⟩ => ?_
    have r1' := Rep.mono s2.fle s2.mu r1
    cases d with
    | int i =>
      cases d2 with
      | int j =>
        unfold lrg2M at h2
        by_cases hj : -(2 ^ 62) ≤ i ∧ i < 2 ^ 62 ∧ -(2 ^ 62) ≤ j ∧ j < 2 ^ 62 ∧ (j - i).toNat < 1000000
        · simp only [if_pos hj] at h2
          cases rep_int r1'
          cases rep_int r2
          exact ⟨i, j, rfl, rfl, ⟨by omega, by omega, by omega, by omega, by omega⟩, fun p' hp' => h2.freshL L2 (reps_rg _) hp'⟩
        · simp only [if_neg hj] at h2
          exact h2.elim
      | _ => exact h2.elim
    | _ => exact h2.elim
end

/-! ### what a statement wants -/
/-- given away: new, or owned by a slot at some time behind the start -/
def rO (G : Gs) (w0 w : Wd) (c : D) (v : V) : Prop := ∃ p, v = .ref p ∧ w.F p = none ∧ (∀ x, ¬ Own w x p) ∧ ConL G.K w.F w.μ c p (w.H p) ∧ (w0.H p = none ∨ ∃ w1 i, Lk G.K w1 ∧ Own w1 (.inl i) p ∧ Stp w0 w1)
theorem rO_back {G : Gs} {w w1 w' : Wd} {c : D} {v : V} (s : Stp w w1) (h : rO G w1 w' c v) : rO G w w' c v := by
  obtain ⟨p, h1, h2, h3, h4, h5⟩ := h
  refine ⟨p, h1, h2, h3, h4, ?_⟩
  rcases h5 with h5 | ⟨u, i, h5, h6, h7⟩
  · exact .inl (s.there p h5)
  · exact .inr ⟨u, i, h5, h6, s.trans h7⟩
def FlS (G : Gs) (w0 w : Wd) (D : Ends) : Fl → Prop
  | .nx => D.nx w.σ w.H
  | .br => D.bk w.σ w.H
  | .ct => D.ct w.σ w.H
  | .rt d => ∀ v, Rep G.K w.F w.μ d v → D.rt v w.H
  | .ro c => ∀ v, rO G w0 w c v → D.rt v w.H
theorem FlS.back {G : Gs} {w w1 w' : Wd} {D : Ends} {fl : Fl} (s : Stp w w1) (h : FlS G w w' D fl) : FlS G w1 w' D fl := by
  cases fl with
  | ro c => exact fun v q => h v (rO_back s q)
  | _ => exact h
def FinS (G : Gs) (Wx : WX) (w : Wd) (r : R Fl) (D : Ends) : Prop := match r with
  | .ok fl m' => ∀ (F' : Hp) (μ' : List Addr) (σ' : L2.St) (H' : Hp), Lk G.K ⟨F', μ', m', σ', H'⟩ → Stp w ⟨F', μ', m', σ', H'⟩ → FlS G w ⟨F', μ', m', σ', H'⟩ D fl
  | .exc e m' => ∀ (c : Value) (dx : Option Addr) (F' : Hp) (μ' : List Addr) (σ' : L2.St) (H' : Hp), Lk G.K ⟨F', μ', m', σ', H'⟩ → Stp w ⟨F', μ', m', σ', H'⟩ → XRep G F' μ' e c dx → Wx c dx σ' H'
  | .bad => False
def FS (G : Gs) (Wx : WX) (f : Ms → R Fl) : TS := fun D σ H => ∃ F μ m, Lk G.K ⟨F, μ, m, σ, H⟩ ∧ FinS G Wx ⟨F, μ, m, σ, H⟩ (f m) D
section
variable {G : Gs} {Wx : WX} {w w1 : Wd} {D D' : Ends}
theorem FinS.step {r : R Fl} (h : FinS G Wx w r D) (s : Stp w w1) : FinS G Wx w1 r D := by
  cases r with
  | ok fl m => exact fun F μ σ H L s' => FlS.back s (h F μ σ H L (s.trans s'))
  | exc e m => exact fun c d F μ σ H L s' x => h c d F μ σ H L (s.trans s') x
  | bad => exact h
theorem FinS.bind {α β : Type} {rel : Wd → Wd → α → β → Prop} {f : Ms → R α} {g : α → Ms → R Fl} (L : Lk G.K w) (h : FinS G Wx w ((f w.m).bind g) D) :
    TG G Wx rel f w.σ w.H (fun b H1 => ∃ a F μ m, Lk G.K ⟨F, μ, m, w.σ, H1⟩ ∧ Stp w ⟨F, μ, m, w.σ, H1⟩ ∧ rel w ⟨F, μ, m, w.σ, H1⟩ a b ∧ FinS G Wx ⟨F, μ, m, w.σ, H1⟩ (g a m) D) := by
  refine ⟨w.F, w.μ, w.m, L, ?_⟩
  cases hf : f w.m with
  | ok a m1 =>
    rw [hf] at h
    exact fun b F' μ' H' L' s r => ⟨a, F', μ', m1, L', s, r, FinS.step h s⟩
  | exc e m1 =>
    rw [hf] at h
    exact fun c d F μ H L s x => h c d F μ w.σ H L s x
  | bad =>
    rw [hf] at h
    exact h.elim
theorem FinS.mono {r : R Fl} (h : FinS G Wx w r D) (q : ∀ fl w', Stp w w' → FlS G w w' D fl → FlS G w w' D' fl) : FinS G Wx w r D' := by
  cases r with
  | ok fl m => exact fun F μ σ H L s => q fl _ s (h F μ σ H L s)
  | exc e m => exact h
  | bad => exact h
theorem fs_in {f g : Ms → R Fl} {σ : L2.St} {H : Hp} (e : ∀ m, f m = g m) (h : FS G Wx f D σ H) : ∃ F μ m, Lk G.K ⟨F, μ, m, σ, H⟩ ∧ FinS G Wx ⟨F, μ, m, σ, H⟩ (g m) D := by
  obtain ⟨F, μ, m, L, h⟩ := h
  rw [e m] at h
  exact ⟨F, μ, m, L, h⟩
end

section
variable {X : Cx} {ca : Nat → Addr} {fld : Nat → List Str} {Wx : WX} {cl : Nat → List D → List D → Rc}
abbrev SS (cl : Nat → List D → List D → Rc) (ca : Nat → Addr) (fld : Nat → List Str) (Wx : WX) (X : Cx) (s : Sm) (st : Stmt) : Prop := PS X st (FS (gx X ca fld) Wx (evS cl s))
abbrev SSs (cl : Nat → List D → List D → Rc) (ca : Nat → Addr) (fld : Nat → List Str) (Wx : WX) (X : Cx) (s : Ss) (st : List Stmt) : Prop := PSs X st (FS (gx X ca fld) Wx (evSs cl s))

/-! ### blocks -/
theorem ss_nil : SSs cl ca fld Wx X .nil [] :=
  PSsw pss_nil fun D σ H h => by
    obtain ⟨F, μ, m, L, h⟩ := fs_in (g := fun m => .ok .nx m) (fun m => by rw [evSs] <;> rfl) h
    exact h F μ σ H L (Stp.refl _)
theorem ss_stk {sts : List Stmt} : SSs cl ca fld Wx X .stk sts :=
  PSsw pss_never fun D σ H h => by
    obtain ⟨F, μ, m, L, h⟩ := fs_in (g := fun m => .bad) (fun m => by rw [evSs] <;> rfl) h
    exact h
theorem ss_cons {s : Sm} {r : Ss} {st : Stmt} {sts : List Stmt} (h1 : SS cl ca fld Wx X s st) (h2 : SSs cl ca fld Wx X r sts) : SSs cl ca fld Wx X (.cons s r) (st :: sts) :=
  PSsw (pss_cons h1 h2) fun D σ H h => by
    obtain ⟨F, μ, m, L, h⟩ := fs_in (g := fun m => (evS cl s m).bind fun f m => match f with
      | .nx => evSs cl r m
      | f => .ok f m) (fun m => by rw [evSs] <;> rfl) h
    refine ⟨F, μ, m, L, ?_⟩
    cases q : evS cl s m with
    | ok fl m' =>
      rw [q] at h
      intro F' μ' σ' H' L' s'
      cases fl with
      | nx => exact ⟨F', μ', m', L', FinS.step (w1 := ⟨F', μ', m', σ', H'⟩) h s'⟩
      | br => exact h F' μ' σ' H' L' s'
      | ct => exact h F' μ' σ' H' L' s'
      | rt d => exact h F' μ' σ' H' L' s'
      | ro c => exact h F' μ' σ' H' L' s'
    | exc e m' => rw [q] at h; exact h
    | bad => rw [q] at h; exact h.elim

/-! ### small statements -/
theorem s_pas {pos : Pos} : SS cl ca fld Wx X .pas (.Pass pos) :=
  PSw ps_pass fun D σ H h => by
    obtain ⟨F, μ, m, L, h⟩ := fs_in (g := fun m => .ok .nx m) (fun m => by rw [evS] <;> rfl) h
    exact h F μ σ H L (Stp.refl _)
theorem s_brk {pos : Pos} : SS cl ca fld Wx X .brk (.Break pos) :=
  PSw ps_break fun D σ H h => by
    obtain ⟨F, μ, m, L, h⟩ := fs_in (g := fun m => .ok .br m) (fun m => by rw [evS] <;> rfl) h
    exact h F μ σ H L (Stp.refl _)
theorem s_cnt {pos : Pos} : SS cl ca fld Wx X .cnt (.Continue pos) :=
  PSw ps_continue fun D σ H h => by
    obtain ⟨F, μ, m, L, h⟩ := fs_in (g := fun m => .ok .ct m) (fun m => by rw [evS] <;> rfl) h
    exact h F μ σ H L (Stp.refl _)
theorem s_retn {pos : Pos} : SS cl ca fld Wx X .retn (.Return none pos) :=
  PSw ps_retN fun D σ H h => by
    obtain ⟨F, μ, m, L, h⟩ := fs_in (g := fun m => .ok (.rt .non) m) (fun m => by rw [evS] <;> rfl) h
    exact h F μ σ H L (Stp.refl _) .non .non
theorem s_ret {x : Ev.X} {e : Expr} {pos : Pos} (h : SE cl ca fld Wx X x e) : SS cl ca fld Wx X (.ret x) (.Return (some e) pos) :=
  PSw (ps_ret h) fun D σ H h => by
    obtain ⟨F, μ, m, L, h⟩ := fs_in (g := fun m => (evX cl x m).bind fun d m => .ok (.rt d) m) (fun m => by rw [evS] <;> rfl) h
    exact TG.mono (FinS.bind (rel := rD (gx X ca fld)) L h) fun v H1 ⟨d, F1, μ1, m1, L1, s1, r1, h1⟩ => h1 F1 μ1 σ H1 L1 (Stp.refl _) v r1
/-- a slot gives its object away -/
theorem Lk.drop {K : PySem.W.Frag} {F : Hp} {μ : List Addr} {m : Ms} {σ : L2.St} {H : Hp} {i : Nat} {c : D} (L : Lk K ⟨F, μ, m, σ, H⟩) (hc : m.ρ[i]? = some (Sl.ow c)) :
    Lk K ⟨F, μ, { m with ρ := m.ρ.set i .un }, σ, H⟩ ∧ Stp ⟨F, μ, m, σ, H⟩ ⟨F, μ, { m with ρ := m.ρ.set i .un }, σ, H⟩ ∧ (∀ x p, Own ⟨F, μ, { m with ρ := m.ρ.set i .un }, σ, H⟩ x p → Own ⟨F, μ, m, σ, H⟩ x p ∧ x ≠ .inl i) := by
  have ho : ∀ x p, Own ⟨F, μ, { m with ρ := m.ρ.set i .un }, σ, H⟩ x p → Own ⟨F, μ, m, σ, H⟩ x p ∧ x ≠ .inl i := fun x p h => by
    cases x with
    | inr n => exact ⟨h, by simp⟩
    | inl j =>
      obtain ⟨⟨d, hd⟩, hs⟩ := h
      rcases hd with hd | hd
      · rcases get_set hd with ⟨_, z, _⟩ | ⟨ne, z⟩
        · cases z
        · exact ⟨⟨⟨d, .inl z⟩, hs⟩, fun q => ne (Sum.inl.inj q)⟩
      · rcases get_set hd with ⟨_, z, _⟩ | ⟨ne, z⟩
        · cases z
        · exact ⟨⟨⟨d, .inr z⟩, hs⟩, fun q => ne (Sum.inl.inj q)⟩
  refine ⟨⟨L.fro, ?_, L.mul, fun j d hj => ?_, fun j d hj => ?_, L.sto, fun a b p qa qb => L.inj a b p (ho a p qa).1 (ho b p qb).1⟩, ⟨fun _ _ e => e, List.prefix_refl _, fun _ _ e _ => e, fun p x hx => .inl ⟨x, (ho x p hx).1⟩, fun p o h => .inl (by rw [h]; simp), fun _ e => e, fun j d hj => ⟨?_, rfl⟩⟩, ho⟩
  · show (m.ρ.set i .un).length = _
    rw [List.length_set]; exact L.len
  · rcases get_set hj with ⟨_, z, _⟩ | ⟨_, z⟩
    · cases z
    · exact L.val j d z
  · rcases hj with hj | hj
    · rcases get_set hj with ⟨_, z, _⟩ | ⟨_, z⟩
      · cases z
      · exact L.own j d (.inl z)
    · rcases get_set hj with ⟨_, z, _⟩ | ⟨_, z⟩
      · cases z
      · exact L.own j d (.inr z)
  · have ne : i ≠ j := fun q => by
      subst q
      rw [hc] at hj
      cases hj
    show (m.ρ.set i _)[j]? = _
    rw [List.getElem?_set_ne ne]
    exact hj
theorem s_reto {i : Nat} {x : Str} {pos pos' : Pos} (h : PE X (.Name x pos) (tVar i)) : SS cl ca fld Wx X (.reto i) (.Return (some (.Name x pos)) pos') :=
  PSw (ps_ret h) fun D σ H h => by
    obtain ⟨F, μ, m, L, h⟩ := fs_in (g := fun m => retoM i m) (fun m => by rw [evS] <;> rfl) h
    have key : ∀ c, m.ρ[i]? = some (Sl.ow c) → (∀ p o, Con X.K F μ c p o → ConL X.K F μ c p o) → FinS (gx X ca fld) Wx ⟨F, μ, m, σ, H⟩ (.ok (.ro c) { m with ρ := m.ρ.set i .un }) D → tVar i σ H fun v H1 => D.rt v H1 := fun c hc hl h => by
      obtain ⟨L', s', ho⟩ := L.drop hc
      obtain ⟨p, h1, h2, h3⟩ := L.own i c (.inl hc)
      have own : Own ⟨F, μ, m, σ, H⟩ (.inl i) p := ⟨⟨c, .inl hc⟩, h1⟩
      refine ⟨.ref p, h1, h F μ σ H L' s' (.ref p) ⟨p, rfl, h2, fun x hx => ?_, hl p _ h3, .inr ⟨⟨F, μ, m, σ, H⟩, i, L, own, Stp.refl _⟩⟩⟩
      obtain ⟨q1, q2⟩ := ho x p hx
      exact q2 (L.inj _ _ p q1 own)
    unfold retoM at h
    split at h
    · rename_i xs e
      exact key _ e (fun _ _ q => q) h
    · rename_i kvs e
      exact key _ e (fun p o q => by
        obtain ⟨es, h1, h2, h3⟩ := ConD.u q
        exact ⟨kvs, es, rfl, h1, h2, h3⟩) h
    · exact h.elim
theorem s_retf {f : Fx} {e : Expr} {pos : Pos} (h : SF cl ca fld Wx X f e) : SS cl ca fld Wx X (.retf f) (.Return (some e) pos) :=
  PSw (ps_ret h) fun D σ H h => by
    obtain ⟨F, μ, m, L, h⟩ := fs_in (g := fun m => (evF cl f m).bind fun c m => .ok (.ro c) m) (fun m => by rw [evS] <;> rfl) h
    refine ⟨F, μ, m, L, ?_⟩
    cases q : evF cl f m with
    | ok c m1 =>
      rw [q] at h
      intro v F' μ' H' L' s' r
      obtain ⟨p, e1, hn, hF, ho, hc⟩ := r
      exact h F' μ' σ H' L' s' v ⟨p, e1, hF, ho, hc, .inl hn⟩
    | exc e' m1 =>
      rw [q] at h
      exact fun c dx F' μ' H' L' s' x => h c dx F' μ' σ H' L' s' x
    | bad => rw [q] at h; exact h.elim
theorem s_ex {x : Ev.X} {e : Expr} {pos : Pos} (hn : isCompE e = false) (h : SE cl ca fld Wx X x e) : SS cl ca fld Wx X (.ex x) (.Expr e pos) :=
  PSw (ps_expr h (swapsF hn)) fun D σ H h => by
    obtain ⟨F, μ, m, L, h⟩ := fs_in (g := fun m => (evX cl x m).bind fun _ m => .ok .nx m) (fun m => by rw [evS] <;> rfl) h
    exact TG.mono (FinS.bind (rel := rD (gx X ca fld)) L h) fun v H1 ⟨d, F1, μ1, m1, L1, s1, r1, h1⟩ => h1 F1 μ1 σ H1 L1 (Stp.refl _)
theorem s_ife {t : T} {a b : Ss} {c : Expr} {l r : List Stmt} {pos : Pos} (ht : ST cl ca fld Wx X t c) (ha : SSs cl ca fld Wx X a l) (hb : SSs cl ca fld Wx X b r) : SS cl ca fld Wx X (.ife t a b) (.If c l r pos) :=
  PSw (ps_if ht ha hb) fun D σ H h => by
    obtain ⟨F, μ, m, L, h⟩ := fs_in (g := fun m => (evT cl t m).bind fun k m => if k then evSs cl a m else evSs cl b m) (fun m => by rw [evS] <;> rfl) h
    refine TG.mono (FinS.bind (rel := rB) L h) fun v H1 ⟨d, F1, μ1, m1, L1, s1, r1, h1⟩ => ?_
    cases (show d = v from r1)
    cases v with
    | true =>
      rw [if_pos rfl]
      exact ⟨F1, μ1, m1, L1, h1⟩
    | false =>
      rw [if_neg Bool.false_ne_true]
      exact ⟨F1, μ1, m1, L1, h1⟩

/-! ### stores -/
theorem swapsSole_nn {t e : Expr} {l : Nat} {env : Env} (h : ∀ x p, t ≠ .Name x p) : swapsWithSole [t] e l env = pure false := by
  unfold swapsWithSole
  cases e <;> first
    | rfl
    | (cases t <;> first | rfl | exact absurd rfl (h _ _))
theorem bindR_ok {r : R Unit} {g : Unit → Ms → R Fl} {w : Wd} {D : Ends} {G : Gs} (nx : ∀ e m, r ≠ .exc e m) (h : FinS G Wx w (r.bind g) D) : ∃ m', r = .ok () m' ∧ FinS G Wx w (g () m') D := by
  cases r with
  | ok a m => exact ⟨m, rfl, h⟩
  | exc e m => exact absurd rfl (nx e m)
  | bad => exact h.elim
theorem put1_nx {i : Nat} {d : D} {m : Ms} : ∀ e m', put1 i d m ≠ .exc e m' := fun e m' h => by
  unfold put1 at h
  split at h <;> cases h
theorem putAll_nx : ∀ {is : List Nat} {ds : List D} {m : Ms}, ∀ e m', putAll is ds m ≠ .exc e m'
  | [], [], _, e, m', h => by cases h
  | [], _ :: _, _, e, m', h => by cases h
  | _ :: _, [], _, e, m', h => by cases h
  | i :: is, d :: ds, m, e, m', h => by
    have h : (put1 i d m).bind (fun _ m => putAll is ds m) = .exc e m' := h
    cases q : put1 i d m with
    | ok a m1 => rw [q] at h; exact putAll_nx e m' h
    | exc e1 m1 => exact put1_nx e1 m1 q
    | bad => rw [q] at h; cases h
theorem bindTg_nx {tg : Tg} {d : D} {m : Ms} : ∀ e m', bindTg tg d m ≠ .exc e m' := fun e m' h => by
  cases tg with
  | n i => exact put1_nx e m' h
  | t is =>
    unfold bindTg at h
    cases d with
    | tup ds =>
      simp only at h
      split at h
      · exact putAll_nx e m' h
      · cases h
    | lst ds =>
      simp only at h
      split at h
      · exact putAll_nx e m' h
      · cases h
    | _ => cases h
/-- target = value, the target no name -/
theorem s_setT {tg : Tg} {x : Ev.X} {t e : Expr} {pos : Pos} (hn : ∀ y p, t ≠ .Name y p) (hw : swappedStores [t] e X.env = pure none) (h1 : (assignEach [t] X.env).map (·.2) = [assign t X.env]) (hx : SE cl ca fld Wx X x e) (hg : PG X t (tgE X tg)) : SS cl ca fld Wx X (.set tg x) (.Assign [t] e pos) :=
  PSw (ps_asg hx hg (swapsSole_nn hn) hw h1) fun D σ H h => by
    obtain ⟨F, μ, m, L, h⟩ := fs_in (g := fun m => (evX cl x m).bind fun d m => (bindTg tg d m).bind fun _ m => .ok .nx m) (fun m => by rw [evS] <;> rfl) h
    refine TG.mono (FinS.bind (rel := rD (gx X ca fld)) L h) fun v H1 ⟨d, F1, μ1, m1, L1, s1, r1, h1⟩ => ?_
    obtain ⟨m2, e2, h2⟩ := bindR_ok bindTg_nx h1
    exact ⟨F1, μ1, m1, d, m2, L1, r1, e2, fun σ' L' s' hl ho => h2 F1 μ1 σ' H1 L' s'⟩
/-- name = value -/
theorem s_setA {i : Nat} {x : Ev.X} {st : Stmt} (h : PS X st (tAsg (TG (gx X ca fld) Wx (rD (gx X ca fld)) (evX cl x)) (gName i))) : SS cl ca fld Wx X (.set (.n i) x) st :=
  PSw h fun D σ H h => by
    obtain ⟨F, μ, m, L, h⟩ := fs_in (g := fun m => (evX cl x m).bind fun d m => (put1 i d m).bind fun _ m => .ok .nx m) (fun m => by rw [evS] <;> rfl) h
    refine TG.mono (FinS.bind (rel := rD (gx X ca fld)) L h) fun v H1 ⟨d, F1, μ1, m1, L1, s1, r1, h1⟩ => ?_
    obtain ⟨m2, e2, h2⟩ := bindR_ok put1_nx h1
    obtain ⟨L2, s2⟩ := put1_ok (G := gx X ca fld) L1 r1 e2
    exact h2 F1 μ1 _ H1 L2 s2
/-- a slot takes a fresh list -/
theorem putOw_ok {K : PySem.W.Frag} {w0 : Wd} {F : Hp} {μ : List Addr} {m m' : Ms} {σ : L2.St} {H : Hp} {i : Nat} {c : D} {p : Addr} (L : Lk K ⟨F, μ, m, σ, H⟩) (s : Stp w0 ⟨F, μ, m, σ, H⟩) (h1 : w0.H p = none) (h2 : F p = none) (h3 : ∀ x, ¬ Own ⟨F, μ, m, σ, H⟩ x p) (h4 : Con K F μ c p (H p)) (e : putOw i c m = .ok () m') :
    Lk K ⟨F, μ, m', σ.set i (some (.ref p)), H⟩ ∧ Stp w0 ⟨F, μ, m', σ.set i (some (.ref p)), H⟩ := by
  unfold putOw at e
  split at e
  · cases e
  · rename_i hn hi0
    cases e
    have hi : i < m.ρ.length := (List.getElem?_eq_some_iff.mp hi0).1
    have hl : i < σ.length := by
      have := L.len
      simp only at this
      omega
    have ow : ∀ (j : Nat) (c' : D), (m.ρ.set i (Sl.ow c))[j]? = some (Sl.ow c') ∨ (m.ρ.set i (Sl.ow c))[j]? = some (Sl.rl c') → (j = i ∧ c' = c) ∨ (j ≠ i ∧ (m.ρ[j]? = some (Sl.ow c') ∨ m.ρ[j]? = some (Sl.rl c'))) := fun j c' q => by
      by_cases z : j = i
      · subst z
        rw [List.getElem?_set_self hi] at q
        rcases q with q | q
        · cases q; exact .inl ⟨rfl, rfl⟩
        · cases q
      · rw [get_set_ne z] at q; exact .inr ⟨z, q⟩
    have back : ∀ x q, Own ⟨F, μ, { m with ρ := m.ρ.set i (.ow c) }, σ.set i (some (.ref p)), H⟩ x q → (x = .inl i ∧ q = p) ∨ (x ≠ .inl i ∧ Own ⟨F, μ, m, σ, H⟩ x q) := by
      intro x q h
      cases x with
      | inr n => exact .inr ⟨by simp, h⟩
      | inl j =>
        obtain ⟨⟨c', hc⟩, hs⟩ := h
        have hs : (σ.set i (some (V.ref p)))[j]? = some (some (V.ref q)) := hs
        rcases ow j c' hc with ⟨rfl, rfl⟩ | ⟨z, hc⟩
        · rw [List.getElem?_set_self hl] at hs
          cases hs
          exact .inl ⟨rfl, rfl⟩
        · rw [get_set_ne z] at hs
          exact .inr ⟨fun q => z (Sum.inl.inj q), ⟨c', hc⟩, hs⟩
    refine ⟨⟨L.fro, by simpa using L.len, L.mul, fun j d ej => ?_, fun j c' hc => ?_, L.sto, fun a b q qa qb => ?_⟩, ⟨s.fle, s.mu, s.keep, fun q x hq => ?_, s.fnew, s.there, fun j c' hj => ?_⟩⟩
    · by_cases z : j = i
      · subst z
        have ej : (m.ρ.set j (Sl.ow c))[j]? = some (Sl.val d) := ej
        rw [List.getElem?_set_self hi] at ej; cases ej
      · have ej : (m.ρ.set i (Sl.ow c))[j]? = some (Sl.val d) := ej
        rw [get_set_ne z] at ej
        obtain ⟨v, q1, q2⟩ := L.val j d ej
        exact ⟨v, by show (σ.set i _)[j]? = _; rw [get_set_ne z]; exact q1, q2⟩
    · rcases ow j c' hc with ⟨rfl, rfl⟩ | ⟨z, hc⟩
      · exact ⟨p, by show (σ.set j _)[j]? = _; rw [List.getElem?_set_self hl], h2, h4⟩
      · obtain ⟨q, q1, q2⟩ := L.own j c' hc
        exact ⟨q, by show (σ.set i _)[j]? = _; rw [get_set_ne z]; exact q1, q2⟩
    · rcases back a q qa with ⟨za, zq⟩ | ⟨za, ya⟩ <;> rcases back b q qb with ⟨zb, zq'⟩ | ⟨zb, yb⟩
      · rw [za, zb]
      · subst zq; exact absurd yb (h3 _)
      · subst zq'; exact absurd ya (h3 _)
      · exact L.inj a b q ya yb
    · rcases back x q hq with ⟨_, z⟩ | ⟨_, y⟩
      · subst z; exact .inr h1
      · exact s.own q x y
    · obtain ⟨q1, q2⟩ := s.rls j c' hj
      have z : j ≠ i := fun z => by
        subst z
        have q1 : m.ρ[j]? = some (Sl.rl c') := q1
        rw [hi0] at q1
        exact hn c' (Option.some.inj q1)
      exact ⟨by show (m.ρ.set i _)[j]? = _; rw [get_set_ne z]; exact q1, by show (σ.set i _)[j]? = _; rw [get_set_ne z]; exact q2⟩
  · cases e
theorem putOw_nx {i : Nat} {d : D} {m : Ms} : ∀ e m', putOw i d m ≠ .exc e m' := fun e m' h => by
  unfold putOw at h
  split at h <;> cases h
theorem s_own {i : Nat} {f : Fx} {st : Stmt} (h : PS X st (tAsg (TG (gx X ca fld) Wx (rF (gx X ca fld)) (evF cl f)) (gName i))) : SS cl ca fld Wx X (.own i f) st :=
  PSw h fun D σ H h => by
    obtain ⟨F, μ, m, L, h⟩ := fs_in (g := fun m => (evF cl f m).bind fun d m => (putOw i d m).bind fun _ m => .ok .nx m) (fun m => by rw [evS] <;> rfl) h
    refine ⟨F, μ, m, L, ?_⟩
    cases q : evF cl f m with
    | ok c m' =>
      rw [q] at h
      intro v F' μ' H' L' s' ⟨p, e1, g1, g2, g3, g4⟩
      subst e1
      obtain ⟨m2, e2, h2⟩ := bindR_ok putOw_nx h
      obtain ⟨L2, s2⟩ := putOw_ok L' s' g1 g2 g3 g4.con e2
      exact h2 F' μ' _ H' L2 s2
    | exc e m' =>
      rw [q] at h
      exact fun c d F μ H L s x => h c d F μ σ H L s x
    | bad => rw [q] at h; exact h.elim
theorem setM_nx {h : HV} {k d : D} {m : Ms} : ∀ e m', setM h k d m ≠ .exc e m' := fun e m' h => by
  unfold setM at h
  split at h
  · split at h
    · unfold wr at h
      split at h <;> (try split at h) <;> cases h
    · cases h
  · cases h
theorem s_seti {c : H} {i x : Ev.X} {o ie e : Expr} {tpos pos : Pos} (hp : plainE ie = true) (hc : SH cl ca fld Wx X c o) (hi : SE cl ca fld Wx X i ie) (hx : SE cl ca fld Wx X x e) : SS cl ca fld Wx X (.seti c i x) (.Assign [.Subscript o ie tpos] e pos) :=
  PSw (ps_asg hx (pg_sub hc hi (set_E (ca := ca) (fld := fld) (Wx := Wx)) (fun v => by cases ie <;> first | rfl | cases hp)) (swapsSole_nn (fun y p q => by cases q)) rfl rfl) fun D σ H h => by
    obtain ⟨F, μ, m, L, h⟩ := fs_in (g := fun m => (evX cl x m).bind fun d m => (evH cl c m).bind fun h m => (evX cl i m).bind fun k m => (setM h k d m).bind fun _ m => .ok .nx m) (fun m => by rw [evS] <;> rfl) h
    refine TG.mono (FinS.bind (rel := rD (gx X ca fld)) L h) fun v H1 ⟨d, F1, μ1, m1, L1, s1, r1, h1⟩ => ?_
    refine TG.mono (FinS.bind (rel := rH (gx X ca fld)) L1 h1) fun o H2 ⟨hv, F2, μ2, m2, L2, s2, r2, h2⟩ => ?_
    refine TG.mono (FinS.bind (rel := rD (gx X ca fld)) L2 h2) fun k H3 ⟨kd, F3, μ3, m3, L3, s3, r3, h3⟩ => ?_
    refine ⟨F3, μ3, m3, σ, _, hv, kd, d, L3, rH.later r2 s3 rfl, r3, Rep.mono (s2.trans s3).fle (s2.trans s3).mu r1, ?_⟩
    obtain ⟨m4, e4, h4⟩ := bindR_ok setM_nx h3
    rw [e4]
    exact fun _ F' μ' H' L' s' _ => h4 F' μ' σ H' L' s'
end
end Ev

set_option Elab.async false
set_option linter.all false
set_option maxRecDepth 100000
set_option autoImplicit false
set_option maxHeartbeats 1000000
/-! Ev12: loops; name = a fresh list. -/
namespace Ev
open PySem PySem.Spec PyProof.Rows L2

section
variable {X : Cx} {ca : Nat → Addr} {fld : Nat → List Str} {Wx : WX} {cl : Nat → List D → List D → Rc}

/-! ### while -/
theorem s_wh {t : T} {b : Ss} {c : Expr} {body : List Stmt} {pos : Pos} (hp : PassesOwn (model X.prog X.w) X.A X.env X.xe) (ht : ST cl ca fld Wx X t c) (hb : SSs cl ca fld Wx X b body) : SS cl ca fld Wx X (.wh t b) (.While c body [] pos) :=
  PSw (ps_while hp ht hb) fun D σ H h => by
    obtain ⟨F, μ, m, L, h⟩ := fs_in (g := fun m => whL (evT cl t) (evSs cl b) whMax m) (fun m => by rw [evS] <;> rfl) h
    refine ⟨fun k σ H => FS (gx X ca fld) Wx (whL (evT cl t) (evSs cl b) k) D σ H, ⟨whMax, F, μ, m, L, h⟩, fun k σ H hW => ?_⟩
    obtain ⟨F, μ, m, L, h⟩ := hW
    cases k with
    | zero => exact h.elim
    | succ n =>
      have h : FinS (gx X ca fld) Wx ⟨F, μ, m, σ, H⟩ ((evT cl t m).bind fun k m => if k then (evSs cl b m).bind fun f m => match f with
        | .nx => whL (evT cl t) (evSs cl b) n m
        | .ct => whL (evT cl t) (evSs cl b) n m
        | .br => .ok .nx m
        | .rt d => .ok (.rt d) m
        | .ro _ => .bad
        else .ok .nx m) D := h
      refine TG.mono (FinS.bind (rel := rB) L h) fun v H1 ⟨d, F1, μ1, m1, L1, s1, r1, h1⟩ => ?_
      cases (show d = v from r1)
      cases v with
      | false =>
        rw [if_neg Bool.false_ne_true] at h1 ⊢
        exact h1 F1 μ1 σ H1 L1 (Stp.refl _)
      | true =>
        rw [if_pos rfl] at h1 ⊢
        refine ⟨fun σ' H' => FS (gx X ca fld) Wx (whL (evT cl t) (evSs cl b) n) D σ' H', fun σ' H' q => ⟨n, Nat.lt_succ_self _, q⟩, F1, μ1, m1, L1, ?_⟩
        cases q : evSs cl b m1 with
        | ok fl m2 =>
          rw [q] at h1
          intro F' μ' σ' H' L' s'
          cases fl with
          | nx => exact ⟨F', μ', m2, L', FinS.step (w1 := ⟨F', μ', m2, σ', H'⟩) h1 s'⟩
          | ct => exact ⟨F', μ', m2, L', FinS.step (w1 := ⟨F', μ', m2, σ', H'⟩) h1 s'⟩
          | br => exact h1 F' μ' σ' H' L' s'
          | rt d => exact h1 F' μ' σ' H' L' s'
          | ro c => exact h1.elim
        | exc e m2 => rw [q] at h1; exact h1
        | bad => rw [q] at h1; exact h1.elim

/-! ### for -/
theorem forL_cons {tg : Tg} {body : Ms → R Fl} {d : D} {r : List D} {m : Ms} {k : Wk} {ρ0 : List Sl} {G : Gs} {w : Wd} {De : Ends} (h : FinS G Wx w (unR k ρ0 (forL (bindTg tg) body (d :: r) m)) De) :
    ∃ m', bindTg tg d m = .ok () m' ∧ FinS G Wx w (unR k ρ0 ((body m').bind fun f m => match f with
    | .nx => forL (bindTg tg) body r m
    | .ct => forL (bindTg tg) body r m
    | .br => .ok .nx m
    | .rt d => .ok (.rt d) m
    | .ro _ => .bad)) De := by
  rw [forL] at h
  cases q : bindTg tg d m with
  | ok a m' => rw [q] at h; exact ⟨m', rfl, h⟩
  | exc e m' => exact absurd q (bindTg_nx e m')
  | bad => rw [q] at h; exact h.elim
theorem s_fr {tg : Tg} {it : Ev.It} {b : Ss} {te iter : Expr} {body : List Stmt} {pos : Pos} (hc : X.calm = true) (hp : PassesOwn (model X.prog X.w) X.A X.env X.xe) (hs : plainE iter = true) (hi : SI cl ca fld Wx X it te iter) (hg : PG X te (tgE X tg)) (hb : SSs cl ca fld Wx X b body) :
    SS cl ca fld Wx X (.fr tg it b) (.For te iter body [] pos) :=
  PSw (ps_for hp hc hi hg hb (fun x => fold_plain hs x)) fun D σ H h => by
    obtain ⟨F, μ, m, L, h⟩ := fs_in (g := fun m => (evIt cl it m).bind fun k m => unR k m.ρ (forL (bindTg tg) (evSs cl b) k.xs (k.lock m))) (fun m => by rw [evS] <;> rfl) h
    refine TG.mono (FinS.bind (rel := rI (gx X ca fld)) L h) fun J H1 ⟨k, F1, μ1, m1, L1, s1, sv, h1⟩ => ?_
    obtain ⟨Ll, sl⟩ := L1.lock k.l
    refine ⟨fun i kk σ' H' => kk = k.xs.length - i ∧ i ≤ k.xs.length ∧ ∃ F μ m, Lk X.K ⟨F, μ, m, σ', H'⟩ ∧ Stp ⟨F1, μ1, m1, σ, H1⟩ ⟨F, μ, m, σ', H'⟩ ∧ Stq ⟨F1, μ1, k.lock m1, σ, H1⟩ ⟨F, μ, m, σ', H'⟩ ∧
      FinS (gx X ca fld) Wx ⟨F1, μ1, m1, σ, H1⟩ (unR k m1.ρ (forL (bindTg tg) (evSs cl b) (k.xs.drop i) m)) D,
      ⟨_, rfl, Nat.zero_le _, F1, μ1, k.lock m1, Ll, sl, Stq.refl _, by rw [List.drop_zero]; exact h1⟩, fun i kk σ2 H2 hW => ?_⟩
    obtain ⟨ek, hi, F2, μ2, m2, L2, s2, q2, h2⟩ := hW
    obtain ⟨st, itm⟩ := sv _ L2 q2
    rcases Nat.lt_or_eq_of_le hi with lt | e
    · have ex : k.xs[i]? = some k.xs[i] := by simp [lt]
      obtain ⟨go, yl⟩ := itm i _ ex
      rw [List.drop_eq_getElem_cons lt] at h2
      obtain ⟨m3, e3, h3⟩ := forL_cons h2
      refine .inr ⟨go, fun σ' H' => k.xs.length - (i + 1) = k.xs.length - (i + 1) ∧ i + 1 ≤ k.xs.length ∧ ∃ F μ m, Lk X.K ⟨F, μ, m, σ', H'⟩ ∧ Stp ⟨F1, μ1, m1, σ, H1⟩ ⟨F, μ, m, σ', H'⟩ ∧ Stq ⟨F1, μ1, k.lock m1, σ, H1⟩ ⟨F, μ, m, σ', H'⟩ ∧
      FinS (gx X ca fld) Wx ⟨F1, μ1, m1, σ, H1⟩ (unR k m1.ρ (forL (bindTg tg) (evSs cl b) (k.xs.drop (i + 1)) m)) D, fun σ' H' q => ⟨k.xs.length - (i + 1), by omega, q⟩, fun x H' y => ?_⟩
      obtain ⟨F3, L3, s3, r3⟩ := yl x H' y
      refine ⟨F3, μ2, m2, k.xs[i], m3, L3, r3, e3, fun σ4 L4 s4 hl4 ho4 => ⟨F3, μ2, m3, L4, ?_⟩⟩
      have sP := (s2.trans s3).trans s4
      have sQ := (q2.trans s3.q).trans s4.q
      cases q : evSs cl b m3 with
      | ok fl m5 =>
        rw [q] at h3
        intro F5 μ5 σ5 H5 L5 s5
        have uL := L5.unlock (h := k.l) (sQ.trans s5.q)
        have uS := (sP.trans s5).unlock (h := k.l) (fun i c q => q) (sQ.trans s5.q)
        cases fl with
        | nx => exact ⟨rfl, lt, F5, μ5, m5, L5, sP.trans s5, sQ.trans s5.q, h3⟩
        | ct => exact ⟨rfl, lt, F5, μ5, m5, L5, sP.trans s5, sQ.trans s5.q, h3⟩
        | br => exact h3 F5 μ5 σ5 H5 uL uS
        | rt d => exact h3 F5 μ5 σ5 H5 uL uS
        | ro c => exact h3.elim
      | exc e m5 =>
        rw [q] at h3
        intro c dx F5 μ5 σ5 H5 L5 s5 xr
        have uL := L5.unlock (h := k.l) (sQ.trans s5.q)
        have uS := (sP.trans s5).unlock (h := k.l) (fun i c q => q) (sQ.trans s5.q)
        exact h3 c dx F5 μ5 σ5 H5 uL uS xr
      | bad => rw [q] at h3; exact h3.elim
    · subst e
      rw [List.drop_length] at h2
      exact .inl ⟨st, h2 F2 μ2 σ2 H2 (L2.unlock (h := k.l) q2) (s2.unlock (h := k.l) (fun i c q => q) q2)⟩

/-! ### name = value -/
abbrev AX (cl : Nat → List D → List D → Rc) (ca : Nat → Addr) (fld : Nat → List Str) (Wx : WX) (X : Cx) (x : Ev.X) (i : Nat) (st : Stmt) : Prop := PS X st (tAsg (TG (gx X ca fld) Wx (rD (gx X ca fld)) (evX cl x)) (gName i))
abbrev AF (cl : Nat → List D → List D → Rc) (ca : Nat → Addr) (fld : Nat → List Str) (Wx : WX) (X : Cx) (f : Fx) (i : Nat) (st : Stmt) : Prop := PS X st (tAsg (TG (gx X ca fld) Wx (rF (gx X ca fld)) (evF cl f)) (gName i))
/-- a name that can be stored to -/
structure Nm (X : Cx) (i : Nat) (x : Str) : Prop where
  hi : X.N[i]? = some x
  hx : Loc X.env.scope x
  hf : X.fn x = true ∨ X.env.scope.names.lookup x = some .local
theorem a_X {i : Nat} {y : Str} {x : Ev.X} {e : Expr} {py pos : Pos} (hN : X.N.Nodup) (n : Nm X i y) (hc : isCompE e = false) (h : SE cl ca fld Wx X x e) : AX cl ca fld Wx X x i (.Assign [.Name y py] e pos) := ps_set hN n.hi n.hx h (swapsF hc) n.hf
theorem a_F {i : Nat} {y : Str} {x : Fx} {e : Expr} {py pos : Pos} (hN : X.N.Nodup) (n : Nm X i y) (hc : isCompE e = false) (h : SF cl ca fld Wx X x e) : AF cl ca fld Wx X x i (.Assign [.Name y py] e pos) := ps_set hN n.hi n.hx h (swapsF hc) n.hf
theorem a_fr {i : Nat} {f : Fx} {st : Stmt} (h : AF cl ca fld Wx X f i st) : AX cl ca fld Wx X (.fr f) i st := PSw h fun D σ H h => fr_of h
theorem a_mk {i : Nat} {f : Fx} {st : Stmt} (h : AF cl ca fld Wx X f i st) : AX cl ca fld Wx X (.mk f) i st := PSw h fun D σ H h => mk_of h
def swC (env : Env) (y : Str) (py pos : Pos) (scope : Scope) : Bool := env.blockKind == .function && env.kindOf y == some .local && py.line == pos.line && !(scope.names.any fun (n, k) => n == y && (k == .local || k == .cell))
theorem swC_eq {elt : Expr} {gs : List Comprehension} {scope : Scope} {pos py : Pos} {y : Str} {l : Nat} {env : Env} : swapsWith (.ListComp elt gs scope pos) (some (.Name y py)) l env = pure (swC env y py pos scope) := rfl
theorem swC_local {env : Env} {y : Str} {py pos : Pos} {scope : Scope} (h : swC env y py pos scope = true) : env.scope.names.lookup y = some .local := by
  unfold swC at h
  simp only [Bool.and_eq_true] at h
  have := h.1.1.2
  exact eq_of_beq this
theorem a_comp {i : Nat} {y : Str} {py spos : Pos} (n : Nm X i y) {own : List (Str × Nat)} {tg : Tg} {it : Ev.It} {ifs : Ts} {elt : Ev.X} {tge iter e : Expr} {ifsE : List Expr} {scope : Scope} {pos : Pos} (hc : X.calm = true) (hN : X.N.Nodup) (ok : BlkOk X.N X.env.scope scope own) (hsl : ∀ j ∈ tg.sl, j ∈ own.map (·.2)) (hs : plainE iter = true)
    (hi : SI cl ca fld Wx X it tge iter)
    (hg : ∀ (s : Shared) (H : Hp) (C : Addr) (cl' : List (Str × Addr)) (fp : List Addr), PG (X.blk s H scope (compEnvC scope cl' C X.env) fp) tge (tgE X tg))
    (ht : ∀ (s : Shared) (H : Hp) (C : Addr) (cl' : List (Str × Addr)) (fp : List Addr), STs cl ca fld (X.blk s H scope (compEnvC scope cl' C X.env) fp) ifs ifsE)
    (he : ∀ (s : Shared) (H : Hp) (C : Addr) (cl' : List (Str × Addr)) (fp : List Addr), SE cl ca fld WF (X.blk s H scope (compEnvC scope cl' C X.env) fp) elt e) :
    AF cl ca fld Wx X (.comp (own.map (·.2)) tg it ifs elt) i (.Assign [.Name y py] (.ListComp e [⟨tge, iter, ifsE, 0⟩] scope pos) spos) := by
  cases hb : swC X.env y py pos scope with
  | true =>
    exact PSw (ps_setLc (g := tgE X tg) (tt := TG (gx X ca fld) WF rB (evTs cl ifs)) (te := TG (gx X ca fld) WF (rD (gx X ca fld)) (evX cl elt)) hc hN n.hi (swC_local hb) (by rw [swC_eq, hb]) hi ok hg ht he (fun x => fold_plain hs x)) fun D σ H h => lc_of hsl h
  | false => exact ps_set hN n.hi n.hx (f_comp hc hN ok hsl hs hi hg ht he) (by rw [swC_eq, hb]) n.hf
theorem a_com2 {i : Nat} {y : Str} {py spos : Pos} (n : Nm X i y) {own : List (Str × Nat)} {own1 : List Nat} {tg tg1 : Tg} {it it1 : Ev.It} {ifs ifs1 : Ts} {elt : Ev.X} {tge tge1 iter iter1 e : Expr} {ifsE ifsE1 : List Expr} {scope : Scope} {pos : Pos} (hc : X.calm = true) (hN : X.N.Nodup) (ok : BlkOk X.N X.env.scope scope own) (hv : ∀ i ∈ own1, i ∈ own.map (·.2))
    (hsl : ∀ j ∈ tg.sl, j ∈ own.map (·.2)) (hsl1 : ∀ j ∈ tg1.sl, j ∈ own1) (hs : plainE iter = true) (hs1 : plainE iter1 = true)
    (hi : SI cl ca fld Wx X it tge iter)
    (hg : ∀ (s : Shared) (H : Hp) (C : Addr) (cl' : List (Str × Addr)) (fp : List Addr), PG (X.blk s H scope (compEnvC scope cl' C X.env) fp) tge (tgE X tg))
    (ht : ∀ (s : Shared) (H : Hp) (C : Addr) (cl' : List (Str × Addr)) (fp : List Addr), STs cl ca fld (X.blk s H scope (compEnvC scope cl' C X.env) fp) ifs ifsE)
    (hi1 : ∀ (s : Shared) (H : Hp) (C : Addr) (cl' : List (Str × Addr)) (fp : List Addr), SI cl ca fld WF (X.blk s H scope (compEnvC scope cl' C X.env) fp) it1 tge1 iter1)
    (hg1 : ∀ (s : Shared) (H : Hp) (C : Addr) (cl' : List (Str × Addr)) (fp : List Addr), PG (X.blk s H scope (compEnvC scope cl' C X.env) fp) tge1 (tgE X tg1))
    (ht1 : ∀ (s : Shared) (H : Hp) (C : Addr) (cl' : List (Str × Addr)) (fp : List Addr), STs cl ca fld (X.blk s H scope (compEnvC scope cl' C X.env) fp) ifs1 ifsE1)
    (he : ∀ (s : Shared) (H : Hp) (C : Addr) (cl' : List (Str × Addr)) (fp : List Addr), SE cl ca fld WF (X.blk s H scope (compEnvC scope cl' C X.env) fp) elt e) :
    AF cl ca fld Wx X (.com2 (own.map (·.2)) own1 tg it ifs tg1 it1 ifs1 elt) i (.Assign [.Name y py] (.ListComp e [⟨tge, iter, ifsE, 0⟩, ⟨tge1, iter1, ifsE1, 0⟩] scope pos) spos) := by
  cases hb : swC X.env y py pos scope with
  | true =>
    exact PSw (ps_setLc2 (g := tgE X tg) (tt := TG (gx X ca fld) WF rB (evTs cl ifs)) (wi1 := TG (gx X ca fld) WF (rI (gx X ca fld)) (evIt cl it1)) (g1 := tgE X tg1) (tt1 := TG (gx X ca fld) WF rB (evTs cl ifs1)) (te := TG (gx X ca fld) WF (rD (gx X ca fld)) (evX cl elt)) hc hN n.hi (swC_local hb) (by rw [swC_eq, hb]) hi ok hv hg ht hi1 hg1 ht1 he (fun x => fold_plain hs x) (fun env x => fold_plain hs1 x)) fun D σ H h => lc2_of hsl hsl1 h
  | false => exact ps_set hN n.hi n.hx (f_com2 hc hN ok hv hsl hsl1 hs hs1 hi hg ht hi1 hg1 ht1 he) (by rw [swC_eq, hb]) n.hf
end
end Ev

set_option Elab.async false
set_option linter.all false
set_option maxRecDepth 100000
set_option autoImplicit false
set_option maxHeartbeats 2000000
/-! Ev12b: dicts with ints as keys, held by a slot. -/
namespace Ev
open PySem PySem.Spec PyProof.Rows L2
section
variable {X : Cx} {ca : Nat → Addr} {fld : Nat → List Str} {Wx : WX} {cl : Nat → List D → List D → Rc}
theorem krep_keys {K : PySem.W.Frag} {F : Hp} {μ : List Addr} {r : List (D × D)} {s : List (Key × V)} (h : KRep K F μ r s) : ∀ {ks : List Int}, keysI r = some ks → s.map (·.1) = ks.map Sum.inl := by
  induction h with
  | nil => intro ks e; cases e; rfl
  | @cons j e v r s h1 _ ih =>
    intro ks e
    unfold keysI at e
    cases q : keysI r with
    | none => rw [q] at e; cases e
    | some l =>
      rw [q] at e
      cases e
      rw [List.map_cons, List.map_cons, ih q]
theorem dic_view {K : PySem.W.Frag} {F : Hp} {μ : List Addr} {H : Hp} {c : D} {v : V} {kvs : List (D × D)} (h : View K F μ H c v) (e : c = .dic kvs) (ht : isT kvs = false) : ∃ p vs, v = .ref p ∧ H p = some (.dK vs) ∧ KRep K F μ kvs vs := by
  subst e
  obtain ⟨p, h1, h2⟩ := h
  obtain ⟨vs, h3, h4⟩ := h2.k ht
  exact ⟨p, vs, h1, h3, h4⟩
theorem keysI_T {kvs : List (D × D)} {ks : List Int} (h : keysI kvs = some ks) : isT kvs = false := by
  cases kvs with
  | nil => rfl
  | cons p r =>
    obtain ⟨a, b⟩ := p
    cases a with
    | non => cases h
    | _ => rfl
theorem call_lendE : CallR X (.builtin "len") (fun xs H Q => ∃ x, xs = [x] ∧ rHP (gx X ca fld) Wx (rD (gx X ca fld)) lendM x H Q) := by
  intro pins s σ H xs us Q I rx h
  obtain ⟨x, e, F, μ, m, σ', w0, hv, L, rh, hf⟩ := h
  subst e
  unfold lendM at hf
  split at hf
  · rename_i kvs e1
    by_cases ht : isT kvs = false
    · rw [if_pos ht] at hf
      obtain ⟨p, vs, rfl, h2, h3⟩ := dic_view (view_of L rh e1) rfl ht
      rw [Vals.ref1 rx]
      refine d_len I (.inl h2) fun t s' I' => ⟨.int kvs.length, H, I', ⟨t, by rw [h3.length]⟩, hf.same L (.int _)⟩
    · rw [if_neg ht] at hf
      exact hf.elim
  · exact hf.elim
theorem sortI_uniq {ks ys : List Int} (h1 : ys.Perm ks) (h2 : ys.Pairwise (· ≤ ·)) : ys = sortI ks := by
  have hs : (sortI ks).Pairwise (fun a b => a ≤ b) := by
    have := List.pairwise_mergeSort (le := fun a b : Int => decide (a ≤ b)) (fun a b c h1 h2 => by simp at *; omega) (fun a b => by simp; omega) ks
    exact this.imp (by simp)
  exact List.Perm.eq_of_pairwise (le := fun a b : Int => a ≤ b) (fun a b _ _ h1 h2 => by omega) h2 hs (h1.trans (List.mergeSort_perm ks _).symm)
theorem vints_rep {K : PySem.W.Frag} {F : Hp} {μ : List Addr} : ∀ {l : List Int}, Reps K F μ (l.map D.int) (l.map V.int)
  | [] => .nil
  | i :: l => .cons (.int i) vints_rep
theorem call_srtdE (hc : X.calm = true) : CallR X (.builtin "sorted") (fun xs H Q => ∃ x, xs = [x] ∧ rHP (gx X ca fld) Wx (rF (gx X ca fld)) srtdM x H Q) := by
  intro pins s σ H xs us Q I rx h
  obtain ⟨x, e, F, μ, m, σ', w0, hv, L, rh, hf⟩ := h
  subst e
  unfold srtdM at hf
  split at hf
  · rename_i kvs e1
    split at hf
    · rename_i ks ek
      by_cases hl : ks.length < 64
      · rw [if_pos hl] at hf
        obtain ⟨p, vs, rfl, h2, h3⟩ := dic_view (view_of L rh e1) rfl (keysI_T ek)
        refine call_sortedDI hc pins s σ H _ us Q I rx ⟨p, vs, ks, rfl, .inl h2, krep_keys h3 ek, hl, fun ys q hp hs hq => ?_⟩
        rw [sortI_uniq hp hs]
        exact hf.freshL L vints_rep hq
      · rw [if_neg hl] at hf
        exact hf.elim
    · exact hf.elim
  · exact hf.elim
theorem c_lend {j : Nat} {e : Expr} {p pos : Pos} (hg : Gl X "len") (hm : X.mg "len" = none) (hp : plainE e = true) (hc : SH cl ca fld Wx X (.o j) e) : SE cl ca fld Wx X (.lend j) (.Call (.Name "len" p) [e] [] pos) :=
  PEw (pe_callB (call_lendE (ca := ca) (fld := fld) (Wx := Wx)) hg hm PySem.boot_len (one_arg hp hc) (by decide) (by decide) (star_cons hp) (star_any rfl)) fun σ H Q h => by
    obtain ⟨F, μ, m, L, h⟩ := tg_in (g := fun m => (evH cl (.o j) m).bind lendM) (fun m => by rw [evX] <;> rfl) h
    exact TG.mono (Fin.bind (rel := rH (gx X ca fld)) rD_ok L h) fun v H1 ⟨d, F1, μ1, m1, L1, s1, r1, h1⟩ => ⟨v, rfl, F1, μ1, m1, σ, _, d, L1, r1, h1⟩
theorem f_srtd {j : Nat} {e : Expr} {p pos : Pos} (hcm : X.calm = true) (hg : Gl X "sorted") (hm : X.mg "sorted" = none) (hp : plainE e = true) (hc : SH cl ca fld Wx X (.o j) e) : SF cl ca fld Wx X (.srtd j) (.Call (.Name "sorted" p) [e] [] pos) :=
  PEw (pe_callB (call_srtdE (ca := ca) (fld := fld) (Wx := Wx) hcm) hg hm (by decide +kernel) (one_arg hp hc) (by decide) (by decide) (star_cons hp) (star_any rfl)) fun σ H Q h => by
    obtain ⟨F, μ, m, L, h⟩ := tg_in (g := fun m => (evH cl (.o j) m).bind srtdM) (fun m => by rw [evF] <;> rfl) h
    exact TG.mono (Fin.bind (rel := rH (gx X ca fld)) rF_ok L h) fun v H1 ⟨d, F1, μ1, m1, L1, s1, r1, h1⟩ => ⟨v, rfl, F1, μ1, m1, σ, _, d, L1, r1, h1⟩
theorem s_odic {i : Nat} {y : Str} {py dp pos : Pos} (hN : X.N.Nodup) (n : Nm X i y) : SS cl ca fld Wx X (.odic i) (.Assign [.Name y py] (.Dict [] [] dp) pos) :=
  PSw (ps_set hN n.hi n.hx pe_dnewK (swapsF rfl) n.hf) fun D σ H hh => by
    obtain ⟨F, μ, m, L, hh⟩ := fs_in (g := fun m => (putOw i (.dic []) m).bind fun _ m => .ok .nx m) (fun m => by rw [evS] <;> rfl) hh
    intro p hp
    obtain ⟨L1, s1⟩ := L.fresh (o := .dK []) hp
    obtain ⟨m2, e2, h2⟩ := bindR_ok putOw_nx hh
    obtain ⟨L2, s2⟩ := putOw_ok L1 s1 hp (L.free hp) (fun x q => L.notOwn hp x (by cases x <;> exact q)) (show Con X.K F μ (.dic []) p (upd H p (.dK []) p) from .inl ⟨[], upd_same, .nil⟩) e2
    exact h2 F μ _ _ L2 s2
theorem dputM_nx {h : HV} {k d : D} {m : Ms} : ∀ e m', dputM h k d m ≠ .exc e m' := fun e m' h => by
  unfold dputM at h
  split at h
  · split at h
    · split at h <;> cases h
    · cases h
  · cases h
theorem swapsWith_sub {o i e : Expr} {tp : Pos} {l : Nat} {env : Env} : swapsWith e (some (.Subscript o i tp)) l env = pure false := by
  unfold swapsWith
  cases e <;> rfl
theorem s_dput {j : Nat} {i x : Ev.X} {o ie e : Expr} {tpos pos : Pos} (hu : X.A.units + 64 < cLine) (hc : SH cl ca fld Wx X (.o j) o) (hi : SE cl ca fld Wx X i ie) (hx : SE cl ca fld Wx X x e) : SS cl ca fld Wx X (.dput j i x) (.Assign [.Subscript o ie tpos] e pos) :=
  PSw (ps_dput (by omega) hc hi hx (swapsWith_sub (e := e))) fun D σ H h => by
    obtain ⟨F, μ, m, L, h⟩ := fs_in (g := fun m => (evX cl x m).bind fun d m => (evH cl (.o j) m).bind fun h m => (evX cl i m).bind fun k m => (dputM h k d m).bind fun _ m => .ok .nx m) (fun m => by rw [evS] <;> rfl) h
    refine TG.mono (FinS.bind (rel := rD (gx X ca fld)) L h) fun v H1 ⟨d, F1, μ1, m1, L1, s1, r1, h1⟩ => ?_
    refine TG.mono (FinS.bind (rel := rH (gx X ca fld)) L1 h1) fun o H2 ⟨hv, F2, μ2, m2, L2, s2, r2, h2⟩ => ?_
    refine TG.mono (FinS.bind (rel := rD (gx X ca fld)) L2 h2) fun k H3 ⟨kd, F3, μ3, m3, L3, s3, r3, h3⟩ => ?_
    obtain ⟨m4, e4, h4⟩ := bindR_ok dputM_nx h3
    have r2' := rH.later r2 s3 rfl
    have r1' := Rep.mono (s2.trans s3).fle (s2.trans s3).mu r1
    cases hv with
    | val _ => exact nomatch e4
    | sl j' =>
      cases kd with
      | int i' =>
        have e4 : (match m3.ρ[j']? with
          | some (.ow (.dic kvs)) => if kvs.length < sizeLine ∧ isT kvs = false then (.ok () { m3 with ρ := m3.ρ.set j' (.ow (.dic (putKD kvs (.int i') d))) } : Ev.R Unit) else .bad
          | _ => .bad) = .ok () m4 := e4
        split at e4
        · rename_i kvs hcj
          split at e4
          · rename_i hlen
            cases e4
            obtain ⟨p, g1, g2, g3⟩ := L3.own j' (.dic kvs) (.inl hcj)
            have g1 : σ[j']? = some (some (V.ref p)) := g1
            have r2' : σ[j']? = some (some o) := r2'
            rw [r2'] at g1
            cases g1
            obtain ⟨vs, g4, g5⟩ := ConD.k g3 hlen.2
            have g4 : H3 p = some (.dK vs) := g4
            cases rep_int r3
            have hl := (List.getElem?_eq_some_iff.mp hcj).1
            have up := L3.upd_at (x0 := .inl j') (p := p) (o := .dK (putK vs (Sum.inl i') v)) (m' := { m3 with ρ := m3.ρ.set j' (.ow (.dic (putKD kvs (.int i') d))) }) ⟨⟨_, .inl hcj⟩, r2'⟩ (by simp) rfl (fun a d' ej => ?_) (fun a c' hj => ?_) (fun a c' hj => ?_) (fun n c' hn => .inr ⟨by simp, hn⟩)
            · exact ⟨p, _, rfl, (DPut.k (k := Sum.inl i') (v := v) g4 (by rw [← g5.length]; exact hlen.1)), h4 F3 μ3 σ _ up.1 up.2⟩
            · rcases get_set ej with ⟨_, z, _⟩ | ⟨_, z⟩
              · cases z
              · exact z
            · rcases hj with hj | hj
              · rcases get_set hj with ⟨rfl, z, _⟩ | ⟨ne, z⟩
                · cases z
                  exact .inl ⟨rfl, (show ConD X.K F3 μ3 _ _ _ from .inl ⟨_, rfl, krep_put r1' g5⟩), _, .inl hcj⟩
                · exact .inr ⟨fun q => ne (Sum.inl.inj q).symm, .inl z⟩
              · rcases get_set hj with ⟨_, z, _⟩ | ⟨ne, z⟩
                · cases z
                · exact .inr ⟨fun q => ne (Sum.inl.inj q).symm, .inr z⟩
            · have ne : j' ≠ a := fun q => by
                subst q
                rw [hcj] at hj
                cases hj
              show (m3.ρ.set j' _)[a]? = _
              rw [List.getElem?_set_ne ne]
              exact hj
          · cases e4
        · cases e4
      | _ => exact nomatch e4
end
end Ev

set_option Elab.async false
set_option linter.all false
set_option maxRecDepth 100000
set_option autoImplicit false
set_option maxHeartbeats 2000000
/-! Ev12f: sorted({k: True for ..}), the keys ints. -/
namespace Ev
open PySem PySem.Spec PyProof.Rows L2
theorem ddI_snoc {l : List Int} {i : Int} : ddI (l ++ [i]) = if i ∈ ddI l then ddI l else ddI l ++ [i] := by
  unfold ddI
  rw [List.foldl_append]
  rfl
theorem putK_keys {kvs : List (Key × V)} {ac : List Int} {i : Int} {z : V} (h : kvs.map (·.1) = (ddI ac).map Sum.inl) : (putK kvs (Sum.inl i) z).map (·.1) = (ddI (ac ++ [i])).map Sum.inl := by
  have e : (kvs.any fun kv => decide (kv.1 = (Sum.inl i : Key))) = decide (i ∈ ddI ac) := by
    have e1 : (kvs.any fun kv => decide (kv.1 = (Sum.inl i : Key))) = (kvs.map (·.1)).any fun k => decide (k = (Sum.inl i : Key)) := by rw [List.any_map]; rfl
    rw [e1, h, List.any_map]
    induction ddI ac with
    | nil => rfl
    | cons j l ih =>
      rw [List.any_cons, ih]
      by_cases q : j = i
      · subst q; simp
      · have g1 : ¬ ((Sum.inl j : Key) = Sum.inl i) := fun z => q (by cases z; rfl)
        have g2 : ¬ i = j := fun z => q z.symm
        simp [g1, g2, q]
  unfold putK
  rw [e, ddI_snoc]
  by_cases q : i ∈ ddI ac
  · rw [if_pos (decide_eq_true q), if_pos q, List.map_map, ← h]
    refine List.map_congr_left fun kv _ => ?_
    show (if kv.1 = _ then (kv.1, z) else kv).1 = kv.1
    split <;> rfl
  · rw [if_neg (by simpa using q), if_neg q, List.map_append, List.map_append, h]
    rfl
theorem ddI_le : ∀ (l a : List Int), (l.foldl (fun a i => if i ∈ a then a else a ++ [i]) a).length ≤ a.length + l.length
  | [], a => by simp
  | i :: l, a => by
    rw [List.foldl_cons]
    have := ddI_le l (if i ∈ a then a else a ++ [i])
    have h2 : (if i ∈ a then a else a ++ [i]).length ≤ a.length + 1 := by split <;> simp
    simp only [List.length_cons]
    omega
theorem intsD_cons {d : D} {r : List D} {is : List Int} (h : intsD (d :: r) = some is) : ∃ i is', d = .int i ∧ intsD r = some is' ∧ is = i :: is' := by
  cases d with
  | int i =>
    have h : (intsD r).map (i :: ·) = some is := h
    cases q : intsD r with
    | none => rw [q] at h; cases h
    | some l => rw [q] at h; cases h; exact ⟨i, l, rfl, rfl, rfl⟩
  | _ => cases h
theorem intsD_len : ∀ {r : List D} {is : List Int}, intsD r = some is → is.length = r.length
  | [], is, h => by cases h; rfl
  | d :: r, is, h => by
    obtain ⟨i, is', _, h2, rfl⟩ := intsD_cons h
    rw [List.length_cons, List.length_cons, intsD_len h2]
/-! ### a block's state -/
structure AtK (K : PySem.W.Frag) (w0 : Wd) (Dd : Addr) (ac : List Int) (w : Wd) : Prop where
  L : Lk K w
  S : Stp w0 w
  new : w0.H Dd = none
  fr : w.F Dd = none
  no : ∀ x, ¬ Own w x Dd
  ac : ∃ kvs, w.H Dd = some (.dK kvs) ∧ kvs.map (·.1) = (ddI ac).map Sum.inl
section
variable {K : PySem.W.Frag} {F F' : Hp} {μ μ' : List Addr} {m m' : Ms} {σ σ' : L2.St} {H H' : Hp} {w0 w w' wI : Wd} {Dd : Addr} {ac : List Int} {own : List Nat}
theorem AtK.step (a : AtK K w0 Dd ac w) (L : Lk K w') (s : Stp w w') : AtK K w0 Dd ac w' := by
  obtain ⟨kvs, e1, e2⟩ := a.ac
  refine ⟨L, a.S.trans s, a.new, ?_, fun x hx => ?_, kvs, s.keep _ _ e1 a.no, e2⟩
  · cases q : w'.F Dd with
    | none => rfl
    | some o =>
      rcases s.fnew _ _ q with z | z | ⟨y, z⟩ | ⟨_, z⟩
      · exact absurd a.fr z
      · rw [z] at e1; cases e1
      · exact absurd z (a.no y)
      · rw [z] at e1; cases e1
  · rcases s.own _ x hx with ⟨y, z⟩ | z
    · exact a.no y z
    · rw [z] at e1; cases e1
theorem AtK.slots {ρ : List Sl} (a : AtK K w0 Dd ac ⟨F, μ, m, σ, H⟩) (L : Lk K ⟨F, μ, { m with ρ := ρ }, σ', H⟩) (hw : ∀ (i : Nat) (c : D), ρ[i]? = some (Sl.ow c) ∨ ρ[i]? = some (Sl.rl c) → (m.ρ[i]? = some (Sl.ow c) ∨ m.ρ[i]? = some (Sl.rl c)) ∧ σ'[i]? = σ[i]?)
    (hr : ∀ (i : Nat) (c : D), w0.m.ρ[i]? = some (Sl.rl c) → ρ[i]? = some (Sl.rl c) ∧ σ'[i]? = w0.σ[i]?) : AtK K w0 Dd ac ⟨F, μ, { m with ρ := ρ }, σ', H⟩ := by
  have up : ∀ x q, Own ⟨F, μ, { m with ρ := ρ }, σ', H⟩ x q → Own ⟨F, μ, m, σ, H⟩ x q := fun x q hx => by
    cases x with
    | inr n => exact hx
    | inl i =>
      obtain ⟨⟨c, hc⟩, hs⟩ := hx
      obtain ⟨h1, h2⟩ := hw i c hc
      exact ⟨⟨c, h1⟩, by rw [← h2]; exact hs⟩
  exact ⟨L, ⟨a.S.fle, a.S.mu, a.S.keep, fun p x hx => a.S.own p x (up x p hx), a.S.fnew, a.S.there, hr⟩, a.new, a.fr, fun x hx => a.no x (up x _ hx), a.ac⟩
theorem AtK.push {i : Int} {z : V} {kvs : List (Key × V)} (a : AtK K w0 Dd ac ⟨F, μ, m, σ, H⟩) (e : H Dd = some (.dK kvs)) : AtK K w0 Dd (ac ++ [i]) ⟨F, μ, m, σ, upd H Dd (.dK (putK kvs (Sum.inl i) z))⟩ := by
  obtain ⟨vs', e1, e2⟩ := a.ac
  have e1 : H Dd = some (.dK vs') := e1
  rw [e] at e1
  cases e1
  have L := a.L
  have nf : F Dd = none := a.fr
  have keepO : ∀ (x : Nat ⊕ Nat) (p : Addr), Own ⟨F, μ, m, σ, H⟩ x p → upd H Dd (.dK (putK kvs (Sum.inl i) z)) p = H p := fun x p hx => upd_ne fun z => a.no x (z ▸ hx)
  refine ⟨⟨fun b o q => ?_, L.len, L.mul, L.val, fun j c q => ?_, fun n c q => ?_, fun x y p hx hy => L.inj x y p hx hy⟩, ⟨a.S.fle, a.S.mu, fun p o q hn => ?_, fun p x hx => a.S.own p x hx, a.S.fnew, fun p q => ?_, a.S.rls⟩, a.new, a.fr, fun x hx => a.no x hx, _, upd_same, putK_keys e2⟩
  · show upd H Dd _ b = some o
    have q : F b = some o := q
    rw [upd_ne (fun z => by rw [z, nf] at q; cases q)]
    exact L.fro b o q
  · obtain ⟨p, q1, q2, q3⟩ := L.own _ c q
    refine ⟨p, q1, q2, ?_⟩
    show Con K F μ c p (upd H Dd _ p)
    rw [keepO (.inl _) p ⟨⟨c, q⟩, q1⟩]; exact q3
  · obtain ⟨p, q1, q2, q3⟩ := L.sto n c q
    refine ⟨p, q1, q2, ?_⟩
    show ConL K F μ c p (upd H Dd _ p)
    rw [keepO (.inr n) p q1]; exact q3
  · show upd H Dd _ p = some o
    have nw : w0.H Dd = none := a.new
    rw [upd_ne (fun z => by rw [z, nw] at q; cases q)]
    exact a.S.keep p o q hn
  · have q : upd H Dd (.dK (putK kvs (Sum.inl i) z)) p = none := q
    by_cases z : p = Dd
    · subst z; rw [upd_same] at q; cases q
    · rw [upd_ne z] at q; exact a.S.there p q
theorem AtK.wipe (a : AtK K w0 Dd ac ⟨F, μ, m, σ, H⟩) (h0 : NoRl w0 own) : AtK K w0 Dd ac ⟨F, μ, { m with ρ := wipeR m.ρ own }, L2.wipe σ own, H⟩ := by
  refine a.slots (a.L.wipe own) (fun i c e => ?_) fun i c e => ?_
  · have z : i ∉ own := fun z => by
      rcases e with e | e
      · have := wipeR_in z e; cases this
      · have := wipeR_in z e; cases this
    rw [wipeR_out z] at e
    exact ⟨e, wipe_out' z⟩
  · have z : i ∉ own := fun z => h0 i z c e
    obtain ⟨e1, e2⟩ := a.S.rls i c e
    exact ⟨by rw [wipeR_out z]; exact e1, by rw [wipe_out' z]; exact e2⟩
end
theorem AtK.back {K : PySem.W.Frag} {w0 : Wd} {Dd : Addr} {F F' : Hp} {μ μ' : List Addr} {m mE : Ms} {σ : L2.St} {H H' : Hp} {k : Wk} {own : List Nat} {ds : List Int} (L : Lk K ⟨F, μ, m, σ, H⟩) (hp : own.all (plainS (k.lock m).ρ) = true) (h0 : NoRl w0 own)
    (s0 : Stp w0 ⟨F, μ, m, σ, H⟩) (a : AtK K w0 Dd ds ⟨F', μ', { mE with ρ := wipeR mE.ρ own }, L2.wipe σ own, H'⟩) (s : Stq ⟨F, μ, k.lock m, σ, H⟩ ⟨F', μ', { mE with ρ := wipeR mE.ρ own }, L2.wipe σ own, H'⟩) :
    AtK K w0 Dd ds ⟨F', μ', k.unlock m.ρ { mE with ρ := backR mE.ρ m.ρ own }, σ, H'⟩ := by
  have pl : ∀ (i : Nat) (c : D), i ∈ own → ¬ (m.ρ[i]? = some (Sl.ow c) ∨ m.ρ[i]? = some (Sl.rl c)) := fun i c hi e =>
    plainS_ow (List.all_eq_true.mp hp i hi) (lockR_own.mpr e)
  have inb : ∀ {i : Nat} {s : Sl}, i ∈ own → s ≠ .un → (backR mE.ρ m.ρ own)[i]? = some s → m.ρ[i]? = some s := fun {i s} hi hs e => by
    have z := backR_in hi e
    cases q : m.ρ[i]? with
    | none => rw [q] at z; exact absurd z hs
    | some u => rw [q] at z; rw [z]; rfl
  have ow : ∀ (i : Nat) (c : D), (backR mE.ρ m.ρ own)[i]? = some (Sl.ow c) ∨ (backR mE.ρ m.ρ own)[i]? = some (Sl.rl c) → i ∉ own := fun i c e z => by
    rcases e with e | e
    · exact pl i c z (.inl (inb z (by simp) e))
    · exact pl i c z (.inr (inb z (by simp) e))
  have sameO : ∀ (i : Nat), i ∉ own → (backR mE.ρ m.ρ own)[i]? = (wipeR mE.ρ own)[i]? := fun i z => by rw [backR_out z, wipeR_out z]
  have La := a.L
  have lb : Lk K ⟨F', μ', { mE with ρ := backR mE.ρ m.ρ own }, σ, H'⟩ := by
    refine ⟨La.fro, ?_, La.mul, fun i d e => ?_, fun i c e => ?_, La.sto, fun x y q qx qy => ?_⟩
    · have := La.len
      simp only [wipeR_len, wipe_length] at this
      simpa [backR_len] using this
    · by_cases z : i ∈ own
      · have e1 := inb z (by simp) e
        obtain ⟨v, e2, e3⟩ := L.val i d e1
        exact ⟨v, e2, e3.mono s.fle s.mu⟩
      · rw [sameO i z] at e
        obtain ⟨v, e2, e3⟩ := La.val i d e
        exact ⟨v, by have e2 : (L2.wipe σ own)[i]? = _ := e2; rw [wipe_out' z] at e2; exact e2, e3⟩
    · have z := ow i c e
      rw [sameO i z] at e
      obtain ⟨p, e2, e3⟩ := La.own i c e
      exact ⟨p, by have e2 : (L2.wipe σ own)[i]? = _ := e2; rw [wipe_out' z] at e2; exact e2, e3⟩
    · have up : ∀ x, Own ⟨F', μ', { mE with ρ := backR mE.ρ m.ρ own }, σ, H'⟩ x q → Own ⟨F', μ', { mE with ρ := wipeR mE.ρ own }, L2.wipe σ own, H'⟩ x q := fun x hx => by
        cases x with
        | inr n => exact hx
        | inl i =>
          obtain ⟨⟨c, hc⟩, hs⟩ := hx
          have z := ow i c hc
          rw [sameO i z] at hc
          exact ⟨⟨c, hc⟩, by show (L2.wipe σ own)[i]? = _; rw [wipe_out' z]; exact hs⟩
      exact La.inj x y q (up x qx) (up y qy)
  have ab : AtK K w0 Dd ds ⟨F', μ', { mE with ρ := backR mE.ρ m.ρ own }, σ, H'⟩ :=
    AtK.slots (m := { mE with ρ := wipeR mE.ρ own }) a lb (fun i c e => by
      have z := ow i c e
      rw [sameO i z] at e
      exact ⟨e, (wipe_out' z).symm⟩) fun i c e => by
        have z : i ∉ own := fun z => h0 i z c e
        obtain ⟨e1, e2⟩ := a.S.rls i c e
        have e2 : (L2.wipe σ own)[i]? = w0.σ[i]? := e2
        rw [wipe_out' z] at e2
        exact ⟨by rw [sameO i z]; exact e1, e2⟩
  have sb : Stq ⟨F, μ, k.lock m, σ, H⟩ ⟨F', μ', { mE with ρ := backR mE.ρ m.ρ own }, σ, H'⟩ := ⟨s.fle, s.mu, fun i c e => by
    have z : i ∉ own := fun z => plainS_ow (List.all_eq_true.mp hp i z) (.inr e)
    obtain ⟨e1, e2⟩ := s.rls i c e
    exact ⟨by show (backR mE.ρ m.ρ own)[i]? = _; rw [sameO i z]; exact e1, rfl⟩⟩
  have s0r : ∀ (i : Nat) (c : D), w0.m.ρ[i]? = some (Sl.rl c) → m.ρ[i]? = some (Sl.rl c) := fun i c e => (s0.rls i c e).1
  have su := ab.S.unlock s0r sb
  refine ⟨ab.L.unlock sb, su, ab.new, ab.fr, fun x hx => ab.no x (own_slots (unlock_own sb) hx), ab.ac⟩

/-- the state ahead of turn i -/
def WcK (K : PySem.W.Frag) (w0 wI : Wd) (Dd : Addr) (own : List Nat) (σ : L2.St) (lp : List D → Ms → R (List D)) (xs : List D) (ds : List Int) (mE : Ms) (i k : Nat) (H : Hp) : Prop :=
  k = xs.length - i ∧ i ≤ xs.length ∧ ∃ F μ m ac zs, AtK K w0 Dd ac ⟨F, μ, { m with ρ := wipeR m.ρ own }, wipe σ own, H⟩ ∧ Stq wI ⟨F, μ, { m with ρ := wipeR m.ρ own }, wipe σ own, H⟩ ∧ lp (xs.drop i) m = .ok zs mE ∧ ∃ is, intsD zs = some is ∧ ac ++ is = ds
section
variable {X : Cx} {w0 wI : Wd} {Dd : Addr} {own : List Nat} {σ : L2.St} {tg : Tg} {ts : Ms → R Bool} {elt : Ms → R (List D)} {xs : List D} {ds : List Int} {mE : Ms} {i k : Nat} {H : Hp} {J : L2.It}
theorem WcK.next {F : Hp} {μ : List Addr} {m : Ms} {σ2 : L2.St} {ac is : List Int} {zs : List D} {lp : List D → Ms → R (List D)} (h0 : NoRl w0 own) (hI : NoRl wI own) (a : AtK X.K w0 Dd ac ⟨F, μ, m, σ2, H⟩) (s : Stq wI ⟨F, μ, m, σ2, H⟩) (hw : wipe σ2 own = wipe σ own) (hi : i < xs.length)
    (hl : lp (xs.drop (i + 1)) m = .ok zs mE) (hz : intsD zs = some is) (hd : ac ++ is = ds) : WcK X.K w0 wI Dd own σ lp xs ds mE (i + 1) (xs.length - (i + 1)) H := by
  have a' := a.wipe h0
  have s' := s.wipe (H' := H) hI
  rw [hw] at a' s'
  exact ⟨rfl, hi, F, μ, m, ac, zs, a', s', hl, is, hz, hd⟩
theorem WcK.turn (sv : Srv X.K J xs wI) (hsl : ∀ j ∈ tg.sl, j ∈ own) (h : WcK X.K w0 wI Dd own σ (compL own (bindTg tg) ts elt) xs ds mE i k H) :
    (i = xs.length ∧ J.stop i H ∧ ∃ F μ, AtK X.K w0 Dd ds ⟨F, μ, { mE with ρ := wipeR mE.ρ own }, wipe σ own, H⟩ ∧ Stq wI ⟨F, μ, { mE with ρ := wipeR mE.ρ own }, wipe σ own, H⟩) ∨
    (i < xs.length ∧ J.go i H ∧ ∀ x H', J.yld i H x H' → tgE X tg x (wipe σ own) H' fun σ2 H2 => wipe σ2 own = wipe σ own ∧ ∃ F μ m b m2 ac zs is, AtK X.K w0 Dd ac ⟨F, μ, m, σ2, H2⟩ ∧ Stq wI ⟨F, μ, m, σ2, H2⟩ ∧ ts m = .ok b m2 ∧ intsD zs = some is ∧ ac ++ is = ds ∧
      ((b = true ∧ ∃ ys m3 zs', elt m2 = .ok ys m3 ∧ compL own (bindTg tg) ts elt (xs.drop (i + 1)) m3 = .ok zs' mE ∧ zs = ys ++ zs') ∨ (b = false ∧ compL own (bindTg tg) ts elt (xs.drop (i + 1)) m2 = .ok zs mE))) := by
  obtain ⟨ek, hi, F, μ, m, ac, zs, a, s, hl, is, hz, hd⟩ := h
  obtain ⟨st, it⟩ := sv _ a.L s
  rcases Nat.lt_or_eq_of_le hi with lt | e
  · have ex : xs[i]? = some xs[i] := by simp [lt]
    obtain ⟨go, yl⟩ := it i _ ex
    refine .inr ⟨lt, go, fun x H' y => ?_⟩
    obtain ⟨F1, L1, s1, r1⟩ := yl x H' y
    rw [List.drop_eq_getElem_cons lt] at hl
    obtain ⟨m1, b, m2, e1, e2, e3⟩ := compL_cons hl
    refine ⟨F1, μ, { m with ρ := wipeR m.ρ own }, xs[i], m1, L1, r1, e1, fun σ' L' s' hl' ho => ⟨wipe_same hl' fun j hj => ho j fun q => hj (hsl j q), F1, μ, m1, b, m2, ac, zs, is, (a.step L1 s1).step L' s', (s.trans s1.q).trans s'.q, e2, hz, hd, e3⟩⟩
  · subst e
    rw [List.drop_length] at hl
    cases hl
    cases hz
    rw [List.append_nil] at hd
    subst hd
    exact .inl ⟨rfl, st, F, μ, a, s⟩
end
theorem AtK.new0 {K : PySem.W.Frag} {F : Hp} {μ : List Addr} {m : Ms} {σ : L2.St} {H : Hp} {Dd : Addr} (L : Lk K ⟨F, μ, m, σ, H⟩) (h : H Dd = none) : AtK K ⟨F, μ, m, σ, H⟩ Dd [] ⟨F, μ, m, σ, upd H Dd (.dK [])⟩ := by
  obtain ⟨L1, s1⟩ := L.fresh (p := Dd) (o := .dK []) h
  exact ⟨L1, s1, h, L.free h, fun x hx => L.notOwn h x hx, [], upd_same, rfl⟩
theorem AtK.lock {K : PySem.W.Frag} {w0 : Wd} {F : Hp} {μ : List Addr} {m : Ms} {σ : L2.St} {H : Hp} {Dd : Addr} {ac : List Int} (a : AtK K w0 Dd ac ⟨F, μ, m, σ, H⟩) (k : Wk) : AtK K w0 Dd ac ⟨F, μ, k.lock m, σ, H⟩ := by
  obtain ⟨L1, s1⟩ := a.L.lock k.l
  exact a.step L1 s1
theorem AtK.acc {K : PySem.W.Frag} {w0 : Wd} {F : Hp} {μ : List Addr} {m : Ms} {σ : L2.St} {H : Hp} {Dd : Addr} {ac is ds : List Int} {i : Int} (a : AtK K w0 Dd ac ⟨F, μ, m, σ, H⟩) (e : ac ++ (i :: is) = ds) (h : ds.length ≤ sizeLine) : ∃ kvs, H Dd = some (.dK kvs) ∧ kvs.length < sizeLine := by
  obtain ⟨kvs, e1, e2⟩ := a.ac
  refine ⟨kvs, e1, ?_⟩
  have h1 : kvs.length = (ddI ac).length := by have := congrArg List.length e2; simpa using this
  have h2 := ddI_le ac []
  have h3 : (ddI ac).length ≤ ac.length := by rw [List.length_nil, Nat.zero_add] at h2; exact h2
  rw [← e] at h
  simp at h
  omega
section
variable {X : Cx} {ca : Nat → Addr} {fld : Nat → List Str} {Wx : WX} {cl : Nat → List D → List D → Rc}
theorem dc_of {own : List Nat} {tg : Tg} {it : Ev.It} {ifs : Ts} {elt : Ev.X} (hc : X.calm = true) (hsl : ∀ j ∈ tg.sl, j ∈ own) {σ : L2.St} {H : Hp} {Q : VK} (h : TG (gx X ca fld) Wx (rF (gx X ca fld)) (evF cl (.sdc own tg it ifs elt)) σ H Q) :
    tDc (TG (gx X ca fld) Wx (rI (gx X ca fld)) (evIt cl it)) (tgE X tg) (TG (gx X ca fld) WF rB (evTs cl ifs)) (TG (gx X ca fld) WF (rD (gx X ca fld)) (evX cl elt)) (TG (gx X ca fld) WF (rD (gx X ca fld)) (evX cl (.kb true))) own σ H
      (fun v H1 => ∃ (a : Addr) (kvs : List (Key × V)) (ks : List Int), [v] = [.ref a] ∧ Rd H1 a (.dK kvs) ∧ kvs.map (·.1) = ks.map Sum.inl ∧ ks.length < 64 ∧
        ∀ (ys : List Int) (p : Addr), ys.Perm ks → ys.Pairwise (· ≤ ·) → H1 p = none → Q (.ref p) (upd H1 p (.lst (ys.map V.int)))) := by
  obtain ⟨F, μ, m, L, h⟩ := tg_in (g := fun m => (evIt cl it m).bind fun k m =>
      (calm (compG own k (compL own (bindTg tg) (evTs cl ifs) (fun m => (evX cl elt m).bind fun d m => .ok [d] m)) m)).bind sdcM) (fun m => by rw [evF] <;> rfl) h
  refine TG.mono (Fin.bind (rel := rI (gx X ca fld)) rF_ok L h) fun J H1 ⟨k, F1, μ1, m1, L1, s1, sv, h1⟩ => ?_
  intro Dd hD
  obtain ⟨ds, m', e1, h1⟩ := Fin.calmE h1
  obtain ⟨hp, mE, e2, rfl⟩ := compG_ok e1
  unfold sdcM at h1
  cases ei : intsD ds with
  | none => rw [ei] at h1; exact h1.elim
  | some is =>
  rw [ei] at h1
  by_cases hz : ds.length ≤ sizeLine ∧ (ddI is).length < 64
  · simp only at h1
    rw [if_pos hz] at h1
    have hzi : is.length ≤ sizeLine := by rw [intsD_len ei]; exact hz.1
    have nI := plain_norl (K := X.K) (F := F1) (μ := μ1) (σ := σ) (H := H1) hp
    have n0 : NoRl ⟨F1, μ1, m1, σ, H1⟩ own := fun i hi c e => plainS_ow (List.all_eq_true.mp hp i hi) (lockR_own.mpr (.inr e))
    have a0 := (AtK.new0 L1 hD).lock k
    have q0 : Stq ⟨F1, μ1, k.lock m1, σ, H1⟩ ⟨F1, μ1, k.lock m1, σ, upd H1 Dd (.dK [])⟩ := ⟨fun _ _ e => e, List.prefix_refl _, fun i c e => ⟨e, rfl⟩⟩
    refine ⟨WcK X.K ⟨F1, μ1, m1, σ, H1⟩ ⟨F1, μ1, k.lock m1, σ, H1⟩ Dd own σ (compL own (bindTg tg) (evTs cl ifs) (fun m => (evX cl elt m).bind fun d m => .ok [d] m)) k.xs is mE,
      ⟨_, rfl, Nat.zero_le _, F1, μ1, k.lock m1, [], ds, a0.wipe n0, q0.wipe nI, by rw [List.drop_zero]; exact e2, is, ei, rfl⟩, fun i kk H2 hW => ?_⟩
    rcases hW.turn sv hsl with ⟨_, st, F2, μ2, a, s⟩ | ⟨lt, go, yl⟩
    · refine .inl ⟨st, ?_⟩
      have ab := AtK.back L1 hp n0 (Stp.refl _) a s
      obtain ⟨kvs, g1, g2⟩ := ab.ac
      refine ⟨Dd, kvs, ddI is, rfl, .inl g1, g2, hz.2, fun ys p hp1 hs hq => ?_⟩
      rw [sortI_uniq hp1 hs]
      exact (h1.step rF_ok ab.S rfl).freshL ab.L vints_rep hq
    · refine .inr ⟨go, fun H' => WcK X.K ⟨F1, μ1, m1, σ, H1⟩ ⟨F1, μ1, k.lock m1, σ, H1⟩ Dd own σ (compL own (bindTg tg) (evTs cl ifs) (fun m => (evX cl elt m).bind fun d m => .ok [d] m)) k.xs is mE (i + 1) (k.xs.length - (i + 1)) H', fun H' q => ⟨k.xs.length - (i + 1), by have := hW.1; omega, q⟩, fun x H' y => ?_⟩
      obtain ⟨F2, μ2, m2, d2, m2', L2, r2, b2, cont⟩ := yl x H' y
      refine ⟨F2, μ2, m2, d2, m2', L2, r2, b2, fun σ' L' s' hl ho => ?_⟩
      obtain ⟨hw, F3, μ3, m3, b, m4, ac, zs, js, a3, s3, et, ez0, hd, hb⟩ := cont σ' L' s' hl ho
      refine ⟨hw, F3, μ3, m3, a3.L, ?_⟩
      rw [et]
      intro b' F4 μ4 H4 L4 s4 rb
      have rb : b = b' := rb
      subst rb
      have a4 := a3.step L4 s4
      rcases hb with ⟨rfl, ys, m5, zs', ee, el, ez⟩ | ⟨rfl, el⟩
      · rw [if_pos rfl]
        obtain ⟨d, m6, e6, e7⟩ := bind_okE ee
        cases e7
        refine ⟨F4, μ4, m4, L4, ?_⟩
        rw [e6]
        intro v F5 μ5 H5 L5 s5 r5
        have a5 := a4.step L5 s5
        subst ez
        obtain ⟨i0, is', rfl, ez1, rfl⟩ := intsD_cons ez0
        have ev := rep_int r5
        subst ev
        have et : evX cl (.kb true) m5 = .ok (.bl true) m5 := by rw [evX] <;> rfl
        refine ⟨F5, μ5, m5, L5, ?_⟩
        rw [et]
        intro z F6 μ6 H6 L6 s6 r6
        have a6 := a5.step L6 s6
        obtain ⟨kvs, ek, hkl⟩ := a6.acc hd hzi
        have sq := ((s3.trans s4.q).trans s5.q).trans s6.q
        exact ⟨kvs, Sum.inl i0, rfl, ek, hkl, WcK.next n0 nI (a6.push ek) ⟨sq.fle, sq.mu, sq.rls⟩ hw lt el ez1 (by rw [← hd, List.append_assoc]; rfl)⟩
      · rw [if_neg Bool.false_ne_true]
        exact WcK.next n0 nI a4 (s3.trans s4.q) hw lt el ez0 hd
  · simp only at h1
    rw [if_neg hz] at h1
    exact h1.elim
theorem f_sdc {own : List (Str × Nat)} {tg : Tg} {it : Ev.It} {ifs : Ts} {elt : Ev.X} {tge iter kx vx : Expr} {ifsE : List Expr} {scope : Scope} {p pos pos' : Pos} (hcm : X.calm = true) (hN : X.N.Nodup) (hgl : Gl X "sorted") (hm : X.mg "sorted" = none) (ok : BlkOk X.N X.env.scope scope own) (hsl : ∀ j ∈ tg.sl, j ∈ own.map (·.2)) (hs : plainE iter = true)
    (hi : SI cl ca fld Wx X it tge iter)
    (hg : ∀ (s : Shared) (H : Hp) (C : Addr) (cl' : List (Str × Addr)) (fp : List Addr), PG (X.blk s H scope (compEnvC scope cl' C X.env) fp) tge (tgE X tg))
    (ht : ∀ (s : Shared) (H : Hp) (C : Addr) (cl' : List (Str × Addr)) (fp : List Addr), STs cl ca fld (X.blk s H scope (compEnvC scope cl' C X.env) fp) ifs ifsE)
    (hk : ∀ (s : Shared) (H : Hp) (C : Addr) (cl' : List (Str × Addr)) (fp : List Addr), SE cl ca fld WF (X.blk s H scope (compEnvC scope cl' C X.env) fp) elt kx)
    (hv : ∀ (s : Shared) (H : Hp) (C : Addr) (cl' : List (Str × Addr)) (fp : List Addr), SE cl ca fld WF (X.blk s H scope (compEnvC scope cl' C X.env) fp) (.kb true) vx) :
    SF cl ca fld Wx X (.sdc (own.map (·.2)) tg it ifs elt) (.Call (.Name "sorted" p) [.DictComp kx vx [⟨tge, iter, ifsE, 0⟩] scope pos] [] pos') :=
  PEw (pe_callB (call_sortedDI hcm) hgl hm (by decide +kernel)
    (pa_cons (pe_dc (g := tgE X tg) (tt := TG (gx X ca fld) WF rB (evTs cl ifs)) (tk := TG (gx X ca fld) WF (rD (gx X ca fld)) (evX cl elt)) (tv := TG (gx X ca fld) WF (rD (gx X ca fld)) (evX cl (.kb true))) hcm hN hi ok hg ht hk hv (fun x => fold_plain hs x)) pa_nil (star_cons rfl)) (by decide) (by decide) (star_cons rfl) (star_any rfl)) fun σ H Q h => dc_of hcm hsl h
end
end Ev

set_option Elab.async false
set_option linter.all false
set_option maxRecDepth 100000
set_option autoImplicit false
set_option maxHeartbeats 2000000
/-! Ev12g: dicts whose keys are tuples of ints, held by a slot. -/
namespace Ev
open PySem PySem.Spec PyProof.Rows L2
theorem keys_kV {is : List Int} : ((is.map Sum.inl : List Key).map kV) = is.map V.int := by
  rw [List.map_map]
  rfl
theorem mut_tup {o : Option HO} {xs : List V} (e : o = Option.some (HO.tup xs)) (h : Mut o) : False := by
  subst e
  exact h
/-- the key tuples, frozen -/
theorem freeze_keys {K : PySem.W.Frag} {μ : List Addr} {m : Ms} {σ : L2.St} {H : Hp} : ∀ {kvs : List (D × D)} {vs : List (List Key × V)} {bs : List Addr} {F0 F : Hp}, TRep K F0 μ kvs vs → IsKeys H vs bs → Lk K ⟨F, μ, m, σ, H⟩ →
    ∃ F', Lk K ⟨F', μ, m, σ, H⟩ ∧ Stp ⟨F, μ, m, σ, H⟩ ⟨F', μ, m, σ, H⟩ ∧ Reps K F' μ (kvs.map (·.1)) (bs.map V.ref)
  | _, _, _, _, F, .nil, .nil, L => ⟨F, L, Stp.refl _, .nil⟩
  | _, _, b :: bs, F0, F, .cons (is := is) (r := r) h1 t1, .cons h2 t2, L => by
    have h2 : H b = some (.tup ((is.map Sum.inl : List Key).map kV)) := h2
    rw [keys_kV] at h2
    have key : ∃ F1, Lk K ⟨F1, μ, m, σ, H⟩ ∧ Stp ⟨F, μ, m, σ, H⟩ ⟨F1, μ, m, σ, H⟩ ∧ Rep K F1 μ (.tup (is.map D.int)) (.ref b) := by
      cases e : F b with
      | some o =>
        have z : H b = some o := L.fro b o e
        rw [h2] at z
        cases z
        exact ⟨F, L, Stp.refl _, .tup (SqT.of e) vints_rep⟩
      | none =>
        have hn : ∀ x, ¬ Own ⟨F, μ, m, σ, H⟩ x b := fun x hx => mut_tup h2 (L.ownT hx).2
        have sm : Same F (upd F b (.tup (is.map V.int))) := fun a u q => by
          rw [upd_ne (fun z => by rw [z, e] at q; cases q)]; exact q
        refine ⟨upd F b (.tup (is.map V.int)), L.freeze (p := b) (o := .tup (is.map V.int)) h2 e hn, ⟨sm, List.prefix_refl _, fun _ _ q _ => q, fun p x hx => .inl ⟨x, hx⟩, fun p o q => ?_, fun _ q => q, fun _ _ q => ⟨q, rfl⟩⟩, .tup (SqT.of upd_same) vints_rep⟩
        by_cases z : p = b
        · subst z; exact .inr (.inr (.inr ⟨_, h2⟩))
        · have q : upd F b (.tup (is.map V.int)) p = some o := q
          rw [upd_ne z] at q
          exact .inl (by show F p ≠ none; rw [q]; simp)
    obtain ⟨F1, L1, s1, r1⟩ := key
    obtain ⟨F2, L2, s2, r2⟩ := freeze_keys t1 t2 L1
    exact ⟨F2, L2, s1.trans s2, .cons (r1.mono s2.fle s2.mu) r2⟩
section
variable {X : Cx} {ca : Nat → Addr} {fld : Nat → List Str} {Wx : WX} {cl : Nat → List D → List D → Rc}
theorem call_srttE (hc : X.calm = true) (hu : X.A.units + 64 < cLine) : CallR X (.builtin "sorted") (fun xs H Q => ∃ x, xs = [x] ∧ rHP (gx X ca fld) Wx (rF (gx X ca fld)) srttM x H Q) := by
  intro pins s σ H xs us Q I rx h
  obtain ⟨x, e, F, μ, m, σ', w0, hv, L, rh, hf⟩ := h
  subst e
  unfold srttM at hf
  split at hf
  · rename_i kvs e1
    by_cases hk : sortOk (kvs.map (·.1)) = true
    · rw [if_pos hk] at hf
      obtain ⟨p, rfl, cd⟩ := view_of L rh e1
      obtain ⟨vs, hp, tr⟩ := cd.t
      obtain ⟨k1, k2, hal, hso⟩ := sort_ok hk
      obtain ⟨z, hs, ks, pr, o, es, ep, ho, hx, hdt, he, hn⟩ := (show ObjOk X.prog X.w H s.heap p (.dT vs) from I.hok p _ hp)
      have l1 : es.size = ks.length := size_of_entries he
      have l2 : vs.length = ks.length := Paired.length pr
      obtain ⟨F2, L2, s2, rk⟩ := freeze_keys tr (isKeys_of pr) L
      have hyl : (kvs.map (·.1)).length = ks.length := by rw [List.length_map, tr.length, l2]
      rw [Vals.ref1 rx]
      refine Calls.call_function_entry PyProof.Rows.kind_sorted PyProof.Rows.plain_sorted PyProof.Rows.entry_sorted (PyProof.Rows.args_sorted1 _) ?_
      unfold Builtin.«sorted»
      refine wpAny_bind (m := checkCount "sorted" 1 1 _) (wpAny_pure ?_)
      refine wpAny_bind (PySem.W.kdu_collect (A := X.A.in1) (kdl_raw hs hx hdt) (I.ok.hd hc) ho (by omega) fun h' tk acc hkp it => ?_)
      have ea : acc.toList = ks.map fun x => Value.ref x.2.1 := by
        have hl : acc.toList.length = ks.length := by rw [Array.length_toList, it.1]; exact l1
        apply List.ext_getElem?
        intro j
        rw [List.getElem?_map]
        cases hj : acc.toList[j]? with
        | none =>
          have h1 := List.getElem?_eq_none_iff.mp hj
          rw [List.getElem?_eq_none (by omega)]
          all_goals rfl
        | some v =>
          obtain ⟨en, hen, hv⟩ := it.2 j v (by rw [← Array.getElem?_toList]; exact hj)
          have qe := entry_at he j
          rw [hen] at qe
          cases hb : ks[j]? with
          | none =>
            rw [hb] at qe
            exact nomatch (show some en = none from qe)
          | some b =>
            rw [hb] at qe
            have e2 : en = entryOfKey (tupleKind (mixKind X.prog X.w)) b := Option.some.inj qe
            rw [hv, e2]
            all_goals rfl
      have rv : Vals ((ks.map fun x => x.2.1).map V.ref) acc.toList := by
        have eb : acc.toList = (ks.map fun x => x.2.1).map Value.ref := by rw [ea, List.map_map]; all_goals rfl
        rw [eb]
        exact vals_refs _
      have I1 : Inv X pins σ H { s with heap := h', toks := tk } := I.kept hkp
      have hal2 : acc.toList.length = ks.length := by rw [ea, List.length_map]
      refine wpAny_bind (wpAny_newList ?_ (by rw [hal2]; omega))
      have hoL : (h'.push (seqObj "list" acc.toList.toArray 0)).get? h'.objs.size = some (seqObj "list" acc.toList.toArray 0) := Heap.get?_push_size _ rfl
      show wpAny _ _ _ _ _ { s with heap := h'.push (seqObj "list" acc.toList.toArray 0), toks := tk }
      have er : PySem.W.EachIs (fun (v : Value) (b : D × V) => ∃ as, Reads (h'.push (seqObj "list" acc.toList.toArray 0)) v b.1.py as ∧ h'.objs.size ∉ as) acc.toList ((kvs.map (·.1)).zip ((ks.map fun x => x.2.1).map V.ref)) :=
        (each_reads I1 L2.fro k1 rk rv).mono fun v b ⟨as, r⟩ => ⟨as, PyProof.Rows.Reads.keeps (fun b u e => Heap.get?_push_of_some _ e) r, fun hm => by
          obtain ⟨o, e⟩ := PyProof.On.reads_mem_get r _ hm
          exact absurd (Heap.lt_size e) (Nat.lt_irrefl _)⟩
      have hzl : ((kvs.map (·.1)).zip ((ks.map fun x => x.2.1).map V.ref)).length = ks.length := by rw [List.length_zip, hyl, List.length_map, List.length_map, Nat.min_self]
      have zf := zip_fst rk
      have zr := zip_reps rk
      have ae0 : ∀ (z : List (D × V)) (ys : List D), z.map (·.1) = ys → (z.map fun b : D × V => b.1.py) = ys.map D.py := fun z ys e => by
        rw [← e, List.map_map]
        rfl
      have ae := ae0 _ _ zf
      refine wpAny_bind (wpAny_holding (PySem.W.list_sort_data (s := { s with heap := h'.push (seqObj "list" acc.toList.toArray 0), toks := tk }) (enc := fun b : D × V => b.1.py) (R := PRel) hoL (each_zip rk rv) er (by rw [ae]; exact hal) (by rw [ae]; exact hso) (by rw [hzl]; omega) (fun b hb => ?_) fun out h1 h2' => ?_))
      · obtain ⟨_, hm⟩ := zr b hb
        have hd := D.py_dep b.1 (D.pls_mem k1 b.1 hm)
        have := deps_ge hm
        show X.A.units + 1 + 1 + b.1.py.depth < cLine
        omega
      · obtain ⟨e', he'⟩ := PyProof.Rows.sortedHeap_at (vs := acc.toList) (out := out.toArray) hoL
        have hms : (((kvs.map (·.1)).zip ((ks.map fun x => x.2.1).map V.ref)).mergeSort (PySem.W.dataLe false fun b : D × V => b.1.py)).map (·.1) = sortL (kvs.map (·.1)) := by
          have hm := List.map_mergeSort (r := PySem.W.dataLe false fun b : D × V => b.1.py) (s := PySem.W.dataLe false D.py) (f := fun b : D × V => b.1) (l := (kvs.map (·.1)).zip ((ks.map fun x => x.2.1).map V.ref)) (fun a _ b _ => rfl)
          rw [zf] at hm
          exact hm
        have hmem : ∀ b ∈ ((kvs.map (·.1)).zip ((ks.map fun x => x.2.1).map V.ref)).mergeSort (PySem.W.dataLe false fun b : D × V => b.1.py), Rep X.K F2 μ b.1 b.2 := fun b hb => (zr b (List.mem_mergeSort.mp hb)).1
        have hr := reps_of hmem
        rw [hms] at hr
        have hol : ((((kvs.map (·.1)).zip ((ks.map fun x => x.2.1).map V.ref)).mergeSort (PySem.W.dataLe false fun b : D × V => b.1.py)).map (·.2)).length ≤ sizeLine := by
          rw [List.length_map, List.length_mergeSort, hzl]
          omega
        have hH : H h'.objs.size = none := I1.hok.fresh (Nat.le_refl _)
        refine wpAny_pure ⟨_, rfl, .ref h'.objs.size, upd H h'.objs.size (.lst ((((kvs.map (·.1)).zip ((ks.map fun x => x.2.1).map V.ref)).mergeSort (PySem.W.dataLe false fun b : D × V => b.1.py)).map (·.2))), I1.laid (t' := tk) (fun b u e => ?_) (Nat.le_refl _)
          (show ObjOk X.prog X.w _ _ _ (.lst _) from ⟨hol, out, e', each_snd h2', he'⟩), rfl, (hf.step rF_ok s2 rfl).freshL L2 hr hH⟩
        have hb : b < h'.objs.size := Heap.lt_size e
        rw [PyProof.Rows.sortedHeap_old (Nat.ne_of_lt hb) (by rw [size_push']; exact Nat.lt_succ_of_lt hb)]
        exact Heap.get?_push_of_some _ e
    · rw [if_neg hk] at hf
      exact hf.elim
  · exact hf.elim
theorem f_srtt {j : Nat} {e : Expr} {p pos : Pos} (hcm : X.calm = true) (hu : X.A.units + 64 < cLine) (hg : Gl X "sorted") (hm : X.mg "sorted" = none) (hp : plainE e = true) (hc : SH cl ca fld Wx X (.o j) e) : SF cl ca fld Wx X (.srtt j) (.Call (.Name "sorted" p) [e] [] pos) :=
  PEw (pe_callB (call_srttE (ca := ca) (fld := fld) (Wx := Wx) hcm hu) hg hm (by decide +kernel) (one_arg hp hc) (by decide) (by decide) (star_cons hp) (star_any rfl)) fun σ H Q h => by
    obtain ⟨F, μ, m, L, h⟩ := tg_in (g := fun m => (evH cl (.o j) m).bind srttM) (fun m => by rw [evF] <;> rfl) h
    exact TG.mono (Fin.bind (rel := rH (gx X ca fld)) rF_ok L h) fun v H1 ⟨d, F1, μ1, m1, L1, s1, r1, h1⟩ => ⟨v, rfl, F1, μ1, m1, σ, _, d, L1, r1, h1⟩
theorem s_odt {i : Nat} {y : Str} {py dp pos : Pos} (hN : X.N.Nodup) (n : Nm X i y) : SS cl ca fld Wx X (.odt i) (.Assign [.Name y py] (.Dict [] [] dp) pos) :=
  PSw (ps_set hN n.hi n.hx pe_dnewT (swapsF rfl) n.hf) fun D σ H hh => by
    obtain ⟨F, μ, m, L, hh⟩ := fs_in (g := fun m => (putOw i (.dic [(.non, .non)]) m).bind fun _ m => .ok .nx m) (fun m => by rw [evS] <;> rfl) hh
    intro p hp
    obtain ⟨L1, s1⟩ := L.fresh (o := .dT []) hp
    obtain ⟨m2, e2, h2⟩ := bindR_ok putOw_nx hh
    obtain ⟨L2, s2⟩ := putOw_ok L1 s1 hp (L.free hp) (fun x q => L.notOwn hp x (by cases x <;> exact q)) (show Con X.K F μ (.dic [(.non, .non)]) p (upd H p (.dT []) p) from .inr (.inl ⟨[], [], rfl, upd_same, .nil⟩)) e2
    exact h2 F μ _ _ L2 s2
theorem dptM_nx {h : HV} {ks : List D} {d : D} {m : Ms} : ∀ e m', dptM h ks d m ≠ .exc e m' := fun e m' h => by
  unfold dptM at h
  split at h
  · split at h
    · split at h
      · split at h <;> cases h
      · cases h
    · cases h
  · cases h
end
theorem tup_int_inj {is js : List Int} (h : D.tup (js.map D.int) = D.tup (is.map D.int)) : js = is := by
  injection h with h
  exact List.map_inj_right (fun a b e => by cases e; rfl) |>.mp h
theorem inl_inj {is js : List Int} (h : (js.map Sum.inl : List Key) = is.map Sum.inl) : js = is :=
  List.map_inj_right (fun a b e => by cases e; rfl) |>.mp h
theorem trep_any {K : PySem.W.Frag} {F : Hp} {μ : List Addr} {is : List Int} {r : List (D × D)} {s : List (List Key × V)} (h : TRep K F μ r s) : (r.any fun kv => decide (kv.1 = D.tup (is.map D.int))) = s.any fun kv => decide (kv.1 = (is.map Sum.inl : List Key)) := by
  induction h with
  | nil => rfl
  | @cons js e v r s h1 _ ih =>
    rw [List.any_cons, List.any_cons, ih]
    congr 1
    by_cases q : js = is
    · subst q; simp
    · have h1 : ¬ (D.tup (js.map D.int) = D.tup (is.map D.int)) := fun z => q (tup_int_inj z)
      have h2 : ¬ ((js.map Sum.inl : List Key) = is.map Sum.inl) := fun z => q (inl_inj z)
      rw [decide_eq_false h1, decide_eq_false h2]
theorem trep_repl {K : PySem.W.Frag} {F : Hp} {μ : List Addr} {is : List Int} {d : D} {v : V} (rd : Rep K F μ d v) {r : List (D × D)} {s : List (List Key × V)} (h : TRep K F μ r s) : TRep K F μ (r.map fun kv => if kv.1 = D.tup (is.map D.int) then (kv.1, d) else kv) (s.map fun kv => if kv.1 = (is.map Sum.inl : List Key) then (kv.1, v) else kv) := by
  induction h with
  | nil => exact .nil
  | @cons js e u r s h1 _ ih =>
    rw [List.map_cons, List.map_cons]
    by_cases q : js = is
    · subst q
      rw [if_pos rfl, if_pos rfl]
      exact .cons rd ih
    · have g1 : ¬ (D.tup (js.map D.int) = D.tup (is.map D.int)) := fun z => q (tup_int_inj z)
      have g2 : ¬ ((js.map Sum.inl : List Key) = is.map Sum.inl) := fun z => q (inl_inj z)
      rw [if_neg g1, if_neg g2]
      exact .cons h1 ih
theorem trep_snoc {K : PySem.W.Frag} {F : Hp} {μ : List Addr} {is : List Int} {d : D} {v : V} (rd : Rep K F μ d v) {r : List (D × D)} {s : List (List Key × V)} (h : TRep K F μ r s) : TRep K F μ (r ++ [(.tup (is.map D.int), d)]) (s ++ [(is.map Sum.inl, v)]) := by
  induction h with
  | nil => exact .cons rd .nil
  | cons h1 _ ih => exact .cons h1 ih
theorem trep_put {K : PySem.W.Frag} {F : Hp} {μ : List Addr} {is : List Int} {d : D} {v : V} (rd : Rep K F μ d v) {r : List (D × D)} {s : List (List Key × V)} (h : TRep K F μ r s) : TRep K F μ (putKD r (.tup (is.map D.int)) d) (putK s (is.map Sum.inl) v) := by
  unfold putKD putK
  rw [trep_any h]
  split
  · exact trep_repl rd h
  · exact trep_snoc rd h
theorem intsD_eq : ∀ {ds : List D} {is : List Int}, intsD ds = some is → ds = is.map D.int
  | [], is, h => by cases h; rfl
  | d :: r, is, h => by
    obtain ⟨i, is', rfl, h2, rfl⟩ := intsD_cons h
    rw [intsD_eq h2]
    rfl
theorem reps_intsT {K : PySem.W.Frag} {F : Hp} {μ : List Addr} : ∀ {is : List Int} {vs : List V}, Reps K F μ (is.map D.int) vs → vs = is.map V.int
  | [], _, .nil => rfl
  | i :: is, _, .cons h t => by
    rw [rep_int h, reps_intsT t]
    rfl
section
variable {X : Cx} {ca : Nat → Addr} {fld : Nat → List Str} {Wx : WX} {cl : Nat → List D → List D → Rc}
theorem s_dpt {j : Nat} {x : Ev.X} {es : Ev.Xs} {l : List Expr} {kk : Nat} {o e : Expr} {kpos tpos pos : Pos} (hu : X.A.units + 64 < cLine) (hc : SH cl ca fld Wx X (.o j) o) (hi : SA cl ca fld Wx X es l) (hx : SE cl ca fld Wx X x e) :
    SS cl ca fld Wx X (.dpt j es x) (.Assign [.Subscript o (.Tuple l kk kpos) tpos] e pos) :=
  PSw (ps_dput (by omega) hc (pe_tup hi) hx (swapsWith_sub (e := e))) fun De σ H h => by
    obtain ⟨F, μ, m, L, h⟩ := fs_in (g := fun m => (evX cl x m).bind fun d m => (evH cl (.o j) m).bind fun h m => (evXs cl es m).bind fun ks m => (dptM h ks d m).bind fun _ m => .ok .nx m) (fun m => by rw [evS] <;> rfl) h
    refine TG.mono (FinS.bind (rel := rD (gx X ca fld)) L h) fun v H1 ⟨d, F1, μ1, m1, L1, s1, r1, h1⟩ => ?_
    refine TG.mono (FinS.bind (rel := rH (gx X ca fld)) L1 h1) fun o H2 ⟨hv, F2, μ2, m2, L2, s2, r2, h2⟩ => ?_
    refine TG.mono (FinS.bind (rel := rDs (gx X ca fld)) L2 h2) fun us H3 ⟨kd, F3, μ3, m3, L3, s3, r3, h3⟩ => ?_
    obtain ⟨m4, e4, h4⟩ := bindR_ok dptM_nx h3
    have r2' := rH.later r2 s3 rfl
    have r1' := Rep.mono (s2.trans s3).fle (s2.trans s3).mu r1
    cases hv with
    | val _ => exact nomatch e4
    | sl j' =>
      unfold dptM at e4
      simp only at e4
      split at e4
      · rename_i kvs hcj
        split at e4
        · rename_i is hi'
          split at e4
          · rename_i hlen
            cases e4
            have hkd := intsD_eq hi'
            subst hkd
            have hus := reps_intsT r3
            subst hus
            have hul : (is.map V.int).length ≤ sizeLine := by rw [List.length_map]; have := sizeLine_eq; omega
            refine ⟨hul, fun q hq => ?_⟩
            obtain ⟨L4, s4⟩ := L3.newF (o := .tup (is.map V.int)) hq
            have r1'' := Rep.mono s4.fle s4.mu r1'
            obtain ⟨p, g1, g2, g3⟩ := L4.own j' (.dic ((.non, .non) :: kvs)) (.inl hcj)
            have g1 : σ[j']? = some (some (V.ref p)) := g1
            have r2' : σ[j']? = some (some o) := r2'
            rw [r2'] at g1
            cases g1
            obtain ⟨vs, g4, g5⟩ := ConD.t g3
            have g4 : (upd H3 q (.tup (is.map V.int))) p = some (.dT vs) := g4
            have gq : (upd H3 q (.tup (is.map V.int))) q = some (.tup ((is.map Sum.inl : List Key).map kV)) := by rw [keys_kV]; exact upd_same
            have hl := (List.getElem?_eq_some_iff.mp hcj).1
            have up := L4.upd_at (x0 := .inl j') (p := p) (o := .dT (putK vs (is.map Sum.inl) v)) (m' := { m3 with ρ := m3.ρ.set j' (.ow (.dic ((.non, .non) :: putKD kvs (.tup (is.map Ev.D.int)) d))) }) ⟨⟨_, .inl hcj⟩, r2'⟩ (by simp) rfl (fun a d' ej => ?_) (fun a c' hj => ?_) (fun a c' hj => ?_) (fun n c' hn => .inr ⟨by simp, hn⟩)
            · exact ⟨p, _, rfl, (DPut.t (v := v) g4 gq (by rw [← g5.length]; exact hlen.1)), h4 _ μ3 σ _ up.1 (s4.trans up.2)⟩
            · rcases get_set ej with ⟨_, z, _⟩ | ⟨_, z⟩
              · cases z
              · exact z
            · rcases hj with hj | hj
              · rcases get_set hj with ⟨rfl, z, _⟩ | ⟨ne, z⟩
                · cases z
                  exact .inl ⟨rfl, (show ConD X.K _ μ3 _ _ _ from .inr (.inl ⟨_, _, rfl, rfl, trep_put r1'' g5⟩)), _, .inl hcj⟩
                · exact .inr ⟨fun q => ne (Sum.inl.inj q).symm, .inl z⟩
              · rcases get_set hj with ⟨_, z, _⟩ | ⟨ne, z⟩
                · cases z
                · exact .inr ⟨fun q => ne (Sum.inl.inj q).symm, .inr z⟩
            · have ne : j' ≠ a := fun q => by
                subst q
                rw [hcj] at hj
                cases hj
              show (m3.ρ.set j' _)[a]? = _
              rw [List.getElem?_set_ne ne]
              exact hj
          · cases e4
        · cases e4
      · cases e4
end
end Ev

set_option Elab.async false
set_option linter.all false
set_option maxRecDepth 100000
set_option autoImplicit false
set_option maxHeartbeats 2000000
/-! Ev12u: dicts of any keys, held by a slot. -/
namespace Ev
open PySem PySem.Spec PyProof.Rows L2
theorem uok_nil {a : Addr} (h : (a == sysModules) = false) : UOk [] a := ⟨List.nodup_nil, ⟨true, fun kv hkv => nomatch hkv⟩, h, Nat.zero_le _⟩
/-- one more key of a comprehension -/
def udStep (o : Option (List (D × D))) (p : D) : Option (List (D × D)) := match o, p with
  | some kvs, .tup [k, d] => if uok k && sameK kvs k && decide (kvs.length < 1000000) then some (putKD kvs k d) else none
  | _, _ => none
theorem udcM_eq {ps : List D} {m : Ms} : udcM ps m = (ps.foldl udStep (some [])).elim .bad fun kvs => .ok (uD kvs) m := rfl
theorem udStep_none : ∀ ps : List D, ps.foldl udStep none = none
  | [] => rfl
  | p :: ps => by rw [List.foldl_cons]; exact udStep_none ps
theorem udStep_some {ac ds : List (D × D)} {p : D} {zs : List D} (h : (p :: zs).foldl udStep (some ac) = some ds) : ∃ k d, p = .tup [k, d] ∧ uok k = true ∧ sameK ac k = true ∧ ac.length < 1000000 ∧ zs.foldl udStep (some (putKD ac k d)) = some ds := by
  rw [List.foldl_cons] at h
  cases q : udStep (some ac) p with
  | none => rw [q, udStep_none] at h; cases h
  | some kv =>
    rw [q] at h
    unfold udStep at q
    split at q
    · rename_i kvs k d e1
      cases e1
      split at q
      · rename_i hk
        simp only [Bool.and_eq_true, decide_eq_true_eq] at hk
        cases q
        exact ⟨k, d, rfl, hk.1.1, hk.1.2, hk.2, h⟩
      · cases q
    · cases q
/-! ### a block's state -/
structure AtU (K : PySem.W.Frag) (w0 : Wd) (Dd : Addr) (ac : List (D × D)) (w : Wd) : Prop where
  L : Lk K w
  S : Stp w0 w
  new : w0.H Dd = none
  fr : w.F Dd = none
  no : ∀ x, ¬ Own w x Dd
  ac : ∃ es, w.H Dd = some (uHO Dd es) ∧ Kvs K w.F w.μ ac es.toList ∧ UOk ac Dd
section
variable {K : PySem.W.Frag} {F F' : Hp} {μ μ' : List Addr} {m m' : Ms} {σ σ' : L2.St} {H H' : Hp} {w0 w w' wI : Wd} {Dd : Addr} {ac : List (D × D)} {own : List Nat}
theorem AtU.step (a : AtU K w0 Dd ac w) (L : Lk K w') (s : Stp w w') : AtU K w0 Dd ac w' := by
  obtain ⟨es, e1, e2, e3⟩ := a.ac
  refine ⟨L, a.S.trans s, a.new, ?_, fun x hx => ?_, es, s.keep _ _ e1 a.no, e2.mono s.fle s.mu, e3⟩
  · cases q : w'.F Dd with
    | none => rfl
    | some o =>
      rcases s.fnew _ _ q with z | z | ⟨y, z⟩ | ⟨_, z⟩
      · exact absurd a.fr z
      · rw [z] at e1; cases e1
      · exact absurd z (a.no y)
      · rw [z] at e1; cases e1
  · rcases s.own _ x hx with ⟨y, z⟩ | z
    · exact a.no y z
    · rw [z] at e1; cases e1
theorem AtU.slots {ρ : List Sl} (a : AtU K w0 Dd ac ⟨F, μ, m, σ, H⟩) (L : Lk K ⟨F, μ, { m with ρ := ρ }, σ', H⟩) (hw : ∀ (i : Nat) (c : D), ρ[i]? = some (Sl.ow c) ∨ ρ[i]? = some (Sl.rl c) → (m.ρ[i]? = some (Sl.ow c) ∨ m.ρ[i]? = some (Sl.rl c)) ∧ σ'[i]? = σ[i]?)
    (hr : ∀ (i : Nat) (c : D), w0.m.ρ[i]? = some (Sl.rl c) → ρ[i]? = some (Sl.rl c) ∧ σ'[i]? = w0.σ[i]?) : AtU K w0 Dd ac ⟨F, μ, { m with ρ := ρ }, σ', H⟩ := by
  have up : ∀ x q, Own ⟨F, μ, { m with ρ := ρ }, σ', H⟩ x q → Own ⟨F, μ, m, σ, H⟩ x q := fun x q hx => by
    cases x with
    | inr n => exact hx
    | inl i =>
      obtain ⟨⟨c, hc⟩, hs⟩ := hx
      obtain ⟨h1, h2⟩ := hw i c hc
      exact ⟨⟨c, h1⟩, by rw [← h2]; exact hs⟩
  exact ⟨L, ⟨a.S.fle, a.S.mu, a.S.keep, fun p x hx => a.S.own p x (up x p hx), a.S.fnew, a.S.there, hr⟩, a.new, a.fr, fun x hx => a.no x (up x _ hx), a.ac⟩
theorem AtU.push {kv' : List (D × D)} {es es' : Array DictEntry} (a : AtU K w0 Dd ac ⟨F, μ, m, σ, H⟩) (e : H Dd = some (uHO Dd es)) (q : Kvs K F μ kv' es'.toList) (u : UOk kv' Dd) : AtU K w0 Dd kv' ⟨F, μ, m, σ, upd H Dd (uHO Dd es')⟩ := by
  have L := a.L
  have nf : F Dd = none := a.fr
  have keepO : ∀ (x : Nat ⊕ Nat) (p : Addr), Own ⟨F, μ, m, σ, H⟩ x p → upd H Dd (uHO Dd es') p = H p := fun x p hx => upd_ne fun z => a.no x (z ▸ hx)
  refine ⟨⟨fun b o q => ?_, L.len, L.mul, L.val, fun j c q => ?_, fun n c q => ?_, fun x y p hx hy => L.inj x y p hx hy⟩, ⟨a.S.fle, a.S.mu, fun p o q hn => ?_, fun p x hx => a.S.own p x hx, a.S.fnew, fun p q => ?_, a.S.rls⟩, a.new, a.fr, fun x hx => a.no x hx, _, upd_same, q, u⟩
  · show upd H Dd _ b = some o
    have q : F b = some o := q
    rw [upd_ne (fun z => by rw [z, nf] at q; cases q)]
    exact L.fro b o q
  · obtain ⟨p, q1, q2, q3⟩ := L.own _ c q
    refine ⟨p, q1, q2, ?_⟩
    show Con K F μ c p (upd H Dd _ p)
    rw [keepO (.inl _) p ⟨⟨c, q⟩, q1⟩]; exact q3
  · obtain ⟨p, q1, q2, q3⟩ := L.sto n c q
    refine ⟨p, q1, q2, ?_⟩
    show ConL K F μ c p (upd H Dd _ p)
    rw [keepO (.inr n) p q1]; exact q3
  · show upd H Dd _ p = some o
    have nw : w0.H Dd = none := a.new
    rw [upd_ne (fun z => by rw [z, nw] at q; cases q)]
    exact a.S.keep p o q hn
  · have q : upd H Dd (uHO Dd es') p = none := q
    by_cases z : p = Dd
    · subst z; rw [upd_same] at q; cases q
    · rw [upd_ne z] at q; exact a.S.there p q
theorem AtU.wipe (a : AtU K w0 Dd ac ⟨F, μ, m, σ, H⟩) (h0 : NoRl w0 own) : AtU K w0 Dd ac ⟨F, μ, { m with ρ := wipeR m.ρ own }, L2.wipe σ own, H⟩ := by
  refine a.slots (a.L.wipe own) (fun i c e => ?_) fun i c e => ?_
  · have z : i ∉ own := fun z => by
      rcases e with e | e
      · have := wipeR_in z e; cases this
      · have := wipeR_in z e; cases this
    rw [wipeR_out z] at e
    exact ⟨e, wipe_out' z⟩
  · have z : i ∉ own := fun z => h0 i z c e
    obtain ⟨e1, e2⟩ := a.S.rls i c e
    exact ⟨by rw [wipeR_out z]; exact e1, by rw [wipe_out' z]; exact e2⟩
end
theorem AtU.back {K : PySem.W.Frag} {w0 : Wd} {Dd : Addr} {F F' : Hp} {μ μ' : List Addr} {m mE : Ms} {σ : L2.St} {H H' : Hp} {k : Wk} {own : List Nat} {ds : List (D × D)} (L : Lk K ⟨F, μ, m, σ, H⟩) (hp : own.all (plainS (k.lock m).ρ) = true) (h0 : NoRl w0 own)
    (s0 : Stp w0 ⟨F, μ, m, σ, H⟩) (a : AtU K w0 Dd ds ⟨F', μ', { mE with ρ := wipeR mE.ρ own }, L2.wipe σ own, H'⟩) (s : Stq ⟨F, μ, k.lock m, σ, H⟩ ⟨F', μ', { mE with ρ := wipeR mE.ρ own }, L2.wipe σ own, H'⟩) :
    AtU K w0 Dd ds ⟨F', μ', k.unlock m.ρ { mE with ρ := backR mE.ρ m.ρ own }, σ, H'⟩ := by
  have pl : ∀ (i : Nat) (c : D), i ∈ own → ¬ (m.ρ[i]? = some (Sl.ow c) ∨ m.ρ[i]? = some (Sl.rl c)) := fun i c hi e =>
    plainS_ow (List.all_eq_true.mp hp i hi) (lockR_own.mpr e)
  have inb : ∀ {i : Nat} {s : Sl}, i ∈ own → s ≠ .un → (backR mE.ρ m.ρ own)[i]? = some s → m.ρ[i]? = some s := fun {i s} hi hs e => by
    have z := backR_in hi e
    cases q : m.ρ[i]? with
    | none => rw [q] at z; exact absurd z hs
    | some u => rw [q] at z; rw [z]; rfl
  have ow : ∀ (i : Nat) (c : D), (backR mE.ρ m.ρ own)[i]? = some (Sl.ow c) ∨ (backR mE.ρ m.ρ own)[i]? = some (Sl.rl c) → i ∉ own := fun i c e z => by
    rcases e with e | e
    · exact pl i c z (.inl (inb z (by simp) e))
    · exact pl i c z (.inr (inb z (by simp) e))
  have sameO : ∀ (i : Nat), i ∉ own → (backR mE.ρ m.ρ own)[i]? = (wipeR mE.ρ own)[i]? := fun i z => by rw [backR_out z, wipeR_out z]
  have La := a.L
  have lb : Lk K ⟨F', μ', { mE with ρ := backR mE.ρ m.ρ own }, σ, H'⟩ := by
    refine ⟨La.fro, ?_, La.mul, fun i d e => ?_, fun i c e => ?_, La.sto, fun x y q qx qy => ?_⟩
    · have := La.len
      simp only [wipeR_len, wipe_length] at this
      simpa [backR_len] using this
    · by_cases z : i ∈ own
      · have e1 := inb z (by simp) e
        obtain ⟨v, e2, e3⟩ := L.val i d e1
        exact ⟨v, e2, e3.mono s.fle s.mu⟩
      · rw [sameO i z] at e
        obtain ⟨v, e2, e3⟩ := La.val i d e
        exact ⟨v, by have e2 : (L2.wipe σ own)[i]? = _ := e2; rw [wipe_out' z] at e2; exact e2, e3⟩
    · have z := ow i c e
      rw [sameO i z] at e
      obtain ⟨p, e2, e3⟩ := La.own i c e
      exact ⟨p, by have e2 : (L2.wipe σ own)[i]? = _ := e2; rw [wipe_out' z] at e2; exact e2, e3⟩
    · have up : ∀ x, Own ⟨F', μ', { mE with ρ := backR mE.ρ m.ρ own }, σ, H'⟩ x q → Own ⟨F', μ', { mE with ρ := wipeR mE.ρ own }, L2.wipe σ own, H'⟩ x q := fun x hx => by
        cases x with
        | inr n => exact hx
        | inl i =>
          obtain ⟨⟨c, hc⟩, hs⟩ := hx
          have z := ow i c hc
          rw [sameO i z] at hc
          exact ⟨⟨c, hc⟩, by show (L2.wipe σ own)[i]? = _; rw [wipe_out' z]; exact hs⟩
      exact La.inj x y q (up x qx) (up y qy)
  have ab : AtU K w0 Dd ds ⟨F', μ', { mE with ρ := backR mE.ρ m.ρ own }, σ, H'⟩ :=
    AtU.slots (m := { mE with ρ := wipeR mE.ρ own }) a lb (fun i c e => by
      have z := ow i c e
      rw [sameO i z] at e
      exact ⟨e, (wipe_out' z).symm⟩) fun i c e => by
        have z : i ∉ own := fun z => h0 i z c e
        obtain ⟨e1, e2⟩ := a.S.rls i c e
        have e2 : (L2.wipe σ own)[i]? = w0.σ[i]? := e2
        rw [wipe_out' z] at e2
        exact ⟨by rw [sameO i z]; exact e1, e2⟩
  have sb : Stq ⟨F, μ, k.lock m, σ, H⟩ ⟨F', μ', { mE with ρ := backR mE.ρ m.ρ own }, σ, H'⟩ := ⟨s.fle, s.mu, fun i c e => by
    have z : i ∉ own := fun z => plainS_ow (List.all_eq_true.mp hp i z) (.inr e)
    obtain ⟨e1, e2⟩ := s.rls i c e
    exact ⟨by show (backR mE.ρ m.ρ own)[i]? = _; rw [sameO i z]; exact e1, rfl⟩⟩
  have s0r : ∀ (i : Nat) (c : D), w0.m.ρ[i]? = some (Sl.rl c) → m.ρ[i]? = some (Sl.rl c) := fun i c e => (s0.rls i c e).1
  have su := ab.S.unlock s0r sb
  refine ⟨ab.L.unlock sb, su, ab.new, ab.fr, fun x hx => ab.no x (own_slots (unlock_own sb) hx), ab.ac⟩

/-- the state ahead of turn i -/
def WcU (K : PySem.W.Frag) (w0 wI : Wd) (Dd : Addr) (own : List Nat) (σ : L2.St) (lp : List D → Ms → R (List D)) (xs : List D) (ds : List (D × D)) (mE : Ms) (i k : Nat) (H : Hp) : Prop :=
  k = xs.length - i ∧ i ≤ xs.length ∧ ∃ F μ m ac zs, AtU K w0 Dd ac ⟨F, μ, { m with ρ := wipeR m.ρ own }, wipe σ own, H⟩ ∧ Stq wI ⟨F, μ, { m with ρ := wipeR m.ρ own }, wipe σ own, H⟩ ∧ lp (xs.drop i) m = .ok zs mE ∧ zs.foldl udStep (some ac) = some ds
section
variable {X : Cx} {w0 wI : Wd} {Dd : Addr} {own : List Nat} {σ : L2.St} {tg : Tg} {ts : Ms → R Bool} {elt : Ms → R (List D)} {xs : List D} {ds : List (D × D)} {mE : Ms} {i k : Nat} {H : Hp} {J : L2.It}
theorem WcU.next {F : Hp} {μ : List Addr} {m : Ms} {σ2 : L2.St} {ac : List (D × D)} {zs : List D} {lp : List D → Ms → R (List D)} (h0 : NoRl w0 own) (hI : NoRl wI own) (a : AtU X.K w0 Dd ac ⟨F, μ, m, σ2, H⟩) (s : Stq wI ⟨F, μ, m, σ2, H⟩) (hw : wipe σ2 own = wipe σ own) (hi : i < xs.length)
    (hl : lp (xs.drop (i + 1)) m = .ok zs mE) (hd : zs.foldl udStep (some ac) = some ds) : WcU X.K w0 wI Dd own σ lp xs ds mE (i + 1) (xs.length - (i + 1)) H := by
  have a' := a.wipe h0
  have s' := s.wipe (H' := H) hI
  rw [hw] at a' s'
  exact ⟨rfl, hi, F, μ, m, ac, zs, a', s', hl, hd⟩
theorem WcU.turn (sv : Srv X.K J xs wI) (hsl : ∀ j ∈ tg.sl, j ∈ own) (h : WcU X.K w0 wI Dd own σ (compL own (bindTg tg) ts elt) xs ds mE i k H) :
    (i = xs.length ∧ J.stop i H ∧ ∃ F μ, AtU X.K w0 Dd ds ⟨F, μ, { mE with ρ := wipeR mE.ρ own }, wipe σ own, H⟩ ∧ Stq wI ⟨F, μ, { mE with ρ := wipeR mE.ρ own }, wipe σ own, H⟩) ∨
    (i < xs.length ∧ J.go i H ∧ ∀ x H', J.yld i H x H' → tgE X tg x (wipe σ own) H' fun σ2 H2 => wipe σ2 own = wipe σ own ∧ ∃ F μ m b m2 ac zs, AtU X.K w0 Dd ac ⟨F, μ, m, σ2, H2⟩ ∧ Stq wI ⟨F, μ, m, σ2, H2⟩ ∧ ts m = .ok b m2 ∧ zs.foldl udStep (some ac) = some ds ∧
      ((b = true ∧ ∃ ys m3 zs', elt m2 = .ok ys m3 ∧ compL own (bindTg tg) ts elt (xs.drop (i + 1)) m3 = .ok zs' mE ∧ zs = ys ++ zs') ∨ (b = false ∧ compL own (bindTg tg) ts elt (xs.drop (i + 1)) m2 = .ok zs mE))) := by
  obtain ⟨ek, hi, F, μ, m, ac, zs, a, s, hl, hd⟩ := h
  obtain ⟨st, it⟩ := sv _ a.L s
  rcases Nat.lt_or_eq_of_le hi with lt | e
  · have ex : xs[i]? = some xs[i] := by simp [lt]
    obtain ⟨go, yl⟩ := it i _ ex
    refine .inr ⟨lt, go, fun x H' y => ?_⟩
    obtain ⟨F1, L1, s1, r1⟩ := yl x H' y
    rw [List.drop_eq_getElem_cons lt] at hl
    obtain ⟨m1, b, m2, e1, e2, e3⟩ := compL_cons hl
    refine ⟨F1, μ, { m with ρ := wipeR m.ρ own }, xs[i], m1, L1, r1, e1, fun σ' L' s' hl' ho => ⟨wipe_same hl' fun j hj => ho j fun q => hj (hsl j q), F1, μ, m1, b, m2, ac, zs, (a.step L1 s1).step L' s', (s.trans s1.q).trans s'.q, e2, hd, e3⟩⟩
  · subst e
    rw [List.drop_length] at hl
    cases hl
    cases hd
    exact .inl ⟨rfl, st, F, μ, a, s⟩
end
theorem AtU.new0 {K : PySem.W.Frag} {F : Hp} {μ : List Addr} {m : Ms} {σ : L2.St} {H : Hp} {Dd : Addr} (L : Lk K ⟨F, μ, m, σ, H⟩) (h : H Dd = none) (hs : (Dd == sysModules) = false) : AtU K ⟨F, μ, m, σ, H⟩ Dd [] ⟨F, μ, m, σ, upd H Dd (uHO Dd #[])⟩ := by
  obtain ⟨L1, s1⟩ := L.fresh (p := Dd) (o := uHO Dd #[]) h
  exact ⟨L1, s1, h, L.free h, fun x hx => L.notOwn h x hx, #[], upd_same, .nil, uok_nil hs⟩
theorem AtU.lock {K : PySem.W.Frag} {w0 : Wd} {F : Hp} {μ : List Addr} {m : Ms} {σ : L2.St} {H : Hp} {Dd : Addr} {ac : List (D × D)} (a : AtU K w0 Dd ac ⟨F, μ, m, σ, H⟩) (k : Wk) : AtU K w0 Dd ac ⟨F, μ, k.lock m, σ, H⟩ := by
  obtain ⟨L1, s1⟩ := a.L.lock k.l
  exact a.step L1 s1
section
variable {X : Cx} {pins : List (Addr × Obj)} {σ : L2.St} {H F : Hp} {μ : List Addr} {s : Shared} {a : Addr} {A : Around} {E : Value → Shared → Prop} {es : Array DictEntry} {kvs : List (D × D)} {k : D} {y : V} {u : Value}
/-- d[k] = v, by a comprehension -/
theorem u_dictSet {d : D} {v : V} {r : Value} {Q : Unit → Shared → Prop} (hu : A.units + 64 < cLine) (I : Inv X pins σ H s) (e : Same F H) (h : H a = some (uHO a es)) (q : Kvs X.K F μ kvs es.toList) (uo : UOk kvs a) (hk : uok k = true) (hs : sameK kvs k = true) (rk : Rep X.K F μ k y) (ru : RelV y u) (rd : Rep X.K F μ d v) (rv : RelV v r)
    (hQ : ∀ es' s', Inv X pins σ (upd H a (uHO a es')) s' → Kvs X.K F μ (putKD kvs k d) es'.toList → Q () s') : wpAny (model X.prog X.w) A (dictSet a u r) Q E s := by
  have hkind := kind_of hs
  have mu : Mut (H a) := by rw [h]; trivial
  have hl := uo.len
  have sl := sizeLine_eq
  rcases uok_kind hk with ⟨i, rfl⟩ | ⟨xs, rfl⟩
  · obtain ⟨vs, us, h1, h4, dd⟩ := u_int I h q uo hkind
    have : y = V.int i := by cases rk; rfl
    subst this
    have hz : us.length ≤ sizeLine := by rw [← h4.length, ← h1.length]; omega
    refine wpAny_dictSet_pairs (hsz := hz) (kV_is (k := Sum.inl i) ru) dd fun h' dd' hs' => ?_
    obtain ⟨o, es', ep, g1, g2, g3, g4, g5, g6⟩ := dd'
    exact hQ es' _ (d_write I mu hs' ⟨o, g1⟩ (uHO_ok ⟨o, ep, g1, g2, g3⟩)) (back_int (P := X.prog) (w := X.w) (krep_put rd h1) (h4.put (Sum.inl i) rv) g5 fun e he => g4 e (Array.mem_toList_iff.mp he))
  · obtain ⟨xs', t, dd⟩ := u_tup I e h q uo hkind
    obtain ⟨b, ws, rfl, _, _⟩ : ∃ b ws, y = V.ref b ∧ SqT X.K F b ws ∧ Reps X.K F μ xs ws := by cases rk with | tup q1 q2 => exact ⟨_, _, rfl, q1, q2⟩
    have : u = Value.ref b := ru
    subst this
    have hz : xs'.length ≤ sizeLine := by rw [← Paired.length t.pr]; omega
    refine wpAny_dictSet_heap (hsz := hz) (show A.units + 8 < cLine by omega) (nested_is I e hk rk) dd fun h' dd' hs' => ?_
    obtain ⟨o, es', ep, g1, g2, g3, g4, g5, g6⟩ := dd'
    refine hQ es' _ (d_write I mu hs' ⟨o, g1⟩ (uHO_ok ⟨o, ep, g1, g2, g3⟩)) ?_
    rw [g4]
    exact back_tup (h := s.heap) (pr_put t.pr hk rk rv rd (t.at hk).1)
/-- what a store into a dict at a asks -/
def UPut (X : Cx) (a : Addr) (y z : V) (H : Hp) (Nx : Hp → Prop) : Prop := ∃ (F : Hp) (μ : List Addr) (k d : D) (kvs : List (D × D)) (es : Array DictEntry), Same F H ∧ H a = some (uHO a es) ∧ Kvs X.K F μ kvs es.toList ∧ UOk kvs a ∧ uok k = true ∧ sameK kvs k = true ∧ Rep X.K F μ k y ∧ Rep X.K F μ d z ∧
  ∀ es' : Array DictEntry, Kvs X.K F μ (putKD kvs k d) es'.toList → Nx (upd H a (uHO a es'))
end
section
variable {X : Cx}
/-- {k: v for target in iter if ..}: D the new dict -/
def tDcU (X : Cx) (wi : TI) (g : L2.TG) (tt : TT) (tk tv : TE) (vs : List Nat) : TE := fun σ H Q => wi σ H fun J H1 => ∀ D, H1 D = none → (D == sysModules) = false → ∃ W : Nat → Nat → Hp → Prop, (∃ m, W 0 m (upd H1 D (uHO D #[]))) ∧ ∀ i m H, W i m H →
  (J.stop i H ∧ Q (.ref D) H) ∨ (J.go i H ∧ ∃ Nx : Hp → Prop, (∀ H', Nx H' → ∃ m', m' < m ∧ W (i + 1) m' H') ∧ ∀ x H', J.yld i H x H' → g x (wipe σ vs) H' fun σ2 H2 => wipe σ2 vs = wipe σ vs ∧ tt σ2 H2 fun b H3 =>
    if b = true then tk σ2 H3 fun y H4 => tv σ2 H4 fun z H5 => UPut X D y z H5 Nx else Nx H3)
theorem dcU_core {pins : List (Addr × Obj)} {s : Shared} {σ : L2.St} {H : Hp} {Q : VK} {kx vx tg iter : Expr} {ifs : List Expr} {scope : Scope} {own : List (Str × Nat)} {pos pos' : Pos} {wi : TI} {g : L2.TG} {tt : TT} {tk tv : TE} {use : Option (Value → Sem Unit)} {Qf : Value → Shared → Prop}
    (hu : X.A.units + 64 < cLine) (hc : X.calm = true) (hN : X.N.Nodup) (I : Inv X pins σ H s) (hi : PI X tg iter wi) (ok : BlkOk X.N X.env.scope scope own)
    (hg : ∀ (s : Shared) (H : Hp) (C : Addr) (cl : List (Str × Addr)) (fp : List Addr), PG (X.blk s H scope (compEnvC scope cl C X.env) fp) tg g) (ht : ∀ (s : Shared) (H : Hp) (C : Addr) (cl : List (Str × Addr)) (fp : List Addr), PTs (X.blk s H scope (compEnvC scope cl C X.env) fp) ifs tt)
    (hk : ∀ (s : Shared) (H : Hp) (C : Addr) (cl : List (Str × Addr)) (fp : List Addr), PE (X.blk s H scope (compEnvC scope cl C X.env) fp) kx tk)
    (he : ∀ (s : Shared) (H : Hp) (C : Addr) (cl : List (Str × Addr)) (fp : List Addr), PE (X.blk s H scope (compEnvC scope cl C X.env) fp) vx tv) (hs : ∀ x, foldedSetIterable iter X.env x = pure x)
    (h : tDcU X wi g tt tk tv (own.map (·.2)) σ H Q)
    (hRR : ∀ D C s' m H', Inv X pins σ H' s' → Q (.ref D) H' → s'.heap.Ns C m → FpOk X pins H' C → compPost (model X.prog X.w) X.A X.xe use Qf (.ref D) C (.ok .next) s') :
    wpAny (model X.prog X.w) X.A (comprehension (.DictComp kx vx [⟨tg, iter, ifs, 0⟩] scope pos) scope X.env pos' newDict false (eval iter X.env) use) Qf X.xe s := by
  have hfree : ∀ y ∈ scope.names, y.2 = .free → ∃ c, X.env.cells.lookup y.1 = some c := fun y hy e => by
    rcases ok.free y hy e with k | k
    · exact I.ok.has _ (.inl k)
    · exact I.ok.has _ (.inr k)
  refine wpAny_comprehension_free (use := use) rfl hs (closure_ok hfree) ok.kind (fun y hy e => by rw [ok.uniq y hy, e])
    (thn (hi.run pins s σ H _ I h) fun xv s1 hx => thn hx fun itv s2 h2 => ?_)
  obtain ⟨it, fp, tn, J, H2, e, I2, T, st2, f2, q⟩ := h2
  subst e
  refine wpAny_newObj_type (newEnv_comp ?_)
  generalize hD : s2.heap.objs.size = D
  have hDn : H2 D = none := I2.hok.fresh (Nat.le_of_eq hD)
  have hDs : (D == sysModules) = false := by
    rw [← hD, beq_eq_false_iff_ne]
    exact Nat.ne_of_gt I2.big
  obtain ⟨W, ⟨m0, w0⟩, turn⟩ := q D hDn hDs
  -- the new dict
  generalize hs3 : ({ s2 with heap := s2.heap.push { cls := .type "dict", data := .dict #[] } } : Shared) = s3
  have I3 : Inv X pins σ (upd H2 D (uHO D #[])) s3 := by
    rw [← hs3]
    refine I2.laid (t' := s2.toks) (fun b o e => Heap.get?_push_of_some _ e) (Nat.le_of_eq hD) ?_
    rw [← hD]
    exact uHO_ok ⟨_, 0, Heap.get?_push_size _ rfl, ⟨rfl, rfl, rfl⟩, rfl⟩
  have h3 : s3.heap = s2.heap.push { cls := .type "dict", data := .dict #[] } := by rw [← hs3]
  have sz : ∀ b ∈ fp, b < s2.heap.objs.size := fun b hb => by
    obtain ⟨o, e, _⟩ := T.obj _ _ st2 b hb
    exact Heap.lt_size e
  have f3 : ∀ b ∈ fp, FpOk X pins (upd H2 D (uHO D #[])) b ∧ b < s3.heap.objs.size := fun b hb => by
    have hlt := sz b hb
    refine ⟨⟨?_, (f2 b hb).2⟩, by rw [h3, Heap.size_push]; exact Nat.lt_succ_of_lt hlt⟩
    rw [upd_ne (by rw [← hD]; exact Nat.ne_of_lt hlt)]
    exact (f2 b hb).1
  have st3 : tn 0 s3.heap := T.keep _ _ _ st2 fun b _ o e => by rw [h3]; exact Heap.get?_push_of_some _ e
  have I4 := block_start I3 ok hN f3
  have pg := hg s3 (upd H2 D (uHO D #[])) s3.heap.objs.size (cellsFrom (s3.heap.objs.size + 1) scope.names (cloFrom X.env.cells scope.names [])) fp
  have pt := ht s3 (upd H2 D (uHO D #[])) s3.heap.objs.size (cellsFrom (s3.heap.objs.size + 1) scope.names (cloFrom X.env.cells scope.names [])) fp
  have pk := hk s3 (upd H2 D (uHO D #[])) s3.heap.objs.size (cellsFrom (s3.heap.objs.size + 1) scope.names (cloFrom X.env.cells scope.names [])) fp
  have pe := he s3 (upd H2 D (uHO D #[])) s3.heap.objs.size (cellsFrom (s3.heap.objs.size + 1) scope.names (cloFrom X.env.cells scope.names [])) fp
  show codeAny _ _ (.compStart (.DictComp kx vx [⟨tg, iter, ifs, 0⟩] scope pos) 0 (.ref it) (.ref D) (compEnvC scope (cellsFrom (s3.heap.objs.size + 1) scope.names (cloFrom X.env.cells scope.names [])) s3.heap.objs.size X.env)) (compPost (model X.prog X.w) X.A X.xe use Qf (.ref D) s3.heap.objs.size) { s3 with heap := pushCells (s3.heap.push { cls := .type "dict", data := .dict #[] }) scope.names }
  have nfp : ∀ b ∈ fp, (upd H2 D (uHO D #[])) b = none := fun b hb => (f3 b hb).1.1
  generalize hce : compEnvC scope (cellsFrom (s3.heap.objs.size + 1) scope.names (cloFrom X.env.cells scope.names [])) s3.heap.objs.size X.env = ce at I4 pg pt pk pe ⊢
  have cL : ce.locals = s3.heap.objs.size := by subst hce; rfl
  generalize hH3 : upd H2 D (uHO D #[]) = H3 at I3 I4 pg pt pk pe w0 nfp f3
  generalize hs4 : ({ s3 with heap := pushCells (s3.heap.push { cls := .type "dict", data := .dict #[] }) scope.names } : Shared) = s4 at I4 ⊢
  have st4 : tn 0 s4.heap := T.keep _ _ _ st3 fun b _ o e => by rw [← hs4]; exact pushCells_keeps _ _ _ _ (Heap.get?_push_of_some _ e)
  have stat : ∀ {σ' : L2.St} {H' : Hp} {s' : Shared}, Inv (X.blk s3 H3 scope ce fp) [] σ' H' s' → (∀ b ∈ fp, H' b = none) → ∀ b ∈ fp, FpOk (X.blk s3 H3 scope ce fp) [] H' b := fun {σ' H' s'} I' hn b hb =>
    ⟨hn b hb, (I'.ok.exf b hb).1, I'.ok.exfs b hb, .inl hb, fun x c e => (I'.ok.exf b hb).2 x c e, fun p hp => absurd (show p ∈ ([] : List (Addr × Obj)) ++ [] from hp) (by simp)⟩
  have loop : codeAny (model X.prog X.w) X.A (.compLoop (.DictComp kx vx [⟨tg, iter, ifs, 0⟩] scope pos) 0 (.ref it) (.ref D) ce) (compPost (model X.prog X.w) X.A X.xe use Qf (.ref D) s3.heap.objs.size) s4 := by
    refine compLoop_anyD (fun n s' => ∃ i H', Inv (X.blk s3 H3 scope ce fp) [] (wipe σ (own.map (·.2))) H' s' ∧ tn i s'.heap ∧ (∀ b ∈ fp, H' b = none) ∧ W i n H') ?_ m0 ⟨0, H3, I4, st4, nfp, w0⟩
    rintro n s5 ⟨i, H5, I5, st5, n5, w5⟩
    rcases turn i n H5 w5 with ⟨stop, qq⟩ | ⟨go, Nx, hNx, step⟩
    · have td := T.done (X.blk s3 H3 scope ce fp) rfl rfl rfl hc i [] s5 _ H5 (fun _ _ => False) I5 (stat I5 n5) st5 stop
      refine thnF td fun r s6 ⟨hr, I6⟩ => ?_
      subst hr
      have I7 : Inv X pins σ H5 s6 := I3.call' (ch := fp) I6.os I6.base I6.hok I6.bare fun b hb => ⟨(f3 b hb).1.2.2.2.1, (f3 b hb).1.2.1, (f3 b hb).1.2.2.2.2.1, (f3 b hb).1.2.2.2.2.2⟩
      have nC : H5 s3.heap.objs.size = none := by
        have z : H5 ce.locals = none := I6.free
        rw [cL] at z
        exact z
      obtain ⟨m, hn, _⟩ := I6.loc
      have hn : s6.heap.Ns ce.locals m := hn
      rw [cL] at hn
      exact hRR D s3.heap.objs.size s6 m H5 I7 qq hn (I3.fpOk (Nat.le_refl _) nC)
    · have ti := T.item (X.blk s3 H3 scope ce fp) rfl rfl rfl hc i [] s5 _ H5 (fun _ _ => False) I5 (stat I5 n5) st5 go
      refine thnF ti fun r s6 ⟨u, hr, h6⟩ => ?_
      subst hr
      refine thnF h6 fun _ s7 ⟨x, H7, I7, r7, y7, st7, n7⟩ => ?_
      have I7' := I7.pinned (stat I7 n7) (T.obj _ _ st7)
      refine thnF (pg.run _ s7 _ H7 x u _ I7' r7 (step x H7 y7)) fun _ s8 ⟨σ8, H8, I8, hw8, q8⟩ => ?_
      refine thnF (pt.run _ s8 σ8 H8 _ I8 q8) fun b s9 ⟨H9, I9, q9⟩ => ?_
      have fin : ∀ {s' : Shared} {H' : Hp}, Inv (X.blk s3 H3 scope ce fp) ([] ++ pinsAt fp s7.heap) σ8 H' s' → Nx H' → ∃ m, m < n ∧ ∃ i H', Inv (X.blk s3 H3 scope ce fp) [] (wipe σ (own.map (·.2))) H' s' ∧ tn i s'.heap ∧ (∀ b ∈ fp, H' b = none) ∧ W i m H' := fun {s' H'} I' nx => by
        obtain ⟨m', hm, w'⟩ := hNx H' nx
        have pin' : ∀ b ∈ fp, ∀ o, s7.heap.get? b = some o → s'.heap.get? b = some o ∧ H' b = none := fun b hb o e =>
          let z := I'.pin (b, o) (List.mem_append_right _ (List.mem_append_right _ (mem_pinsAt hb e)))
          ⟨z.1, z.2.1⟩
        have hl : (wipe σ (own.map (·.2))).length = σ8.length := by rw [← hw8, wipe_length]
        refine ⟨m', hm, i + 1, H', (I'.unpinned (pins := [])).weak hl (fun j v e => ?_), T.keep _ _ _ st7 fun b hb o e => (pin' b hb o e).1, fun b hb => ?_, w'⟩
        · rw [← hw8] at e
          exact (wipe_some e).1
        · obtain ⟨o, e, _⟩ := T.obj _ _ st7 b hb
          exact (pin' b hb o e).2
      cases b with
      | false =>
        simp only [Bool.false_eq_true, if_false] at q9 ⊢
        exact fin I9 q9
      | true =>
        simp only [if_true] at q9 ⊢
        refine thnF (pk.run _ s9 σ8 H9 _ I9 q9) fun z s10 ⟨yk, H10, I10, r10, q10⟩ => ?_
        refine thnF (pe.run _ s10 σ8 H10 _ I10 q10) fun z2 s11 ⟨yv, H11, I11, r11, F, μ, k, d, kvs, es, g1, g2, g3, g4, g5, g6, g7, g8, nx⟩ => ?_
        exact u_dictSet (X := X.blk s3 H3 scope ce fp) (A := X.A) hu I11 g1 g2 g3 g4 g5 g6 g7 r10 g8 r11 fun es' s12 I12 q12 => fin I12 (nx es' q12)
  exact codeAny_compStart_dict loop (T.self X.A 0 _ _ _ st4 loop)
/-- as a value -/
theorem pe_dcU {kx vx tg iter : Expr} {ifs : List Expr} {scope : Scope} {own : List (Str × Nat)} {pos : Pos} {wi : TI} {g : L2.TG} {tt : TT} {tk tv : TE} (hu : X.A.units + 64 < cLine) (hc : X.calm = true) (hN : X.N.Nodup) (hi : PI X tg iter wi) (ok : BlkOk X.N X.env.scope scope own)
    (hg : ∀ (s : Shared) (H : Hp) (C : Addr) (cl : List (Str × Addr)) (fp : List Addr), PG (X.blk s H scope (compEnvC scope cl C X.env) fp) tg g) (ht : ∀ (s : Shared) (H : Hp) (C : Addr) (cl : List (Str × Addr)) (fp : List Addr), PTs (X.blk s H scope (compEnvC scope cl C X.env) fp) ifs tt)
    (hk : ∀ (s : Shared) (H : Hp) (C : Addr) (cl : List (Str × Addr)) (fp : List Addr), PE (X.blk s H scope (compEnvC scope cl C X.env) fp) kx tk)
    (he : ∀ (s : Shared) (H : Hp) (C : Addr) (cl : List (Str × Addr)) (fp : List Addr), PE (X.blk s H scope (compEnvC scope cl C X.env) fp) vx tv) (hs : ∀ x, foldedSetIterable iter X.env x = pure x) :
    PE X (.DictComp kx vx [⟨tg, iter, ifs, 0⟩] scope pos) (tDcU X wi g tt tk tv (own.map (·.2))) := by
  refine ⟨fun pins s σ H Q I h => ?_⟩
  rw [arm_eval_DictComp]
  refine dcU_core hu hc hN I hi ok hg ht hk he hs h fun D C s' m H' I' q hn f => ⟨m, hn, fun h'' sb => ?_⟩
  obtain ⟨f0, f1, f2, f3, f4, f5⟩ := f
  exact ⟨.ref D, H', I'.turned (t' := s'.toks) (fun b o hb e => (sb.2 b hb).trans e) f0 f1 f3 f4 f5, rfl, q⟩
/-- name = {..} on one line, the name a local -/
theorem ps_setDcU {i : Nat} {y : Str} {py : Pos} {kx vx tg iter : Expr} {ifs : List Expr} {scope : Scope} {own : List (Str × Nat)} {pos spos : Pos} {wi : TI} {g : L2.TG} {tt : TT} {tk tv : TE} (hu : X.A.units + 64 < cLine) (hc : X.calm = true) (hN : X.N.Nodup) (hy : X.N[i]? = some y) (hyl : X.env.scope.names.lookup y = some .local)
    (hsw : swapsWith (.DictComp kx vx [⟨tg, iter, ifs, 0⟩] scope pos) (some (.Name y py)) spos.line X.env = pure true) (hi : PI X tg iter wi) (ok : BlkOk X.N X.env.scope scope own)
    (hg : ∀ (s : Shared) (H : Hp) (C : Addr) (cl : List (Str × Addr)) (fp : List Addr), PG (X.blk s H scope (compEnvC scope cl C X.env) fp) tg g) (ht : ∀ (s : Shared) (H : Hp) (C : Addr) (cl : List (Str × Addr)) (fp : List Addr), PTs (X.blk s H scope (compEnvC scope cl C X.env) fp) ifs tt)
    (hk : ∀ (s : Shared) (H : Hp) (C : Addr) (cl : List (Str × Addr)) (fp : List Addr), PE (X.blk s H scope (compEnvC scope cl C X.env) fp) kx tk)
    (he : ∀ (s : Shared) (H : Hp) (C : Addr) (cl : List (Str × Addr)) (fp : List Addr), PE (X.blk s H scope (compEnvC scope cl C X.env) fp) vx tv) (hs : ∀ x, foldedSetIterable iter X.env x = pure x) :
    PS X (.Assign [.Name y py] (.DictComp kx vx [⟨tg, iter, ifs, 0⟩] scope pos) spos) (tAsg (tDcU X wi g tt tk tv (own.map (·.2))) (gName i)) := by
  refine ⟨fun pins s σ H D I h => ?_⟩
  rw [exec_Assign_Name_used _ _ _ _ hsw]
  refine wpAny_bind (wpAny_standAt (wpAny_bind ?_))
  show wpAny _ X.A (do let _ ← comprehension (.DictComp kx vx [⟨tg, iter, ifs, 0⟩] scope pos) scope X.env (firstIterPos [⟨tg, iter, ifs, 0⟩] pos) newDict false (eval iter X.env) (some (assign (.Name y py) X.env))) _ _ s
  have h : tDcU X wi g tt tk tv (own.map (·.2)) σ H (fun x H1 => gName i x σ H1 D.nx) := h
  refine wpAny_bind (thn (dcU_core (Qf := fun _ s' => SP X pins D .next s') hu hc hN I hi ok hg ht hk he hs h fun L C s' m H' I' q hn f => ?_) fun _ s' hq => wpAny_pure (wpAny_pure hq))
  show wpAny _ _ (assign (.Name y py) X.env (.ref L)) _ _ _
  refine wpAny_assign_Name (store_ok2 (v := V.ref L) I' hN hy (.inl hyl) rfl (fun s2 I2 ⟨a, sb, ha⟩ => ?_) (.inr hyl))
  obtain ⟨f0, f1, f2, f3, f4, f5⟩ := f
  have haC : C ≠ a := by
    rcases ha with z | z
    · rw [z]; exact f1
    · exact fun e => f4 y a z e.symm
  refine ⟨m, hn.sameBut sb haC, fun h3 sb3 => ?_⟩
  exact ⟨_, H', I2.turned (t' := s2.toks) (fun b o hb e => (sb3.2 b hb).trans e) f0 f1 f3 f4 f5, q⟩
end
section
variable {X : Cx} {ca : Nat → Addr} {fld : Nat → List Str} {Wx : WX} {cl : Nat → List D → List D → Rc}
theorem dcU_of {own : List Nat} {tg : Tg} {it : Ev.It} {ifs : Ts} {key elt : Ev.X} (hc : X.calm = true) (hsl : ∀ j ∈ tg.sl, j ∈ own) {σ : L2.St} {H : Hp} {Q : VK} (h : TG (gx X ca fld) Wx (rF (gx X ca fld)) (evF cl (.udc own tg it ifs key elt)) σ H Q) :
    tDcU X (TG (gx X ca fld) Wx (rI (gx X ca fld)) (evIt cl it)) (tgE X tg) (TG (gx X ca fld) WF rB (evTs cl ifs)) (TG (gx X ca fld) WF (rD (gx X ca fld)) (evX cl key)) (TG (gx X ca fld) WF (rD (gx X ca fld)) (evX cl elt)) own σ H Q := by
  obtain ⟨F, μ, m, L, h⟩ := tg_in (g := fun m => (evIt cl it m).bind fun k m =>
      (calm (compG own k (compL own (bindTg tg) (evTs cl ifs) (fun m => (evX cl key m).bind fun a m => (evX cl elt m).bind fun d m => .ok [.tup [a, d]] m)) m)).bind udcM) (fun m => by rw [evF] <;> rfl) h
  refine TG.mono (Fin.bind (rel := rI (gx X ca fld)) rF_ok L h) fun J H1 ⟨k, F1, μ1, m1, L1, s1, sv, h1⟩ => ?_
  intro Dd hD hDs
  obtain ⟨ds, m', e1, h1⟩ := Fin.calmE h1
  obtain ⟨hp, mE, e2, rfl⟩ := compG_ok e1
  rw [udcM_eq] at h1
  cases ei : ds.foldl udStep (some []) with
  | none => rw [ei] at h1; exact h1.elim
  | some kvF =>
    rw [ei] at h1
    have nI := plain_norl (K := X.K) (F := F1) (μ := μ1) (σ := σ) (H := H1) hp
    have n0 : NoRl ⟨F1, μ1, m1, σ, H1⟩ own := fun i hi c e => plainS_ow (List.all_eq_true.mp hp i hi) (lockR_own.mpr (.inr e))
    have a0 := (AtU.new0 L1 hD hDs).lock k
    have q0 : Stq ⟨F1, μ1, k.lock m1, σ, H1⟩ ⟨F1, μ1, k.lock m1, σ, upd H1 Dd (uHO Dd #[])⟩ := ⟨fun _ _ e => e, List.prefix_refl _, fun i c e => ⟨e, rfl⟩⟩
    refine ⟨WcU X.K ⟨F1, μ1, m1, σ, H1⟩ ⟨F1, μ1, k.lock m1, σ, H1⟩ Dd own σ (compL own (bindTg tg) (evTs cl ifs) (fun m => (evX cl key m).bind fun a m => (evX cl elt m).bind fun d m => .ok [.tup [a, d]] m)) k.xs kvF mE,
      ⟨_, rfl, Nat.zero_le _, F1, μ1, k.lock m1, [], ds, a0.wipe n0, q0.wipe nI, by rw [List.drop_zero]; exact e2, ei⟩, fun i kk H2 hW => ?_⟩
    rcases hW.turn sv hsl with ⟨_, st, F2, μ2, a, s⟩ | ⟨lt, go, yl⟩
    · refine .inl ⟨st, ?_⟩
      have ab := AtU.back L1 hp n0 (Stp.refl _) a s
      obtain ⟨es, g1, g2, g3⟩ := ab.ac
      exact h1 (.ref Dd) F2 μ2 _ ab.L ab.S ⟨Dd, rfl, ab.new, ab.fr, ab.no, (show ConL X.K F2 μ2 (uD kvF) Dd _ from ⟨kvF, es, rfl, g1, g2, g3⟩)⟩
    · refine .inr ⟨go, fun H' => WcU X.K ⟨F1, μ1, m1, σ, H1⟩ ⟨F1, μ1, k.lock m1, σ, H1⟩ Dd own σ (compL own (bindTg tg) (evTs cl ifs) (fun m => (evX cl key m).bind fun a m => (evX cl elt m).bind fun d m => .ok [.tup [a, d]] m)) k.xs kvF mE (i + 1) (k.xs.length - (i + 1)) H', fun H' q => ⟨k.xs.length - (i + 1), by have := hW.1; omega, q⟩, fun x H' y => ?_⟩
      obtain ⟨F2, μ2, m2, d2, m2', L2, r2, b2, cont⟩ := yl x H' y
      refine ⟨F2, μ2, m2, d2, m2', L2, r2, b2, fun σ' L' s' hl ho => ?_⟩
      obtain ⟨hw, F3, μ3, m3, b, m4, ac, zs, a3, s3, et, hd, hb⟩ := cont σ' L' s' hl ho
      refine ⟨hw, F3, μ3, m3, a3.L, ?_⟩
      rw [et]
      intro b' F4 μ4 H4 L4 s4 rb
      have rb : b = b' := rb
      subst rb
      have a4 := a3.step L4 s4
      rcases hb with ⟨rfl, ys, m5, zs', ee, el, ez⟩ | ⟨rfl, el⟩
      · rw [if_pos rfl]
        obtain ⟨ka, m6, e6, e7⟩ := bind_okE ee
        obtain ⟨da, m7, e8, e9⟩ := bind_okE e7
        cases e9
        refine ⟨F4, μ4, m4, L4, ?_⟩
        rw [e6]
        intro v F5 μ5 H5 L5 s5 r5
        have a5 := a4.step L5 s5
        refine ⟨F5, μ5, m6, L5, ?_⟩
        rw [e8]
        intro z F6 μ6 H6 L6 s6 r6
        have a6 := a5.step L6 s6
        subst ez
        obtain ⟨k', d', ep, g1, g2, g3, g4⟩ := udStep_some hd
        injection ep with ep
        injection ep with ep1 ep2
        injection ep2 with ep2 _
        subst ep1 ep2
        have sq := ((s3.trans s4.q).trans s5.q).trans s6.q
        obtain ⟨es, q1, q2, q3⟩ := a6.ac
        exact ⟨F6, μ6, ka, da, ac, es, a6.L.fro, q1, q2, q3, g1, g2, r5.mono s6.fle s6.mu, r6, fun es' q' => WcU.next n0 nI (a6.push q1 q' (q3.put g2 g3)) ⟨sq.fle, sq.mu, sq.rls⟩ hw lt el g4⟩
      · rw [if_neg Bool.false_ne_true]
        exact WcU.next n0 nI a4 (s3.trans s4.q) hw lt el hd
theorem f_udc {own : List (Str × Nat)} {tg : Tg} {it : Ev.It} {ifs : Ts} {key elt : Ev.X} {tge iter kx vx : Expr} {ifsE : List Expr} {scope : Scope} {pos : Pos} (hu : X.A.units + 64 < cLine) (hcm : X.calm = true) (hN : X.N.Nodup) (ok : BlkOk X.N X.env.scope scope own) (hsl : ∀ j ∈ tg.sl, j ∈ own.map (·.2)) (hs : plainE iter = true)
    (hi : SI cl ca fld Wx X it tge iter)
    (hg : ∀ (s : Shared) (H : Hp) (C : Addr) (cl' : List (Str × Addr)) (fp : List Addr), PG (X.blk s H scope (compEnvC scope cl' C X.env) fp) tge (tgE X tg))
    (ht : ∀ (s : Shared) (H : Hp) (C : Addr) (cl' : List (Str × Addr)) (fp : List Addr), STs cl ca fld (X.blk s H scope (compEnvC scope cl' C X.env) fp) ifs ifsE)
    (hk : ∀ (s : Shared) (H : Hp) (C : Addr) (cl' : List (Str × Addr)) (fp : List Addr), SE cl ca fld WF (X.blk s H scope (compEnvC scope cl' C X.env) fp) key kx)
    (hv : ∀ (s : Shared) (H : Hp) (C : Addr) (cl' : List (Str × Addr)) (fp : List Addr), SE cl ca fld WF (X.blk s H scope (compEnvC scope cl' C X.env) fp) elt vx) :
    SF cl ca fld Wx X (.udc (own.map (·.2)) tg it ifs key elt) (.DictComp kx vx [⟨tge, iter, ifsE, 0⟩] scope pos) :=
  PEw (pe_dcU (g := tgE X tg) (tt := TG (gx X ca fld) WF rB (evTs cl ifs)) (tk := TG (gx X ca fld) WF (rD (gx X ca fld)) (evX cl key)) (tv := TG (gx X ca fld) WF (rD (gx X ca fld)) (evX cl elt)) hu hcm hN hi ok hg ht hk hv (fun x => fold_plain hs x)) fun σ H Q h => dcU_of hcm hsl h
theorem swCd_eq {kx vx : Expr} {gs : List Comprehension} {scope : Scope} {pos py : Pos} {y : Str} {l : Nat} {env : Env} : swapsWith (.DictComp kx vx gs scope pos) (some (.Name y py)) l env = pure (swC env y py pos scope) := rfl
theorem a_udc {i : Nat} {y : Str} {py spos : Pos} (n : Nm X i y) {own : List (Str × Nat)} {tg : Tg} {it : Ev.It} {ifs : Ts} {key elt : Ev.X} {tge iter kx vx : Expr} {ifsE : List Expr} {scope : Scope} {pos : Pos} (hu : X.A.units + 64 < cLine) (hcm : X.calm = true) (hN : X.N.Nodup) (ok : BlkOk X.N X.env.scope scope own) (hsl : ∀ j ∈ tg.sl, j ∈ own.map (·.2)) (hs : plainE iter = true)
    (hi : SI cl ca fld Wx X it tge iter)
    (hg : ∀ (s : Shared) (H : Hp) (C : Addr) (cl' : List (Str × Addr)) (fp : List Addr), PG (X.blk s H scope (compEnvC scope cl' C X.env) fp) tge (tgE X tg))
    (ht : ∀ (s : Shared) (H : Hp) (C : Addr) (cl' : List (Str × Addr)) (fp : List Addr), STs cl ca fld (X.blk s H scope (compEnvC scope cl' C X.env) fp) ifs ifsE)
    (hk : ∀ (s : Shared) (H : Hp) (C : Addr) (cl' : List (Str × Addr)) (fp : List Addr), SE cl ca fld WF (X.blk s H scope (compEnvC scope cl' C X.env) fp) key kx)
    (hv : ∀ (s : Shared) (H : Hp) (C : Addr) (cl' : List (Str × Addr)) (fp : List Addr), SE cl ca fld WF (X.blk s H scope (compEnvC scope cl' C X.env) fp) elt vx) :
    AF cl ca fld Wx X (.udc (own.map (·.2)) tg it ifs key elt) i (.Assign [.Name y py] (.DictComp kx vx [⟨tge, iter, ifsE, 0⟩] scope pos) spos) := by
  cases hb : swC X.env y py pos scope with
  | true =>
    exact PSw (ps_setDcU (g := tgE X tg) (tt := TG (gx X ca fld) WF rB (evTs cl ifs)) (tk := TG (gx X ca fld) WF (rD (gx X ca fld)) (evX cl key)) (tv := TG (gx X ca fld) WF (rD (gx X ca fld)) (evX cl elt)) hu hcm hN n.hi (swC_local hb) (by rw [swCd_eq, hb]) hi ok hg ht hk hv (fun x => fold_plain hs x)) fun D σ H h => dcU_of hcm hsl h
  | false => exact ps_set hN n.hi n.hx (f_udc hu hcm hN ok hsl hs hi hg ht hk hv) (by rw [swCd_eq, hb]) n.hf
/-- {} -/
theorem f_unew {pos : Pos} : SF cl ca fld Wx X .unew (.Dict [] [] pos) :=
  PEw pe_dnewU fun σ H Q h => by
    obtain ⟨F, μ, m, L, h⟩ := tg_in (g := fun m => .ok (uD []) m) (fun m => by rw [evF] <;> rfl) h
    intro p hp hs
    obtain ⟨L1, s1⟩ := L.fresh (o := uHO p #[]) hp
    exact h (.ref p) F μ _ L1 s1 ⟨p, rfl, hp, L.free hp, fun x q => L.notOwn hp x (by cases x <;> exact q), (show ConL X.K F μ (uD []) p _ from ⟨[], #[], rfl, upd_same, .nil, uok_nil hs⟩)⟩
/-! ### d[k] = v -/
theorem ps_uput {o i value : Expr} {pos pos' : Pos} {td ty tv : TE} (hu : X.A.units + 64 < cLine) (ho : PE X o td) (hi : PE X i ty) (hv : PE X value tv) (hs : swapsWith value (some (.Subscript o i pos')) pos.line X.env = pure false) :
    PS X (.Assign [.Subscript o i pos'] value pos) (fun D σ H => tv σ H fun v H1 => td σ H1 fun x H2 => ty σ H2 fun y H3 => ∃ a, x = .ref a ∧ UPut X a y v H3 (fun H' => D.nx σ H')) := by
  refine ⟨fun pins s σ H D I h => ?_⟩
  refine wpAny_Assign_Subscript (thn (hv.run pins s σ H _ I h) fun r s1 ⟨v, H1, I1, rv, q1⟩ => thn (ho.run pins s1 σ H1 _ I1 q1) fun u s2 ⟨x, H2, I2, rx, q2⟩ => thn (hi.run pins s2 σ H2 _ I2 q2) fun iv s3 ⟨y, H3, I3, ry, a, ex, F, μ, k, d, kvs, es, g1, g2, g3, g4, g5, g6, g7, g8, nx⟩ => ?_) hs
  subst ex
  obtain rfl : u = Value.ref a := rx
  exact u_setItem (A := X.A) hu I3 g1 g2 g3 g4 g5 g6 g7 ry g8 rv fun es' s4 I4 q => ⟨σ, _, I4, nx es' q⟩
/-- a dict is changed -/
theorem wrU_of {w0 : Wd} {h : HV} {v : V} {kvs kv' : List (D × D)} {F : Hp} {μ : List Addr} {m m' : Ms} {σ : L2.St} {H : Hp} (L : Lk X.K ⟨F, μ, m, σ, H⟩) (r : rH (gx X ca fld) w0 ⟨F, μ, m, σ, H⟩ h v) (hr : rd h m = some (uD kvs)) (e : wrU h (uD kv') m = .ok () m') :
    ∃ p es, v = .ref p ∧ H p = some (uHO p es) ∧ Kvs X.K F μ kvs es.toList ∧ UOk kvs p ∧
      ∀ es' : Array DictEntry, Kvs X.K F μ kv' es'.toList → UOk kv' p → Lk X.K ⟨F, μ, m', σ, upd H p (uHO p es')⟩ ∧ Stp ⟨F, μ, m, σ, H⟩ ⟨F, μ, m', σ, upd H p (uHO p es')⟩ := by
  cases h with
  | sl i =>
    have r : σ[i]? = some (some v) := r
    unfold wrU at e
    simp only at e
    split at e
    · rename_i c0 hc
      cases e
      have ec : c0 = uD kvs := by
        simp only [rd, hc] at hr
        exact Option.some.inj hr
      subst ec
      obtain ⟨p, h1, h2, h3⟩ := L.own i (uD kvs) (.inl hc)
      have h1 : σ[i]? = some (some (V.ref p)) := h1
      rw [r] at h1
      cases h1
      obtain ⟨es, h4, h5, h6⟩ := ConD.u h3
      refine ⟨p, es, rfl, h4, h5, h6, fun es' q u => L.upd_at (x0 := .inl i) ⟨⟨_, .inl hc⟩, r⟩ (by simp) rfl (fun j d ej => ?_) (fun j c' hj => ?_) (fun j c' hj => ?_) (fun n c' hn => .inr ⟨by simp, hn⟩)⟩
      · rcases get_set ej with ⟨_, z, _⟩ | ⟨_, z⟩
        · cases z
        · exact z
      · rcases hj with hj | hj
        · rcases get_set hj with ⟨rfl, z, _⟩ | ⟨ne, z⟩
          · cases z
            exact .inl ⟨rfl, (show ConD X.K F μ _ p _ from .inr (.inr ⟨kv', es', rfl, rfl, q, u⟩)), _, .inl hc⟩
          · exact .inr ⟨fun q => ne (Sum.inl.inj q).symm, .inl z⟩
        · rcases get_set hj with ⟨_, z, _⟩ | ⟨ne, z⟩
          · cases z
          · exact .inr ⟨fun q => ne (Sum.inl.inj q).symm, .inr z⟩
      · have ne : i ≠ j := fun q => by
          subst q
          rw [hc] at hj
          cases hj
        show (m.ρ.set i _)[j]? = _
        rw [List.getElem?_set_ne ne]
        exact hj
    · cases e
  | val d =>
    have r : Rep X.K F μ d v := r
    cases d with
    | loc n =>
      cases r with
      | loc hn =>
        rename_i p
        unfold wrU at e
        simp only at e
        split at e
        · rename_i hl
          cases e
          obtain ⟨q, h1, h2, h3⟩ := L.sto n (uD kvs) hr
          have h1 : μ[n]? = some q := h1
          rw [hn] at h1
          cases h1
          obtain ⟨r0, es, e0, h4, h5, h6⟩ := h3
          cases e0
          refine ⟨p, es, rfl, h4, h5, h6, fun es' q u => L.upd_at (x0 := .inr n) hn rfl (by simp) (fun j d ej => ej) (fun j c' hj => .inr ⟨by simp, hj⟩) (fun _ _ h => h) (fun k c' hk => ?_)⟩
          rcases get_set hk with ⟨rfl, z, _⟩ | ⟨ne, z⟩
          · cases z
            exact .inl ⟨rfl, kv', es', rfl, rfl, q, u⟩
          · exact .inr ⟨fun q => ne (Sum.inr.inj q).symm, z⟩
        · cases e
    | _ => cases e
theorem uputM_nx {h : HV} {k d : D} {m : Ms} : ∀ e m', uputM h k d m ≠ .exc e m' := fun e m' q => by
  unfold uputM at q
  split at q
  · split at q
    · unfold wrU at q
      split at q
      · split at q <;> cases q
      · cases q
      · split at q <;> cases q
    · cases q
  · cases q
theorem s_uput {c : H} {i x : Ev.X} {o ie e : Expr} {tpos pos : Pos} (hu : X.A.units + 64 < cLine) (hc : SH cl ca fld Wx X c o) (hi : SE cl ca fld Wx X i ie) (hx : SE cl ca fld Wx X x e) : SS cl ca fld Wx X (.uput c i x) (.Assign [.Subscript o ie tpos] e pos) :=
  PSw (ps_uput hu hc hi hx (swapsWith_sub (e := e))) fun De σ H h => by
    obtain ⟨F, μ, m, L, h⟩ := fs_in (g := fun m => (evX cl x m).bind fun d m => (evH cl c m).bind fun h m => (evX cl i m).bind fun k m => (uputM h k d m).bind fun _ m => .ok .nx m) (fun m => by rw [evS] <;> rfl) h
    refine TG.mono (FinS.bind (rel := rD (gx X ca fld)) L h) fun v H1 ⟨d, F1, μ1, m1, L1, s1, r1, h1⟩ => ?_
    refine TG.mono (FinS.bind (rel := rH (gx X ca fld)) L1 h1) fun o H2 ⟨hv, F2, μ2, m2, L2, s2, r2, h2⟩ => ?_
    refine TG.mono (FinS.bind (rel := rD (gx X ca fld)) L2 h2) fun k H3 ⟨kd, F3, μ3, m3, L3, s3, r3, h3⟩ => ?_
    obtain ⟨m4, e4, h4⟩ := bindR_ok uputM_nx h3
    have r2' := rH.later r2 s3 rfl
    have r1' := Rep.mono (s2.trans s3).fle (s2.trans s3).mu r1
    unfold uputM at e4
    split at e4
    · rename_i kvs hrd
      split at e4
      · rename_i hk
        simp only [Bool.and_eq_true, decide_eq_true_eq] at hk
        obtain ⟨p, es, rfl, g2, g3, g4, g5⟩ := wrU_of (ca := ca) (fld := fld) L3 r2' hrd e4
        refine ⟨p, rfl, F3, μ3, kd, d, kvs, es, L3.fro, g2, g3, g4, hk.1.1, hk.1.2, r3, r1', fun es' q => ?_⟩
        have up := g5 es' q (g4.put hk.1.2 hk.2)
        exact h4 F3 μ3 _ _ up.1 up.2
      · cases e4
    · cases e4
end
end Ev

set_option Elab.async false
set_option linter.all false
set_option maxRecDepth 100000
set_option autoImplicit false
set_option maxHeartbeats 2000000
/-! Ev12d: except clauses one by one, with a name or with none. -/
namespace Ev
open PySem PySem.Spec PyProof.Rows L2
section
variable {X : Cx} {pins : List (Addr × Obj)} {σ : L2.St} {H : Hp} {cls : Value} {d : Option Addr} {a : Addr} {B : Heap} {y z : Shared}
/-- a caught exception lies over a state -/
structure Cau (X : Cx) (pins : List (Addr × Obj)) (σ : L2.St) (H : Hp) (cls : Value) (d : Option Addr) (a : Addr) (B : Heap) (y z : Shared) : Prop where
  inv : Inv X pins σ H y
  nb : ∀ b o, y.heap.get? b = some o → b ∉ frs X.stack → B.get? b = some o
  up : y.heap.UpToSlots z.heap
  fl : HandSPX.FlyingZ B X.stack a (Zc cls d) z.heap
  na : H a = none
  os : z.os = y.os
  ag : AllBare z.gens
theorem Cau.now (c : Cau X pins σ H cls d a B y z) : Inv X pins σ H z := c.inv.landed c.nb c.fl.1 c.up c.os c.ag
/-- the exception's object stands apart from all frames -/
theorem Cau.held (c : Cau X pins σ H cls d a B y z) : ∃ o fs, z.heap.get? a = some o ∧ Zc cls d o ∧ o.data = .fields fs ∧ a ∉ frs X.stack := by
  obtain ⟨o, fs, h1, h2, h3⟩ := c.fl.there
  refine ⟨o, fs, h1, h2, h3, fun m => ?_⟩
  obtain ⟨_, o2, q1, q2⟩ := c.fl.2.2.1.mem m
  exact q2 _ (by rw [← Option.some.inj (h1.symm.trans q1)]; exact h3)
theorem Cau.inside (c : Cau X pins σ H cls d a B y z) (hs : X.stack = X.env :: X.outer) (hf : X.env.frame = some X.env.locals) :
    ∃ o fs, z.heap.get? a = some o ∧ Zc cls d o ∧ o.data = .fields fs ∧ Inv (X.suite a ((a, o) :: (X.pn ++ pins))) [] σ H z := by
  obtain ⟨o, fs, h1, h2, h3, n⟩ := c.held
  rw [hs] at n
  refine ⟨o, fs, h1, h2, h3, c.now.suite h1 h3 c.na (fun e => n ?_) fun m => n ?_⟩
  · exact List.mem_filterMap.mpr ⟨_, List.mem_cons_self, hf.trans (by rw [e])⟩
  · obtain ⟨v, q1, q2⟩ := List.mem_filterMap.mp m
    exact List.mem_filterMap.mpr ⟨v, List.mem_cons_of_mem _ q1, q2⟩
theorem Cau.move (c : Cau X pins σ H cls d a B y z) {h : Heap} (f : HandSPX.FlyingZ B X.stack a (Zc cls d) h) (u : z.heap.UpToSlots h) : Cau X pins σ H cls d a B y { z with heap := h } :=
  ⟨c.inv, c.nb, c.up.trans u, f, c.na, c.os, c.ag⟩
end
/-- the clauses do what is wished -/
def Hdl (X : Cx) (l : List ExceptHandler) (W : Ends → WX) : Prop :=
  ∀ (D : Ends) (pins : List (Addr × Obj)) (σ : L2.St) (H : Hp) (cls : Value) (d : Option Addr) (a : Addr) (B : Heap) (y z : Shared), Cau X pins σ H cls d a B y z → W D cls d σ H →
    wpAny (model X.prog X.w) X.A (handleBy (.ref a) X.env l) (SP X pins D) X.xe z
/-- a clause's wish: its class, what its suite has to end in, the clauses behind -/
def wOne (K : PySem.W.Frag) (c : Value) (yes no : Ends → WX) (D : Ends) : WX := fun cls d σ H =>
  ∃ b, PySem.W.exmOne K cls c = some b ∧ (b = true → yes D cls d σ H) ∧ (b = false → no D cls d σ H)
/-- a suite under no name, under the name of slot i -/
def wSu (ts : Addr → Value → Option Addr → TS) (D : Ends) : WX := fun cls d σ H => ∀ a, H a = none → ts a cls d D σ H
def dropN (i : Nat) (D : Ends) : Ends := ⟨fun σ H => D.nx (σ.set i none) H, D.rt, fun σ H => D.bk (σ.set i none) H, fun σ H => D.ct (σ.set i none) H⟩
def wSuN (i : Nat) (ts : Addr → Value → Option Addr → TS) (D : Ends) : WX := fun cls d σ H => ∀ a, H a = none → ts a cls d (dropN i D) (σ.set i (some (.ref a))) H
section
variable {X : Cx} {l : List ExceptHandler} {W : Ends → WX} {Wo : WX} {x : Str} {c : Value} {np pos : Pos} {st : Stmt} {su : List Stmt} {ts : Addr → Value → Option Addr → TS}
theorem hdl_nil (hs : X.stack = X.env :: X.outer) (hf : X.env.frame = some X.env.locals) (tk : Takes X Wo) : Hdl X [] fun _ => Wo := fun D pins σ H cls d a B y z c w => by
  refine wpAny_handleBy_nil ?_
  obtain ⟨_, _, _, o, fs, t, ot, tf, g1, _, g2, g3, _⟩ := id c.fl
  have out : wpAny (model X.prog X.w) X.A (setFlight (.ref a) X.env.frame) (fun _ s => wpAny (model X.prog X.w) X.A (throw (.ref a) : Sem Flow) (SP X pins D) X.xe s) X.xe z := by
    rw [hf]
    exact HandSPX.setFlight_upZ c.fl fun h q u => wpAny_throw (tk _ _ ⟨a, B, y, pins, σ, H, cls, d, rfl, c.inv, c.nb, c.up.trans u, .inr (.inr q), c.na, c.os, c.ag, w⟩)
  unfold PySem.passOn
  refine wpAny_bind (wpAny_field g1 g2 g3 ?_)
  rw [if_neg (by simp)]
  first
    | exact wpAny_bind out
    | exact wpAny_bind (wpAny_pure (wpAny_bind out))
/-- the test of a clause -/
theorem Cau.test {pins : List (Addr × Obj)} {σ : L2.St} {H : Hp} {cls : Value} {d : Option Addr} {a : Addr} {B : Heap} {y z : Shared} {b : Bool} {R : Result → Shared → Prop} {p2 : Pos}
    (q : Cau X pins σ H cls d a B y z) (hs : X.stack = X.env :: X.outer) (hf : X.env.frame = some X.env.locals) (hc : Names X x c) (he : PySem.W.exmOne X.K cls c = some b) (h : R (.ok (if b then .brk else .next)) z) :
    codeAny (model X.prog X.w) (X.A.mark (some (.ref a))) (.handlers (.ref a) [.ExceptHandler (some (.Name x np)) none [] p2] X.env) R z := by
  obtain ⟨o, fs, g1, g2, g3, I⟩ := q.inside hs hf
  have cl : PySem.W.Looks (model X.prog X.w) z.heap (typeOf (.ref a)) cls := fun _ _ _ _ k r => wpAny_typeOf_ref (k _ _ g1) (by rw [g2.1]; exact r)
  refine codeAny_handlers_test ?_
  have fit := (PySem.W.exm_one q.now.kIn cl he).here (A := X.A.mark (some (.ref a))) (Q := fun b s => R (.ok (if b then .brk else .next)) s) (E := notedBy (model X.prog X.w) (X.A.mark (some (.ref a))) X.env fun v s => R (.error v) s) h
  rcases hc with ⟨m1, m2, m3 | ⟨m3, m4, m5⟩⟩
  · exact ld_glob (X := X.suite a ((a, o) :: (X.pn ++ pins))) I m1 m3 fit m2
  · exact ld_blt (X := X.suite a ((a, o) :: (X.pn ++ pins))) I m1 m3 m4 fit m5 m2
theorem hdl_only (hs : X.stack = X.env :: X.outer) (hf : X.env.frame = some X.env.locals) (hc : Names X x c)
    (hu : ∀ (a : Addr) (o : Obj) (cls : Value) (d : Option Addr) (pn : List (Addr × Obj)), Zc cls d o → (∃ fs, o.data = .fields fs) → PSs (X.suite a ((a, o) :: pn)) (st :: su) (ts a cls d)) (hl : Hdl X l W) :
    Hdl X (.ExceptHandler (some (.Name x np)) none (st :: su) pos :: l) (wOne X.K c (wSu ts) W) := fun D pins σ H cls d a B y z q w => by
  obtain ⟨b, he, hy, hn⟩ := w
  have kk := q.now.ok
  refine wpAny_handleBy_cons (q.test hs hf hc he ?_) (fun e => by cases e)
  cases b with
  | false => exact hl D pins σ H cls d a B y z q (hn rfl)
  | true =>
    refine codeAny_handlers_suite (HandSPX.lands_againZ q.fl fun h f u => ?_)
    obtain ⟨o, fs, _, g2, g3, I⟩ := (q.move f u).inside hs hf
    refine wpAny_mono ((hu a o cls d (X.pn ++ pins) g2 ⟨fs, g3⟩).run [] _ σ H D I (hy rfl a q.na)) (fun f2 s2 e => ?_) fun _ _ e => e.elim
    cases f2 with
    | ret v => obtain ⟨v2, σ2, H2, J, r, e⟩ := e; exact ⟨v2, σ2, H2, J.unsuite kk, r, e⟩
    | next => obtain ⟨σ2, H2, J, e⟩ := e; exact ⟨σ2, H2, J.unsuite kk, e⟩
    | brk => obtain ⟨σ2, H2, J, e⟩ := e; exact ⟨σ2, H2, J.unsuite kk, e⟩
    | cont => obtain ⟨σ2, H2, J, e⟩ := e; exact ⟨σ2, H2, J.unsuite kk, e⟩
theorem hdl_as {i : Nat} {n : Str} (hs : X.stack = X.env :: X.outer) (hf : X.env.frame = some X.env.locals) (hN : X.N.Nodup) (hi : X.N[i]? = some n) (hk : X.env.kindOf n = some .local) (hc : Names X x c)
    (hu : ∀ (a : Addr) (o : Obj) (cls : Value) (d : Option Addr) (pn : List (Addr × Obj)), Zc cls d o → (∃ fs, o.data = .fields fs) → PSs (X.suite a ((a, o) :: pn)) (st :: su) (ts a cls d)) (hl : Hdl X l W) :
    Hdl X (.ExceptHandler (some (.Name x np)) (some n) (st :: su) pos :: l) (wOne X.K c (wSuN i ts) W) := fun D pins σ H cls d a B y z q w => by
  obtain ⟨b, he, hy, hn⟩ := w
  have kk := q.now.ok
  refine wpAny_handleBy_cons (q.test hs hf hc he ?_) (fun e => by cases e)
  cases b with
  | false => exact hl D pins σ H cls d a B y z q (hn rfl)
  | true =>
    refine codeAny_handlers_suite_as (HandSPX.lands_againZ q.fl fun h f u => ?_)
    obtain ⟨o, fs, _, g2, g3, I⟩ := (q.move f u).inside hs hf
    refine store_ok (X := X.suite a ((a, o) :: (X.pn ++ pins))) (v := .ref a) I hN hi (.inl hk) rfl (fun t J0 => ?_) (.inr hk)
    refine wpAny_mono ((hu a o cls d (X.pn ++ pins) g2 ⟨fs, g3⟩).run [] t _ H _ J0 (hy rfl a q.na)) (fun f2 s2 e => ?_) fun _ _ e => e.elim
    cases f2 with
    | ret v => obtain ⟨v2, σ2, H2, J, r, e⟩ := e; exact gone_ok (J.unsuite kk) hN hi hk fun s3 K3 => ⟨v2, _, H2, K3, r, e⟩
    | next => obtain ⟨σ2, H2, J, e⟩ := e; exact gone_ok (J.unsuite kk) hN hi hk fun s3 K3 => ⟨_, H2, K3, e⟩
    | brk => obtain ⟨σ2, H2, J, e⟩ := e; exact gone_ok (J.unsuite kk) hN hi hk fun s3 K3 => ⟨_, H2, K3, e⟩
    | cont => obtain ⟨σ2, H2, J, e⟩ := e; exact gone_ok (J.unsuite kk) hN hi hk fun s3 K3 => ⟨_, H2, K3, e⟩
/-- try with these clauses -/
theorem ps_try_hdl {body : List Stmt} {h₀ : ExceptHandler} {tb : WX → TS} (hs : X.stack = X.env :: X.outer) (hf : X.env.frame = some X.env.locals)
    (hb : ∀ (V : WX) (pn : List (Addr × Obj)) (xe : Value → Shared → Prop), Takes (X.tr pn xe) V → PassesOwn (model X.prog X.w) X.A X.env xe → PSs (X.tr pn xe) body (tb V)) (hl : Hdl X (h₀ :: l) W) :
    PS X (.Try body (h₀ :: l) [] [] pos) fun D σ H => tb (W D) D σ H := by
  constructor
  intro pins s σ H D I h
  have kk := I.ok
  have fr : X.A.frames = some (X.env :: X.outer) := kk.frames.trans (by rw [hs])
  refine wpAny_Try_except (wpAny_mono ((hb (W D) (X.pn ++ pins) _ (fun u t q => ?_) PassesOwn.looking).run [] s σ H D (I.toTry _) h) (fun f t e => ?_) fun _ _ e => e)
  · obtain ⟨a, B, y, p2, σ2, H2, cls, d, rfl, J, nb, up, sk, na, os, ag, w⟩ := q
    have sk2 : Sky B (X.env :: X.outer) a (Zc cls d) X.env.locals t.heap := hs ▸ sk
    refine Sky.land Zc.steady fr hf sk2 fun h2 f2 u2 => ?_
    exact hl D pins σ2 H2 cls d a B y _ ⟨J.ofTry kk, nb, up.trans u2, by rw [hs]; exact f2, na, os, ag⟩ w
  · cases f with
    | next => obtain ⟨σ2, H2, J, e⟩ := e; exact wpAny_execs_nil ⟨σ2, H2, J.ofTry kk, e⟩
    | ret v => obtain ⟨v2, σ2, H2, J, r, e⟩ := e; exact ⟨v2, σ2, H2, J.ofTry kk, r, e⟩
    | brk => obtain ⟨σ2, H2, J, e⟩ := e; exact ⟨σ2, H2, J.ofTry kk, e⟩
    | cont => obtain ⟨σ2, H2, J, e⟩ := e; exact ⟨σ2, H2, J.ofTry kk, e⟩
end
end Ev

set_option Elab.async false
set_option linter.all false
set_option maxRecDepth 100000
set_option autoImplicit false
set_option maxHeartbeats 2000000
/-! Ev12c: exceptions of own classes with one field: raise, and try. -/
namespace Ev
open PySem PySem.Spec PyProof.Rows L2
/-- C(e): C an own class with one field -/
def tMkX (fn : Str) (C : Addr) (ta : TA) : L2.St → Hp → XK → Prop := fun σ H Q => ta σ H fun vs H1 => ∃ v, vs = [v] ∧ ∀ d, H1 d = none → Q (.ref C) (some d) (upd H1 d (.xd [(fn, v)]))
structure MkR (X : Cx) (cn fn : Str) (C : Addr) : Prop where
  mkP : ∀ (pn : List (Addr × Obj)) (xe : Value → Shared → Prop) {a : Expr} {ta : TA} {p pos : Pos}, PA (X.tr pn xe) [a] ta → Gl X cn → starEach (a :: []) X.env = (false, eval a X.env) :: starEach [] X.env → (backTo pos (starEach [] X.env)).any (·.1) = false → PMk (X.tr pn xe) (.Call (.Name cn p) [a] [] pos) (tMkX fn C ta)
  gC : X.mg cn = some (.ref C)
  xf : XfC X.K C
  no : PySem.W.findIn X.K (.ref C) fn = some none
theorem MkR.tr {X : Cx} {cn fn : Str} {C : Addr} (M : MkR X cn fn C) {pn : List (Addr × Obj)} {xe : Value → Shared → Prop} : MkR (X.tr pn xe) cn fn C := ⟨fun pn' xe' => M.mkP pn' xe', M.gC, M.xf, M.no⟩
section
variable {X : Cx} {ca : Nat → Addr} {fld : Nat → List Str} {Wx : WX} {cl : Nat → List D → List D → Rc}
theorem s_raise {c : Nat} {x : Ev.X} {cn fn : Str} {e : Expr} {p pos pos2 : Pos} (hc : X.calm = true) (tk : Takes X Wx) (M : MkR X cn fn (ca c)) (hf : fld c = [fn]) (hg : Gl X cn) (hp : plainE e = true) (hx : SE cl ca fld Wx X x e) :
    SS cl ca fld Wx X (.raise c (.cons x .nil)) (.Raise (some (.Call (.Name cn p) [e] [] pos)) none pos2) :=
  PSw (ps_raise hc tk (M.mkP X.pn X.xe (one_argX hp hx) hg (star_cons hp) (star_any rfl))) fun D σ H h => by
    obtain ⟨F, μ, m, L, h⟩ := fs_in (g := fun m => (evXs cl (.cons x .nil) m).bind fun ds m => .exc ⟨c, ds⟩ m) (fun m => by rw [evS] <;> rfl) h
    have e1 : (evXs cl (.cons x .nil) m).bind (fun ds m => (.exc ⟨c, ds⟩ m : Ev.R Fl)) = (evX cl x m).bind fun d m => .exc ⟨c, [d]⟩ m := by
      rw [evXs]
      cases evX cl x m with
      | ok d m1 => show ((evXs cl .nil m1).bind _).bind _ = _; rw [evXs]; rfl
      | exc _ _ => rfl
      | bad => rfl
    rw [e1] at h
    refine TG.mono (FinS.bind (rel := rD (gx X ca fld)) L h) fun v H1 ⟨d, F1, μ1, m1, L1, s1, r1, h1⟩ => ?_
    refine ⟨v, rfl, fun q hq => ?_⟩
    obtain ⟨L2, s2⟩ := L1.newF (o := .xd [(fn, v)]) hq
    have r2 := Rep.mono s2.fle s2.mu r1
    refine h1 (.ref (ca c)) (some q) _ _ _ _ L2 s2 ⟨rfl, q, [v], rfl, by show (fld c).length = 1; rw [hf]; rfl, ?_, .cons r2 .nil⟩
    show upd F1 q (.xd [(fn, v)]) q = some (.xd ((fld c).zip [v]))
    rw [upd_same, hf]
    rfl
/-- the clause is met -/
theorem hx_met {G : Gs} {F : Hp} {μ : List Addr} {m : Ms} {σ : L2.St} {H : Hp} {ex : Ex} {dX : Option Addr} {cX : Value} {fn : Str} (L : Lk G.K ⟨F, μ, m, σ, H⟩) (hf : G.fld ex.c = [fn]) (x : XRep G F μ ex cX dX) {d0 : D} (ha : ex.args = [d0]) :
    ∃ dd v, dX = some dd ∧ H dd = some (.xd [(fn, v)]) ∧ Rep G.K F μ d0 v := by
  obtain ⟨hc, d, vs, hd, hl, hF, hr⟩ := x
  rw [ha] at hr
  cases hr with
  | cons r0 rr =>
    cases rr
    rename_i v
    rw [hf] at hF
    exact ⟨d, v, hd, L.fro d _ hF, r0⟩
theorem lk_one (fn : Str) (v : V) : ([(fn, v)] : List (Str × V)).lookup fn = some v := by simp [List.lookup]
/-- the value that a class's name has: 10 is ValueError -/
def cvl (ca : Nat → Addr) (c : Nat) : Value := if c = 10 then .type "ValueError" else .ref (ca c)
def cvV (ca : Nat → Addr) (c : Nat) : V := if c = 10 then .ty "ValueError" else .ref (ca c)
/-- what the class at C must say, so that isinstance asks its instances rightly -/
structure IsC (K : PySem.W.Frag) (C : Addr) : Prop where
  cl : (PySem.W.clsIn K C).isSome = true
  ga : PySem.W.findIn K (.ref C) "__getattribute__" = some (some (.builtin "BaseException.__getattribute__"))
  gt : PySem.W.findIn K (.ref C) "__getattr__" = some none
  sb : PySem.W.subIn K (.ref C) (.type "BaseException") = some true
  hc : PySem.W.findIn K (.ref C) "__class__" = some (some (.builtin "object.__class__"))
  sp : PySem.W.specialIn K (.builtin "object.__class__") "__get__" = some (some (.builtin "getset_descriptor.__get__"))
  tk : PySem.W.takesIn K (.builtin "object.__class__") = some true
  mo : PySem.W.mroIn K C (.type "object") = some true
/-- isinstance(e, ..), e the exception of the suite -/
theorem call_isX {a : Addr} {o : Obj} {cls : Value} {d : Option Addr} {pn : List (Addr × Obj)} (hz : Zc cls d o) (hf : ∃ fs, o.data = .fields fs) :
    CallR (X.suite a ((a, o) :: pn)) (.builtin "isinstance") (fun xs H Q => ∃ (C dd : Addr) (c : V) (cv : Value) (b : Bool) (fs : List (Str × V)), cls = .ref C ∧ d = some dd ∧ IsC X.K C ∧ xs = [.ref a, c] ∧ (∀ u, RelV c u → u = cv) ∧ PySem.W.kitOne X.K (.ref C) cv = some b ∧ H dd = some (.xd fs) ∧ Q (.bl b) H) := by
  intro pins s σ H xs us Q I r h
  obtain ⟨C, dd, c, cv, b, fl, rfl, rfl, I0, rfl, hv, hk, hd, q⟩ := h
  cases r with
  | cons r1 r =>
    cases r with
    | cons r2 r =>
      cases r
      obtain rfl := hv _ r2
      cases r1
      obtain ⟨g, _⟩ := I.pin (a, o) (List.mem_append_left _ List.mem_cons_self)
      obtain ⟨fs, hfs⟩ := hf
      obtain ⟨mA, hns, _⟩ := (show ObjOk X.prog X.w H s.heap dd (.xd fl) from I.hok dd _ hd)
      obtain ⟨od, ho, _⟩ := lookIn_ns hns
      have J : PySem.W.InstAt s.heap a o C (some od) := ⟨g, hz.1, by unfold PySem.W.notCls; rw [hfs] <;> rfl, by rw [hz.2]; exact ho⟩
      exact PySem.W.kia_one (PySem.W.kitx_exc I0.cl I0.ga I0.gt I0.sb I0.hc I0.sp I0.tk I0.mo) I.kIn J hk (fun z => nomatch z) fun t => ⟨.bl b, H, I.tok t, rfl, q⟩
/-- what is known where a clause's suite begins -/
structure Sui (X : Cx) (ca : Nat → Addr) (fld : Nat → List Str) (xc : Nat → Option (Str × Str)) (F : Hp) (μ : List Addr) (m : Ms) (σ : L2.St) (H : Hp) (i : Option Nat) (a : Addr) (cls : Value) (d : Option Addr) (ex : Ex) : Prop where
  lk : Lk X.K ⟨F, μ, m, σ, H⟩
  at_ : ∀ j, i = some j → σ[j]? = some (some (.ref a))
  rep : XRep (gx X ca fld) F μ ex cls d
  kno : ∃ p, xc ex.c = some p
theorem Sui.step {xc : Nat → Option (Str × Str)} {F F' : Hp} {μ μ' : List Addr} {m : Ms} {σ : L2.St} {H H' : Hp} {i : Option Nat} {a : Addr} {cls : Value} {d : Option Addr} {ex : Ex} (s : Sui X ca fld xc F μ m σ H i a cls d ex) (L : Lk X.K ⟨F', μ', m, σ, H'⟩) (t : Stp ⟨F, μ, m, σ, H⟩ ⟨F', μ', m, σ, H'⟩) :
    Sui X ca fld xc F' μ' m σ H' i a cls d ex := ⟨L, s.at_, ⟨s.rep.1, by
  obtain ⟨_, q, vs, h1, h2, h3, h4⟩ := s.rep
  exact ⟨q, vs, h1, h2, t.fle q _ h3, h4.mono t.fle t.mu⟩⟩, s.kno⟩
/-- what is wished of an expression of a suite -/
def tHx (X : Cx) (ca : Nat → Addr) (fld : Nat → List Str) (xc : Nat → Option (Str × Str)) (i : Option Nat) (x : Hx) (a : Addr) (cls : Value) (d : Option Addr) : TE := fun σ H Q => ∃ F μ m ex dv, Sui X ca fld xc F μ m σ H i a cls d ex ∧ hxD ex x = some dv ∧
  ∀ (v : V) (F' : Hp) (μ' : List Addr) (H' : Hp), Lk X.K ⟨F', μ', m, σ, H'⟩ → Stp ⟨F, μ, m, σ, H⟩ ⟨F', μ', m, σ, H'⟩ → Rep X.K F' μ' dv v → Q v H'
def tHxs (X : Cx) (ca : Nat → Addr) (fld : Nat → List Str) (xc : Nat → Option (Str × Str)) (i : Option Nat) (x : Hxs) (a : Addr) (cls : Value) (d : Option Addr) : TA := fun σ H Q => ∃ F μ m ex dv, Sui X ca fld xc F μ m σ H i a cls d ex ∧ hxDs ex x = some dv ∧
  ∀ (v : List V) (F' : Hp) (μ' : List Addr) (H' : Hp), Lk X.K ⟨F', μ', m, σ, H'⟩ → Stp ⟨F, μ, m, σ, H⟩ ⟨F', μ', m, σ, H'⟩ → Reps X.K F' μ' dv v → Q v H'
def tHt (X : Cx) (ca : Nat → Addr) (fld : Nat → List Str) (xc : Nat → Option (Str × Str)) (i : Option Nat) (cs : List Nat) (a : Addr) (cls : Value) (d : Option Addr) : TT := fun σ H Q => ∃ F μ m ex, Sui X ca fld xc F μ m σ H i a cls d ex ∧ Q (cs.all (subX ex.c)) H
/-- the contexts of a suite -/
abbrev HE (X : Cx) (ca : Nat → Addr) (fld : Nat → List Str) (xc : Nat → Option (Str × Str)) (i : Option Nat) (x : Hx) (e : Expr) : Prop := ∀ (a : Addr) (o : Obj) (cls : Value) (d : Option Addr) (pn : List (Addr × Obj)), Zc cls d o → (∃ fs, o.data = .fields fs) → PE (X.suite a ((a, o) :: pn)) e (tHx X ca fld xc i x a cls d)
abbrev HA (X : Cx) (ca : Nat → Addr) (fld : Nat → List Str) (xc : Nat → Option (Str × Str)) (i : Option Nat) (x : Hxs) (e : List Expr) : Prop := ∀ (a : Addr) (o : Obj) (cls : Value) (d : Option Addr) (pn : List (Addr × Obj)), Zc cls d o → (∃ fs, o.data = .fields fs) → PA (X.suite a ((a, o) :: pn)) e (tHxs X ca fld xc i x a cls d)
abbrev HT (X : Cx) (ca : Nat → Addr) (fld : Nat → List Str) (xc : Nat → Option (Str × Str)) (i : Option Nat) (cs : List Nat) (e : Expr) : Prop := ∀ (a : Addr) (o : Obj) (cls : Value) (d : Option Addr) (pn : List (Addr × Obj)), Zc cls d o → (∃ fs, o.data = .fields fs) → PT (X.suite a ((a, o) :: pn)) e (tHt X ca fld xc i cs a cls d)
theorem h_ks {xc : Nat → Option (Str × Str)} {i : Option Nat} {b : Str} {j : Nat} {pos : Pos} : HE X ca fld xc i (.ks b) (.Constant (.str b) j pos) := fun a o cls d pn _ _ => PEw pe_str fun σ H Q ⟨F, μ, m, ex, dv, s, e, h⟩ => by
  cases e
  exact h _ F μ H s.lk (Stp.refl _) (.str _)
theorem h_kn {xc : Nat → Option (Str × Str)} {i : Option Nat} {j : Nat} {pos : Pos} : HE X ca fld xc i .kn (.Constant .none j pos) := fun a o cls d pn _ _ => PEw pe_non fun σ H Q ⟨F, μ, m, ex, dv, s, e, h⟩ => by
  cases e
  exact h _ F μ H s.lk (Stp.refl _) .non
theorem h_kb {xc : Nat → Option (Str × Str)} {i : Option Nat} {b : Bool} {j : Nat} {pos : Pos} : HE X ca fld xc i (.kb b) (.Constant (.bool b) j pos) := fun a o cls d pn _ _ => PEw pe_bl fun σ H Q ⟨F, μ, m, ex, dv, s, e, h⟩ => by
  cases e
  exact h _ F μ H s.lk (Stp.refl _) (.bl _)
theorem h_fld {xc : Nat → Option (Str × Str)} {i c : Nat} {cn fn n : Str} {p1 p2 : Pos} (M : MkR X cn fn (ca c)) (hfl : fld c = [fn]) (hpv : ∀ (a : Addr) (pn : List (Addr × Obj)) (pos : Pos), PE (X.suite a pn) (.Name n pos) (tVar i)) :
    HE X ca fld xc (some i) (.fld c) (.Attribute (.Name n p1) fn p2) := fun a o cls d pn hz hf => PEw (pe_xf M.xf M.no hz hf (hpv _ _ _)) fun σ H Q ⟨F, μ, m, ex, dv, s, e, h⟩ => by
  rw [hxD] at e
  split at e
  · rename_i e1
    split at e
    · rename_i dv' ha
      cases e
      obtain ⟨dd, v, g1, g2, g3⟩ := hx_met (G := ⟨X.K, ca, fld⟩) s.lk (by show fld ex.c = _; rw [e1]; exact hfl) s.rep ha
      exact ⟨.ref a, s.at_ _ rfl, rfl, by rw [s.rep.1, e1], dd, _, v, g1, g2, lk_one fn v, h v F μ H s.lk (Stp.refl _) g3⟩
    · cases e
  · cases e
theorem cvV_rel {c : Nat} {u : Value} (r : RelV (cvV ca c) u) : u = cvl ca c := by
  unfold cvV at r
  unfold cvl
  split at r
  · rename_i h; rw [if_pos h]; exact r
  · rename_i h; rw [if_neg h]; exact r
/-- what is known of the classes by number: the names, who is whose -/
structure ClsX (X : Cx) (ca : Nat → Addr) (xc : Nat → Option (Str × Str)) (xn : Nat → Option Str) : Prop where
  mg : ∀ c n, xn c = some n → (c ≠ 10 → X.mg n = some (.ref (ca c))) ∧ (c = 10 → n = "ValueError" ∧ X.mg n = none)
  xe : ∀ c p c' n, xc c = some p → xn c' = some n → c' ≠ 10 → PySem.W.exmOne X.K (.ref (ca c)) (.ref (ca c')) = some (subX c c')
  kit : ∀ c p c' n, xc c = some p → xn c' = some n → PySem.W.kitOne X.K (.ref (ca c)) (cvl ca c') = some (subX c c')
  isc : ∀ c p, xc c = some p → IsC X.K (ca c)
theorem ClsX.nm {xc : Nat → Option (Str × Str)} {xn : Nat → Option Str} (Z : ClsX X ca xc xn) (c : Nat) (n : Str) (h : xn c = some n) (hg : Gl X n) (hd : (n == ("__debug__" : Str)) = false) (a : Addr) (pn : List (Addr × Obj)) (pos : Pos) : PE (X.suite a pn) (.Name n pos) (tC (cvV ca c)) := by
  obtain ⟨h1, h2⟩ := Z.mg c n h
  by_cases e : c = 10
  · obtain ⟨rfl, h3⟩ := h2 e
    have e2 : cvV ca c = .ty "ValueError" := by unfold cvV; rw [if_pos e]
    rw [e2]
    exact pe_bltn hg h3 (u := .type "ValueError") (by decide +kernel) rfl (by decide) hd
  · have e2 : cvV ca c = .ref (ca c) := by unfold cvV; rw [if_neg e]
    rw [e2]
    exact pe_glob hg (h1 e) rfl hd
theorem h_isB {i c : Nat} {n cn : Str} {xc : Nat → Option (Str × Str)} {xn : Nat → Option Str} {p1 p2 p3 pos : Pos} (Z : ClsX X ca xc xn) (hg : Gl X "isinstance") (hm : X.mg "isinstance" = none) (hgc : Gl X cn) (hdb : (cn == ("__debug__" : Str)) = false) (hc : xn c = some cn)
    (hpv : ∀ (a : Addr) (pn : List (Addr × Obj)) (pos : Pos), PE (X.suite a pn) (.Name n pos) (tVar i)) {a : Addr} {o : Obj} {cls : Value} {d : Option Addr} {pn : List (Addr × Obj)} (hz : Zc cls d o) (hf : ∃ fs, o.data = .fields fs) :
    PE (X.suite a ((a, o) :: pn)) (.Call (.Name "isinstance" p1) [.Name n p2, .Name cn p3] [] pos) (fun σ H Q => ∃ F μ m ex, Sui X ca fld xc F μ m σ H (some i) a cls d ex ∧ Q (.bl (subX ex.c c)) H) := by
  refine PEw (pe_callB (call_isX hz hf) hg hm (by decide +kernel) (pa_cons (hpv _ _ _) (pa_cons (Z.nm c cn hc hgc hdb _ _ _) pa_nil (star_cons rfl)) (star_cons rfl)) (by decide) (by decide) (star_cons rfl) (star_any rfl)) fun σ H Q ⟨F, μ, m, ex, s, q⟩ => ?_
  obtain ⟨h0, q', vs, h1, h2, h3, h4⟩ := id s.rep
  obtain ⟨p, hp⟩ := s.kno
  exact ⟨.ref a, s.at_ _ rfl, ca ex.c, q', cvV ca c, cvl ca c, subX ex.c c, _, h0, h1, Z.isc _ _ hp, rfl, fun u r => cvV_rel r, Z.kit _ _ _ _ hp hc, s.lk.fro _ _ h3, q⟩
theorem h_is {i c : Nat} {n cn : Str} {xc : Nat → Option (Str × Str)} {xn : Nat → Option Str} {p1 p2 p3 pos : Pos} (Z : ClsX X ca xc xn) (hg : Gl X "isinstance") (hm : X.mg "isinstance" = none) (hgc : Gl X cn) (hdb : (cn == ("__debug__" : Str)) = false) (hc : xn c = some cn)
    (hpv : ∀ (a : Addr) (pn : List (Addr × Obj)) (pos : Pos), PE (X.suite a pn) (.Name n pos) (tVar i)) : HE X ca fld xc (some i) (.isx c) (.Call (.Name "isinstance" p1) [.Name n p2, .Name cn p3] [] pos) := fun a o cls d pn hz hf =>
  PEw (h_isB (fld := fld) Z hg hm hgc hdb hc hpv hz hf) fun σ H Q ⟨F, μ, m, ex, dv, s, e, h⟩ => by
    cases e
    exact ⟨F, μ, m, ex, s, h _ F μ H s.lk (Stp.refl _) (.bl _)⟩
theorem h_t1 {i c : Nat} {n cn : Str} {xc : Nat → Option (Str × Str)} {xn : Nat → Option Str} {p1 p2 p3 pos : Pos} (Z : ClsX X ca xc xn) (hg : Gl X "isinstance") (hm : X.mg "isinstance" = none) (hgc : Gl X cn) (hdb : (cn == ("__debug__" : Str)) = false) (hc : xn c = some cn)
    (hpv : ∀ (a : Addr) (pn : List (Addr × Obj)) (pos : Pos), PE (X.suite a pn) (.Name n pos) (tVar i)) : HT X ca fld xc (some i) [c] (.Call (.Name "isinstance" p1) [.Name n p2, .Name cn p3] [] pos) := fun a o cls d pn hz hf =>
  PTw (pt_val (h_isB (fld := fld) Z hg hm hgc hdb hc hpv hz hf)) fun σ H Q ⟨F, μ, m, ex, s, h⟩ => ⟨F, μ, m, ex, s, _, rfl, by
    have e : [c].all (subX ex.c) = subX ex.c c := by simp
    rw [e] at h
    exact h⟩
/-- tests joined by and -/
abbrev HW (X : Cx) (ca : Nat → Addr) (fld : Nat → List Str) (xc : Nat → Option (Str × Str)) (i : Option Nat) (cs : List Nat) (e : Expr) : Prop := ∀ (a : Addr) (o : Obj) (cls : Value) (d : Option Addr) (pn : List (Addr × Obj)), Zc cls d o → (∃ fs, o.data = .fields fs) → PW (X.suite a ((a, o) :: pn)) e (tHt X ca fld xc i cs a cls d)
theorem h_w1 {xc : Nat → Option (Str × Str)} {i : Option Nat} {c : Nat} {l : Expr} {pos : Pos} (h : HT X ca fld xc i [c] l) : HW X ca fld xc i [c] (.BoolOp .And [l] pos) := fun a o cls d pn hz hf => pw_and1 (h a o cls d pn hz hf)
theorem PWw' {Y : Cx} {e : Expr} {t t' : TT} (h : PW Y e t) (q : ∀ σ H Q, t' σ H Q → t σ H Q) : PW Y e t' := PWw h q
theorem h_w2 {xc : Nat → Option (Str × Str)} {i : Option Nat} {c : Nat} {cs : List Nat} {l r : Expr} {rest : List Expr} {pos : Pos} (h : HT X ca fld xc i [c] l) (hr : HW X ca fld xc i cs (.BoolOp .And (r :: rest) pos)) :
    HW X ca fld xc i (c :: cs) (.BoolOp .And (l :: r :: rest) pos) := fun a o cls d pn hz hf => PWw' (pw_and (h a o cls d pn hz hf) (hr a o cls d pn hz hf)) fun σ H Q ⟨F, μ, m, ex, s, q⟩ => by
  refine ⟨F, μ, m, ex, s, ?_⟩
  have e : [c].all (subX ex.c) = subX ex.c c := by simp
  rw [e]
  rw [List.all_cons] at q
  cases h1 : subX ex.c c with
  | true =>
    rw [h1, Bool.true_and] at q
    show tHt X ca fld xc i cs a cls d σ H Q
    exact ⟨F, μ, m, ex, s, q⟩
  | false =>
    rw [h1, Bool.false_and] at q
    exact q
theorem h_ife {xc : Nat → Option (Str × Str)} {i : Option Nat} {cs : List Nat} {x y : Hx} {c l r : Expr} {pos : Pos} (ht : HT X ca fld xc i cs c) (hx : HE X ca fld xc i x l) (hy : HE X ca fld xc i y r) : HE X ca fld xc i (.ife cs x y) (.IfExp c l r pos) := fun a o cls d pn hz hf =>
  PEw (pe_ifExp (ht a o cls d pn hz hf) (hx a o cls d pn hz hf) (hy a o cls d pn hz hf)) fun σ H Q ⟨F, μ, m, ex, dv, s, e, h⟩ => by
    rw [hxD] at e
    refine ⟨F, μ, m, ex, s, ?_⟩
    split at e
    · rename_i h1
      rw [if_pos h1]
      exact ⟨F, μ, m, ex, dv, s, e, h⟩
    · rename_i h1
      rw [if_neg h1]
      exact ⟨F, μ, m, ex, dv, s, e, h⟩
theorem h_nil {xc : Nat → Option (Str × Str)} {i : Option Nat} : HA X ca fld xc i .nil [] := fun a o cls d pn _ _ => PAw pa_nil fun σ H Q ⟨F, μ, m, ex, dv, s, e, h⟩ => by
  cases e
  exact h [] F μ H s.lk (Stp.refl _) .nil
theorem h_cons {xc : Nat → Option (Str × Str)} {i : Option Nat} {x : Hx} {r : Hxs} {e : Expr} {es : List Expr} (hp : plainE e = true) (hx : HE X ca fld xc i x e) (hr : HA X ca fld xc i r es) : HA X ca fld xc i (.cons x r) (e :: es) := fun a o cls d pn hz hf =>
  PAw (pa_cons (hx a o cls d pn hz hf) (hr a o cls d pn hz hf) (star_cons hp)) fun σ H Q ⟨F, μ, m, ex, dv, s, e, h⟩ => by
    rw [hxDs] at e
    cases e1 : hxD ex x with
    | none => rw [e1] at e; cases e
    | some d1 =>
      rw [e1, Option.bind_some] at e
      cases e2 : hxDs ex r with
      | none => rw [e2] at e; cases e
      | some ds =>
        rw [e2, Option.bind_some] at e
        cases e
        refine ⟨F, μ, m, ex, d1, s, e1, fun v F1 μ1 H1 L1 s1 r1 => ⟨F1, μ1, m, ex, ds, s.step L1 s1, e2, fun vs F2 μ2 H2 L2 s2 r2 => ?_⟩⟩
        exact h (v :: vs) F2 μ2 H2 L2 (s1.trans s2) (.cons (r1.mono s2.fle s2.mu) r2)
theorem small16 {n : Nat} (h : n ≤ 16) : n ≤ sizeLine := by
  rw [sizeLine_eq]
  omega
theorem h_lst {xc : Nat → Option (Str × Str)} {i : Option Nat} {x : Hxs} {l : List Expr} {pos : Pos} (hx : HA X ca fld xc i x l) : HE X ca fld xc i (.lst x) (.List l pos) := fun a o cls d pn hz hf =>
  PEw (pe_lst (hx a o cls d pn hz hf)) fun σ H Q ⟨F, μ, m, ex, dv, s, e, h⟩ => by
    rw [hxD] at e
    cases e2 : hxDs ex x with
    | none => rw [e2] at e; cases e
    | some ds =>
      rw [e2, Option.bind_some] at e
      split at e
      · rename_i hl
        cases e
        refine ⟨F, μ, m, ex, ds, s, e2, fun vs F1 μ1 H1 L1 s1 r1 => ⟨by rw [← r1.length]; exact small16 hl, fun p hp => ?_⟩⟩
        obtain ⟨L2, s2⟩ := L1.newF (o := .lst vs) hp
        exact h _ _ _ _ L2 (s1.trans s2) (Rep.lst (SqL.of upd_same) (r1.mono s2.fle s2.mu))
      · cases e
theorem h_tup {xc : Nat → Option (Str × Str)} {i : Option Nat} {x : Hxs} {l : List Expr} {k : Nat} {pos : Pos} (hx : HA X ca fld xc i x l) : HE X ca fld xc i (.tup x) (.Tuple l k pos) := fun a o cls d pn hz hf =>
  PEw (pe_tup (hx a o cls d pn hz hf)) fun σ H Q ⟨F, μ, m, ex, dv, s, e, h⟩ => by
    rw [hxD] at e
    cases e2 : hxDs ex x with
    | none => rw [e2] at e; cases e
    | some ds =>
      rw [e2, Option.bind_some] at e
      split at e
      · rename_i hl
        cases e
        refine ⟨F, μ, m, ex, ds, s, e2, fun vs F1 μ1 H1 L1 s1 r1 => ⟨by rw [← r1.length]; exact small16 hl, fun p hp => ?_⟩⟩
        obtain ⟨L2, s2⟩ := L1.newF (o := .tup vs) hp
        exact h _ _ _ _ L2 (s1.trans s2) (Rep.tup (SqT.of upd_same) (r1.mono s2.fle s2.mu))
      · cases e
/-- a clause's suite -/
def tHb (X : Cx) (ca : Nat → Addr) (fld : Nat → List Str) (xc : Nat → Option (Str × Str)) (i : Option Nat) (b : Hb) (a : Addr) (cls : Value) (d : Option Addr) : TS := fun D σ H => ∃ F μ m ex dv, Sui X ca fld xc F μ m σ H i a cls d ex ∧ hbD ex b = some dv ∧
  ∀ (v : V) (F' : Hp) (μ' : List Addr) (H' : Hp), Lk X.K ⟨F', μ', m, σ, H'⟩ → Stp ⟨F, μ, m, σ, H⟩ ⟨F', μ', m, σ, H'⟩ → Rep X.K F' μ' dv v → D.rt v H'
abbrev HS (X : Cx) (ca : Nat → Addr) (fld : Nat → List Str) (xc : Nat → Option (Str × Str)) (i : Option Nat) (b : Hb) (su : List Stmt) : Prop := ∀ (a : Addr) (o : Obj) (cls : Value) (d : Option Addr) (pn : List (Addr × Obj)), Zc cls d o → (∃ fs, o.data = .fields fs) → PSs (X.suite a ((a, o) :: pn)) su (tHb X ca fld xc i b a cls d)
theorem h_ret {xc : Nat → Option (Str × Str)} {i : Option Nat} {x : Hx} {e : Expr} {pos : Pos} (hx : HE X ca fld xc i x e) : HS X ca fld xc i (.ret x) [.Return (some e) pos] := fun a o cls d pn hz hf =>
  PSsw (pss_one (ps_ret (hx a o cls d pn hz hf))) fun D σ H ⟨F, μ, m, ex, dv, s, e, h⟩ => ⟨F, μ, m, ex, dv, s, e, h⟩
theorem h_if {xc : Nat → Option (Str × Str)} {i : Option Nat} {cs : List Nat} {x : Hx} {r : Hb} {c e : Expr} {su : List Stmt} {p1 pos : Pos} (ht : HT X ca fld xc i cs c) (hx : HE X ca fld xc i x e) (hr : HS X ca fld xc i r su) :
    HS X ca fld xc i (.ife cs x r) (.If c [.Return (some e) p1] [] pos :: su) := fun a o cls d pn hz hf =>
  PSsw (pss_cons (ps_if (ht a o cls d pn hz hf) (pss_one (ps_ret (hx a o cls d pn hz hf))) pss_nil) (hr a o cls d pn hz hf)) fun D σ H ⟨F, μ, m, ex, dv, s, e, h⟩ => by
    rw [hbD] at e
    refine ⟨F, μ, m, ex, s, ?_⟩
    split at e
    · rename_i h1
      rw [if_pos h1]
      exact ⟨F, μ, m, ex, dv, s, e, h⟩
    · rename_i h1
      rw [if_neg h1]
      exact ⟨F, μ, m, ex, dv, s, e, h⟩
end
end Ev

set_option Elab.async false
set_option linter.all false
set_option maxRecDepth 100000
set_option autoImplicit false
set_option maxHeartbeats 2000000
/-! Ev12e: try with several clauses. -/
namespace Ev
open PySem PySem.Spec PyProof.Rows L2
theorem off_ok {K : PySem.W.Frag} {F : Hp} {μ : List Addr} {m m' : Ms} {σ : L2.St} {H : Hp} {i : Nat} {v : V} (L : Lk K ⟨F, μ, m, σ, H⟩) (e : offM i m = .ok () m') :
    Lk K ⟨F, μ, m', σ.set i (some v), H⟩ ∧ Stp ⟨F, μ, m, σ, H⟩ ⟨F, μ, m', σ.set i (some v), H⟩ ∧ i < σ.length := by
  unfold offM at e
  split at e
  · cases e
  · rename_i hn hi0
    cases e
    have hi : i < m.ρ.length := (List.getElem?_eq_some_iff.mp hi0).1
    have hl : i < σ.length := by
      have := L.len
      simp only at this
      omega
    have own : ∀ j c, (m.ρ.set i Sl.un)[j]? = some (Sl.ow c) ∨ (m.ρ.set i Sl.un)[j]? = some (Sl.rl c) → j ≠ i ∧ (m.ρ[j]? = some (Sl.ow c) ∨ m.ρ[j]? = some (Sl.rl c)) := fun j c hc => by
      rcases hc with hc | hc
      · rcases get_set hc with ⟨_, z, _⟩ | ⟨ne, z⟩
        · cases z
        · exact ⟨ne, .inl z⟩
      · rcases get_set hc with ⟨_, z, _⟩ | ⟨ne, z⟩
        · cases z
        · exact ⟨ne, .inr z⟩
    have back : ∀ x q, Own ⟨F, μ, { m with ρ := m.ρ.set i .un }, σ.set i (some v), H⟩ x q → Own ⟨F, μ, m, σ, H⟩ x q := by
      intro x q h
      cases x with
      | inr n => exact h
      | inl j =>
        obtain ⟨⟨c, hc⟩, hs⟩ := h
        obtain ⟨ne, z⟩ := own j c hc
        have hs : (σ.set i (some v))[j]? = some (some (V.ref q)) := hs
        rw [List.getElem?_set_ne (Ne.symm ne)] at hs
        exact ⟨⟨c, z⟩, hs⟩
    refine ⟨⟨L.fro, by simpa using L.len, L.mul, fun j d' ej => ?_, fun j c hc => ?_, L.sto, fun a b q h1 h2 => L.inj a b q (back _ _ h1) (back _ _ h2)⟩, ⟨fun _ _ e => e, List.prefix_refl _, fun _ _ e _ => e, fun p x hx => .inl ⟨x, back _ _ hx⟩, fun p o e => .inl (by rw [e]; simp), fun _ e => e, fun j c hj => ?_⟩, hl⟩
    · rcases get_set ej with ⟨rfl, z, _⟩ | ⟨ne, z⟩
      · cases z
      · obtain ⟨v', h1, h2⟩ := L.val j d' z
        exact ⟨v', by rw [List.getElem?_set_ne (Ne.symm ne)]; exact h1, h2⟩
    · obtain ⟨ne, z⟩ := own j c hc
      obtain ⟨p, h1, h2⟩ := L.own j c z
      exact ⟨p, by rw [List.getElem?_set_ne (Ne.symm ne)]; exact h1, h2⟩
    · have ne : i ≠ j := fun q => by
        subst q
        have hj : m.ρ[i]? = some (Sl.rl c) := hj
        rw [hi0] at hj
        exact hn c (Option.some.inj hj)
      exact ⟨by show (m.ρ.set i _)[j]? = _; rw [List.getElem?_set_ne ne]; exact hj, by show (σ.set i _)[j]? = σ[j]?; rw [List.getElem?_set_ne ne]⟩
  · cases e
theorem offM_nx {i : Nat} {m : Ms} : ∀ e m', offM i m ≠ .exc e m' := fun e m' h => by
  unfold offM at h
  split at h <;> cases h
section
variable {X : Cx} {ca : Nat → Addr} {fld : Nat → List Str} {Wx : WX} {cl : Nat → List D → List D → Rc} {xc : Nat → Option (Str × Str)}
/-- what the clauses are asked to do -/
def wCl (X : Cx) (ca : Nat → Addr) (fld : Nat → List Str) (Wx : WX) (xc : Nat → Option (Str × Str)) (hs : List Hd) (D : Ends) : WX := fun cls d σ H =>
  ∃ F μ m ex, Lk X.K ⟨F, μ, m, σ, H⟩ ∧ XRep (gx X ca fld) F μ ex cls d ∧ (∃ p, xc ex.c = some p) ∧ FinS (gx X ca fld) Wx ⟨F, μ, m, σ, H⟩ (clM ex m hs) D
theorem Hdl.mono {l : List ExceptHandler} {W W' : Ends → WX} (h : Hdl X l W) (q : ∀ D cls d σ H, W' D cls d σ H → W D cls d σ H) : Hdl X l W' := fun D pins σ H cls d a B y z c w => h D pins σ H cls d a B y z c (q _ _ _ _ _ w)
theorem cl_nil (hs : X.stack = X.env :: X.outer) (hf : X.env.frame = some X.env.locals) (tk : Takes X Wx) : Hdl X [] (wCl X ca fld Wx xc []) :=
  (hdl_nil hs hf tk).mono fun D cls d σ H ⟨F, μ, m, ex, L, x, _, h⟩ => h cls d F μ σ H L (Stp.refl _) x
theorem cl_only {h : Hd} {r : List Hd} {l : List ExceptHandler} {x : Str} {np pos : Pos} {st : Stmt} {su : List Stmt} (hs : X.stack = X.env :: X.outer) (hf : X.env.frame = some X.env.locals) (hc : Names X x (.ref (ca h.c)))
    (he : ∀ c p, xc c = some p → PySem.W.exmOne X.K (.ref (ca c)) (.ref (ca h.c)) = some (subX c h.c)) (hi : h.i = none) (hu : HS X ca fld xc none h.b (st :: su)) (hl : Hdl X l (wCl X ca fld Wx xc r)) :
    Hdl X (.ExceptHandler (some (.Name x np)) none (st :: su) pos :: l) (wCl X ca fld Wx xc (h :: r)) :=
  (hdl_only hs hf hc hu hl).mono fun D cls d σ H ⟨F, μ, m, ex, L, x, ⟨p, hp⟩, w⟩ => by
    rw [clM, hi] at w
    refine ⟨subX ex.c h.c, by rw [x.1]; exact he _ _ hp, fun hb a ha => ?_, fun hb => ?_⟩
    · rw [if_pos hb] at w
      cases hh : hbD ex h.b with
      | none => rw [hh] at w; exact w.elim
      | some d0 =>
        rw [hh] at w
        exact ⟨F, μ, m, ex, d0, ⟨L, fun j e => (nomatch e), x, p, hp⟩, hh, fun v F' μ' H' L' s' rv => w F' μ' σ H' L' s' v rv⟩
    · rw [if_neg (by rw [hb]; simp)] at w
      exact ⟨F, μ, m, ex, L, x, ⟨p, hp⟩, w⟩
theorem cl_as {h : Hd} {r : List Hd} {l : List ExceptHandler} {x n : Str} {i : Nat} {np pos : Pos} {st : Stmt} {su : List Stmt} (hs : X.stack = X.env :: X.outer) (hf : X.env.frame = some X.env.locals) (hN : X.N.Nodup) (hni : X.N[i]? = some n) (hk : X.env.kindOf n = some .local) (hc : Names X x (.ref (ca h.c)))
    (he : ∀ c p, xc c = some p → PySem.W.exmOne X.K (.ref (ca c)) (.ref (ca h.c)) = some (subX c h.c)) (hi : h.i = some i) (hu : HS X ca fld xc (some i) h.b (st :: su)) (hl : Hdl X l (wCl X ca fld Wx xc r)) :
    Hdl X (.ExceptHandler (some (.Name x np)) (some n) (st :: su) pos :: l) (wCl X ca fld Wx xc (h :: r)) :=
  (hdl_as hs hf hN hni hk hc hu hl).mono fun D cls d σ H ⟨F, μ, m, ex, L, x, ⟨p, hp⟩, w⟩ => by
    rw [clM, hi] at w
    refine ⟨subX ex.c h.c, by rw [x.1]; exact he _ _ hp, fun hb a ha => ?_, fun hb => ?_⟩
    · rw [if_pos hb] at w
      cases hh : hbD ex h.b with
      | none => rw [hh] at w; exact w.elim
      | some d0 =>
        rw [hh] at w
        cases ho : offM i m with
        | exc e m' => exact absurd ho (offM_nx _ _)
        | bad => simp only [ho] at w; exact w.elim
        | ok u m' =>
          simp only [ho] at w
          obtain ⟨L2, s2, hl⟩ := off_ok (v := V.ref a) L ho
          exact ⟨F, μ, m', ex, d0, ⟨L2, fun j e => by cases e; rw [List.getElem?_set_self hl], x, p, hp⟩, hh, fun v F' μ' H' L' s' rv => w F' μ' _ H' L' (s2.trans s') v rv⟩
    · rw [if_neg (by rw [hb]; simp)] at w
      exact ⟨F, μ, m, ex, L, x, ⟨p, hp⟩, w⟩
theorem s_trs {cs : List Nat} {hds : List Hd} {b : Ss} {body : List Stmt} {h₀ : ExceptHandler} {l : List ExceptHandler} {pos : Pos} (hs : X.stack = X.env :: X.outer) (hf : X.env.frame = some X.env.locals) (hcs : ∀ c ∈ cs, ∃ p, xc c = some p)
    (hb : ∀ (W : WX) (pn : List (Addr × Obj)) (xe : Value → Shared → Prop), Takes (X.tr pn xe) W → PassesOwn (model X.prog X.w) X.A X.env xe → SSs cl ca fld W (X.tr pn xe) b body)
    (hh : Hdl X (h₀ :: l) (wCl X ca fld Wx xc hds)) : SS cl ca fld Wx X (.trs cs hds b) (.Try body (h₀ :: l) [] [] pos) :=
  PSw (ps_try_hdl (tb := fun W => FS ⟨X.K, ca, fld⟩ W (evSs cl b)) hs hf (fun W pn xe t h => hb W pn xe t h) hh) fun D σ H h => by
    obtain ⟨F, μ, m, L, h⟩ := fs_in (g := fun m => trM cs hds (evSs cl b m)) (fun m => by rw [evS] <;> rfl) h
    refine ⟨F, μ, m, L, ?_⟩
    cases q : evSs cl b m with
    | ok fl m' => rw [q] at h; exact h
    | bad => rw [q] at h; exact h.elim
    | exc ex m' =>
      rw [q] at h
      intro cX dX F' μ' σ' H' L' s' x
      unfold trM at h
      by_cases h1 : cs.contains ex.c = true
      · simp only [if_pos h1] at h
        exact ⟨F', μ', m', ex, L', x, hcs _ (by simpa using h1), h.step s'⟩
      · simp only [if_neg h1] at h
        exact h.elim
end
end Ev

set_option Elab.async false
set_option linter.all false
set_option maxRecDepth 100000
set_option autoImplicit false
set_option maxHeartbeats 2000000
/-! Ev13: the check that a text says what its core says, and what it is worth. -/
namespace Ev
open PySem PySem.Spec PyProof.Rows L2

/-! ### what the check looks up -/
structure Kx where
  N : List Str
  sc : List (Str × NameKind)
  fn : Str → Bool
  fs : Nat → Option Str
  gl : Str → D → Bool
  xc : Nat → Option (Str × Str) := fun _ => none
  xn : Nat → Option Str := fun _ => none
  top : Bool := false
def vis (k : Kx) (i : Nat) (x : Str) : Bool := decide (k.N[i]? = some x) && (decide (k.sc.lookup x = some .local) || decide (k.sc.lookup x = some .cell) || decide (k.sc.lookup x = some .free)) && !(x == ("__debug__" : Str)) && !(x == ("__classdict__" : Str))
def nm (k : Kx) (i : Nat) (x : Str) : Bool := decide (k.N[i]? = some x) && (decide (k.sc.lookup x = some .local) || (decide (k.sc.lookup x = some .cell) && k.fn x))
def glb (k : Kx) (x : Str) : Bool := decide (k.sc.lookup x = some .globalImplicit)
def mkOwn (N : List Str) (own : List Nat) : List (Str × Nat) := own.map fun i => (N.getD i "", i)
def scOf (sc : List (Str × NameKind)) : Scope := ⟨.function, sc, false, false, []⟩
def Kx.blk (k : Kx) (scope : Scope) : Kx := { k with sc := (relS scope (scOf k.sc)).names, fn := fun x => scope.names.lookup x == some .cell, xc := fun _ => none, xn := fun _ => none, top := false }
/-- isinstance(n, ..), n the clause's name -/
def chIs (k : Kx) (i : Option Nat) (n : Str) (c : Nat) (e : Expr) : Bool := match e with
  | .Call (.Name x _) [.Name y _, .Name cn _] [] _ => i.isSome && decide (x = ("isinstance" : Str)) && glb k "isinstance" && decide (y = n) && decide (k.xn c = some cn) && glb k cn && !(cn == ("__debug__" : Str))
  | _ => false
def chHw (k : Kx) (i : Option Nat) (n : Str) : List Nat → Expr → Bool
  | [c], e => match e with
    | .BoolOp .And [l] _ => chIs k i n c l
    | _ => false
  | c :: cs, e => match e with
    | .BoolOp .And (l :: r :: rest) pos => chIs k i n c l && chHw k i n cs (.BoolOp .And (r :: rest) pos)
    | _ => false
  | [], _ => false
def chHt (k : Kx) (i : Option Nat) (n : Str) (cs : List Nat) (e : Expr) : Bool := (match cs with
  | [c] => chIs k i n c e
  | _ => false) || chHw k i n cs e
mutual
/-- what an except clause returns, as it is written -/
def chHx (k : Kx) (i : Option Nat) (n : Str) : Hx → Expr → Bool
  | .fld c, e => match e with
    | .Attribute (.Name y _) g _ => i.isSome && decide (y = n) && (match k.xc c with
      | some p => decide (g = p.2)
      | none => false)
    | _ => false
  | .ks b, e => match e with
    | .Constant (.str c) _ _ => decide (b = c)
    | _ => false
  | .kn, e => match e with
    | .Constant .none _ _ => true
    | _ => false
  | .kb b, e => match e with
    | .Constant (.bool c) _ _ => decide (b = c)
    | _ => false
  | .isx c, e => chIs k i n c e
  | .ife cs a b, e => match e with
    | .IfExp c l r _ => chHt k i n cs c && chHx k i n a l && chHx k i n b r
    | _ => false
  | .lst es, e => match e with
    | .List l _ => chHxs k i n es l
    | _ => false
  | .tup es, e => match e with
    | .Tuple l _ _ => chHxs k i n es l
    | _ => false
def chHxs (k : Kx) (i : Option Nat) (n : Str) : Hxs → List Expr → Bool
  | .nil, l => match l with
    | [] => true
    | _ => false
  | .cons x r, l => match l with
    | e :: es => plainE e && chHx k i n x e && chHxs k i n r es
    | _ => false
end
def chHb (k : Kx) (i : Option Nat) (n : Str) : Hb → List Stmt → Bool
  | .ret x, l => match l with
    | [.Return (some e) _] => chHx k i n x e
    | _ => false
  | .ife cs x r, l => match l with
    | .If c [.Return (some e) _] [] _ :: su => chHt k i n cs c && chHx k i n x e && chHb k i n r su
    | _ => false
def chHd (k : Kx) (h : Hd) (x : Str) (nm : Option Str) (su : List Stmt) : Bool := decide (h.c ≠ 10) && decide (k.xn h.c = some x) && glb k x && !(x == ("__debug__" : Str)) && (match h.i, nm with
  | none, none => chHb k none "" h.b su
  | some i, some n => decide (k.N[i]? = some n) && decide (k.sc.lookup n = some .local) && !(n == ("__debug__" : Str)) && !(n == ("__classdict__" : Str)) && chHb k (some i) n h.b su
  | _, _ => false)
def chHds (k : Kx) : List Hd → List ExceptHandler → Bool
  | [], l => match l with
    | [] => true
    | _ => false
  | h :: r, l => match l with
    | .ExceptHandler (some (.Name x _)) nm (st :: su) _ :: l => chHd k h x nm (st :: su) && chHds k r l
    | _ => false
def chTgs (k : Kx) : List Nat → List Expr → Bool
  | [], [] => true
  | i :: is, .Name x _ :: es => nm k i x && chTgs k is es
  | _, _ => false
def chTg (k : Kx) : Tg → Expr → Bool
  | .n i, e => match e with
    | .Name x _ => nm k i x
    | _ => false
  | .t is, e => match e with
    | .Tuple es _ _ => chTgs k is es
    | _ => false

/-! ### the check -/
/-- a name that owns -/
def chOw (k : Kx) (i : Nat) (e : Expr) : Bool := match e with
  | .Name x _ => vis k i x
  | _ => false
def isTrueE : Expr → Bool
  | .Constant (.bool c) _ _ => c
  | _ => false
mutual
def chX (k : Kx) : X → Expr → Bool
  | .v i, e => match e with
    | .Name x _ => vis k i x
    | _ => false
  | .mv i, e => match e with
    | .Name x _ => vis k i x
    | _ => false
  | .kn, e => match e with
    | .Constant .none _ _ => true
    | _ => false
  | .kb b, e => match e with
    | .Constant (.bool c) _ _ => decide (b = c)
    | _ => false
  | .ki b, e => match e with
    | .Constant (.int c) _ _ => decide (b = c)
    | _ => false
  | .ks b, e => match e with
    | .Constant (.str c) _ _ => decide (b = c)
    | _ => false
  | .gl x d, e => match e with
    | .Name y _ => decide (x = y) && glb k y && k.gl y d && !(y == ("__debug__" : Str))
    | _ => false
  | .bin o a b, e => match e with
    | .BinOp l o' r _ => decide (o = o') && chX k a l && chX k b r
    | _ => false
  | .neg a, e => match e with
    | .UnaryOp .USub l _ => chX k a l
    | _ => false
  | .cmp o a b, e => match e with
    | .Compare l [o'] [r] _ => decide (o = o') && plainE r && chX k a l && chX k b r
    | _ => false
  | .cm2 o o2 a b c, e => match e with
    | .Compare l [o', o2'] [r, s] _ => decide (o = o') && decide (o2 = o2') && plainE r && plainE s && chX k a l && chX k b r && chX k c s
    | _ => false
  | .inn n a c, e => match e with
    | .Compare l [o'] [r] _ => decide (o' = if n then .NotIn else .In) && plainE r && chX k a l && chH k c r
    | _ => false
  | .and a b, e => match e with
    | .BoolOp .And (l :: r :: rest) pos => chX k a l && chX k b (.BoolOp .And (r :: rest) pos)
    | _ => false
  | .or a b, e => match e with
    | .BoolOp .Or (l :: r :: rest) pos => chX k a l && chX k b (.BoolOp .Or (r :: rest) pos)
    | _ => false
  | .one a, e => match e with
    | .BoolOp _ [l] _ => chX k a l
    | _ => false
  | .not c, e => match e with
    | .UnaryOp .Not l _ => chH k c l
    | _ => false
  | .ife t a b, e => match e with
    | .IfExp c l r _ => chT k t c && chX k a l && chX k b r
    | _ => false
  | .tup es, e => match e with
    | .Tuple l _ _ => chXs k es l
    | _ => false
  | .call f es, e => match e with
    | .Call (.Name x _) (a :: l) [] _ => decide (k.fs f = some x) && glb k x && !(x == ("__debug__" : Str)) && plainE a && l.all plainE && chXs k es (a :: l)
    | _ => false
  | .len c, e => match e with
    | .Call (.Name x _) [a] [] _ => decide (x = ("len" : Str)) && glb k "len" && plainE a && chH k c a
    | _ => false
  | .idx c i, e => match e with
    | .Subscript l r _ => plainE r && chH k c l && chX k i r
    | _ => false
  | .slc c lo hi, e => match e with
    | .Subscript l (.Slice a b none _) _ => chH k c l && chO k lo a && chO k hi b
    | _ => false
  | .rev c, e => match e with
    | .Subscript l (.Slice none none (some (.UnaryOp .USub (.Constant (.int 1) _ _) _)) _) _ => chH k c l
    | _ => false
  | .lend j, e => match e with
    | .Call (.Name x _) [a] [] _ => decide (x = ("len" : Str)) && glb k "len" && plainE a && chOw k j a
    | _ => false
  | .isi a t, e => match e with
    | .Call (.Name x _) [l, .Name y _] [] _ => decide (x = ("isinstance" : Str)) && decide (y = t.nm) && glb k "isinstance" && glb k t.nm && plainE l && chX k a l
    | _ => false
  | .isl a t, e => match e with
    | .Call (.Name x _) [l, .Name y _] [] _ => decide (x = ("isinstance" : Str)) && decide (y = t.nm) && glb k "isinstance" && glb k t.nm && plainE l && chX k a l
    | _ => false
  | .b1 f a, e => match e with
    | .Call (.Name x _) [l] [] _ => decide (x = f.nm) && glb k f.nm && plainE l && chX k a l
    | _ => false
  | .ag f c, e => match e with
    | .Call (.Name x _) [l] [] _ => decide (x = f.nm) && glb k f.nm && plainE l && chH k c l
    | _ => false
  | .b2 mx a b, e => match e with
    | .Call (.Name x _) [l, r] [] _ => decide (x = if mx then ("max" : Str) else "min") && glb k (if mx then ("max" : Str) else "min") && plainE l && plainE r && chX k a l && chX k b r
    | _ => false
  | .trg a, e => match e with
    | .Call (.Name x _) [.Call (.Name y _) [l] [] _] [] _ => decide (x = ("tuple" : Str)) && decide (y = ("range" : Str)) && glb k "tuple" && glb k "range" && plainE l && chX k a l
    | _ => false
  | .tupOf c, e => match e with
    | .Call (.Name x _) [l] [] _ => decide (x = ("tuple" : Str)) && glb k "tuple" && plainE l && chH k c l
    | _ => false
  | .fr f, e => chF k f e
  | .mk f, e => chF k f e
  | .pop c, e => match e with
    | .Call (.Attribute o n ap) [] [] cp => decide (n = ("pop" : Str)) && noCall0 o && (ap.endLine == cp.line) && chH k c o
    | _ => false
  | .popi c x, e => match e with
    | .Call (.Attribute o n ap) [a] [] cp => decide (n = ("pop" : Str)) && noCall0 o && plainE a && (ap.endLine == cp.line) && chH k c o && chX k x a
    | _ => false
  | .ix c x, e => match e with
    | .Call (.Attribute o n ap) [a] [] cp => decide (n = ("index" : Str)) && noCall0 o && plainE a && (ap.endLine == cp.line) && chH k c o && chX k x a
    | _ => false
  | .ixd c x, e => match e with
    | .Call (.Attribute o n ap) [a] [] cp => decide (n = ("index" : Str)) && noCall0 o && plainE a && (ap.endLine == cp.line) && chH k c o && chX k x a
    | _ => false
  | .app c x, e => match e with
    | .Call (.Attribute o n ap) [a] [] cp => decide (n = ("append" : Str)) && noCall0 o && plainE a && (ap.endLine == cp.line) && chH k c o && chX k x a
    | _ => false
  | .ext c x, e => match e with
    | .Call (.Attribute o n ap) [a] [] cp => decide (n = ("extend" : Str)) && noCall0 o && plainE a && (ap.endLine == cp.line) && chH k c o && chH k x a
    | _ => false
def chH (k : Kx) : H → Expr → Bool
  | .x x, e => chX k x e
  | .o i, e => match e with
    | .Name x _ => vis k i x
    | _ => false
def chXs (k : Kx) : Xs → List Expr → Bool
  | .nil, l => match l with
    | [] => true
    | _ => false
  | .cons x r, l => match l with
    | e :: es => plainE e && chX k x e && chXs k r es
    | _ => false
def chO (k : Kx) : Xo → Option Expr → Bool
  | .none, o => match o with
    | none => true
    | _ => false
  | .some x, o => match o with
    | some e => chX k x e
    | _ => false
def chT (k : Kx) : T → Expr → Bool
  | .cmp o a b, e => match e with
    | .Compare l [o'] [r] _ => decide (o = o') && plainE r && chX k a l && chX k b r
    | _ => false
  | .cm2 o o2 a b c, e => match e with
    | .Compare l [o', o2'] [r, s] _ => decide (o = o') && decide (o2 = o2') && plainE r && plainE s && chX k a l && chX k b r && chX k c s
    | _ => false
  | .inn n a c, e => match e with
    | .Compare l [o'] [r] _ => decide (o' = if n then .NotIn else .In) && plainE r && chX k a l && chH k c r
    | _ => false
  | .h c, e => plainT e && chH k c e
  | .and a b, e => match e with
    | .BoolOp .And (l :: r :: rest) pos => chT k a l && chT k b (.BoolOp .And (r :: rest) pos)
    | _ => false
  | .or a b, e => match e with
    | .BoolOp .Or (l :: r :: rest) pos => chT k a l && chT k b (.BoolOp .Or (r :: rest) pos)
    | _ => false
  | .one a, e => match e with
    | .BoolOp _ [l] _ => chT k a l
    | _ => false
  | .not a, e => match e with
    | .UnaryOp .Not l _ => chT k a l
    | _ => false
def chTs (k : Kx) : Ts → List Expr → Bool
  | .nil, l => match l with
    | [] => true
    | _ => false
  | .cons t r, l => match l with
    | [e] => chT k t e && (match r with | .nil => true | _ => false)
    | _ => false
def chF (k : Kx) : Fx → Expr → Bool
  | .disp es, e => match e with
    | .List l _ => chXs k es l
    | _ => false
  | .comp own tg it ifs elt, e => match e with
    | .ListComp el [⟨te, iter, ifsE, z⟩] scope _ => decide (z = 0) && blkC k.N (scOf k.sc) scope (mkOwn k.N own) && tg.sl.all (fun j => own.contains j) && plainE iter && chIt k it te iter && chTg (k.blk scope) tg te && chTs (k.blk scope) ifs ifsE && chX (k.blk scope) elt el
    | _ => false
  | .com2 own own1 tg it ifs tg1 it1 ifs1 elt, e => match e with
    | .ListComp el [⟨te, iter, ifsE, z⟩, ⟨te1, iter1, ifsE1, z1⟩] scope _ => decide (z = 0) && decide (z1 = 0) && blkC k.N (scOf k.sc) scope (mkOwn k.N own) && own1.all (fun j => own.contains j) && tg.sl.all (fun j => own.contains j) && tg1.sl.all (fun j => own1.contains j) && plainE iter && plainE iter1 &&
      chIt k it te iter && chTg (k.blk scope) tg te && chTs (k.blk scope) ifs ifsE && chIt (k.blk scope) it1 te1 iter1 && chTg (k.blk scope) tg1 te1 && chTs (k.blk scope) ifs1 ifsE1 && chX (k.blk scope) elt el
    | _ => false
  | .lstOf c, e => match e with
    | .Call (.Name x _) [l] [] _ => decide (x = ("list" : Str)) && glb k "list" && plainE l && chH k c l
    | _ => false
  | .sdc own tg it ifs elt, e => match e with
    | .Call (.Name x _) [.DictComp kx vx [⟨te, iter, ifsE, z⟩] scope _] [] _ => decide (x = ("sorted" : Str)) && glb k "sorted" && (decide (z = 0) && blkC k.N (scOf k.sc) scope (mkOwn k.N own) && tg.sl.all (fun j => own.contains j) && plainE iter && chIt k it te iter && chTg (k.blk scope) tg te && chTs (k.blk scope) ifs ifsE && chX (k.blk scope) elt kx && isTrueE vx)
    | _ => false
  | .srtt j, e => match e with
    | .Call (.Name x _) [l] [] _ => decide (x = ("sorted" : Str)) && glb k "sorted" && plainE l && chOw k j l
    | _ => false
  | .srtd j, e => match e with
    | .Call (.Name x _) [l] [] _ => decide (x = ("sorted" : Str)) && glb k "sorted" && plainE l && chOw k j l
    | _ => false
  | .srt c, e => match e with
    | .Call (.Name x _) [l] [] _ => decide (x = ("sorted" : Str)) && glb k "sorted" && plainE l && chH k c l
    | _ => false
  | .srtE c, e => match e with
    | .Call (.Name x _) [l] [] _ => decide (x = ("sorted" : Str)) && glb k "sorted" && plainE l && chH k c l
    | _ => false
  | .cat a b, e => match e with
    | .BinOp l .Add r _ => chH k a l && chH k b r
    | _ => false
  | .rep a n, e => match e with
    | .BinOp l .Mult r _ => chH k a l && chX k n r
    | _ => false
  | .lrg a, e => match e with
    | .Call (.Name x _) [.Call (.Name y _) [l] [] _] [] _ => decide (x = ("list" : Str)) && decide (y = ("range" : Str)) && glb k "list" && glb k "range" && plainE l && chX k a l
    | _ => false
  | .lrg2 a b, e => match e with
    | .Call (.Name x _) [.Call (.Name y _) [l, r] [] _] [] _ => decide (x = ("list" : Str)) && decide (y = ("range" : Str)) && glb k "list" && glb k "range" && plainE l && plainE r && chX k a l && chX k b r
    | _ => false
  | .slcL c lo hi, e => match e with
    | .Subscript l (.Slice a b none _) _ => chH k c l && chO k lo a && chO k hi b
    | _ => false
  | .callF f es, e => match e with
    | .Call (.Name x _) (a :: l) [] _ => decide (k.fs f = some x) && glb k x && !(x == ("__debug__" : Str)) && plainE a && l.all plainE && chXs k es (a :: l)
    | _ => false
  | .unew, e => match e with
    | .Dict [] [] _ => true
    | _ => false
  | .udc own tg it ifs key elt, e => match e with
    | .DictComp kx vx [⟨te, iter, ifsE, z⟩] scope _ => decide (z = 0) && blkC k.N (scOf k.sc) scope (mkOwn k.N own) && tg.sl.all (fun j => own.contains j) && plainE iter && chIt k it te iter && chTg (k.blk scope) tg te && chTs (k.blk scope) ifs ifsE && chX (k.blk scope) key kx && chX (k.blk scope) elt vx
    | _ => false
def chIt (k : Kx) : It → Expr → Expr → Bool
  | .h c, _, e => chH k c e
  | .rg1 a, _, e => match e with
    | .Call (.Name x _) [l] [] _ => decide (x = ("range" : Str)) && glb k "range" && plainE l && chX k a l
    | _ => false
  | .rg2 a b, _, e => match e with
    | .Call (.Name x _) [l, r] [] _ => decide (x = ("range" : Str)) && glb k "range" && plainE l && plainE r && chX k a l && chX k b r
    | _ => false
  | .rgd a b, _, e => match e with
    | .Call (.Name x _) [l, r, .UnaryOp .USub (.Constant (.int 1) _ _) _] [] _ => decide (x = ("range" : Str)) && glb k "range" && plainE l && plainE r && chX k a l && chX k b r
    | _ => false
  | .en c, te, e => match te, e with
    | .Tuple _ _ _, .Call (.Name x _) [l] [] _ => decide (x = ("enumerate" : Str)) && glb k "enumerate" && plainE l && chH k c l
    | _, _ => false
  | .zp c d, te, e => match te, e with
    | .Tuple _ _ _, .Call (.Name x _) [l, r] [] _ => decide (x = ("zip" : Str)) && glb k "zip" && plainE l && plainE r && chH k c l && chH k d r
    | _, _ => false
end
mutual
def chS (k : Kx) : Sm → Stmt → Bool
  | .set tg x, st => match st with
    | .Assign [t] e _ => chTg k tg t && (match t with | .Name _ _ => true | _ => !isTupE e) && chX k x e
    | _ => false
  | .own i f, st => match st with
    | .Assign [.Name y _] e _ => nm k i y && chF k f e
    | _ => false
  | .par _ _ _ _, _ => false
  | .odic i, st => match st with
    | .Assign [.Name y _] (.Dict [] [] _) _ => nm k i y
    | _ => false
  | .odt i, st => match st with
    | .Assign [.Name y _] (.Dict [] [] _) _ => nm k i y
    | _ => false
  | .dpt j es e, st => match st with
    | .Assign [.Subscript o (.Tuple l _ _) _] e' _ => chOw k j o && chXs k es l && chX k e e'
    | _ => false
  | .dput j i e, st => match st with
    | .Assign [.Subscript o ie _] e' _ => chOw k j o && chX k i ie && chX k e e'
    | _ => false
  | .reto i, st => match st with
    | .Return (some (.Name x _)) _ => vis k i x
    | _ => false
  | .retf f, st => match st with
    | .Return (some e) _ => chF k f e
    | _ => false
  | .uput c i e, st => match st with
    | .Assign [.Subscript o ie _] e' _ => chH k c o && chX k i ie && chX k e e'
    | _ => false
  | .seti c i x, st => match st with
    | .Assign [.Subscript o ie _] e _ => plainE ie && chH k c o && chX k i ie && chX k x e
    | _ => false
  | .aug _ _ _, _ => false
  | .ex x, st => match st with
    | .Expr e _ => !isCompE e && chX k x e
    | _ => false
  | .ife t a b, st => match st with
    | .If c l r _ => chT k t c && chSs k a l && chSs k b r
    | _ => false
  | .wh t b, st => match st with
    | .While c body [] _ => chT k t c && chSs k b body
    | _ => false
  | .fr tg it b, st => match st with
    | .For te iter body [] _ => plainE iter && chIt k it te iter && chTg k tg te && chSs k b body
    | _ => false
  | .ret x, st => match st with
    | .Return (some e) _ => chX k x e
    | _ => false
  | .retn, st => match st with
    | .Return none _ => true
    | _ => false
  | .brk, st => match st with
    | .Break _ => true
    | _ => false
  | .cnt, st => match st with
    | .Continue _ => true
    | _ => false
  | .pas, st => match st with
    | .Pass _ => true
    | _ => false
  | .raise c es, st => match es, st with
    | .cons a .nil, .Raise (some (.Call (.Name x _) [e] [] _)) none _ => (match k.xc c with
      | some p => decide (x = p.1) && glb k x && plainE e && chX k a e
      | none => false)
    | _, _ => false
  | .trs cs hds b, st => match st with
    | .Try body (h₀ :: l) [] [] _ => k.top && cs.all (fun c => (k.xc c).isSome) && chHds k hds (h₀ :: l) && chSs k b body
    | _ => false
def chSs (k : Kx) : Ss → List Stmt → Bool
  | .nil, l => match l with
    | [] => true
    | _ => false
  | .stk, _ => true
  | .cons s r, l => match l with
    | st :: sts => chS k s st && chSs k r sts
    | _ => false
end

/-! ### what holds where the code runs -/
def bltNames : List Str := ["len", "isinstance", "int", "bool", "str", "tuple", "list", "abs", "all", "any", "sum", "max", "min", "range", "enumerate", "zip", "sorted", "dict", "set"]
structure CxOk (X : Cx) (k : Kx) (ca : Nat → Addr) (fld : Nat → List Str) (Wx : WX) (cl : Nat → List D → List D → Rc) : Prop where
  nd : X.N.Nodup
  N : X.N = k.N
  sc : X.env.scope.names = k.sc
  kind : X.env.scope.kind = .function
  fn : ∀ x, k.fn x = true → X.fn x = true
  calm : X.calm = true
  tk : Takes X Wx
  hp : PassesOwn (model X.prog X.w) X.A X.env X.xe
  un : X.A.units + 65 < cLine
  un2 : X.A.units + 65 + 1 < cLine
  fs : ∀ f x, k.fs f = some x → Cal X ca fld cl f x
  bl : ∀ x ∈ bltNames, X.mg x = none
  gl : ∀ x d, k.gl x d = true → ∃ u v, X.mg x = some u ∧ RelV v u ∧ ∀ F μ, Rep X.K F μ d v
  xc : ∀ c p, k.xc c = some p → fld c = [p.2] ∧ MkR X p.1 p.2 (ca c)
  cz : ClsX X ca k.xc k.xn
  top : k.top = true → X.stack = X.env :: X.outer ∧ X.env.frame = some X.env.locals
section
variable {X : Cx} {k : Kx} {ca : Nat → Addr} {fld : Nat → List Str} {Wx : WX} {cl : Nat → List D → List D → Rc}
theorem CxOk.un' (C : CxOk X k ca fld Wx cl) : X.A.units + 64 < cLine := by have := C.un; omega
theorem CxOk.gb (C : CxOk X k ca fld Wx cl) {x : Str} (h : glb k x = true) : Gl X x := by
  unfold glb at h
  show X.env.scope.names.lookup x = _
  rw [C.sc]
  exact of_decide_eq_true h
theorem CxOk.vr (C : CxOk X k ca fld Wx cl) {i : Nat} {x : Str} {pos : Pos} (h : vis k i x = true) : PE X (.Name x pos) (tVar i) := by
  unfold vis at h
  simp only [Bool.and_eq_true, Bool.or_eq_true, decide_eq_true_eq, Bool.not_eq_true'] at h
  obtain ⟨⟨⟨h1, h2⟩, h3⟩, h4⟩ := h
  refine pe_var (by rw [C.N]; exact h1) ?_ h3 h4
  unfold Vis
  rw [C.sc]
  rcases h2 with (h2 | h2) | h2
  · exact .inl h2
  · exact .inr (.inl h2)
  · exact .inr (.inr h2)
theorem CxOk.nm (C : CxOk X k ca fld Wx cl) {i : Nat} {x : Str} (h : nm k i x = true) : Nm X i x := by
  unfold Ev.nm at h
  simp only [Bool.and_eq_true, Bool.or_eq_true, decide_eq_true_eq] at h
  obtain ⟨h1, h2⟩ := h
  refine ⟨by rw [C.N]; exact h1, ?_, ?_⟩
  · unfold L2.Loc
    rw [C.sc]
    rcases h2 with h2 | ⟨h2, _⟩
    · exact .inl h2
    · exact .inr h2
  · rw [C.sc]
    rcases h2 with h2 | ⟨_, h2⟩
    · exact .inr h2
    · exact .inl (C.fn x h2)
theorem CxOk.pgn (C : CxOk X k ca fld Wx cl) {i : Nat} {x : Str} {pos : Pos} (h : Ev.nm k i x = true) : PG X (.Name x pos) (gName i) := pg_name C.nd (C.nm h).hi (C.nm h).hx (C.nm h).hf
theorem CxOk.tgs (C : CxOk X k ca fld Wx cl) : ∀ {is : List Nat} {es : List Expr}, chTgs k is es = true → PGs X es (tgsE X is) ∧ (assignEach es X.env).length = is.length ∧ (assignEach es X.env).findIdx? (·.1) = none
  | [], [], _ => ⟨pgs_nilE, rfl, rfl⟩
  | [], _ :: _, h => by simp [chTgs] at h
  | _ :: _, [], h => by simp [chTgs] at h
  | i :: is, e :: es, h => by
    cases e with
    | Name x pos =>
      rw [chTgs, Bool.and_eq_true] at h
      obtain ⟨h1, h2, h3⟩ := C.tgs h.2
      refine ⟨pgs_consE (C.pgn h.1) h1, ?_, ?_⟩
      · show (assignEach es X.env).length + 1 = _
        rw [h2]; rfl
      · show List.findIdx? (·.1) ((false, assign (.Name x pos) X.env) :: assignEach es X.env) = none
        rw [List.findIdx?_cons]
        simp [h3]
    | _ => simp [chTgs] at h
theorem CxOk.tg (C : CxOk X k ca fld Wx cl) {tg : Tg} {e : Expr} (h : chTg k tg e = true) : PG X e (tgE X tg) := by
  cases tg with
  | n i =>
    unfold chTg at h
    simp only at h
    split at h
    · exact pg_nameE (C.pgn h)
    · cases h
  | t is =>
    unfold chTg at h
    simp only at h
    split at h
    · obtain ⟨h1, h2, h3⟩ := C.tgs h
      exact pg_tupE C.calm h1 h2 h3
    · cases h
theorem CxOk.bk (C : CxOk X k ca fld Wx cl) (s : Shared) (H : Hp) (scope : Scope) (cl' : List (Str × Addr)) (a : Addr) (fp : List Addr) (hk : scope.kind = .function) : CxOk (X.blk s H scope (compEnvC scope cl' a X.env) fp) (k.blk scope) ca fld WF cl where
  nd := C.nd
  N := C.N
  sc := by
    show (relS scope X.env.scope).names = (relS scope (scOf k.sc)).names
    unfold relS scOf
    rw [C.sc, C.kind]
  kind := hk
  fn := fun x h => h
  calm := C.calm
  tk := takes0
  hp := PassesOwn.never
  un := C.un
  un2 := C.un2
  fs := fun f x h => ⟨(C.fs f x h).ok⟩
  bl := C.bl
  gl := C.gl
  xc := fun c p h => nomatch h
  cz := ⟨fun c n h => (nomatch h), fun c p c' n h => (nomatch h), fun c p c' n h => (nomatch h), fun c p h => (nomatch h)⟩
  top := fun h => nomatch h
/-- inside a try -/
theorem CxOk.tr (C : CxOk X k ca fld Wx cl) {W : WX} {pn : List (Addr × Obj)} {xe : Value → Shared → Prop} (tk : Takes (X.tr pn xe) W) (hp : PassesOwn (model X.prog X.w) X.A X.env xe) : CxOk (X.tr pn xe) k ca fld W cl where
  nd := C.nd
  N := C.N
  sc := C.sc
  kind := C.kind
  fn := C.fn
  calm := C.calm
  tk := tk
  hp := hp
  un := C.un
  un2 := C.un2
  fs := fun f x h => ⟨(C.fs f x h).ok⟩
  bl := C.bl
  gl := C.gl
  xc := fun c p h => ⟨(C.xc c p h).1, (C.xc c p h).2.tr⟩
  cz := ⟨C.cz.mg, C.cz.xe, C.cz.kit, C.cz.isc⟩
  top := C.top
theorem BlkOk.sc' {N : List Str} {sc sc' scope : Scope} {own : List (Str × Nat)} (h : BlkOk N sc scope own) (e : sc.names = sc'.names) : BlkOk N sc' scope own := ⟨h.kind, h.uniq, h.ix, fun y hy q => by rw [← e]; exact h.free y hy q, h.own⟩
theorem CxOk.blkOk (C : CxOk X k ca fld Wx cl) {scope : Scope} {own : List Nat} (h : blkC k.N (scOf k.sc) scope (mkOwn k.N own) = true) : BlkOk X.N X.env.scope scope (mkOwn k.N own) := by
  have := blkOk_by h
  rw [C.N]
  exact BlkOk.sc' this C.sc.symm
theorem mkOwn_snd {N : List Str} {own : List Nat} : (mkOwn N own).map (·.2) = own := by
  unfold mkOwn
  rw [List.map_map]
  exact (List.map_congr_left fun _ _ => rfl).trans (List.map_id _)
theorem inB {x : Str} (h : bltNames.contains x = true) : x ∈ bltNames := by simpa using h
end
end Ev

set_option Elab.async false
set_option linter.all false
set_option maxRecDepth 100000
set_option autoImplicit false
set_option maxHeartbeats 4000000
/-! Ev14: the check is sound. -/
namespace Ev
open PySem PySem.Spec PyProof.Rows L2

section
variable {cl : Nat → List D → List D → Rc} {ca : Nat → Addr} {fld : Nat → List Str}
/-- a value, and its store into a name -/
def GX (cl : Nat → List D → List D → Rc) (ca : Nat → Addr) (fld : Nat → List Str) (Wx : WX) (X : Cx) (x : Ev.X) (e : Expr) : Prop := SE cl ca fld Wx X x e ∧ ∀ (i : Nat) (y : Str) (py pos : Pos), Nm X i y → AX cl ca fld Wx X x i (.Assign [.Name y py] e pos)
def GF (cl : Nat → List D → List D → Rc) (ca : Nat → Addr) (fld : Nat → List Str) (Wx : WX) (X : Cx) (x : Fx) (e : Expr) : Prop := SF cl ca fld Wx X x e ∧ ∀ (i : Nat) (y : Str) (py pos : Pos), Nm X i y → AF cl ca fld Wx X x i (.Assign [.Name y py] e pos)
def GT (cl : Nat → List D → List D → Rc) (ca : Nat → Addr) (fld : Nat → List Str) (Wx : WX) (X : Cx) (x : T) (e : Expr) : Prop := ST cl ca fld Wx X x e ∧ (∀ op l pos, e = .BoolOp op l pos → SW cl ca fld Wx X x e)
variable {Wx : WX} {X : Cx} {k : Kx}
theorem bX {x : Ev.X} {e : Expr} (C : CxOk X k ca fld Wx cl) (h : SE cl ca fld Wx X x e) (hc : isCompE e = false) : GX cl ca fld Wx X x e := ⟨h, fun i y py pos n => a_X C.nd n hc h⟩
theorem bF {x : Fx} {e : Expr} (C : CxOk X k ca fld Wx cl) (h : SF cl ca fld Wx X x e) (hc : isCompE e = false) : GF cl ca fld Wx X x e := ⟨h, fun i y py pos n => a_F C.nd n hc h⟩
theorem bT {x : T} {e : Expr} (h : ST cl ca fld Wx X x e) (hc : ∀ op l pos, e ≠ .BoolOp op l pos) : GT cl ca fld Wx X x e := ⟨h, fun op l pos q => absurd q (hc op l pos)⟩
theorem bW {x : T} {e : Expr} (h : SW cl ca fld Wx X x e) : GT cl ca fld Wx X x e := ⟨h.pt, fun _ _ _ _ => h⟩

section
variable {X : Cx} {k : Kx} {Wx : WX} {i : Option Nat} {n : Str}
theorem okIs (C : CxOk X k ca fld Wx cl) (hv : ∀ j, i = some j → ∀ (a : Addr) (pn : List (Addr × Obj)) (pos : Pos), PE (X.suite a pn) (.Name n pos) (tVar j)) {c : Nat} {e : Expr} (h : chIs k i n c e = true) :
    HE X ca fld k.xc i (.isx c) e ∧ HT X ca fld k.xc i [c] e := by
  unfold chIs at h; split at h
  · simp only [Bool.and_eq_true, decide_eq_true_eq, Bool.not_eq_true'] at h
    obtain ⟨⟨⟨⟨⟨⟨h1, rfl⟩, h3⟩, rfl⟩, h5⟩, h6⟩, h7⟩ := h
    cases i with
    | none => cases h1
    | some j => exact ⟨h_is C.cz (C.gb h3) (C.bl _ (inB (by decide))) (C.gb h6) h7 h5 (hv j rfl), h_t1 C.cz (C.gb h3) (C.bl _ (inB (by decide))) (C.gb h6) h7 h5 (hv j rfl)⟩
  · cases h
theorem okHw (C : CxOk X k ca fld Wx cl) (hv : ∀ j, i = some j → ∀ (a : Addr) (pn : List (Addr × Obj)) (pos : Pos), PE (X.suite a pn) (.Name n pos) (tVar j)) : ∀ {cs : List Nat} {e : Expr}, chHw k i n cs e = true → HW X ca fld k.xc i cs e
  | [], e, h => by simp [chHw] at h
  | [c], e, h => by
    unfold chHw at h; split at h
    · exact h_w1 (okIs C hv h).2
    · cases h
  | c :: c2 :: cs, e, h => by
    unfold chHw at h; split at h
    · rw [Bool.and_eq_true] at h
      exact h_w2 (okIs C hv h.1).2 (okHw C hv h.2)
    · cases h
theorem okHt (C : CxOk X k ca fld Wx cl) (hv : ∀ j, i = some j → ∀ (a : Addr) (pn : List (Addr × Obj)) (pos : Pos), PE (X.suite a pn) (.Name n pos) (tVar j)) {cs : List Nat} {e : Expr} (h : chHt k i n cs e = true) : HT X ca fld k.xc i cs e := by
  unfold chHt at h
  rw [Bool.or_eq_true] at h
  rcases h with h | h
  · split at h
    · exact (okIs C hv h).2
    · cases h
  · exact fun a o cls d pn hz hf => (okHw C hv h a o cls d pn hz hf).pt
mutual
theorem okHx (C : CxOk X k ca fld Wx cl) (hv : ∀ j, i = some j → ∀ (a : Addr) (pn : List (Addr × Obj)) (pos : Pos), PE (X.suite a pn) (.Name n pos) (tVar j)) : ∀ (x : Hx) (e : Expr), chHx k i n x e = true → HE X ca fld k.xc i x e
  | .fld c, e, h => by
    unfold chHx at h; split at h
    · simp only [Bool.and_eq_true, decide_eq_true_eq] at h
      obtain ⟨⟨h1, rfl⟩, h3⟩ := h
      split at h3
      · rename_i p hp
        obtain rfl := of_decide_eq_true h3
        cases i with
        | none => cases h1
        | some j => exact h_fld (C.xc c p hp).2 (C.xc c p hp).1 (hv j rfl)
      · cases h3
    · cases h
  | .ks b, e, h => by
    unfold chHx at h; split at h
    · obtain rfl := of_decide_eq_true h
      exact h_ks
    · cases h
  | .kn, e, h => by
    unfold chHx at h; split at h
    · exact h_kn
    · cases h
  | .kb b, e, h => by
    unfold chHx at h; split at h
    · obtain rfl := of_decide_eq_true h
      exact h_kb
    · cases h
  | .isx c, e, h => by
    unfold chHx at h
    exact (okIs C hv h).1
  | .ife cs a b, e, h => by
    unfold chHx at h; split at h
    · simp only [Bool.and_eq_true] at h
      exact h_ife (okHt C hv h.1.1) (okHx C hv a _ h.1.2) (okHx C hv b _ h.2)
    · cases h
  | .lst es, e, h => by
    unfold chHx at h; split at h
    · exact h_lst (okHxs C hv es _ h)
    · cases h
  | .tup es, e, h => by
    unfold chHx at h; split at h
    · exact h_tup (okHxs C hv es _ h)
    · cases h
theorem okHxs (C : CxOk X k ca fld Wx cl) (hv : ∀ j, i = some j → ∀ (a : Addr) (pn : List (Addr × Obj)) (pos : Pos), PE (X.suite a pn) (.Name n pos) (tVar j)) : ∀ (x : Hxs) (e : List Expr), chHxs k i n x e = true → HA X ca fld k.xc i x e
  | .nil, e, h => by
    unfold chHxs at h; split at h
    · exact h_nil
    · cases h
  | .cons x r, e, h => by
    unfold chHxs at h; split at h
    · simp only [Bool.and_eq_true] at h
      exact h_cons h.1.1 (okHx C hv x _ h.1.2) (okHxs C hv r _ h.2)
    · cases h
end
theorem okHb (C : CxOk X k ca fld Wx cl) (hv : ∀ j, i = some j → ∀ (a : Addr) (pn : List (Addr × Obj)) (pos : Pos), PE (X.suite a pn) (.Name n pos) (tVar j)) : ∀ (x : Hb) (l : List Stmt), chHb k i n x l = true → HS X ca fld k.xc i x l
  | .ret x, l, h => by
    unfold chHb at h; split at h
    · exact h_ret (okHx C hv x _ h)
    · cases h
  | .ife cs x r, l, h => by
    unfold chHb at h; split at h
    · simp only [Bool.and_eq_true] at h
      exact h_if (okHt C hv h.1.1) (okHx C hv x _ h.1.2) (okHb C hv r _ h.2)
    · cases h
theorem okHds (C : CxOk X k ca fld Wx cl) (hT : k.top = true) : ∀ (hs : List Hd) (l : List ExceptHandler), chHds k hs l = true → Hdl X l (wCl X ca fld Wx k.xc hs)
  | [], l, h => by
    unfold chHds at h; split at h
    · exact cl_nil (C.top hT).1 (C.top hT).2 C.tk
    · cases h
  | hd :: r, l, h => by
    unfold chHds at h; split at h
    · rename_i x np nm st su pos l
      rw [Bool.and_eq_true] at h
      obtain ⟨h1, h2⟩ := h
      have ih := okHds C hT r l h2
      unfold chHd at h1
      simp only [Bool.and_eq_true, decide_eq_true_eq, Bool.not_eq_true'] at h1
      obtain ⟨⟨⟨⟨g1, g2⟩, g3⟩, g4⟩, g5⟩ := h1
      have hc : Names X x (.ref (ca hd.c)) := ⟨C.gb g3, g4, .inl ((C.cz.mg _ _ g2).1 g1)⟩
      have he : ∀ c p, k.xc c = some p → PySem.W.exmOne X.K (.ref (ca c)) (.ref (ca hd.c)) = some (subX c hd.c) := fun c p hp => C.cz.xe c p _ _ hp g2 g1
      cases e1 : hd.i with
      | none =>
        cases nm with
        | none =>
          rw [e1] at g5
          exact cl_only (C.top hT).1 (C.top hT).2 hc he e1 (okHb C (fun j e => absurd e (by simp)) _ _ g5) ih
        | some n => rw [e1] at g5; cases g5
      | some i =>
        cases nm with
        | none => rw [e1] at g5; cases g5
        | some n =>
          rw [e1] at g5
          simp only [Bool.and_eq_true, decide_eq_true_eq, Bool.not_eq_true'] at g5
          obtain ⟨⟨⟨⟨k1, k2⟩, k3⟩, k4⟩, k5⟩ := g5
          have hk : X.env.kindOf n = some .local := by
            show X.env.scope.names.lookup _ = _
            rw [C.sc]
            exact k2
          refine cl_as (C.top hT).1 (C.top hT).2 C.nd (by rw [C.N]; exact k1) hk hc he e1 (okHb C (fun j e a pn pos => ?_) _ _ k5) ih
          cases e
          refine pe_var (by show X.N[i]? = _; rw [C.N]; exact k1) ?_ k3 k4
          unfold Vis
          show X.env.scope.names.lookup _ = _ ∨ _
          rw [C.sc]
          exact .inl k2
    · cases h
end
theorem okOw {i : Nat} {e : Expr} {Wx : WX} {X : Cx} {k : Kx} (C : CxOk X k ca fld Wx cl) (h : chOw k i e = true) : SH cl ca fld Wx X (.o i) e := by
  unfold chOw at h; split at h
  · exact c_o (C.vr h)
  · cases h
theorem kbE {X : Cx} {e : Expr} (h : isTrueE e = true) : SE cl ca fld WF X (.kb true) e := by
  unfold isTrueE at h; split at h
  · obtain rfl := h
    exact c_kb
  · cases h
mutual
theorem okX : ∀ (x : Ev.X) (e : Expr) (Wx : WX) (X : Cx) (k : Kx), CxOk X k ca fld Wx cl → chX k x e = true → GX cl ca fld Wx X x e
  | .v i, e, Wx, X, k, C, h => by
    unfold chX at h; split at h
    · exact bX C (c_v (C.vr h)) rfl
    · cases h
  | .mv i, e, Wx, X, k, C, h => by
    unfold chX at h; split at h
    · exact bX C (c_mv (C.vr h)) rfl
    · cases h
  | .kn, e, Wx, X, k, C, h => by
    unfold chX at h; split at h
    · exact bX C c_kn rfl
    · cases h
  | .kb b, e, Wx, X, k, C, h => by
    unfold chX at h; split at h
    · obtain rfl := of_decide_eq_true h
      exact bX C c_kb rfl
    · cases h
  | .ki b, e, Wx, X, k, C, h => by
    unfold chX at h; split at h
    · obtain rfl := of_decide_eq_true h
      exact bX C c_ki rfl
    · cases h
  | .ks b, e, Wx, X, k, C, h => by
    unfold chX at h; split at h
    · obtain rfl := of_decide_eq_true h
      exact bX C c_ks rfl
    · cases h
  | .gl x d, e, Wx, X, k, C, h => by
    unfold chX at h; split at h
    · simp only [Bool.and_eq_true, decide_eq_true_eq, Bool.not_eq_true'] at h
      obtain ⟨⟨⟨rfl, h2⟩, h3⟩, h4⟩ := h
      obtain ⟨u, v, g1, g2, g3⟩ := C.gl _ _ h3
      exact bX C (c_gl (pe_glob (C.gb h2) g1 g2 h4) g3) rfl
    · cases h
  | .bin o a b, e, Wx, X, k, C, h => by
    unfold chX at h; split at h
    · simp only [Bool.and_eq_true, decide_eq_true_eq] at h
      obtain ⟨⟨rfl, h2⟩, h3⟩ := h
      exact bX C (c_bin (okX a _ Wx X k C h2).1 (okX b _ Wx X k C h3).1) rfl
    · cases h
  | .neg a, e, Wx, X, k, C, h => by
    unfold chX at h; split at h
    · exact bX C (c_neg (okX a _ Wx X k C h).1) rfl
    · cases h
  | .cmp o a b, e, Wx, X, k, C, h => by
    unfold chX at h; split at h
    · simp only [Bool.and_eq_true, decide_eq_true_eq] at h
      obtain ⟨⟨⟨rfl, h2⟩, h3⟩, h4⟩ := h
      exact bX C (c_cmp C.un' h2 (okX a _ Wx X k C h3).1 (okX b _ Wx X k C h4).1) rfl
    · cases h
  | .cm2 o o2 a b c, e, Wx, X, k, C, h => by
    unfold chX at h; split at h
    · simp only [Bool.and_eq_true, decide_eq_true_eq] at h
      obtain ⟨⟨⟨⟨⟨⟨rfl, rfl⟩, h2⟩, h3⟩, h4⟩, h5⟩, h6⟩ := h
      exact bX C (c_cm2 C.un' h2 h3 (okX a _ Wx X k C h4).1 (okX b _ Wx X k C h5).1 (okX c _ Wx X k C h6).1) rfl
    · cases h
  | .inn n a c, e, Wx, X, k, C, h => by
    unfold chX at h; split at h
    · simp only [Bool.and_eq_true, decide_eq_true_eq] at h
      obtain ⟨⟨⟨rfl, h2⟩, h3⟩, h4⟩ := h
      exact bX C (c_inn C.un h2 (okX a _ Wx X k C h3).1 (okH c _ Wx X k C h4)) rfl
    · cases h
  | .and a b, e, Wx, X, k, C, h => by
    unfold chX at h; split at h
    · simp only [Bool.and_eq_true] at h
      exact bX C (c_and (okX a _ Wx X k C h.1).1 (okX b _ Wx X k C h.2).1) rfl
    · cases h
  | .or a b, e, Wx, X, k, C, h => by
    unfold chX at h; split at h
    · simp only [Bool.and_eq_true] at h
      exact bX C (c_or (okX a _ Wx X k C h.1).1 (okX b _ Wx X k C h.2).1) rfl
    · cases h
  | .one a, e, Wx, X, k, C, h => by
    unfold chX at h; split at h
    · exact bX C (c_one (okX a _ Wx X k C h).1) rfl
    · cases h
  | .not c, e, Wx, X, k, C, h => by
    unfold chX at h; split at h
    · exact bX C (c_not (okH c _ Wx X k C h)) rfl
    · cases h
  | .ife t a b, e, Wx, X, k, C, h => by
    unfold chX at h; split at h
    · simp only [Bool.and_eq_true] at h
      exact bX C (c_ife (okT t _ Wx X k C h.1.1).1 (okX a _ Wx X k C h.1.2).1 (okX b _ Wx X k C h.2).1) rfl
    · cases h
  | .tup es, e, Wx, X, k, C, h => by
    unfold chX at h; split at h
    · exact bX C (c_tup (okXs es _ Wx X k C h)) rfl
    · cases h
  | .call f es, e, Wx, X, k, C, h => by
    unfold chX at h; split at h
    · simp only [Bool.and_eq_true, decide_eq_true_eq, Bool.not_eq_true'] at h
      obtain ⟨⟨⟨⟨⟨h1, h2⟩, h3⟩, h4⟩, h5⟩, h6⟩ := h
      exact bX C (c_call (C.fs _ _ h1) C.tk (C.gb h2) h3 h4 h5 (okXs es _ Wx X k C h6)) rfl
    · cases h
  | .len c, e, Wx, X, k, C, h => by
    unfold chX at h; split at h
    · simp only [Bool.and_eq_true, decide_eq_true_eq] at h
      obtain ⟨⟨⟨rfl, h2⟩, h3⟩, h4⟩ := h
      exact bX C (c_len (C.gb h2) (C.bl _ (inB (by decide))) h3 (okH c _ Wx X k C h4)) rfl
    · cases h
  | .idx c i, e, Wx, X, k, C, h => by
    unfold chX at h; split at h
    · simp only [Bool.and_eq_true] at h
      exact bX C (c_idx C.un' h.1.1 (okH c _ Wx X k C h.1.2) (okX i _ Wx X k C h.2).1) rfl
    · cases h
  | .slc c lo hi, e, Wx, X, k, C, h => by
    unfold chX at h; split at h
    · simp only [Bool.and_eq_true] at h
      exact bX C (c_slc (okH c _ Wx X k C h.1.1) (okO lo _ Wx X k C h.1.2) (okO hi _ Wx X k C h.2)) rfl
    · cases h
  | .rev c, e, Wx, X, k, C, h => by
    unfold chX at h; split at h
    · exact bX C (c_rev (okH c _ Wx X k C h)) rfl
    · cases h
  | .lend j, e, Wx, X, k, C, h => by
    unfold chX at h; split at h
    · simp only [Bool.and_eq_true, decide_eq_true_eq] at h
      obtain ⟨⟨⟨rfl, h2⟩, h3⟩, h4⟩ := h
      exact bX C (c_lend (C.gb h2) (C.bl _ (inB (by decide))) h3 (okOw C h4)) rfl
    · cases h
  | .isi a t, e, Wx, X, k, C, h => by
    unfold chX at h; split at h
    · simp only [Bool.and_eq_true, decide_eq_true_eq] at h
      obtain ⟨⟨⟨⟨⟨rfl, rfl⟩, h2⟩, h3⟩, h4⟩, h5⟩ := h
      exact bX C (c_isi (C.gb h2) (C.bl _ (inB (by decide))) (C.gb h3) (C.bl _ (inB (by cases t <;> decide))) h4 (okX a _ Wx X k C h5).1) rfl
    · cases h
  | .isl a t, e, Wx, X, k, C, h => by
    unfold chX at h; split at h
    · simp only [Bool.and_eq_true, decide_eq_true_eq] at h
      obtain ⟨⟨⟨⟨⟨rfl, rfl⟩, h2⟩, h3⟩, h4⟩, h5⟩ := h
      exact bX C (c_isl (C.gb h2) (C.bl _ (inB (by decide))) (C.gb h3) (C.bl _ (inB (by cases t <;> decide))) h4 (okX a _ Wx X k C h5).1) rfl
    · cases h
  | .b1 f a, e, Wx, X, k, C, h => by
    unfold chX at h; split at h
    · simp only [Bool.and_eq_true, decide_eq_true_eq] at h
      obtain ⟨⟨⟨rfl, h2⟩, h3⟩, h4⟩ := h
      exact bX C (c_b1 (C.gb h2) (C.bl _ (inB (by cases f <;> decide))) h3 (okX a _ Wx X k C h4).1) rfl
    · cases h
  | .ag f c, e, Wx, X, k, C, h => by
    unfold chX at h; split at h
    · simp only [Bool.and_eq_true, decide_eq_true_eq] at h
      obtain ⟨⟨⟨rfl, h2⟩, h3⟩, h4⟩ := h
      exact bX C (c_ag C.calm (C.gb h2) (C.bl _ (inB (by cases f <;> decide))) h3 (okH c _ Wx X k C h4)) rfl
    · cases h
  | .b2 mx a b, e, Wx, X, k, C, h => by
    unfold chX at h; split at h
    · simp only [Bool.and_eq_true, decide_eq_true_eq] at h
      obtain ⟨⟨⟨⟨⟨rfl, h2⟩, h3⟩, h4⟩, h5⟩, h6⟩ := h
      exact bX C (c_b2 C.calm (C.gb h2) (C.bl _ (inB (by cases mx <;> decide))) h3 h4 (okX a _ Wx X k C h5).1 (okX b _ Wx X k C h6).1) rfl
    · cases h
  | .trg a, e, Wx, X, k, C, h => by
    unfold chX at h; split at h
    · simp only [Bool.and_eq_true, decide_eq_true_eq] at h
      obtain ⟨⟨⟨⟨⟨rfl, rfl⟩, h3⟩, h4⟩, h5⟩, h6⟩ := h
      exact bX C (c_trg C.calm (C.gb h3) (C.bl _ (inB (by decide))) (C.gb h4) (C.bl _ (inB (by decide))) h5 (okX a _ Wx X k C h6).1) rfl
    · cases h
  | .tupOf c, e, Wx, X, k, C, h => by
    unfold chX at h; split at h
    · simp only [Bool.and_eq_true, decide_eq_true_eq] at h
      obtain ⟨⟨⟨rfl, h2⟩, h3⟩, h4⟩ := h
      exact bX C (c_tupOf (C.gb h2) (C.bl _ (inB (by decide))) h3 (okH c _ Wx X k C h4)) rfl
    · cases h
  | .fr f, e, Wx, X, k, C, h => by
    unfold chX at h
    have q := okF f e Wx X k C h
    exact ⟨c_fr q.1, fun i y py pos n => a_fr (q.2 i y py pos n)⟩
  | .mk f, e, Wx, X, k, C, h => by
    unfold chX at h
    have q := okF f e Wx X k C h
    exact ⟨c_mk q.1, fun i y py pos n => a_mk (q.2 i y py pos n)⟩
  | .pop c, e, Wx, X, k, C, h => by
    unfold chX at h; split at h
    · simp only [Bool.and_eq_true, decide_eq_true_eq] at h
      obtain ⟨⟨⟨rfl, h2⟩, h3⟩, h4⟩ := h
      exact bX C (c_pop h2 h3 (okH c _ Wx X k C h4)) rfl
    · cases h
  | .popi c x, e, Wx, X, k, C, h => by
    unfold chX at h; split at h
    · simp only [Bool.and_eq_true, decide_eq_true_eq] at h
      obtain ⟨⟨⟨⟨⟨rfl, h2⟩, h3⟩, h4⟩, h5⟩, h6⟩ := h
      exact bX C (c_popi h2 h3 h4 (okH c _ Wx X k C h5) (okX x _ Wx X k C h6).1) rfl
    · cases h
  | .ix c x, e, Wx, X, k, C, h => by
    unfold chX at h; split at h
    · simp only [Bool.and_eq_true, decide_eq_true_eq] at h
      obtain ⟨⟨⟨⟨⟨rfl, h2⟩, h3⟩, h4⟩, h5⟩, h6⟩ := h
      exact bX C (c_ix h2 h3 h4 (okH c _ Wx X k C h5) (okX x _ Wx X k C h6).1) rfl
    · cases h
  | .ixd c x, e, Wx, X, k, C, h => by
    unfold chX at h; split at h
    · simp only [Bool.and_eq_true, decide_eq_true_eq] at h
      obtain ⟨⟨⟨⟨⟨rfl, h2⟩, h3⟩, h4⟩, h5⟩, h6⟩ := h
      exact bX C (c_ixd C.un2 h2 h3 h4 (okH c _ Wx X k C h5) (okX x _ Wx X k C h6).1) rfl
    · cases h
  | .app c x, e, Wx, X, k, C, h => by
    unfold chX at h; split at h
    · simp only [Bool.and_eq_true, decide_eq_true_eq] at h
      obtain ⟨⟨⟨⟨⟨rfl, h2⟩, h3⟩, h4⟩, h5⟩, h6⟩ := h
      exact bX C (c_app h2 h3 h4 (okH c _ Wx X k C h5) (okX x _ Wx X k C h6).1) rfl
    · cases h
  | .ext c x, e, Wx, X, k, C, h => by
    unfold chX at h; split at h
    · simp only [Bool.and_eq_true, decide_eq_true_eq] at h
      obtain ⟨⟨⟨⟨⟨rfl, h2⟩, h3⟩, h4⟩, h5⟩, h6⟩ := h
      exact bX C (c_ext h2 h3 h4 (okH c _ Wx X k C h5) (okH x _ Wx X k C h6)) rfl
    · cases h
theorem okH : ∀ (x : H) (e : Expr) (Wx : WX) (X : Cx) (k : Kx), CxOk X k ca fld Wx cl → chH k x e = true → SH cl ca fld Wx X x e
  | .x x, e, Wx, X, k, C, h => by
    unfold chH at h
    exact c_hx (okX x e Wx X k C h).1
  | .o i, e, Wx, X, k, C, h => by
    unfold chH at h; split at h
    · exact c_o (C.vr h)
    · cases h
theorem okXs : ∀ (x : Xs) (e : List Expr) (Wx : WX) (X : Cx) (k : Kx), CxOk X k ca fld Wx cl → chXs k x e = true → SA cl ca fld Wx X x e
  | .nil, e, Wx, X, k, C, h => by
    unfold chXs at h; split at h
    · exact a_nil
    · cases h
  | .cons x r, e, Wx, X, k, C, h => by
    unfold chXs at h; split at h
    · simp only [Bool.and_eq_true] at h
      exact a_cons h.1.1 (okX x _ Wx X k C h.1.2).1 (okXs r _ Wx X k C h.2)
    · cases h
theorem okO : ∀ (x : Xo) (e : Option Expr) (Wx : WX) (X : Cx) (k : Kx), CxOk X k ca fld Wx cl → chO k x e = true → SO cl ca fld Wx X x e
  | .none, e, Wx, X, k, C, h => by
    unfold chO at h; split at h
    · exact o_none
    · cases h
  | .some x, e, Wx, X, k, C, h => by
    unfold chO at h; split at h
    · exact o_some (okX x _ Wx X k C h).1
    · cases h
theorem okT : ∀ (x : T) (e : Expr) (Wx : WX) (X : Cx) (k : Kx), CxOk X k ca fld Wx cl → chT k x e = true → GT cl ca fld Wx X x e
  | .cmp o a b, e, Wx, X, k, C, h => by
    unfold chT at h; split at h
    · simp only [Bool.and_eq_true, decide_eq_true_eq] at h
      obtain ⟨⟨⟨rfl, h2⟩, h3⟩, h4⟩ := h
      exact bT (t_cmp C.un' h2 (okX a _ Wx X k C h3).1 (okX b _ Wx X k C h4).1) (fun _ _ _ q => by cases q)
    · cases h
  | .cm2 o o2 a b c, e, Wx, X, k, C, h => by
    unfold chT at h; split at h
    · simp only [Bool.and_eq_true, decide_eq_true_eq] at h
      obtain ⟨⟨⟨⟨⟨⟨rfl, rfl⟩, h2⟩, h3⟩, h4⟩, h5⟩, h6⟩ := h
      exact bT (t_cm2 C.un' h2 h3 (okX a _ Wx X k C h4).1 (okX b _ Wx X k C h5).1 (okX c _ Wx X k C h6).1) (fun _ _ _ q => by cases q)
    · cases h
  | .inn n a c, e, Wx, X, k, C, h => by
    unfold chT at h; split at h
    · simp only [Bool.and_eq_true, decide_eq_true_eq] at h
      obtain ⟨⟨⟨rfl, h2⟩, h3⟩, h4⟩ := h
      exact bT (t_inn C.un h2 (okX a _ Wx X k C h3).1 (okH c _ Wx X k C h4)) (fun _ _ _ q => by cases q)
    · cases h
  | .h c, e, Wx, X, k, C, h => by
    unfold chT at h
    rw [Bool.and_eq_true] at h
    refine bT (t_h h.1 (okH c _ Wx X k C h.2)) (fun _ _ _ q => ?_)
    have := h.1
    rw [q] at this
    cases this
  | .and a b, e, Wx, X, k, C, h => by
    unfold chT at h; split at h
    · simp only [Bool.and_eq_true] at h
      exact bW (w_and (okT a _ Wx X k C h.1).1 ((okT b _ Wx X k C h.2).2 _ _ _ rfl))
    · cases h
  | .or a b, e, Wx, X, k, C, h => by
    unfold chT at h; split at h
    · simp only [Bool.and_eq_true] at h
      exact bW (w_or (okT a _ Wx X k C h.1).1 ((okT b _ Wx X k C h.2).2 _ _ _ rfl))
    · cases h
  | .one a, e, Wx, X, k, C, h => by
    unfold chT at h; split at h
    · exact bW (w_one (okT a _ Wx X k C h).1)
    · cases h
  | .not a, e, Wx, X, k, C, h => by
    unfold chT at h; split at h
    · exact bT (t_not (okT a _ Wx X k C h).1) (fun _ _ _ q => by cases q)
    · cases h
theorem okTs : ∀ (x : Ts) (e : List Expr) (X : Cx) (k : Kx), CxOk X k ca fld WF cl → chTs k x e = true → STs cl ca fld X x e
  | .nil, e, X, k, C, h => by
    unfold chTs at h; split at h
    · exact ts_nil
    · cases h
  | .cons t r, e, X, k, C, h => by
    unfold chTs at h; split at h
    · rw [Bool.and_eq_true] at h
      have h2 := h.2
      split at h2
      · exact ts_one (okT t _ WF X k C h.1).1
      · cases h2
    · cases h
theorem okF : ∀ (x : Fx) (e : Expr) (Wx : WX) (X : Cx) (k : Kx), CxOk X k ca fld Wx cl → chF k x e = true → GF cl ca fld Wx X x e
  | .disp es, e, Wx, X, k, C, h => by
    unfold chF at h; split at h
    · exact bF C (f_disp (okXs es _ Wx X k C h)) rfl
    · cases h
  | .comp own tg it ifs elt, e, Wx, X, k, C, h => by
    unfold chF at h; split at h
    · rename_i el te iter ifsE z scope pos
      simp only [Bool.and_eq_true, decide_eq_true_eq, List.all_eq_true, List.contains_iff_mem] at h
      obtain ⟨⟨⟨⟨⟨⟨⟨rfl, h1⟩, h2⟩, h3⟩, h4⟩, h5⟩, h6⟩, h7⟩ := h
      have B := C.blkOk h1
      have sl : ∀ j ∈ tg.sl, j ∈ (mkOwn k.N own).map (·.2) := by rw [mkOwn_snd]; exact h2
      have bk := fun s H a cl' fp => C.bk s H scope cl' a fp B.kind
      have hi := okIt it te iter Wx X k C h4
      have hg := fun (s : Shared) (H : Hp) (a : Addr) (cl' : List (Str × Addr)) (fp : List Addr) => (bk s H a cl' fp).tg h5
      have ht := fun (s : Shared) (H : Hp) (a : Addr) (cl' : List (Str × Addr)) (fp : List Addr) => okTs ifs ifsE _ _ (bk s H a cl' fp) h6
      have he := fun (s : Shared) (H : Hp) (a : Addr) (cl' : List (Str × Addr)) (fp : List Addr) => (okX elt el WF _ _ (bk s H a cl' fp) h7).1
      refine ⟨?_, fun i y py spos n => ?_⟩
      · have := f_comp (own := mkOwn k.N own) (Wx := Wx) (pos := pos) C.calm C.nd B sl h3 hi hg ht he
        rw [mkOwn_snd] at this
        exact this
      · have := a_comp (own := mkOwn k.N own) (Wx := Wx) (pos := pos) (py := py) (spos := spos) n C.calm C.nd B sl h3 hi hg ht he
        rw [mkOwn_snd] at this
        exact this
    · cases h
  | .callF f es, e, Wx, X, k, C, h => by
    unfold chF at h; split at h
    · simp only [Bool.and_eq_true, decide_eq_true_eq, Bool.not_eq_true'] at h
      obtain ⟨⟨⟨⟨⟨h1, h2⟩, h3⟩, h4⟩, h5⟩, h6⟩ := h
      exact bF C (f_callF (C.fs _ _ h1) C.tk (C.gb h2) h3 h4 h5 (okXs es _ Wx X k C h6)) rfl
    · cases h
  | .unew, e, Wx, X, k, C, h => by
    unfold chF at h; split at h
    · exact bF C f_unew rfl
    · cases h
  | .udc own tg it ifs key elt, e, Wx, X, k, C, h => by
    unfold chF at h; split at h
    · rename_i kx vx te iter ifsE z scope pos
      simp only [Bool.and_eq_true, decide_eq_true_eq, List.all_eq_true, List.contains_iff_mem] at h
      obtain ⟨⟨⟨⟨⟨⟨⟨⟨rfl, h1⟩, h2⟩, h3⟩, h4⟩, h5⟩, h6⟩, h7⟩, h8⟩ := h
      have B := C.blkOk h1
      have sl : ∀ j ∈ tg.sl, j ∈ (mkOwn k.N own).map (·.2) := by rw [mkOwn_snd]; exact h2
      have bk := fun s H a cl' fp => C.bk s H scope cl' a fp B.kind
      have hi := okIt it te iter Wx X k C h4
      have hg := fun (s : Shared) (H : Hp) (a : Addr) (cl' : List (Str × Addr)) (fp : List Addr) => (bk s H a cl' fp).tg h5
      have ht := fun (s : Shared) (H : Hp) (a : Addr) (cl' : List (Str × Addr)) (fp : List Addr) => okTs ifs ifsE _ _ (bk s H a cl' fp) h6
      have hk := fun (s : Shared) (H : Hp) (a : Addr) (cl' : List (Str × Addr)) (fp : List Addr) => (okX key kx WF _ _ (bk s H a cl' fp) h7).1
      have he := fun (s : Shared) (H : Hp) (a : Addr) (cl' : List (Str × Addr)) (fp : List Addr) => (okX elt vx WF _ _ (bk s H a cl' fp) h8).1
      refine ⟨?_, fun i y py spos n => ?_⟩
      · have := f_udc (own := mkOwn k.N own) (Wx := Wx) (pos := pos) C.un' C.calm C.nd B sl h3 hi hg ht hk he
        rw [mkOwn_snd] at this
        exact this
      · have := a_udc (own := mkOwn k.N own) (Wx := Wx) (pos := pos) (py := py) (spos := spos) n C.un' C.calm C.nd B sl h3 hi hg ht hk he
        rw [mkOwn_snd] at this
        exact this
    · cases h
  | .com2 own own1 tg it ifs tg1 it1 ifs1 elt, e, Wx, X, k, C, h => by
    unfold chF at h; split at h
    · rename_i el te iter ifsE z te1 iter1 ifsE1 z1 scope pos
      simp only [Bool.and_eq_true, decide_eq_true_eq, List.all_eq_true, List.contains_iff_mem] at h
      obtain ⟨⟨⟨⟨⟨⟨⟨⟨⟨⟨⟨⟨⟨⟨rfl, rfl⟩, h1⟩, hv⟩, h2⟩, h21⟩, h3⟩, h31⟩, h4⟩, h5⟩, h6⟩, h41⟩, h51⟩, h61⟩, h7⟩ := h
      have B := C.blkOk h1
      have sl : ∀ j ∈ tg.sl, j ∈ (mkOwn k.N own).map (·.2) := by rw [mkOwn_snd]; exact h2
      have hv' : ∀ j ∈ own1, j ∈ (mkOwn k.N own).map (·.2) := by rw [mkOwn_snd]; exact hv
      have bk := fun s H a cl' fp => C.bk s H scope cl' a fp B.kind
      have hi := okIt it te iter Wx X k C h4
      have hg := fun (s : Shared) (H : Hp) (a : Addr) (cl' : List (Str × Addr)) (fp : List Addr) => (bk s H a cl' fp).tg h5
      have ht := fun (s : Shared) (H : Hp) (a : Addr) (cl' : List (Str × Addr)) (fp : List Addr) => okTs ifs ifsE _ _ (bk s H a cl' fp) h6
      have hi1 := fun (s : Shared) (H : Hp) (a : Addr) (cl' : List (Str × Addr)) (fp : List Addr) => okIt it1 te1 iter1 WF _ _ (bk s H a cl' fp) h41
      have hg1 := fun (s : Shared) (H : Hp) (a : Addr) (cl' : List (Str × Addr)) (fp : List Addr) => (bk s H a cl' fp).tg h51
      have ht1 := fun (s : Shared) (H : Hp) (a : Addr) (cl' : List (Str × Addr)) (fp : List Addr) => okTs ifs1 ifsE1 _ _ (bk s H a cl' fp) h61
      have he := fun (s : Shared) (H : Hp) (a : Addr) (cl' : List (Str × Addr)) (fp : List Addr) => (okX elt el WF _ _ (bk s H a cl' fp) h7).1
      refine ⟨?_, fun i y py spos n => ?_⟩
      · have := f_com2 (own := mkOwn k.N own) (Wx := Wx) (pos := pos) C.calm C.nd B hv' sl h21 h3 h31 hi hg ht hi1 hg1 ht1 he
        rw [mkOwn_snd] at this
        exact this
      · have := a_com2 (own := mkOwn k.N own) (Wx := Wx) (pos := pos) (py := py) (spos := spos) n C.calm C.nd B hv' sl h21 h3 h31 hi hg ht hi1 hg1 ht1 he
        rw [mkOwn_snd] at this
        exact this
    · cases h
  | .lstOf c, e, Wx, X, k, C, h => by
    unfold chF at h; split at h
    · simp only [Bool.and_eq_true, decide_eq_true_eq] at h
      obtain ⟨⟨⟨rfl, h2⟩, h3⟩, h4⟩ := h
      exact bF C (f_lstOf C.calm (C.gb h2) (C.bl _ (inB (by decide))) h3 (okH c _ Wx X k C h4)) rfl
    · cases h
  | .sdc own tg it ifs elt, e, Wx, X, k, C, h => by
    unfold chF at h; split at h
    · rename_i x p kx vx te iter ifsE z scope pos pos'
      simp only [Bool.and_eq_true, decide_eq_true_eq, List.all_eq_true, List.contains_iff_mem] at h
      obtain ⟨⟨rfl, g2⟩, ⟨⟨⟨⟨⟨⟨⟨⟨rfl, h1⟩, h2⟩, h3⟩, h4⟩, h5⟩, h6⟩, h7⟩, h8⟩⟩ := h
      have B := C.blkOk h1
      have sl : ∀ j ∈ tg.sl, j ∈ (mkOwn k.N own).map (·.2) := by rw [mkOwn_snd]; exact h2
      have bk := fun s H a cl' fp => C.bk s H scope cl' a fp B.kind
      have hi := okIt it te iter Wx X k C h4
      have hg := fun (s : Shared) (H : Hp) (a : Addr) (cl' : List (Str × Addr)) (fp : List Addr) => (bk s H a cl' fp).tg h5
      have ht := fun (s : Shared) (H : Hp) (a : Addr) (cl' : List (Str × Addr)) (fp : List Addr) => okTs ifs ifsE _ _ (bk s H a cl' fp) h6
      have he := fun (s : Shared) (H : Hp) (a : Addr) (cl' : List (Str × Addr)) (fp : List Addr) => (okX elt kx WF _ _ (bk s H a cl' fp) h7).1
      have hv : ∀ (s : Shared) (H : Hp) (a : Addr) (cl' : List (Str × Addr)) (fp : List Addr), SE cl ca fld WF (X.blk s H scope (compEnvC scope cl' a X.env) fp) (.kb true) vx := fun s H a cl' fp => kbE h8
      have := f_sdc (own := mkOwn k.N own) (Wx := Wx) (p := p) (pos := pos) (pos' := pos') C.calm C.nd (C.gb g2) (C.bl _ (inB (by decide))) B sl h3 hi hg ht he hv
      rw [mkOwn_snd] at this
      exact bF C this rfl
    · cases h
  | .srtt j, e, Wx, X, k, C, h => by
    unfold chF at h; split at h
    · simp only [Bool.and_eq_true, decide_eq_true_eq] at h
      obtain ⟨⟨⟨rfl, h2⟩, h3⟩, h4⟩ := h
      exact bF C (f_srtt C.calm C.un' (C.gb h2) (C.bl _ (inB (by decide))) h3 (okOw C h4)) rfl
    · cases h
  | .srtd j, e, Wx, X, k, C, h => by
    unfold chF at h; split at h
    · simp only [Bool.and_eq_true, decide_eq_true_eq] at h
      obtain ⟨⟨⟨rfl, h2⟩, h3⟩, h4⟩ := h
      exact bF C (f_srtd C.calm (C.gb h2) (C.bl _ (inB (by decide))) h3 (okOw C h4)) rfl
    · cases h
  | .srt c, e, Wx, X, k, C, h => by
    unfold chF at h; split at h
    · simp only [Bool.and_eq_true, decide_eq_true_eq] at h
      obtain ⟨⟨⟨rfl, h2⟩, h3⟩, h4⟩ := h
      exact bF C (f_srt C.calm C.un' (C.gb h2) (C.bl _ (inB (by decide))) h3 (okH c _ Wx X k C h4)) rfl
    · cases h
  | .srtE c, e, Wx, X, k, C, h => by
    unfold chF at h; split at h
    · simp only [Bool.and_eq_true, decide_eq_true_eq] at h
      obtain ⟨⟨⟨rfl, h2⟩, h3⟩, h4⟩ := h
      exact bF C (f_srtE C.calm C.un' (C.gb h2) (C.bl _ (inB (by decide))) h3 (okH c _ Wx X k C h4)) rfl
    · cases h
  | .cat a b, e, Wx, X, k, C, h => by
    unfold chF at h; split at h
    · simp only [Bool.and_eq_true] at h
      exact bF C (f_cat (okH a _ Wx X k C h.1) (okH b _ Wx X k C h.2)) rfl
    · cases h
  | .rep a n, e, Wx, X, k, C, h => by
    unfold chF at h; split at h
    · simp only [Bool.and_eq_true] at h
      exact bF C (f_rep (okH a _ Wx X k C h.1) (okX n _ Wx X k C h.2).1) rfl
    · cases h
  | .lrg a, e, Wx, X, k, C, h => by
    unfold chF at h; split at h
    · simp only [Bool.and_eq_true, decide_eq_true_eq] at h
      obtain ⟨⟨⟨⟨⟨rfl, rfl⟩, h3⟩, h4⟩, h5⟩, h6⟩ := h
      exact bF C (f_lrg C.calm (C.gb h3) (C.bl _ (inB (by decide))) (C.gb h4) (C.bl _ (inB (by decide))) h5 (okX a _ Wx X k C h6).1) rfl
    · cases h
  | .lrg2 a b, e, Wx, X, k, C, h => by
    unfold chF at h; split at h
    · simp only [Bool.and_eq_true, decide_eq_true_eq] at h
      obtain ⟨⟨⟨⟨⟨⟨⟨rfl, rfl⟩, h3⟩, h4⟩, h5⟩, h6⟩, h7⟩, h8⟩ := h
      exact bF C (f_lrg2 C.calm (C.gb h3) (C.bl _ (inB (by decide))) (C.gb h4) (C.bl _ (inB (by decide))) h5 h6 (okX a _ Wx X k C h7).1 (okX b _ Wx X k C h8).1) rfl
    · cases h
  | .slcL c lo hi, e, Wx, X, k, C, h => by
    unfold chF at h; split at h
    · simp only [Bool.and_eq_true] at h
      exact bF C (f_slcL (okH c _ Wx X k C h.1.1) (okO lo _ Wx X k C h.1.2) (okO hi _ Wx X k C h.2)) rfl
    · cases h
theorem okIt : ∀ (x : Ev.It) (te e : Expr) (Wx : WX) (X : Cx) (k : Kx), CxOk X k ca fld Wx cl → chIt k x te e = true → SI cl ca fld Wx X x te e
  | .h c, te, e, Wx, X, k, C, h => by
    unfold chIt at h
    exact i_h (okH c e Wx X k C h)
  | .rg1 a, te, e, Wx, X, k, C, h => by
    unfold chIt at h; split at h
    · simp only [Bool.and_eq_true, decide_eq_true_eq] at h
      obtain ⟨⟨⟨rfl, h2⟩, h3⟩, h4⟩ := h
      exact i_rg1 (C.gb h2) (C.bl _ (inB (by decide))) h3 (okX a _ Wx X k C h4).1
    · cases h
  | .rg2 a b, te, e, Wx, X, k, C, h => by
    unfold chIt at h; split at h
    · simp only [Bool.and_eq_true, decide_eq_true_eq] at h
      obtain ⟨⟨⟨⟨⟨rfl, h2⟩, h3⟩, h4⟩, h5⟩, h6⟩ := h
      exact i_rg2 (C.gb h2) (C.bl _ (inB (by decide))) h3 h4 (okX a _ Wx X k C h5).1 (okX b _ Wx X k C h6).1
    · cases h
  | .rgd a b, te, e, Wx, X, k, C, h => by
    unfold chIt at h; split at h
    · simp only [Bool.and_eq_true, decide_eq_true_eq] at h
      obtain ⟨⟨⟨⟨⟨rfl, h2⟩, h3⟩, h4⟩, h5⟩, h6⟩ := h
      exact i_rgd (C.gb h2) (C.bl _ (inB (by decide))) h3 h4 (okX a _ Wx X k C h5).1 (okX b _ Wx X k C h6).1
    · cases h
  | .en c, te, e, Wx, X, k, C, h => by
    unfold chIt at h; split at h
    · simp only [Bool.and_eq_true, decide_eq_true_eq] at h
      obtain ⟨⟨⟨rfl, h2⟩, h3⟩, h4⟩ := h
      exact i_en (C.gb h2) (C.bl _ (inB (by decide))) h3 (okH c _ Wx X k C h4)
    · cases h
  | .zp c d, te, e, Wx, X, k, C, h => by
    unfold chIt at h; split at h
    · simp only [Bool.and_eq_true, decide_eq_true_eq] at h
      obtain ⟨⟨⟨⟨⟨rfl, h2⟩, h3⟩, h4⟩, h5⟩, h6⟩ := h
      exact i_zp (C.gb h2) (C.bl _ (inB (by decide))) h3 h4 (okH c _ Wx X k C h5) (okH d _ Wx X k C h6)
    · cases h
end

theorem swapped_none {t e : Expr} {env : Env} (h : (match t with | .Name _ _ => true | _ => !isTupE e) = true) : swappedStores [t] e env = pure none := by
  cases t <;> cases e <;> first | rfl | cases h
mutual
theorem okS : ∀ (x : Sm) (st : Stmt) (Wx : WX) (X : Cx) (k : Kx), CxOk X k ca fld Wx cl → chS k x st = true → SS cl ca fld Wx X x st
  | .set tg x, st, Wx, X, k, C, h => by
    unfold chS at h; split at h
    · rename_i t e pos
      simp only [Bool.and_eq_true] at h
      obtain ⟨⟨h1, h2⟩, h3⟩ := h
      have hx := okX x e Wx X k C h3
      have hg := C.tg h1
      cases tg with
      | n i =>
        unfold chTg at h1
        simp only at h1
        split at h1
        · exact s_setA (hx.2 i _ _ _ (C.nm h1))
        · cases h1
      | t is =>
        unfold chTg at h1
        simp only at h1
        split at h1
        · exact s_setT (fun y p q => by cases q) (swapped_none h2) rfl hx.1 hg
        · cases h1
    · cases h
  | .own i f, st, Wx, X, k, C, h => by
    unfold chS at h; split at h
    · simp only [Bool.and_eq_true] at h
      exact s_own ((okF f _ Wx X k C h.2).2 i _ _ _ (C.nm h.1))
    · cases h
  | .par _ _ _ _, st, Wx, X, k, C, h => by unfold chS at h; cases h
  | .odic i, st, Wx, X, k, C, h => by
    unfold chS at h; split at h
    · exact s_odic C.nd (C.nm h)
    · cases h
  | .odt i, st, Wx, X, k, C, h => by
    unfold chS at h; split at h
    · exact s_odt C.nd (C.nm h)
    · cases h
  | .dpt j es x, st, Wx, X, k, C, h => by
    unfold chS at h; split at h
    · simp only [Bool.and_eq_true] at h
      exact s_dpt C.un' (okOw C h.1.1) (okXs es _ Wx X k C h.1.2) (okX x _ Wx X k C h.2).1
    · cases h
  | .dput j i x, st, Wx, X, k, C, h => by
    unfold chS at h; split at h
    · simp only [Bool.and_eq_true] at h
      exact s_dput C.un' (okOw C h.1.1) (okX i _ Wx X k C h.1.2).1 (okX x _ Wx X k C h.2).1
    · cases h
  | .reto i, st, Wx, X, k, C, h => by
    unfold chS at h; split at h
    · exact s_reto (C.vr h)
    · cases h
  | .retf f, st, Wx, X, k, C, h => by
    unfold chS at h; split at h
    · exact s_retf (okF f _ Wx X k C h).1
    · cases h
  | .uput c i x, st, Wx, X, k, C, h => by
    unfold chS at h; split at h
    · simp only [Bool.and_eq_true] at h
      exact s_uput C.un' (okH c _ Wx X k C h.1.1) (okX i _ Wx X k C h.1.2).1 (okX x _ Wx X k C h.2).1
    · cases h
  | .seti c i x, st, Wx, X, k, C, h => by
    unfold chS at h; split at h
    · simp only [Bool.and_eq_true] at h
      exact s_seti h.1.1.1 (okH c _ Wx X k C h.1.1.2) (okX i _ Wx X k C h.1.2).1 (okX x _ Wx X k C h.2).1
    · cases h
  | .aug _ _ _, st, Wx, X, k, C, h => by unfold chS at h; cases h
  | .ex x, st, Wx, X, k, C, h => by
    unfold chS at h; split at h
    · simp only [Bool.and_eq_true, Bool.not_eq_true'] at h
      exact s_ex h.1 (okX x _ Wx X k C h.2).1
    · cases h
  | .ife t a b, st, Wx, X, k, C, h => by
    unfold chS at h; split at h
    · simp only [Bool.and_eq_true] at h
      exact s_ife (okT t _ Wx X k C h.1.1).1 (okSs a _ Wx X k C h.1.2) (okSs b _ Wx X k C h.2)
    · cases h
  | .wh t b, st, Wx, X, k, C, h => by
    unfold chS at h; split at h
    · simp only [Bool.and_eq_true] at h
      exact s_wh C.hp (okT t _ Wx X k C h.1).1 (okSs b _ Wx X k C h.2)
    · cases h
  | .fr tg it b, st, Wx, X, k, C, h => by
    unfold chS at h; split at h
    · simp only [Bool.and_eq_true] at h
      exact s_fr C.calm C.hp h.1.1.1 (okIt it _ _ Wx X k C h.1.1.2) (C.tg h.1.2) (okSs b _ Wx X k C h.2)
    · cases h
  | .ret x, st, Wx, X, k, C, h => by
    unfold chS at h; split at h
    · exact s_ret (okX x _ Wx X k C h).1
    · cases h
  | .retn, st, Wx, X, k, C, h => by
    unfold chS at h; split at h
    · exact s_retn
    · cases h
  | .brk, st, Wx, X, k, C, h => by
    unfold chS at h; split at h
    · exact s_brk
    · cases h
  | .cnt, st, Wx, X, k, C, h => by
    unfold chS at h; split at h
    · exact s_cnt
    · cases h
  | .pas, st, Wx, X, k, C, h => by
    unfold chS at h; split at h
    · exact s_pas
    · cases h
  | .raise c es, st, Wx, X, k, C, h => by
    unfold chS at h; split at h
    · split at h
      · rename_i p hp
        simp only [Bool.and_eq_true, decide_eq_true_eq] at h
        obtain ⟨⟨⟨rfl, h2⟩, h3⟩, h4⟩ := h
        exact s_raise C.calm C.tk (C.xc c p hp).2 (C.xc c p hp).1 (C.gb h2) h3 (okX _ _ Wx X k C h4).1
      · cases h
    · cases h
  | .trs cs hds b, st, Wx, X, k, C, h => by
    unfold chS at h; split at h
    · simp only [Bool.and_eq_true, List.all_eq_true] at h
      obtain ⟨⟨⟨h1, h2⟩, h3⟩, h4⟩ := h
      exact s_trs (C.top h1).1 (C.top h1).2 (fun c hc => Option.isSome_iff_exists.mp (h2 c hc)) (fun W pn xe t hpp => okSs b _ W _ k (C.tr t hpp) h4) (okHds C h1 hds _ h3)
    · cases h
theorem okSs : ∀ (x : Ss) (st : List Stmt) (Wx : WX) (X : Cx) (k : Kx), CxOk X k ca fld Wx cl → chSs k x st = true → SSs cl ca fld Wx X x st
  | .nil, st, Wx, X, k, C, h => by
    unfold chSs at h; split at h
    · exact ss_nil
    · cases h
  | .stk, st, Wx, X, k, C, h => ss_stk
  | .cons s r, st, Wx, X, k, C, h => by
    unfold chSs at h; split at h
    · simp only [Bool.and_eq_true] at h
      exact ss_cons (okS s _ Wx X k C h.1) (okSs r _ Wx X k C h.2)
    · cases h
end
end
end Ev

set_option Elab.async false
set_option linter.all false
set_option maxRecDepth 100000
set_option autoImplicit false
set_option maxHeartbeats 4000000
/-! Ev15: defs, one calling another, and the end. -/
namespace Ev
open PySem PySem.Spec PyProof.Rows L2

def kxOf (tb : Tb) (gl : Str → D → Bool) (df : Df) (st : Stmt) (xs : Nat → Option (Str × Str)) (xn : Nat → Option Str) : Kx := ⟨df.ns, (defScope st).names, fun _ => true, fun f => (tb f).map (·.gn), gl, xs, xn, true⟩
def scC (N ps : List Str) (sc : Scope) : Bool := (match sc.kind with | .function => true | _ => false) && !sc.isCoroutine && !sc.isGenerator && decide N.Nodup && decide (N.take ps.length = ps) &&
  ps.all (fun x => decide (sc.names.lookup x = some .local) || decide (sc.names.lookup x = some .cell)) && sc.names.all fun y => decide (y.2 ≠ .free)
theorem sc_of {N ps : List Str} {sc : Scope} (h : scC N ps sc = true) : FnScope N ps sc := by
  unfold scC at h
  simp only [Bool.and_eq_true, Bool.not_eq_true', decide_eq_true_eq, List.all_eq_true, Bool.or_eq_true] at h
  obtain ⟨⟨⟨⟨⟨⟨h1, h2⟩, h3⟩, h4⟩, h5⟩, h6⟩, h7⟩ := h
  refine ⟨?_, h2, h3, h4, h5, h6, h7⟩
  split at h1
  · assumption
  · cases h1
/-- one def of the text -/
def chDf (tb : Tb) (gl : Str → D → Bool) (df : Df) (st : Stmt) (xs : Nat → Option (Str × Str) := fun _ => none) (xn : Nat → Option Str := fun _ => none) : Bool := scC df.ns df.ps (defScope st) && chSs (kxOf tb gl df st xs xn) df.body (defBody st)
structure Fact (K : PySem.W.Frag) (mg : Str → Option Value) (tb : Tb) (gl : Str → D → Bool) (df : Df) (xs : Nat → Option (Str × Str) := fun _ => none) (xn : Nat → Option Str := fun _ => none) : Prop where
  ex : ∃ (a : Addr) (fd : FuncData) (st : Stmt), Fun K df.name df.name st a fd ∧ mg df.gn = some (.ref a) ∧ Binds K fd df.ps [] ∧ chDf tb gl df st xs xn = true
structure Tab (K : PySem.W.Frag) (mg : Str → Option Value) (tb : Tb) (gl : Str → D → Bool) (xs : Nat → Option (Str × Str) := fun _ => none) (xn : Nat → Option Str := fun _ => none) : Prop where
  fact : ∀ f df, tb f = some df → Fact K mg tb gl df xs xn
  bl : ∀ x ∈ bltNames, mg x = none
  gl : ∀ x d, gl x d = true → ∃ u v, mg x = some u ∧ RelV v u ∧ ∀ F μ, Rep K F μ d v

/-- the own error classes -/
structure TabX (K : PySem.W.Frag) (mg : Str → Option Value) (xs : Nat → Option (Str × Str)) (xn : Nat → Option Str) (ca : Nat → Addr) (fld : Nat → List Str) : Prop where
  xc : ∀ c p, xs c = some p → fld c = [p.2] ∧ ∀ X : Cx, X.K = K → X.mg = mg → Room 1 X.A → MkR X p.1 p.2 (ca c)
  nm : ∀ c n, xn c = some n → (c ≠ 10 → mg n = some (.ref (ca c))) ∧ (c = 10 → n = "ValueError" ∧ mg n = none)
  xe : ∀ c p c' n, xs c = some p → xn c' = some n → c' ≠ 10 → PySem.W.exmOne K (.ref (ca c)) (.ref (ca c')) = some (subX c c')
  kit : ∀ c p c' n, xs c = some p → xn c' = some n → PySem.W.kitOne K (.ref (ca c)) (cvl ca c') = some (subX c c')
  isc : ∀ c p, xs c = some p → IsC K (ca c)
theorem tabx_none {K : PySem.W.Frag} {mg : Str → Option Value} {ca : Nat → Addr} {fld : Nat → List Str} : TabX K mg (fun _ => none) (fun _ => none) ca fld := ⟨fun _ _ h => (nomatch h), fun _ _ h => (nomatch h), fun _ _ _ _ h => (nomatch h), fun _ _ _ _ h => (nomatch h), fun _ _ h => (nomatch h)⟩

section
variable {P : Program} {w : World} {K : PySem.W.Frag} {mg : Str → Option Value} {base : Heap} {tb : Tb} {gl : Str → D → Bool} {ca : Nat → Addr} {fld : Nat → List Str}
theorem get_start {vs : List V} {N : List Str} {i : Nat} {v : V} (h : vs[i]? = some v) : (L2.start N vs)[i]? = some (some v) := by
  unfold L2.start
  have hl := (List.getElem?_eq_some_iff.mp h).1
  rw [List.getElem?_append_left (by simpa using hl), List.getElem?_map, h]
  rfl
theorem slots_get {ds : List D} {n i : Nat} {s : Sl} (h : (ds.map Sl.val ++ List.replicate n Sl.un)[i]? = some s) : s = .un ∨ ∃ d, s = .val d ∧ ds[i]? = some d := by
  rcases Nat.lt_or_ge i ds.length with lt | ge
  · rw [List.getElem?_append_left (by simpa using lt), List.getElem?_map] at h
    cases q : ds[i]? with
    | none => rw [q] at h; cases h
    | some d => rw [q] at h; exact .inr ⟨d, (Option.some.inj h).symm, rfl⟩
  · rw [List.getElem?_append_right (by simpa using ge), List.getElem?_replicate] at h
    split at h
    · exact .inl (Option.some.inj h).symm
    · cases h
theorem start_no {F : Hp} {μ : List Addr} {S ds : List D} {n : Nat} {σ : L2.St} {H : Hp} {x : Nat ⊕ Nat} {p : Addr} (h : Own ⟨F, μ, ⟨ds.map Sl.val ++ List.replicate n Sl.un, S⟩, σ, H⟩ x p) : Own ⟨F, μ, ⟨[], S⟩, [], H⟩ x p := by
  cases x with
  | inr k => exact h
  | inl i =>
    obtain ⟨⟨c, hc⟩, _⟩ := h
    rcases hc with hc | hc
    · rcases slots_get hc with q | ⟨d, q, _⟩ <;> cases q
    · rcases slots_get hc with q | ⟨d, q, _⟩ <;> cases q
theorem lk_start {F : Hp} {μ : List Addr} {S ds : List D} {H : Hp} {vs : List V} {N : List Str} (L : Lk K ⟨F, μ, ⟨[], S⟩, [], H⟩) (r : Reps K F μ ds vs) (hn : ds.length ≤ N.length) :
    Lk K ⟨F, μ, ⟨ds.map Sl.val ++ List.replicate (N.length - ds.length) Sl.un, S⟩, L2.start N vs, H⟩ := by
  have hl := r.length
  refine ⟨L.fro, ?_, L.mul, fun i d e => ?_, fun i c e => ?_, L.sto, fun a b q qa qb => L.inj a b q (start_no qa) (start_no qb)⟩
  · simp [L2.start, hl]
  · rcases slots_get e with q | ⟨d', q, e'⟩
    · cases q
    · cases q
      obtain ⟨v, h1, h2⟩ := r.get e'
      exact ⟨v, get_start h1, h2⟩
  · exfalso
    rcases e with e | e
    · rcases slots_get e with q | ⟨d', q, _⟩ <;> cases q
    · rcases slots_get e with q | ⟨d', q, _⟩ <;> cases q
theorem stp_ent {F F' : Hp} {μ μ' : List Addr} {S ds : List D} {m' : Ms} {n : Nat} {σ σ' : L2.St} {H H' : Hp} (s : Stp ⟨F, μ, ⟨ds.map Sl.val ++ List.replicate n Sl.un, S⟩, σ, H⟩ ⟨F', μ', m', σ', H'⟩) : Stp ⟨F, μ, ⟨[], S⟩, [], H⟩ ⟨F', μ', ⟨[], m'.S⟩, [], H'⟩ :=
  ⟨s.fle, s.mu, fun p o h hn => s.keep p o h fun x hx => hn x (start_no hx), fun p x hx => by
    obtain ⟨k, rfl, hk⟩ := own_ent (w := ⟨F', μ', m', σ', H'⟩) hx
    rcases s.own p (.inr k) hk with ⟨y, hy⟩ | z
    · exact .inl ⟨y, start_no hy⟩
    · exact .inr z, fun p o h => by
    rcases s.fnew p o h with z | z | ⟨y, hy⟩ | z
    · exact .inl z
    · exact .inr (.inl z)
    · exact .inr (.inr (.inl ⟨y, start_no hy⟩))
    · exact .inr (.inr (.inr z)), s.there, fun i c h => by simp at h⟩
/-- what a def gave away is new to its caller -/
theorem rO_fn {F F' : Hp} {μ μ' : List Addr} {S ds : List D} {n : Nat} {m' : Ms} {σ σ' : L2.St} {H H' : Hp} {c : D} {v : V} (h : rO ⟨K, ca, fld⟩ ⟨F, μ, ⟨ds.map Sl.val ++ List.replicate n Sl.un, S⟩, σ, H⟩ ⟨F', μ', m', σ', H'⟩ c v) : rF ⟨K, ca, fld⟩ ⟨F, μ, ⟨[], S⟩, [], H⟩ ⟨F', μ', ⟨[], m'.S⟩, [], H'⟩ c v := by
  obtain ⟨p, h1, h2, h3, h4, h5⟩ := h
  refine ⟨p, h1, ?_, h2, fun x hx => ?_, h4⟩
  · rcases h5 with h5 | ⟨w1, i, L1, o1, s1⟩
    · exact h5
    rcases s1.own p (.inl i) o1 with ⟨y, hy⟩ | z
    · exfalso
      cases y with
      | inl j =>
        have := start_no hy
        obtain ⟨⟨d, hd⟩, _⟩ := this
        rcases hd with hd | hd <;> simp at hd
      | inr k =>
        have hk : μ[k]? = some p := hy
        obtain ⟨r, hr⟩ := s1.mu
        have hk1 : w1.μ[k]? = some p := by
          rw [← hr, List.getElem?_append_left (List.getElem?_eq_some_iff.mp hk).1]
          exact hk
        have := L1.inj (.inl i) (.inr k) p o1 hk1
        cases this
    · exact z
  · obtain ⟨k, rfl, hk⟩ := own_ent (w := ⟨F', μ', m', σ', H'⟩) hx
    exact h3 (.inr k) hk
/-- every def keeps its promise, n calls deep -/
theorem fn_ok {xs : Nat → Option (Str × Str)} {xn : Nat → Option Str} (T : Tab K mg tb gl xs xn) (TX : TabX K mg xs xn ca fld) : ∀ (n f : Nat) (df : Df), tb f = some df → ∀ (a : Addr) (fd : FuncData) (st : Stmt), Fun K df.name df.name st a fd → chDf tb gl df st xs xn = true → FnOk P w K mg base (L2.CX P w) (n + 1) a fd df.ps (spC ⟨K, ca, fld⟩ (runF tb n f))
  | 0, f, df, hf, a, fd, st, F, hc => ⟨fun vs H Q E ⟨_, _, _, _, _, _, h⟩ => h.elim, fun A outer s H args us vs Q E hr e0 hb r ⟨_, _, _, _, _, _, h⟩ => h.elim⟩
  | n + 1, f, df, hf, a, fd, st, F, hc => by
    unfold chDf at hc
    rw [Bool.and_eq_true] at hc
    have S := sc_of hc.1
    have run : ∀ (ds Ss : List D), runF tb (n + 1) f ds Ss = if ds.length = df.ps.length then
        match evSs (runF tb n) df.body ⟨ds.map .val ++ List.replicate (df.ns.length - ds.length) .un, Ss⟩ with
        | .ok (.rt d) m => .ok d m.S
        | .ok .nx m => .ok .non m.S
        | .ok (.ro c) m => .own c m.S
        | .ok _ _ => .bad
        | .exc e m => .exc e m.S
        | .bad => .bad
      else .bad := fun ds Ss => by
        rw [runF, hf] <;> rfl
    refine F.okX S (fun vs H Q E h => ?_) (fun cdv A outer s H vs Q E hr h => ?_)
    · obtain ⟨_, _, Ss, ds, _, r, h⟩ := h
      rw [run] at h
      split at h
      · rename_i hl
        rw [← r.length]; exact hl
      · exact h.elim
    · obtain ⟨F0, μ, Ss, ds, L, r, h⟩ := h
      rw [run] at h
      split at h
      · rename_i hl
        refine ⟨FS ⟨K, ca, fld⟩ (fun cls d _ H => E cls d H) (evSs (runF tb n) df.body), okSs (ca := ca) (fld := fld) df.body (defBody st) _ _ (kxOf tb gl df st xs xn) ⟨S.nd, rfl, rfl, S.kind, fun _ _ => rfl, rfl, takes_of rfl rfl rfl rfl, passes_of rfl, ?_, ?_, fun g x hg => ?_, T.bl, T.gl, fun c p hx => ⟨(TX.xc c p hx).1, (TX.xc c p hx).2 _ rfl rfl (hr.mono (by omega))⟩, ⟨TX.nm, TX.xe, TX.kit, TX.isc⟩, fun _ => ⟨rfl, rfl⟩⟩ hc.2, ?_⟩
        · have := hr.un
          show (A.deeper _).units + 65 < cLine
          omega
        · have := hr.un
          show (A.deeper _).units + 65 + 1 < cLine
          omega
        · have hg : (tb g).map (·.gn) = some x := hg
          cases q : tb g with
          | none => rw [q] at hg; cases hg
          | some dg =>
            rw [q] at hg
            cases hg
            obtain ⟨a', fd', st', F', m', b', c'⟩ := (T.fact g dg q).ex
            exact ⟨a', fd', n + 1, dg.ps, fn_ok T TX n g dg q a' fd' st' F' c', hr, m', F'.kp, b'⟩
        · have hN : ds.length ≤ df.ns.length := by
            rw [hl]
            have := S.pre
            have := congrArg List.length this
            rw [List.length_take] at this
            omega
          refine ⟨F0, μ, _, lk_start L r hN, ?_⟩
          cases q : evSs (runF tb n) df.body ⟨ds.map .val ++ List.replicate (df.ns.length - ds.length) .un, Ss⟩ with
          | ok fl m' =>
            rw [q] at h
            intro F' μ' σ' H' L' s'
            cases fl with
            | nx => exact h .non F' μ' H' L'.ent (stp_ent s') .non
            | rt d => exact fun v rv => h v F' μ' H' L'.ent (stp_ent s') rv
            | ro c => exact fun v rv => h v F' μ' H' L'.ent (stp_ent s') (rO_fn rv)
            | br => exact h.elim
            | ct => exact h.elim
          | exc e m' =>
            rw [q] at h
            intro c dx F' μ' σ' H' L' s' x
            exact h c dx F' μ' H' L'.ent (stp_ent s') x
          | bad => rw [q] at h; exact h.elim
      · exact h.elim
/-- the law's own def -/
theorem law_sp {n f : Nat} {G : Gs} {H : Hp} {a : Addr} {ns : List Int} (hO : Only H) (hS : SqL G.K H a (ns.map V.int)) (h : ∃ S', runF tb n f [.lst (ns.map D.int)] [] = .ok (.bl true) S') :
    spC G (runF tb n f) [.ref a] H (fun v _ => v = .bl true) fun _ _ _ => False := by
  obtain ⟨S', e⟩ := h
  refine ⟨H, [], [], [.lst (ns.map D.int)], ⟨fun _ _ e => e, rfl, rfl, fun i d e => by simp at e, fun i c e => by simp at e, fun n c e => by simp at e, fun x y p hx hy => ?_⟩, .cons (.lst hS ?_) .nil, ?_⟩
  · cases x with
    | inl i => obtain ⟨⟨c, hc⟩, _⟩ := hx; simp at hc
    | inr n => have hx : ([] : List Addr)[n]? = some p := hx; simp at hx
  · clear hS e
    induction ns with
    | nil => exact .nil
    | cons i r ih => exact .cons (.int i) ih
  · rw [e]
    intro v F' μ' H' L' s' rv
    exact rep_bl rv
theorem law_cx (w : World) (H : Hp) (s : Shared) (e : Value) (s' : Shared) (h : L2.CX P w [] H s (fun _ _ _ => False) e s') : False := by
  obtain ⟨_, _, _, _, _, _, _, _, _, _, _, _, z⟩ := h
  exact z

/-! ### what the top has written -/
theorem fact_mk {X : Heap} (hK : K.In X) (G : X.Ns mainGlobals mg) {df : Df} {st : Stmt} {f : Addr} {oc : Value} {od an : Option Addr} {osl : Array (Option Value)} {kV doc pm cdv ct : Value}
    (a : PySem.W.nsIn K mainGlobals df.gn = some (some (.ref f))) (l : K.lookup f = some ⟨oc, od, .func (PySem.W.fnOf df.name df.name (defArgs st) (defBody st) (defScope st) .none kV doc pm an cdv ct), osl⟩)
    (c : PySem.W.codeIn K cdv df.name = true) (k : PySem.W.keepIn K (.ref f) = true)
    (b : ∀ (kV doc pm : Value) (an : Option Addr) (cdv ct : Value) (us : List Value), us.length = df.ps.length → bindArgs (PySem.W.fnOf df.name df.name (defArgs st) (defBody st) (defScope st) .none kV doc pm an cdv ct) ⟨us, []⟩ = pure (df.ps.zip us))
    {xs : Nat → Option (Str × Str)} {xn : Nat → Option Str} (h : chDf tb gl df st xs xn = true) : Fact K mg tb gl df xs xn := by
  have F := fun_mk (st := st) l c k
  exact ⟨⟨f, _, st, F, PySem.W.mg_of hK G a, F.binds b, h⟩⟩
theorem bl_mk {X : Heap} (hK : K.In X) (G : X.Ns mainGlobals mg) (h : (bltNames.all fun x => match PySem.W.nsIn K mainGlobals x with | some none => true | _ => false) = true) : ∀ x ∈ bltNames, mg x = none := fun x hx => by
  have := List.all_eq_true.mp h x hx
  split at this
  · exact PySem.W.mg_none_of hK G (by assumption)
  · cases this
end
end Ev

set_option Elab.async false
set_option linter.all false
set_option maxRecDepth 100000
set_option autoImplicit false
set_option maxHeartbeats 4000000
namespace PySem
namespace BadValueX
open PySem.W PySem.Calls PyProof.Rows PySem.HandSPX
/-! ### the text of __init__ -/
def iA (p1 p2 : Pos) : Arguments := { posonlyargs := [], args := [{ arg := "self", annotation := none, pos := p1 }, { arg := "name", annotation := none, pos := p2 }], vararg := none, kwonlyargs := [], kw_defaults := [], kwarg := none, defaults := [] }
def iB (q1 q2 q3 q4 : Pos) : List Stmt := [.Assign [.Attribute (.Name "self" q1) "name" q2] (.Name "name" q3) q4]
def iS : Scope := { kind := .function, names := [(PySem.Str.ofString "self", .local), (PySem.Str.ofString "name", .local)], isGenerator := false, isCoroutine := false, more := [] }
/-- what the written part says of Low, at C, and of its __init__, at fI -/
structure LowTxt (K : Frag) (mg : Str → Option Value) (C fI : Addr) : Prop where
  gC : mg "BadValue" = some (.ref C)
  cls : ∃ nm q N bs bm sn sub ab col dd k0 k1 k2 k3 k5, K.lookup C = some (excClassObj nm q C N bs bm true sn sub ab col dd k0 k1 k2 k3 k5 "ValueError.__new__") ∧ refsVE bm = true
  sa : findIn K (.ref C) "__setattr__" = some (some (.builtin "object.__setattr__"))
  ga : findIn K (.ref C) "__getattribute__" = some (some (.builtin "BaseException.__getattribute__"))
  gg : findIn K (.ref C) "__getattr__" = some none
  noN : findIn K (.ref C) "name" = some none
  iC : findIn K (.ref C) "__init__" = some (some (.ref fI))
  tC : typeIn K (.ref fI) = some (.type "function")
  kC : keepIn K (.ref C) = true
  exC : subIn K (.ref C) (.type "BaseException") = some true
  tyC : typeIn K (.ref C) = some (.type "type")
  hdC : hasDictIn K C = true
  te : exmOne K (.ref C) (.ref C) = some true
  fn : ∃ (oc : Value) (od : Option Addr) (doc pm : Value) (an : Option Addr) (cdv ct : Value) (osl : Array (Option Value)) (p1 p2 q1 q2 q3 q4 : Pos),
    K.lookup fI = some ⟨oc, od, .func (fnOf "__init__" "BadValue.__init__" (iA p1 p2) (iB q1 q2 q3 q4) iS .none .none doc pm an cdv ct), osl⟩ ∧ codeIn K cdv "BadValue.__init__" = true
theorem one_size (v : Value) : [v].length ≤ sizeLine := by
  rw [sizeLine_eq]
  exact (by decide : 1 ≤ 16777216)
theorem kept_but {K : Frag} {h h' : Heap} {x : Addr} (X : K.In h) (hx : K.lookup x = none) (k : ∀ b o, b ≠ x → h.get? b = some o → h'.get? b = some o) : K.In h' := fun a o e =>
  k a o (fun z => by rw [z, hx] at e; cases e) (X a o e)
theorem ldC {M : Model} {s : Shared} {name : Str} {scope : Scope} {L a : Addr} {cd : Value} {m : Str → Option Value} {x : Str} {pos : Pos} {v : Value} {Q : Value → Shared → Prop} {A : Around} {E : Value → Shared → Prop} (hn : s.heap.Ns L m) (hv : m x = some v) (h : Q v s)
    (hk : scope.kind = .function := by rfl) (hl : (envOfC name scope L a cd).kindOf x = some .local := by rfl) (hd : (x == ("__debug__" : Str)) = false := by decide) :
    wpAny M A (eval (.Name x pos) (envOfC name scope L a cd)) Q E s := wpAny_Name (wpAny_loadName_local hk hl hn hv h) hd
/-- what __init__ leaves of a fresh exception at x -/
structure InitEnd (h h' : Heap) (x C dx t1 : Addr) (v : Value) : Prop where
  keep : ∀ b o, b ≠ x → h.get? b = some o → h'.get? b = some o
  obj : h'.get? x = some { cls := .ref C, dict := some dx, data := .fields #[.ref t1, .none, .none, .none, .bool false, .none] }
  dbig : h.objs.size ≤ dx
  dne : dx ≠ x
  ns : h'.Ns1 dx (fun y => if y = "name" then some v else none)
/-- a made Low -/
structure OwnMade (h h' : Heap) (e C d : Addr) (v : Value) : Prop where
  keep : ∀ b o, h.get? b = some o → h'.get? b = some o
  new : h.objs.size ≤ e
  obj : ∃ oe vs, h'.get? e = some oe ∧ oe.cls = .ref C ∧ oe.dict = some d ∧ oe.data = .fields vs ∧ vs[1]? = some .none
  dbig : h.objs.size ≤ d
  dne : d ≠ e
  ns : h'.Ns1 d (fun y => if y = "name" then some v else none)
section
variable {prog : Program} {w : World} {A : Around} {E : Value → Shared → Prop} {R : Result → Shared → Prop} {s : Shared} {K : Frag} {mg : Str → Option Value} {C fI : Addr}
theorem low_init (T : LowTxt K mg C fI) {x t0 : Addr} {v : Value} (X : K.In s.heap) (hlim : s.heap.NoLimit) (hx : s.heap.get? x = some (excO C t0)) (hnx : K.lookup x = none) (hroom : A.depth < recursionLimit)
    (hq : ∀ h' tk dx, InitEnd s.heap h' x C dx t0 v → R (.ok (.ret .none)) { s with heap := h', toks := tk }) :
    codeAny (model prog w) A (.call (.ref fI) ⟨[.ref x, v], []⟩) R s := by
  obtain ⟨oc, od, doc, pm, an, cdv, ct, osl, p1, p2, q1, q2, q3, q4, ho, hcd⟩ := T.fn
  obtain ⟨nm, q, N, bs, bm, sn, sub, ab, col, dd, k0, k1, k2, k3, k5, hC, hbm⟩ := T.cls
  have hcl : clsIn K C = some { name := nm, bases := bs, mro := .ref C :: bm, ns := N, qualname := q, hasDict := true, slotNames := sn, subclasses := sub, abstract := ab, collection := col, hasDel := false } := by unfold clsIn; rw [hC] <;> rfl
  refine Att.call_fn (binds := [("self", .ref x), ("name", v)]) X hlim ho hcd hroom (BindsTo.of_eq (by first | rfl | with_unfolding_all rfl)) (by first | rfl | decide | with_unfolding_all rfl) (fun s₁ IC => ?_) rfl rfl rfl
  obtain ⟨h₁, tk₁, rfl⟩ := IC.toInCall.same
  have k : ∀ b o, s.heap.get? b = some o → h₁.get? b = some o := IC.toInCall.keep
  have hn := IC.toInCall.ns
  have hxL : s.heap.objs.size ≠ x := Nat.ne_of_gt (Heap.lt_size hx)
  have X₁ : K.In h₁ := X.keeps k
  have hx₁ := k _ _ hx
  -- self.by = by
  show wpAny _ _ (execs _ _) _ _ _
  refine wpAny_execs_cons (plainObj_wpAny_Assign_Attribute ?_)
  refine ldC (v := v) hn (by first | rfl | with_unfolding_all rfl | kernel_rfl) (ldC (v := .ref x) hn (by first | rfl | with_unfolding_all rfl | kernel_rfl) ?_)
  refine set_plain X₁ (ox := excO C t0) (od := none) ⟨hx₁, rfl, rfl, trivial⟩ T.sa ?_
  refine exc_osa X₁ hx₁ hcl (show refsVE (.ref C :: bm) = true from hbm) rfl T.noN (fun h₃ tk₃ dx k₃ dn dne hx₃ hn₃ => ?_)
  show wpAny _ _ (execs _ _) _ _ _
  have z : s.heap.objs.size < h₁.objs.size := hn.lt
  exact wpAny_execs_nil (hq h₃ tk₃ dx ⟨fun b o hb e => k₃ b o hb (k b o e), hx₃, Nat.le_of_lt (Nat.lt_of_lt_of_le z dn), dne, hn₃⟩)
theorem low_made (T : LowTxt K mg C fI) {v : Value} (X : K.In s.heap) (hlim : s.heap.NoLimit) (hroom : A.depth + 1 < recursionLimit)
    (hq : ∀ h' tk e d, OwnMade s.heap h' e C d v → R (.ok (.ret (.ref e))) { s with heap := h', toks := tk }) :
    codeAny (model prog w) A (.call (.ref C) ⟨[v], []⟩) R s := by
  obtain ⟨nm, q, N, bs, bm, sn, sub, ab, col, dd, k0, k1, k2, k3, k5, hC, hbm⟩ := T.cls
  obtain ⟨hp, g, dr, tk, os⟩ := s
  have k : ∀ b o, hp.get? b = some o → ((hp.push (kdv_tup [v])).push (excO C hp.objs.size)).get? b = some o := fun b o e => Heap.get?_push_of_some _ (Heap.get?_push_of_some _ e)
  have hget : ((hp.push (kdv_tup [v])).push (excO C hp.objs.size)).get? (hp.objs.size + 1) = some (excO C hp.objs.size) := by heap_get
  have hnx : K.lookup (hp.objs.size + 1) = none := by
    cases e : K.lookup (hp.objs.size + 1) with
    | none => rfl
    | some o =>
      have z : hp.get? (hp.objs.size + 1) = some o := X _ _ e
      exact absurd (Nat.lt_of_succ_lt (Heap.lt_size z)) (Nat.lt_irrefl _)
  refine call_own F.excBase_ValueError (fun X => refsVE_contains X bm hbm) (X _ _ hC) (looks_findIn X T.iC) (fun self => bind_fn X self T.tC) (one_size v) ?_
  refine low_init (s := ⟨(hp.push (kdv_tup [v])).push (excO C hp.objs.size), g, dr, tk, os⟩) T (X.keeps k) (hlim.keeps k) hget hnx ?_ fun h' tk' dx ⟨k', hx, dn, dne, hns⟩ => ?_
  · show A.depth + 1 < recursionLimit
    exact hroom
  · have old : ∀ b o, hp.get? b = some o → h'.get? b = some o := fun b o e => k' b o (Nat.ne_of_lt (Nat.lt_succ_of_lt (Heap.lt_size e))) (k b o e)
    have z : hp.objs.size + 1 + 1 ≤ dx := by
      first
        | (simpa only [Heap.size_push] using dn)
        | exact dn
        | (have q := dn; rw [Heap.size_push, Heap.size_push] at q; exact q)
    exact ⟨rfl, hq h' tk' (hp.objs.size + 1) dx ⟨old, Nat.le_succ _, ⟨_, _, hx, rfl, rfl, rfl, rfl⟩, Nat.le_trans (Nat.le_trans (Nat.le_succ _) (Nat.le_succ _)) z, dne, hns⟩⟩
end
end BadValueX
end PySem
namespace L2
open PySem PySem.Spec PyProof.Rows
theorem relO_BadValue {v : V} {v' : Value} (r : RelV v v') (f : Str) : RelO (List.lookup f [(("name" : Str), v)]) (if f = "name" then some v' else none) := by
  by_cases hw : f = "name"
  · subst hw
    rw [if_pos rfl]
    have q : List.lookup ("name" : Str) [(("name" : Str), v)] = some v := by simp [List.lookup]
    rw [q]
    exact r
  · rw [if_neg hw]
    have qw : (f == ("name" : Str)) = false := by simpa using hw
    have q2 : List.lookup f [(("name" : Str), v)] = none := by simp [List.lookup, qw]
    rw [q2]
    trivial
section
variable {X : Cx} {C fI : Addr}
/-- Low(e) -/
def tMkBadValue (C : Addr) (ta : TA) : St → Hp → XK → Prop := fun σ H Q => ta σ H fun vs H1 => ∃ v, vs = [v] ∧ ∀ d, H1 d = none → Q (.ref C) (some d) (upd H1 d (.xd [(("name" : Str), v)]))
theorem pmk_BadValue {a : Expr} {ta : TA} {p pos : Pos} {k : Nat} (T : PySem.BadValueX.LowTxt X.K X.mg C fI) (hr : Room k X.A) (ha : PA X [a] ta) (hg : Gl X "BadValue" := by rfl)
    (he : starEach (a :: []) X.env = (false, eval a X.env) :: starEach [] X.env := by rfl) (hpl : (backTo pos (starEach [] X.env)).any (·.1) = false := by rfl) :
    PMk X (.Call (.Name "BadValue" p) [a] [] pos) (tMkBadValue C ta) := by
  intro pins s σ H Q I h
  refine wpAny_Call_Name_kw (ld_glob I hg T.gC ?_)
  refine PySem.W.callWith_K (h₀ := X.base) I.ok.mod.kin T.kC (thn (ha.run pos pins s σ H _ I h) fun us s1 hh => ?_) he hpl
  obtain ⟨vs, H1, I1, r1, v, ev, q1⟩ := hh
  subst ev
  refine ⟨I1.kIn, ?_⟩
  cases r1 with
  | cons rv rn =>
    rename_i v' us'
    cases rn
    show wpAny _ _ (call (.ref C) [v']) _ _ _
    have hlim := I1.nolimit
    obtain ⟨hp, g, dr, tk, os⟩ := s1
    refine wpAny_call (PySem.BadValueX.low_made T I1.kIn hlim (by have := hr.dp; omega) fun h' tk' e d M => ?_)
    show MkP X pins σ Q (.ref e) ⟨h', g, dr, tk', os⟩
    obtain ⟨oe, fv, hoe, hc, hd, hdat, h1⟩ := M.obj
    have hns := M.ns
    obtain ⟨G', g1, g2⟩ := restrict h' fun b => decide (b ≠ e)
    have gk : ∀ b, b ≠ e → G'.get? b = h'.get? b := fun b hb => g1 b (decide_eq_true hb)
    have ge : G'.get? e = none := g2 e (by simp)
    have old : ∀ b o, hp.get? b = some o → G'.get? b = some o := fun b o q => (gk b (Nat.ne_of_lt (Nat.lt_of_lt_of_le (Heap.lt_size q) M.new))).trans (M.keep b o q)
    have ob : ObjOk X.prog X.w (upd H1 d (.xd [(("name" : Str), v)])) G' d (.xd [(("name" : Str), v)]) :=
      ⟨_, hns.at (fun o q => (gk d M.dne).trans q), fun f => relO_BadValue rv f⟩
    have J : Inv X pins σ (upd H1 d (.xd [(("name" : Str), v)])) ⟨G', g, dr, tk', os⟩ := I1.laid (t' := tk') old M.dbig ob
    refine ⟨e, oe, fv, ⟨G', g, dr, tk', os⟩, _, .ref C, some d, rfl, J, fun b o q => ?_, ge, hoe, ⟨hc, hd⟩, hdat, h1, ?_, rfl, I1.bare, raises_own T.exC T.tyC, q1 d (I1.hok.fresh M.dbig)⟩
    · by_cases hb : b = e
      · have q' : G'.get? b = some o := q
        rw [hb, ge] at q'; cases q'
      · exact (gk b hb).symm.trans q
    · rw [upd_ne (Ne.symm M.dne)]
      exact I1.hok.fresh M.new
end
end L2
namespace Ev
open PySem PySem.Spec PyProof.Rows L2
theorem mkR_BadValue {K : PySem.W.Frag} {mg : Str → Option Value} {C fI : Addr} (T : PySem.BadValueX.LowTxt K mg C fI) : ∀ X : Cx, X.K = K → X.mg = mg → Room 1 X.A → MkR X "BadValue" "name" C := by
  rintro X rfl rfl hr
  exact ⟨fun pn xe a ta p pos ha hg he hpl => pmk_BadValue (X := X.tr pn xe) T hr ha hg he hpl, T.gC, ⟨T.ga, T.gg, T.exC, T.hdC⟩, T.noN⟩
end Ev
namespace PySem
namespace TooLargeX
open PySem.W PySem.Calls PyProof.Rows PySem.HandSPX
/-! ### the text of __init__ -/
def iA (p1 p2 : Pos) : Arguments := { posonlyargs := [], args := [{ arg := "self", annotation := none, pos := p1 }, { arg := "what", annotation := none, pos := p2 }], vararg := none, kwonlyargs := [], kw_defaults := [], kwarg := none, defaults := [] }
def iB (q1 q2 q3 q4 : Pos) : List Stmt := [.Assign [.Attribute (.Name "self" q1) "what" q2] (.Name "what" q3) q4]
def iS : Scope := { kind := .function, names := [(PySem.Str.ofString "self", .local), (PySem.Str.ofString "what", .local)], isGenerator := false, isCoroutine := false, more := [] }
/-- what the written part says of Low, at C, and of its __init__, at fI -/
structure LowTxt (K : Frag) (mg : Str → Option Value) (C fI : Addr) : Prop where
  gC : mg "TooLarge" = some (.ref C)
  cls : ∃ nm q N bs bm sn sub ab col dd k0 k1 k2 k3 k5, K.lookup C = some (excClassObj nm q C N bs bm true sn sub ab col dd k0 k1 k2 k3 k5 "ValueError.__new__") ∧ refsVE bm = true
  sa : findIn K (.ref C) "__setattr__" = some (some (.builtin "object.__setattr__"))
  ga : findIn K (.ref C) "__getattribute__" = some (some (.builtin "BaseException.__getattribute__"))
  gg : findIn K (.ref C) "__getattr__" = some none
  noN : findIn K (.ref C) "what" = some none
  iC : findIn K (.ref C) "__init__" = some (some (.ref fI))
  tC : typeIn K (.ref fI) = some (.type "function")
  kC : keepIn K (.ref C) = true
  exC : subIn K (.ref C) (.type "BaseException") = some true
  tyC : typeIn K (.ref C) = some (.type "type")
  hdC : hasDictIn K C = true
  te : exmOne K (.ref C) (.ref C) = some true
  fn : ∃ (oc : Value) (od : Option Addr) (doc pm : Value) (an : Option Addr) (cdv ct : Value) (osl : Array (Option Value)) (p1 p2 q1 q2 q3 q4 : Pos),
    K.lookup fI = some ⟨oc, od, .func (fnOf "__init__" "TooLarge.__init__" (iA p1 p2) (iB q1 q2 q3 q4) iS .none .none doc pm an cdv ct), osl⟩ ∧ codeIn K cdv "TooLarge.__init__" = true
theorem one_size (v : Value) : [v].length ≤ sizeLine := by
  rw [sizeLine_eq]
  exact (by decide : 1 ≤ 16777216)
theorem kept_but {K : Frag} {h h' : Heap} {x : Addr} (X : K.In h) (hx : K.lookup x = none) (k : ∀ b o, b ≠ x → h.get? b = some o → h'.get? b = some o) : K.In h' := fun a o e =>
  k a o (fun z => by rw [z, hx] at e; cases e) (X a o e)
theorem ldC {M : Model} {s : Shared} {name : Str} {scope : Scope} {L a : Addr} {cd : Value} {m : Str → Option Value} {x : Str} {pos : Pos} {v : Value} {Q : Value → Shared → Prop} {A : Around} {E : Value → Shared → Prop} (hn : s.heap.Ns L m) (hv : m x = some v) (h : Q v s)
    (hk : scope.kind = .function := by rfl) (hl : (envOfC name scope L a cd).kindOf x = some .local := by rfl) (hd : (x == ("__debug__" : Str)) = false := by decide) :
    wpAny M A (eval (.Name x pos) (envOfC name scope L a cd)) Q E s := wpAny_Name (wpAny_loadName_local hk hl hn hv h) hd
/-- what __init__ leaves of a fresh exception at x -/
structure InitEnd (h h' : Heap) (x C dx t1 : Addr) (v : Value) : Prop where
  keep : ∀ b o, b ≠ x → h.get? b = some o → h'.get? b = some o
  obj : h'.get? x = some { cls := .ref C, dict := some dx, data := .fields #[.ref t1, .none, .none, .none, .bool false, .none] }
  dbig : h.objs.size ≤ dx
  dne : dx ≠ x
  ns : h'.Ns1 dx (fun y => if y = "what" then some v else none)
/-- a made Low -/
structure OwnMade (h h' : Heap) (e C d : Addr) (v : Value) : Prop where
  keep : ∀ b o, h.get? b = some o → h'.get? b = some o
  new : h.objs.size ≤ e
  obj : ∃ oe vs, h'.get? e = some oe ∧ oe.cls = .ref C ∧ oe.dict = some d ∧ oe.data = .fields vs ∧ vs[1]? = some .none
  dbig : h.objs.size ≤ d
  dne : d ≠ e
  ns : h'.Ns1 d (fun y => if y = "what" then some v else none)
section
variable {prog : Program} {w : World} {A : Around} {E : Value → Shared → Prop} {R : Result → Shared → Prop} {s : Shared} {K : Frag} {mg : Str → Option Value} {C fI : Addr}
theorem low_init (T : LowTxt K mg C fI) {x t0 : Addr} {v : Value} (X : K.In s.heap) (hlim : s.heap.NoLimit) (hx : s.heap.get? x = some (excO C t0)) (hnx : K.lookup x = none) (hroom : A.depth < recursionLimit)
    (hq : ∀ h' tk dx, InitEnd s.heap h' x C dx t0 v → R (.ok (.ret .none)) { s with heap := h', toks := tk }) :
    codeAny (model prog w) A (.call (.ref fI) ⟨[.ref x, v], []⟩) R s := by
  obtain ⟨oc, od, doc, pm, an, cdv, ct, osl, p1, p2, q1, q2, q3, q4, ho, hcd⟩ := T.fn
  obtain ⟨nm, q, N, bs, bm, sn, sub, ab, col, dd, k0, k1, k2, k3, k5, hC, hbm⟩ := T.cls
  have hcl : clsIn K C = some { name := nm, bases := bs, mro := .ref C :: bm, ns := N, qualname := q, hasDict := true, slotNames := sn, subclasses := sub, abstract := ab, collection := col, hasDel := false } := by unfold clsIn; rw [hC] <;> rfl
  refine Att.call_fn (binds := [("self", .ref x), ("what", v)]) X hlim ho hcd hroom (BindsTo.of_eq (by first | rfl | with_unfolding_all rfl)) (by first | rfl | decide | with_unfolding_all rfl) (fun s₁ IC => ?_) rfl rfl rfl
  obtain ⟨h₁, tk₁, rfl⟩ := IC.toInCall.same
  have k : ∀ b o, s.heap.get? b = some o → h₁.get? b = some o := IC.toInCall.keep
  have hn := IC.toInCall.ns
  have hxL : s.heap.objs.size ≠ x := Nat.ne_of_gt (Heap.lt_size hx)
  have X₁ : K.In h₁ := X.keeps k
  have hx₁ := k _ _ hx
  -- self.by = by
  show wpAny _ _ (execs _ _) _ _ _
  refine wpAny_execs_cons (plainObj_wpAny_Assign_Attribute ?_)
  refine ldC (v := v) hn (by first | rfl | with_unfolding_all rfl | kernel_rfl) (ldC (v := .ref x) hn (by first | rfl | with_unfolding_all rfl | kernel_rfl) ?_)
  refine set_plain X₁ (ox := excO C t0) (od := none) ⟨hx₁, rfl, rfl, trivial⟩ T.sa ?_
  refine exc_osa X₁ hx₁ hcl (show refsVE (.ref C :: bm) = true from hbm) rfl T.noN (fun h₃ tk₃ dx k₃ dn dne hx₃ hn₃ => ?_)
  show wpAny _ _ (execs _ _) _ _ _
  have z : s.heap.objs.size < h₁.objs.size := hn.lt
  exact wpAny_execs_nil (hq h₃ tk₃ dx ⟨fun b o hb e => k₃ b o hb (k b o e), hx₃, Nat.le_of_lt (Nat.lt_of_lt_of_le z dn), dne, hn₃⟩)
theorem low_made (T : LowTxt K mg C fI) {v : Value} (X : K.In s.heap) (hlim : s.heap.NoLimit) (hroom : A.depth + 1 < recursionLimit)
    (hq : ∀ h' tk e d, OwnMade s.heap h' e C d v → R (.ok (.ret (.ref e))) { s with heap := h', toks := tk }) :
    codeAny (model prog w) A (.call (.ref C) ⟨[v], []⟩) R s := by
  obtain ⟨nm, q, N, bs, bm, sn, sub, ab, col, dd, k0, k1, k2, k3, k5, hC, hbm⟩ := T.cls
  obtain ⟨hp, g, dr, tk, os⟩ := s
  have k : ∀ b o, hp.get? b = some o → ((hp.push (kdv_tup [v])).push (excO C hp.objs.size)).get? b = some o := fun b o e => Heap.get?_push_of_some _ (Heap.get?_push_of_some _ e)
  have hget : ((hp.push (kdv_tup [v])).push (excO C hp.objs.size)).get? (hp.objs.size + 1) = some (excO C hp.objs.size) := by heap_get
  have hnx : K.lookup (hp.objs.size + 1) = none := by
    cases e : K.lookup (hp.objs.size + 1) with
    | none => rfl
    | some o =>
      have z : hp.get? (hp.objs.size + 1) = some o := X _ _ e
      exact absurd (Nat.lt_of_succ_lt (Heap.lt_size z)) (Nat.lt_irrefl _)
  refine call_own F.excBase_ValueError (fun X => refsVE_contains X bm hbm) (X _ _ hC) (looks_findIn X T.iC) (fun self => bind_fn X self T.tC) (one_size v) ?_
  refine low_init (s := ⟨(hp.push (kdv_tup [v])).push (excO C hp.objs.size), g, dr, tk, os⟩) T (X.keeps k) (hlim.keeps k) hget hnx ?_ fun h' tk' dx ⟨k', hx, dn, dne, hns⟩ => ?_
  · show A.depth + 1 < recursionLimit
    exact hroom
  · have old : ∀ b o, hp.get? b = some o → h'.get? b = some o := fun b o e => k' b o (Nat.ne_of_lt (Nat.lt_succ_of_lt (Heap.lt_size e))) (k b o e)
    have z : hp.objs.size + 1 + 1 ≤ dx := by
      first
        | (simpa only [Heap.size_push] using dn)
        | exact dn
        | (have q := dn; rw [Heap.size_push, Heap.size_push] at q; exact q)
    exact ⟨rfl, hq h' tk' (hp.objs.size + 1) dx ⟨old, Nat.le_succ _, ⟨_, _, hx, rfl, rfl, rfl, rfl⟩, Nat.le_trans (Nat.le_trans (Nat.le_succ _) (Nat.le_succ _)) z, dne, hns⟩⟩
end
end TooLargeX
end PySem
namespace L2
open PySem PySem.Spec PyProof.Rows
theorem relO_TooLarge {v : V} {v' : Value} (r : RelV v v') (f : Str) : RelO (List.lookup f [(("what" : Str), v)]) (if f = "what" then some v' else none) := by
  by_cases hw : f = "what"
  · subst hw
    rw [if_pos rfl]
    have q : List.lookup ("what" : Str) [(("what" : Str), v)] = some v := by simp [List.lookup]
    rw [q]
    exact r
  · rw [if_neg hw]
    have qw : (f == ("what" : Str)) = false := by simpa using hw
    have q2 : List.lookup f [(("what" : Str), v)] = none := by simp [List.lookup, qw]
    rw [q2]
    trivial
section
variable {X : Cx} {C fI : Addr}
/-- Low(e) -/
def tMkTooLarge (C : Addr) (ta : TA) : St → Hp → XK → Prop := fun σ H Q => ta σ H fun vs H1 => ∃ v, vs = [v] ∧ ∀ d, H1 d = none → Q (.ref C) (some d) (upd H1 d (.xd [(("what" : Str), v)]))
theorem pmk_TooLarge {a : Expr} {ta : TA} {p pos : Pos} {k : Nat} (T : PySem.TooLargeX.LowTxt X.K X.mg C fI) (hr : Room k X.A) (ha : PA X [a] ta) (hg : Gl X "TooLarge" := by rfl)
    (he : starEach (a :: []) X.env = (false, eval a X.env) :: starEach [] X.env := by rfl) (hpl : (backTo pos (starEach [] X.env)).any (·.1) = false := by rfl) :
    PMk X (.Call (.Name "TooLarge" p) [a] [] pos) (tMkTooLarge C ta) := by
  intro pins s σ H Q I h
  refine wpAny_Call_Name_kw (ld_glob I hg T.gC ?_)
  refine PySem.W.callWith_K (h₀ := X.base) I.ok.mod.kin T.kC (thn (ha.run pos pins s σ H _ I h) fun us s1 hh => ?_) he hpl
  obtain ⟨vs, H1, I1, r1, v, ev, q1⟩ := hh
  subst ev
  refine ⟨I1.kIn, ?_⟩
  cases r1 with
  | cons rv rn =>
    rename_i v' us'
    cases rn
    show wpAny _ _ (call (.ref C) [v']) _ _ _
    have hlim := I1.nolimit
    obtain ⟨hp, g, dr, tk, os⟩ := s1
    refine wpAny_call (PySem.TooLargeX.low_made T I1.kIn hlim (by have := hr.dp; omega) fun h' tk' e d M => ?_)
    show MkP X pins σ Q (.ref e) ⟨h', g, dr, tk', os⟩
    obtain ⟨oe, fv, hoe, hc, hd, hdat, h1⟩ := M.obj
    have hns := M.ns
    obtain ⟨G', g1, g2⟩ := restrict h' fun b => decide (b ≠ e)
    have gk : ∀ b, b ≠ e → G'.get? b = h'.get? b := fun b hb => g1 b (decide_eq_true hb)
    have ge : G'.get? e = none := g2 e (by simp)
    have old : ∀ b o, hp.get? b = some o → G'.get? b = some o := fun b o q => (gk b (Nat.ne_of_lt (Nat.lt_of_lt_of_le (Heap.lt_size q) M.new))).trans (M.keep b o q)
    have ob : ObjOk X.prog X.w (upd H1 d (.xd [(("what" : Str), v)])) G' d (.xd [(("what" : Str), v)]) :=
      ⟨_, hns.at (fun o q => (gk d M.dne).trans q), fun f => relO_TooLarge rv f⟩
    have J : Inv X pins σ (upd H1 d (.xd [(("what" : Str), v)])) ⟨G', g, dr, tk', os⟩ := I1.laid (t' := tk') old M.dbig ob
    refine ⟨e, oe, fv, ⟨G', g, dr, tk', os⟩, _, .ref C, some d, rfl, J, fun b o q => ?_, ge, hoe, ⟨hc, hd⟩, hdat, h1, ?_, rfl, I1.bare, raises_own T.exC T.tyC, q1 d (I1.hok.fresh M.dbig)⟩
    · by_cases hb : b = e
      · have q' : G'.get? b = some o := q
        rw [hb, ge] at q'; cases q'
      · exact (gk b hb).symm.trans q
    · rw [upd_ne (Ne.symm M.dne)]
      exact I1.hok.fresh M.new
end
end L2
namespace Ev
open PySem PySem.Spec PyProof.Rows L2
theorem mkR_TooLarge {K : PySem.W.Frag} {mg : Str → Option Value} {C fI : Addr} (T : PySem.TooLargeX.LowTxt K mg C fI) : ∀ X : Cx, X.K = K → X.mg = mg → Room 1 X.A → MkR X "TooLarge" "what" C := by
  rintro X rfl rfl hr
  exact ⟨fun pn xe a ta p pos ha hg he hpl => pmk_TooLarge (X := X.tr pn xe) T hr ha hg he hpl, T.gC, ⟨T.ga, T.gg, T.exC, T.hdC⟩, T.noN⟩
end Ev
namespace PySem
namespace NotPossibleX
open PySem.W PySem.Calls PyProof.Rows PySem.HandSPX
/-! ### the text of __init__ -/
def iA (p1 p2 : Pos) : Arguments := { posonlyargs := [], args := [{ arg := "self", annotation := none, pos := p1 }, { arg := "why", annotation := none, pos := p2 }], vararg := none, kwonlyargs := [], kw_defaults := [], kwarg := none, defaults := [] }
def iB (q1 q2 q3 q4 : Pos) : List Stmt := [.Assign [.Attribute (.Name "self" q1) "why" q2] (.Name "why" q3) q4]
def iS : Scope := { kind := .function, names := [(PySem.Str.ofString "self", .local), (PySem.Str.ofString "why", .local)], isGenerator := false, isCoroutine := false, more := [] }
/-- what the written part says of Low, at C, and of its __init__, at fI -/
structure LowTxt (K : Frag) (mg : Str → Option Value) (C fI : Addr) : Prop where
  gC : mg "NotPossible" = some (.ref C)
  cls : ∃ nm q N bs bm sn sub ab col dd k0 k1 k2 k3 k5, K.lookup C = some (excClassObj nm q C N bs bm true sn sub ab col dd k0 k1 k2 k3 k5 "ValueError.__new__") ∧ refsVE bm = true
  sa : findIn K (.ref C) "__setattr__" = some (some (.builtin "object.__setattr__"))
  ga : findIn K (.ref C) "__getattribute__" = some (some (.builtin "BaseException.__getattribute__"))
  gg : findIn K (.ref C) "__getattr__" = some none
  noN : findIn K (.ref C) "why" = some none
  iC : findIn K (.ref C) "__init__" = some (some (.ref fI))
  tC : typeIn K (.ref fI) = some (.type "function")
  kC : keepIn K (.ref C) = true
  exC : subIn K (.ref C) (.type "BaseException") = some true
  tyC : typeIn K (.ref C) = some (.type "type")
  hdC : hasDictIn K C = true
  te : exmOne K (.ref C) (.ref C) = some true
  fn : ∃ (oc : Value) (od : Option Addr) (doc pm : Value) (an : Option Addr) (cdv ct : Value) (osl : Array (Option Value)) (p1 p2 q1 q2 q3 q4 : Pos),
    K.lookup fI = some ⟨oc, od, .func (fnOf "__init__" "NotPossible.__init__" (iA p1 p2) (iB q1 q2 q3 q4) iS .none .none doc pm an cdv ct), osl⟩ ∧ codeIn K cdv "NotPossible.__init__" = true
theorem one_size (v : Value) : [v].length ≤ sizeLine := by
  rw [sizeLine_eq]
  exact (by decide : 1 ≤ 16777216)
theorem kept_but {K : Frag} {h h' : Heap} {x : Addr} (X : K.In h) (hx : K.lookup x = none) (k : ∀ b o, b ≠ x → h.get? b = some o → h'.get? b = some o) : K.In h' := fun a o e =>
  k a o (fun z => by rw [z, hx] at e; cases e) (X a o e)
theorem ldC {M : Model} {s : Shared} {name : Str} {scope : Scope} {L a : Addr} {cd : Value} {m : Str → Option Value} {x : Str} {pos : Pos} {v : Value} {Q : Value → Shared → Prop} {A : Around} {E : Value → Shared → Prop} (hn : s.heap.Ns L m) (hv : m x = some v) (h : Q v s)
    (hk : scope.kind = .function := by rfl) (hl : (envOfC name scope L a cd).kindOf x = some .local := by rfl) (hd : (x == ("__debug__" : Str)) = false := by decide) :
    wpAny M A (eval (.Name x pos) (envOfC name scope L a cd)) Q E s := wpAny_Name (wpAny_loadName_local hk hl hn hv h) hd
/-- what __init__ leaves of a fresh exception at x -/
structure InitEnd (h h' : Heap) (x C dx t1 : Addr) (v : Value) : Prop where
  keep : ∀ b o, b ≠ x → h.get? b = some o → h'.get? b = some o
  obj : h'.get? x = some { cls := .ref C, dict := some dx, data := .fields #[.ref t1, .none, .none, .none, .bool false, .none] }
  dbig : h.objs.size ≤ dx
  dne : dx ≠ x
  ns : h'.Ns1 dx (fun y => if y = "why" then some v else none)
/-- a made Low -/
structure OwnMade (h h' : Heap) (e C d : Addr) (v : Value) : Prop where
  keep : ∀ b o, h.get? b = some o → h'.get? b = some o
  new : h.objs.size ≤ e
  obj : ∃ oe vs, h'.get? e = some oe ∧ oe.cls = .ref C ∧ oe.dict = some d ∧ oe.data = .fields vs ∧ vs[1]? = some .none
  dbig : h.objs.size ≤ d
  dne : d ≠ e
  ns : h'.Ns1 d (fun y => if y = "why" then some v else none)
section
variable {prog : Program} {w : World} {A : Around} {E : Value → Shared → Prop} {R : Result → Shared → Prop} {s : Shared} {K : Frag} {mg : Str → Option Value} {C fI : Addr}
theorem low_init (T : LowTxt K mg C fI) {x t0 : Addr} {v : Value} (X : K.In s.heap) (hlim : s.heap.NoLimit) (hx : s.heap.get? x = some (excO C t0)) (hnx : K.lookup x = none) (hroom : A.depth < recursionLimit)
    (hq : ∀ h' tk dx, InitEnd s.heap h' x C dx t0 v → R (.ok (.ret .none)) { s with heap := h', toks := tk }) :
    codeAny (model prog w) A (.call (.ref fI) ⟨[.ref x, v], []⟩) R s := by
  obtain ⟨oc, od, doc, pm, an, cdv, ct, osl, p1, p2, q1, q2, q3, q4, ho, hcd⟩ := T.fn
  obtain ⟨nm, q, N, bs, bm, sn, sub, ab, col, dd, k0, k1, k2, k3, k5, hC, hbm⟩ := T.cls
  have hcl : clsIn K C = some { name := nm, bases := bs, mro := .ref C :: bm, ns := N, qualname := q, hasDict := true, slotNames := sn, subclasses := sub, abstract := ab, collection := col, hasDel := false } := by unfold clsIn; rw [hC] <;> rfl
  refine Att.call_fn (binds := [("self", .ref x), ("why", v)]) X hlim ho hcd hroom (BindsTo.of_eq (by first | rfl | with_unfolding_all rfl)) (by first | rfl | decide | with_unfolding_all rfl) (fun s₁ IC => ?_) rfl rfl rfl
  obtain ⟨h₁, tk₁, rfl⟩ := IC.toInCall.same
  have k : ∀ b o, s.heap.get? b = some o → h₁.get? b = some o := IC.toInCall.keep
  have hn := IC.toInCall.ns
  have hxL : s.heap.objs.size ≠ x := Nat.ne_of_gt (Heap.lt_size hx)
  have X₁ : K.In h₁ := X.keeps k
  have hx₁ := k _ _ hx
  -- self.by = by
  show wpAny _ _ (execs _ _) _ _ _
  refine wpAny_execs_cons (plainObj_wpAny_Assign_Attribute ?_)
  refine ldC (v := v) hn (by first | rfl | with_unfolding_all rfl | kernel_rfl) (ldC (v := .ref x) hn (by first | rfl | with_unfolding_all rfl | kernel_rfl) ?_)
  refine set_plain X₁ (ox := excO C t0) (od := none) ⟨hx₁, rfl, rfl, trivial⟩ T.sa ?_
  refine exc_osa X₁ hx₁ hcl (show refsVE (.ref C :: bm) = true from hbm) rfl T.noN (fun h₃ tk₃ dx k₃ dn dne hx₃ hn₃ => ?_)
  show wpAny _ _ (execs _ _) _ _ _
  have z : s.heap.objs.size < h₁.objs.size := hn.lt
  exact wpAny_execs_nil (hq h₃ tk₃ dx ⟨fun b o hb e => k₃ b o hb (k b o e), hx₃, Nat.le_of_lt (Nat.lt_of_lt_of_le z dn), dne, hn₃⟩)
theorem low_made (T : LowTxt K mg C fI) {v : Value} (X : K.In s.heap) (hlim : s.heap.NoLimit) (hroom : A.depth + 1 < recursionLimit)
    (hq : ∀ h' tk e d, OwnMade s.heap h' e C d v → R (.ok (.ret (.ref e))) { s with heap := h', toks := tk }) :
    codeAny (model prog w) A (.call (.ref C) ⟨[v], []⟩) R s := by
  obtain ⟨nm, q, N, bs, bm, sn, sub, ab, col, dd, k0, k1, k2, k3, k5, hC, hbm⟩ := T.cls
  obtain ⟨hp, g, dr, tk, os⟩ := s
  have k : ∀ b o, hp.get? b = some o → ((hp.push (kdv_tup [v])).push (excO C hp.objs.size)).get? b = some o := fun b o e => Heap.get?_push_of_some _ (Heap.get?_push_of_some _ e)
  have hget : ((hp.push (kdv_tup [v])).push (excO C hp.objs.size)).get? (hp.objs.size + 1) = some (excO C hp.objs.size) := by heap_get
  have hnx : K.lookup (hp.objs.size + 1) = none := by
    cases e : K.lookup (hp.objs.size + 1) with
    | none => rfl
    | some o =>
      have z : hp.get? (hp.objs.size + 1) = some o := X _ _ e
      exact absurd (Nat.lt_of_succ_lt (Heap.lt_size z)) (Nat.lt_irrefl _)
  refine call_own F.excBase_ValueError (fun X => refsVE_contains X bm hbm) (X _ _ hC) (looks_findIn X T.iC) (fun self => bind_fn X self T.tC) (one_size v) ?_
  refine low_init (s := ⟨(hp.push (kdv_tup [v])).push (excO C hp.objs.size), g, dr, tk, os⟩) T (X.keeps k) (hlim.keeps k) hget hnx ?_ fun h' tk' dx ⟨k', hx, dn, dne, hns⟩ => ?_
  · show A.depth + 1 < recursionLimit
    exact hroom
  · have old : ∀ b o, hp.get? b = some o → h'.get? b = some o := fun b o e => k' b o (Nat.ne_of_lt (Nat.lt_succ_of_lt (Heap.lt_size e))) (k b o e)
    have z : hp.objs.size + 1 + 1 ≤ dx := by
      first
        | (simpa only [Heap.size_push] using dn)
        | exact dn
        | (have q := dn; rw [Heap.size_push, Heap.size_push] at q; exact q)
    exact ⟨rfl, hq h' tk' (hp.objs.size + 1) dx ⟨old, Nat.le_succ _, ⟨_, _, hx, rfl, rfl, rfl, rfl⟩, Nat.le_trans (Nat.le_trans (Nat.le_succ _) (Nat.le_succ _)) z, dne, hns⟩⟩
end
end NotPossibleX
end PySem
namespace L2
open PySem PySem.Spec PyProof.Rows
theorem relO_NotPossible {v : V} {v' : Value} (r : RelV v v') (f : Str) : RelO (List.lookup f [(("why" : Str), v)]) (if f = "why" then some v' else none) := by
  by_cases hw : f = "why"
  · subst hw
    rw [if_pos rfl]
    have q : List.lookup ("why" : Str) [(("why" : Str), v)] = some v := by simp [List.lookup]
    rw [q]
    exact r
  · rw [if_neg hw]
    have qw : (f == ("why" : Str)) = false := by simpa using hw
    have q2 : List.lookup f [(("why" : Str), v)] = none := by simp [List.lookup, qw]
    rw [q2]
    trivial
section
variable {X : Cx} {C fI : Addr}
/-- Low(e) -/
def tMkNotPossible (C : Addr) (ta : TA) : St → Hp → XK → Prop := fun σ H Q => ta σ H fun vs H1 => ∃ v, vs = [v] ∧ ∀ d, H1 d = none → Q (.ref C) (some d) (upd H1 d (.xd [(("why" : Str), v)]))
theorem pmk_NotPossible {a : Expr} {ta : TA} {p pos : Pos} {k : Nat} (T : PySem.NotPossibleX.LowTxt X.K X.mg C fI) (hr : Room k X.A) (ha : PA X [a] ta) (hg : Gl X "NotPossible" := by rfl)
    (he : starEach (a :: []) X.env = (false, eval a X.env) :: starEach [] X.env := by rfl) (hpl : (backTo pos (starEach [] X.env)).any (·.1) = false := by rfl) :
    PMk X (.Call (.Name "NotPossible" p) [a] [] pos) (tMkNotPossible C ta) := by
  intro pins s σ H Q I h
  refine wpAny_Call_Name_kw (ld_glob I hg T.gC ?_)
  refine PySem.W.callWith_K (h₀ := X.base) I.ok.mod.kin T.kC (thn (ha.run pos pins s σ H _ I h) fun us s1 hh => ?_) he hpl
  obtain ⟨vs, H1, I1, r1, v, ev, q1⟩ := hh
  subst ev
  refine ⟨I1.kIn, ?_⟩
  cases r1 with
  | cons rv rn =>
    rename_i v' us'
    cases rn
    show wpAny _ _ (call (.ref C) [v']) _ _ _
    have hlim := I1.nolimit
    obtain ⟨hp, g, dr, tk, os⟩ := s1
    refine wpAny_call (PySem.NotPossibleX.low_made T I1.kIn hlim (by have := hr.dp; omega) fun h' tk' e d M => ?_)
    show MkP X pins σ Q (.ref e) ⟨h', g, dr, tk', os⟩
    obtain ⟨oe, fv, hoe, hc, hd, hdat, h1⟩ := M.obj
    have hns := M.ns
    obtain ⟨G', g1, g2⟩ := restrict h' fun b => decide (b ≠ e)
    have gk : ∀ b, b ≠ e → G'.get? b = h'.get? b := fun b hb => g1 b (decide_eq_true hb)
    have ge : G'.get? e = none := g2 e (by simp)
    have old : ∀ b o, hp.get? b = some o → G'.get? b = some o := fun b o q => (gk b (Nat.ne_of_lt (Nat.lt_of_lt_of_le (Heap.lt_size q) M.new))).trans (M.keep b o q)
    have ob : ObjOk X.prog X.w (upd H1 d (.xd [(("why" : Str), v)])) G' d (.xd [(("why" : Str), v)]) :=
      ⟨_, hns.at (fun o q => (gk d M.dne).trans q), fun f => relO_NotPossible rv f⟩
    have J : Inv X pins σ (upd H1 d (.xd [(("why" : Str), v)])) ⟨G', g, dr, tk', os⟩ := I1.laid (t' := tk') old M.dbig ob
    refine ⟨e, oe, fv, ⟨G', g, dr, tk', os⟩, _, .ref C, some d, rfl, J, fun b o q => ?_, ge, hoe, ⟨hc, hd⟩, hdat, h1, ?_, rfl, I1.bare, raises_own T.exC T.tyC, q1 d (I1.hok.fresh M.dbig)⟩
    · by_cases hb : b = e
      · have q' : G'.get? b = some o := q
        rw [hb, ge] at q'; cases q'
      · exact (gk b hb).symm.trans q
    · rw [upd_ne (Ne.symm M.dne)]
      exact I1.hok.fresh M.new
end
end L2
namespace Ev
open PySem PySem.Spec PyProof.Rows L2
theorem mkR_NotPossible {K : PySem.W.Frag} {mg : Str → Option Value} {C fI : Addr} (T : PySem.NotPossibleX.LowTxt K mg C fI) : ∀ X : Cx, X.K = K → X.mg = mg → Room 1 X.A → MkR X "NotPossible" "why" C := by
  rintro X rfl rfl hr
  exact ⟨fun pn xe a ta p pos ha hg he hpl => pmk_NotPossible (X := X.tr pn xe) T hr ha hg he hpl, T.gC, ⟨T.ga, T.gg, T.exC, T.hdC⟩, T.noN⟩
end Ev
namespace Ev
open PySem PySem.Spec PyProof.Rows L2
theorem exm_is {K : PySem.W.Frag} {S S' : Addr} {b : Bool} (h1 : PySem.W.subIn K (.ref S') (.type "BaseException") = some true) (h2 : PySem.W.isClsIn K S' = true) (h3 : PySem.W.typeIn K (.ref S') = some (.type "type")) (h4 : PySem.W.subIn K (.ref S) (.ref S') = some b) :
    PySem.W.exmOne K (.ref S) (.ref S') = some b := by
  have e1 : (PySem.W.subIn K (.ref S') (.type "BaseException") == some true) = true := by rw [h1] <;> rfl
  have e2 : ((PySem.W.clsIn K S').isSome && PySem.W.typeIn K (.ref S') == some (.type "type")) = true := by
    have h2' : (PySem.W.clsIn K S').isSome = true := h2
    rw [h2', h3] <;> rfl
  unfold PySem.W.exmOne PySem.W.kitCls
  rw [if_pos e1]
  dsimp only
  rw [if_pos e2]
  exact h4
theorem kit_is3 {K : PySem.W.Frag} {S S' : Addr} {b : Bool} (h2 : PySem.W.isClsIn K S' = true) (h3 : PySem.W.typeIn K (.ref S') = some (.type "type")) (h1 : PySem.W.subIn K (.ref S) (.ref S) = some true) (h4 : PySem.W.subIn K (.ref S) (.ref S') = some b) :
    PySem.W.kitOne K (.ref S) (.ref S') = some b := by
  have e2 : ((PySem.W.clsIn K S').isSome && PySem.W.typeIn K (.ref S') == some (.type "type")) = true := by
    have h2' : (PySem.W.clsIn K S').isSome = true := h2
    rw [h2', h3] <;> rfl
  unfold PySem.W.kitOne PySem.W.kitCls
  by_cases q : ((Value.ref S : Value) == .ref S') = true
  · rw [if_pos q]
    cases Value.ref.inj (beq_iff_eq.mp q)
    exact h1.symm.trans h4
  · rw [if_neg q]
    dsimp only
    rw [if_pos e2]
    exact h4
theorem kit_bt {K : PySem.W.Frag} {S : Addr} {T : String} {b : Bool} (h1 : PySem.W.kitMeta T = true) (h4 : PySem.W.subIn K (.ref S) (.type T) = some b) : PySem.W.kitOne K (.ref S) (.type T) = some b := by
  unfold PySem.W.kitOne PySem.W.kitCls
  rw [if_neg (by simp)]
  dsimp only
  rw [if_pos h1]
  exact h4
/-- the promise for values alone -/
def spC0 (K : PySem.W.Frag) (g : List D → List D → Rc) : Sp := fun vs H Q E => ∃ F μ S ds, Lk K ⟨F, μ, ⟨[], S⟩, [], H⟩ ∧ Reps K F μ ds vs ∧ ∃ d S', g ds S = .ok d S' ∧ ∀ (v : V) (F' : Hp) (μ' : List Addr) (H' : Hp), Lk K ⟨F', μ', ⟨[], S'⟩, [], H'⟩ → Stp ⟨F, μ, ⟨[], S⟩, [], H⟩ ⟨F', μ', ⟨[], S'⟩, [], H'⟩ → Rep K F' μ' d v → Q v H'
theorem spC0_sp {K : PySem.W.Frag} {ca : Nat → Addr} {fld : Nat → List Str} {g : List D → List D → Rc} (vs : List V) (H : Hp) (Q : VK) (E : XK) (h : spC0 K g vs H Q E) : spC ⟨K, ca, fld⟩ g vs H Q E := by
  obtain ⟨F, μ, S, ds, L, r, d, S', e, h⟩ := h
  refine ⟨F, μ, S, ds, L, r, ?_⟩
  rw [e]
  exact h
theorem law_sp0 {n f : Nat} {tb : Tb} {K : PySem.W.Frag} {H : Hp} {a : Addr} {ns : List Int} (hO : Only H) (hS : SqL K H a (ns.map V.int)) (h : ∃ S', runF tb n f [.lst (ns.map D.int)] [] = .ok (.bl true) S') :
    spC0 K (runF tb n f) [.ref a] H (fun v _ => v = .bl true) fun _ _ _ => False := by
  obtain ⟨S', e⟩ := h
  refine ⟨H, [], [], [.lst (ns.map D.int)], ⟨fun _ _ e => e, rfl, rfl, fun i d e => by simp at e, fun i c e => by simp at e, fun n c e => by simp at e, fun x y p hx hy => ?_⟩, .cons (.lst hS ?_) .nil, _, S', e, ?_⟩
  · cases x with
    | inl i => obtain ⟨⟨c, hc⟩, _⟩ := hx; simp at hc
    | inr n => have hx : ([] : List Addr)[n]? = some p := hx; simp at hx
  · clear hS e
    induction ns with
    | nil => exact .nil
    | cons i r ih => exact .cons (.int i) ih
  · intro v F' μ' H' L' s' rv
    exact rep_bl rv
end Ev

set_option Elab.async false
set_option linter.all false
set_option maxRecDepth 100000
set_option autoImplicit false
set_option maxHeartbeats 4000000
/-! Ev16: global constants. -/
namespace Ev
open PySem PySem.Spec PyProof.Rows L2
def glOf (l : List (Str × D)) (x : Str) (d : D) : Bool := l.any fun p => decide (p.1 = x) && decide (p.2 = d)
structure GlF (K : PySem.W.Frag) (mg : Str → Option Value) (x : Str) (d : D) : Prop where
  ex : ∃ u v, mg x = some u ∧ RelV v u ∧ ∀ F μ, Rep K F μ d v
inductive GlL (K : PySem.W.Frag) (mg : Str → Option Value) : List (Str × D) → Prop
  | nil : GlL K mg []
  | cons {x : Str} {d : D} {l : List (Str × D)} : GlF K mg x d → GlL K mg l → GlL K mg ((x, d) :: l)
section
variable {K : PySem.W.Frag} {mg : Str → Option Value}
theorem glOf_mk : ∀ {l : List (Str × D)}, GlL K mg l → ∀ x d, glOf l x d = true → ∃ u v, mg x = some u ∧ RelV v u ∧ ∀ F μ, Rep K F μ d v
  | _, .nil, x, d, h => by simp [glOf] at h
  | _, .cons (x := y) (d := e) (l := l) f r, x, d, h => by
    have h : ((decide (y = x) && decide (e = d)) || glOf l x d) = true := h
    rw [Bool.or_eq_true, Bool.and_eq_true] at h
    rcases h with ⟨h1, h2⟩ | h
    · obtain rfl := of_decide_eq_true h1
      obtain rfl := of_decide_eq_true h2
      exact f.ex
    · exact glOf_mk r x d h
theorem glF_int {X : Heap} (hK : K.In X) (G : X.Ns mainGlobals mg) {x : Str} {u : Value} {i : Int} (h : PySem.W.nsIn K mainGlobals x = some (some u)) (r : RelV (.int i) u) : GlF K mg x (.int i) := ⟨⟨u, .int i, PySem.W.mg_of hK G h, r, fun _ _ => .int i⟩⟩
theorem glF_str {X : Heap} (hK : K.In X) (G : X.Ns mainGlobals mg) {x : Str} {u : Value} {i : Str} (h : PySem.W.nsIn K mainGlobals x = some (some u)) (r : RelV (.str i) u) : GlF K mg x (.str i) := ⟨⟨u, .str i, PySem.W.mg_of hK G h, r, fun _ _ => .str i⟩⟩
inductive BlL (K : PySem.W.Frag) : List Str → Prop
  | nil : BlL K []
  | cons {x : Str} {l : List Str} : PySem.W.nsIn K mainGlobals x = some none → BlL K l → BlL K (x :: l)
theorem blL_mk {X : Heap} (hK : K.In X) (G : X.Ns mainGlobals mg) : ∀ {l : List Str}, BlL K l → ∀ x ∈ l, mg x = none
  | _, .nil, x, hx => by cases hx
  | _, .cons h r, x, hx => by
    rcases List.mem_cons.mp hx with q | q
    · rw [q]; exact PySem.W.mg_none_of hK G h
    · exact blL_mk hK G r x q
end
end Ev

set_option Elab.async false
set_option linter.all false
set_option maxRecDepth 100000
set_option autoImplicit false
set_option maxHeartbeats 1000000
/-! Lw1: how runs of the core are followed. -/
namespace Ev
open PySem L2

/-- what hangs on P and E (so that simp leaves them) -/
structure Tg2 {α β : Type} (P : α → β → Prop) (E : Ex → β → Prop) : Type where
  u : Unit
@[irreducible] def Wp {α : Type} (r : R α) (P : α → Ms → Prop) (E : Ex → Ms → Prop) (_ : Tg2 P E) : Prop := match r with
  | .ok a m => P a m
  | .exc e m => E e m
  | .bad => False
@[irreducible] def WpC (r : Rc) (P : D → List D → Prop) (E : Ex → List D → Prop) (_ : Tg2 P E) : Prop := match r with
  | .ok d S => P d S
  | .own _ _ => False
  | .exc e S => E e S
  | .bad => False
section
variable {α β : Type} {P : α → Ms → Prop} {E : Ex → Ms → Prop} {t : Tg2 P E}
@[simp ↓] theorem Wp_ok (a : α) (m : Ms) : Wp (.ok a m) P E t = P a m := by unfold Wp; rfl
@[simp ↓] theorem Wp_bad : Wp (.bad : R α) P E t = False := by unfold Wp; rfl
@[simp ↓] theorem Wp_exc (e : Ex) (m : Ms) : Wp (.exc e m : R α) P E t = E e m := by unfold Wp; rfl
theorem WpC_ok {P : D → List D → Prop} {E : Ex → List D → Prop} {t : Tg2 P E} (a : D) (m : List D) : WpC (.ok a m) P E t = P a m := by unfold WpC; rfl
theorem WpC_own {P : D → List D → Prop} {E : Ex → List D → Prop} {t : Tg2 P E} (a : D) (m : List D) : WpC (.own a m) P E t = False := by unfold WpC; rfl
theorem WpC_bad {P : D → List D → Prop} {E : Ex → List D → Prop} {t : Tg2 P E} : WpC .bad P E t = False := by unfold WpC; rfl
theorem WpC_exc {P : D → List D → Prop} {E : Ex → List D → Prop} {t : Tg2 P E} (e : Ex) (m : List D) : WpC (.exc e m) P E t = E e m := by unfold WpC; rfl
@[simp ↓] theorem Wp_bind (r : R β) (f : β → Ms → R α) : Wp (r.bind f) P E t = Wp r (fun b m => Wp (f b m) P E t) E ⟨()⟩ := by
  cases r with
  | ok a m => rw [Wp_ok]; rfl
  | exc e m => rw [Wp_exc, R.bind_exc, Wp_exc]
  | bad => rw [Wp_bad, R.bind_bad, Wp_bad]
@[simp ↓] theorem Wp_ofRc (r : Rc) (m : Ms) {P : D → Ms → Prop} {t : Tg2 P E} : Wp (ofRc r m) P E t = WpC r (fun d S => P d { m with S := S }) (fun e S => E e { m with S := S }) ⟨()⟩ := by
  cases r with
  | ok a S => rw [WpC_ok]; show Wp (.ok a { m with S := S }) P E t = _; rw [Wp_ok]
  | own a S => rw [WpC_own]; show Wp .bad P E t = _; rw [Wp_bad]
  | exc e S => rw [WpC_exc]; show Wp (.exc e { m with S := S }) P E t = _; rw [Wp_exc]
  | bad => rw [WpC_bad]; show Wp .bad P E t = _; rw [Wp_bad]
/-- a result given away, as a result -/
def givC : Rc → Rc
  | .own c S => .ok c S
  | .exc e S => .exc e S
  | _ => .bad
@[simp ↓] theorem Wp_ofRcO (r : Rc) (m : Ms) {P : D → Ms → Prop} {t : Tg2 P E} : Wp (ofRcO r m) P E t = WpC (givC r) (fun d S => P d { m with S := S }) (fun e S => E e { m with S := S }) ⟨()⟩ := by
  cases r with
  | ok a S => show Wp .bad P E t = WpC .bad _ _ _; rw [WpC_bad, Wp_bad]
  | own a S => show Wp (.ok a { m with S := S }) P E t = WpC (.ok a S) _ _ _; rw [WpC_ok, Wp_ok]
  | exc e S => show Wp (.exc e { m with S := S }) P E t = WpC (.exc e S) _ _ _; rw [WpC_exc, Wp_exc]
  | bad => show Wp .bad P E t = WpC .bad _ _ _; rw [WpC_bad, Wp_bad]
@[simp] theorem Wp_opt_some (a : α) (m : Ms) : Wp (opt (some a) m) P E t = P a m := by rw [opt_some, Wp_ok]
theorem Wp_ite {c : Prop} [Decidable c] {a b : R α} : Wp (if c then a else b) P E t = if c then Wp a P E t else Wp b P E t := by split <;> rfl
theorem Wp.mono {P' : α → Ms → Prop} {t' : Tg2 P' E} {r : R α} (h : Wp r P E t) (q : ∀ a m, P a m → P' a m) : Wp r P' E t' := by
  cases r with
  | ok a m => rw [Wp_ok] at h ⊢; exact q _ _ h
  | exc e m => rw [Wp_exc] at h ⊢; exact h
  | bad => rw [Wp_bad] at h; exact h.elim
theorem WpC.mono {P P' : D → List D → Prop} {E : Ex → List D → Prop} {t : Tg2 P E} {t' : Tg2 P' E} {r : Rc} (h : WpC r P E t) (q : ∀ a m, P a m → P' a m) : WpC r P' E t' := by
  cases r with
  | ok a m => rw [WpC_ok] at h ⊢; exact q _ _ h
  | own a m => rw [WpC_own] at h; exact h.elim
  | exc e m => rw [WpC_exc] at h ⊢; exact h
  | bad => rw [WpC_bad] at h; exact h.elim
theorem of_WpC {r : Rc} {P : D → List D → Prop} {t : Tg2 P fun _ _ => False} (h : WpC r P (fun _ _ => False) t) : ∃ d S, r = .ok d S ∧ P d S := by
  cases r with
  | ok d S => rw [WpC_ok] at h; exact ⟨d, S, rfl, h⟩
  | own d S => rw [WpC_own] at h; exact h.elim
  | exc e S => rw [WpC_exc] at h; exact h.elim
  | bad => rw [WpC_bad] at h; exact h.elim
/-- by a truth value -/
def ifD (x : D) (a b : R α) : R α := match x with
  | .bl true => a
  | .bl false => b
  | _ => .bad
@[simp ↓] theorem Wp_ifD {k : Bool} {a b : R α} : Wp (ifD (.bl k) a b) P E t = if k = true then Wp a P E t else Wp b P E t := by cases k <;> rfl
def ifB (k : Bool) (a b : R α) : R α := if k then a else b
@[simp ↓] theorem Wp_ifB {k : Bool} {a b : R α} : Wp (ifB k a b) P E t = if k = true then Wp a P E t else Wp b P E t := by cases k <;> rfl
def ifP (c : Prop) [Decidable c] (a : R α) : R α := if c then a else .bad
@[simp ↓] theorem Wp_ifP {c : Prop} [Decidable c] {a : R α} : Wp (ifP c a) P E t = (c ∧ Wp a P E t) := by
  unfold ifP
  by_cases h : c
  · rw [if_pos h]; exact propext ⟨fun k => ⟨h, k⟩, fun k => k.2⟩
  · rw [if_neg h, Wp_bad]; exact propext ⟨fun k => k.elim, fun k => absurd k.1 h⟩
def goS (f : Fl) (a : Ms → R Fl) (m : Ms) : R Fl := match f with
  | .nx => a m
  | f => .ok f m
end
/-- a def's end -/
def PF (P : D → List D → Prop) : Fl → Ms → Prop := fun fl m => match fl with
  | .rt d => P d m.S
  | .nx => P .non m.S
  | _ => False
@[simp] theorem PF_rt {P : D → List D → Prop} {d : D} {m : Ms} : PF P (.rt d) m = P d m.S := (rfl)
@[simp] theorem PF_nx {P : D → List D → Prop} {m : Ms} : PF P .nx m = P .non m.S := (rfl)
/-- a def is entered -/
theorem wp_run {tb : Tb} {n f : Nat} {df : Df} {ds S : List D} {P : D → List D → Prop} {E : Ex → List D → Prop} {t : Tg2 P E} (hf : tb f = some df) (hl : ds.length = df.ps.length)
    (h : Wp (evSs (runF tb n) df.body ⟨ds.map .val ++ List.replicate (df.ns.length - ds.length) .un, S⟩) (PF P) (fun e m => E e m.S) ⟨()⟩) : WpC (runF tb (n + 1) f ds S) P E t := by
  rw [runF, hf]
  show WpC (if ds.length = df.ps.length then _ else _) P E t
  rw [if_pos hl]
  cases q : evSs (runF tb n) df.body ⟨ds.map .val ++ List.replicate (df.ns.length - ds.length) .un, S⟩ with
  | ok fl m =>
    rw [q, Wp_ok] at h
    cases fl with
    | rt d => show WpC (.ok d m.S) P E t; rw [WpC_ok]; exact h
    | nx => show WpC (.ok .non m.S) P E t; rw [WpC_ok]; exact h
    | br => exact h.elim
    | ct => exact h.elim
    | ro c => exact h.elim
  | exc e m => rw [q, Wp_exc] at h; show WpC (.exc e m.S) P E t; rw [WpC_exc]; exact h
  | bad => rw [q, Wp_bad] at h; exact h.elim

/-- the end of a def that gives its result away -/
def PFo (P : D → List D → Prop) : Fl → Ms → Prop := fun fl m => match fl with
  | .ro c => P c m.S
  | _ => False
@[simp] theorem PFo_ro {P : D → List D → Prop} {d : D} {m : Ms} : PFo P (.ro d) m = P d m.S := (rfl)
/-- a def that gives its result away is entered -/
theorem wp_runO {tb : Tb} {n f : Nat} {df : Df} {ds S : List D} {P : D → List D → Prop} {E : Ex → List D → Prop} {t : Tg2 P E} (hf : tb f = some df) (hl : ds.length = df.ps.length)
    (h : Wp (evSs (runF tb n) df.body ⟨ds.map .val ++ List.replicate (df.ns.length - ds.length) .un, S⟩) (PFo P) (fun e m => E e m.S) ⟨()⟩) : WpC (givC (runF tb (n + 1) f ds S)) P E t := by
  rw [runF, hf]
  show WpC (givC (if ds.length = df.ps.length then _ else _)) P E t
  rw [if_pos hl]
  cases q : evSs (runF tb n) df.body ⟨ds.map .val ++ List.replicate (df.ns.length - ds.length) .un, S⟩ with
  | ok fl m =>
    rw [q, Wp_ok] at h
    cases fl with
    | ro c => show WpC (.ok c m.S) P E t; rw [WpC_ok]; exact h
    | rt d => exact h.elim
    | nx => exact h.elim
    | br => exact h.elim
    | ct => exact h.elim
  | exc e m => rw [q, Wp_exc] at h; show WpC (.exc e m.S) P E t; rw [WpC_exc]; exact h
  | bad => rw [q, Wp_bad] at h; exact h.elim

/-! ### constructs -/
section
variable {cl : Nat → List D → List D → Rc}
@[simp ↓] theorem w_evX_v {i} {m : Ms} {P : D → Ms → Prop} {E : Ex → Ms → Prop} {t : Tg2 P E} : Wp (evX cl (.v i) m) P E t = Wp (match m.ρ[i]? with
    | some (.val d) => .ok d m
    | _ => .bad) P E t := by rw [evX] <;> exact (rfl)
@[simp ↓] theorem w_evX_mv {i} {m : Ms} {P : D → Ms → Prop} {E : Ex → Ms → Prop} {t : Tg2 P E} : Wp (evX cl (.mv i) m) P E t = Wp (match m.ρ[i]? with
    | some (.ow (.lst xs)) => .ok (.lst xs) { m with ρ := m.ρ.set i (.val (.lst xs)) }
    | some (.ow (.dic ((.non, .bl true) :: kvs))) => .ok (uD kvs) { m with ρ := m.ρ.set i (.val (uD kvs)) }
    | some (.val d) => .ok d m
    | _ => .bad) P E t := by rw [evX] <;> exact (rfl)
@[simp ↓] theorem w_evX_kn  {m : Ms} {P : D → Ms → Prop} {E : Ex → Ms → Prop} {t : Tg2 P E} : Wp (evX cl (.kn) m) P E t = Wp (.ok .non m) P E t := by rw [evX] <;> exact (rfl)
@[simp ↓] theorem w_evX_kb {b} {m : Ms} {P : D → Ms → Prop} {E : Ex → Ms → Prop} {t : Tg2 P E} : Wp (evX cl (.kb b) m) P E t = Wp (.ok (.bl b) m) P E t := by rw [evX] <;> exact (rfl)
@[simp ↓] theorem w_evX_ki {i} {m : Ms} {P : D → Ms → Prop} {E : Ex → Ms → Prop} {t : Tg2 P E} : Wp (evX cl (.ki i) m) P E t = Wp (.ok (.int i) m) P E t := by rw [evX] <;> exact (rfl)
@[simp ↓] theorem w_evX_ks {s} {m : Ms} {P : D → Ms → Prop} {E : Ex → Ms → Prop} {t : Tg2 P E} : Wp (evX cl (.ks s) m) P E t = Wp (.ok (.str s) m) P E t := by rw [evX] <;> exact (rfl)
@[simp ↓] theorem w_evX_gl {u_} {d} {m : Ms} {P : D → Ms → Prop} {E : Ex → Ms → Prop} {t : Tg2 P E} : Wp (evX cl (.gl u_ d) m) P E t = Wp (.ok d m) P E t := by rw [evX] <;> exact (rfl)
@[simp ↓] theorem w_evX_bin {o} {a} {b} {m : Ms} {P : D → Ms → Prop} {E : Ex → Ms → Prop} {t : Tg2 P E} : Wp (evX cl (.bin o a b) m) P E t = Wp ((evX cl a m).bind fun x m => (evX cl b m).bind fun y m => opt (binD o x y) m) P E t := by rw [evX] <;> exact (rfl)
@[simp ↓] theorem w_evX_neg {a} {m : Ms} {P : D → Ms → Prop} {E : Ex → Ms → Prop} {t : Tg2 P E} : Wp (evX cl (.neg a) m) P E t = Wp ((evX cl a m).bind fun x m => match x with
    | .int i => .ok (.int (-i)) m
    | _ => .bad) P E t := by rw [evX] <;> exact (rfl)
@[simp ↓] theorem w_evX_cmp {o} {a} {b} {m : Ms} {P : D → Ms → Prop} {E : Ex → Ms → Prop} {t : Tg2 P E} : Wp (evX cl (.cmp o a b) m) P E t = Wp ((evX cl a m).bind fun x m => (evX cl b m).bind fun y m => opt (cmpD o x y) m) P E t := by rw [evX] <;> exact (rfl)
@[simp ↓] theorem w_evX_cm2 {o} {o'} {a} {b} {c} {m : Ms} {P : D → Ms → Prop} {E : Ex → Ms → Prop} {t : Tg2 P E} : Wp (evX cl (.cm2 o o' a b c) m) P E t = Wp ((evX cl a m).bind fun x m => (evX cl b m).bind fun y m => (opt (cmpD o x y) m).bind fun z m => ifD z ((evX cl c m).bind fun w m => opt (cmpD o' y w) m) (.ok (.bl false) m)) P E t := by rw [evX] <;> exact (rfl)
@[simp ↓] theorem w_evX_inn {n} {a} {c} {m : Ms} {P : D → Ms → Prop} {E : Ex → Ms → Prop} {t : Tg2 P E} : Wp (evX cl (.inn n a c) m) P E t = Wp ((evX cl a m).bind fun x m => (evH cl c m).bind fun h m => (inM n x h m).bind blM) P E t := by rw [evX] <;> exact (rfl)
@[simp ↓] theorem w_evX_and {a} {b} {m : Ms} {P : D → Ms → Prop} {E : Ex → Ms → Prop} {t : Tg2 P E} : Wp (evX cl (.and a b) m) P E t = Wp ((evX cl a m).bind fun x m => ifD x (evX cl b m) (.ok (.bl false) m)) P E t := by rw [evX] <;> exact (rfl)
@[simp ↓] theorem w_evX_or {a} {b} {m : Ms} {P : D → Ms → Prop} {E : Ex → Ms → Prop} {t : Tg2 P E} : Wp (evX cl (.or a b) m) P E t = Wp ((evX cl a m).bind fun x m => ifD x (.ok (.bl true) m) (evX cl b m)) P E t := by rw [evX] <;> exact (rfl)
@[simp ↓] theorem w_evX_one {a} {m : Ms} {P : D → Ms → Prop} {E : Ex → Ms → Prop} {t : Tg2 P E} : Wp (evX cl (.one a) m) P E t = Wp (evX cl a m) P E t := by rw [evX] <;> exact (rfl)
@[simp ↓] theorem w_evX_not {c} {m : Ms} {P : D → Ms → Prop} {E : Ex → Ms → Prop} {t : Tg2 P E} : Wp (evX cl (.not c) m) P E t = Wp ((evH cl c m).bind fun h m => (truM h m).bind fun b m => .ok (.bl (!b)) m) P E t := by rw [evX] <;> exact (rfl)
@[simp ↓] theorem w_evX_ife {t_} {a} {b} {m : Ms} {P : D → Ms → Prop} {E : Ex → Ms → Prop} {t : Tg2 P E} : Wp (evX cl (.ife t_ a b) m) P E t = Wp ((evT cl t_ m).bind fun k m => ifB k (evX cl a m) (evX cl b m)) P E t := by rw [evX] <;> exact (rfl)
@[simp ↓] theorem w_evX_tup {es} {m : Ms} {P : D → Ms → Prop} {E : Ex → Ms → Prop} {t : Tg2 P E} : Wp (evX cl (.tup es) m) P E t = Wp ((evXs cl es m).bind fun ds m => ifP (ds.length ≤ sizeLine) (.ok (.tup ds) m)) P E t := by rw [evX] <;> exact (rfl)
@[simp ↓] theorem w_evX_call {f} {es} {m : Ms} {P : D → Ms → Prop} {E : Ex → Ms → Prop} {t : Tg2 P E} : Wp (evX cl (.call f es) m) P E t = Wp ((evXs cl es m).bind fun ds m => ofRc (cl f ds m.S) m) P E t := by rw [evX] <;> exact (rfl)
@[simp ↓] theorem w_evX_len {c} {m : Ms} {P : D → Ms → Prop} {E : Ex → Ms → Prop} {t : Tg2 P E} : Wp (evX cl (.len c) m) P E t = Wp ((evH cl c m).bind lenM) P E t := by rw [evX] <;> exact (rfl)
@[simp ↓] theorem w_evX_idx {c} {i} {m : Ms} {P : D → Ms → Prop} {E : Ex → Ms → Prop} {t : Tg2 P E} : Wp (evX cl (.idx c i) m) P E t = Wp ((evH cl c m).bind fun h m => (evX cl i m).bind fun x m => idxM h x m) P E t := by rw [evX] <;> exact (rfl)
@[simp ↓] theorem w_evX_slc {c} {lo} {hi} {m : Ms} {P : D → Ms → Prop} {E : Ex → Ms → Prop} {t : Tg2 P E} : Wp (evX cl (.slc c lo hi) m) P E t = Wp ((evH cl c m).bind fun h m => (evXo cl lo m).bind fun l m => (evXo cl hi m).bind fun k m => slcM h l k m) P E t := by rw [evX] <;> exact (rfl)
@[simp ↓] theorem w_evX_rev {c} {m : Ms} {P : D → Ms → Prop} {E : Ex → Ms → Prop} {t : Tg2 P E} : Wp (evX cl (.rev c) m) P E t = Wp ((evH cl c m).bind revM) P E t := by rw [evX] <;> exact (rfl)
@[simp ↓] theorem w_evX_lend {j} {m : Ms} {P : D → Ms → Prop} {E : Ex → Ms → Prop} {t : Tg2 P E} : Wp (evX cl (.lend j) m) P E t = Wp ((evH cl (.o j) m).bind lendM) P E t := by rw [evX] <;> exact (rfl)
@[simp ↓] theorem w_evX_isi {a} {t_} {m : Ms} {P : D → Ms → Prop} {E : Ex → Ms → Prop} {t : Tg2 P E} : Wp (evX cl (.isi a t_) m) P E t = Wp ((evX cl a m).bind fun x m => isiM x t_ m) P E t := by rw [evX] <;> exact (rfl)
@[simp ↓] theorem w_evX_isl {a} {t_} {m : Ms} {P : D → Ms → Prop} {E : Ex → Ms → Prop} {t : Tg2 P E} : Wp (evX cl (.isl a t_) m) P E t = Wp ((evX cl a m).bind fun x m => islM x t_ m) P E t := by rw [evX] <;> exact (rfl)
@[simp ↓] theorem w_evX_b1 {f} {a} {m : Ms} {P : D → Ms → Prop} {E : Ex → Ms → Prop} {t : Tg2 P E} : Wp (evX cl (.b1 f a) m) P E t = Wp ((evX cl a m).bind fun x m => opt (b1D f x) m) P E t := by rw [evX] <;> exact (rfl)
@[simp ↓] theorem w_evX_b2 {mx} {a} {b} {m : Ms} {P : D → Ms → Prop} {E : Ex → Ms → Prop} {t : Tg2 P E} : Wp (evX cl (.b2 mx a b) m) P E t = Wp ((evX cl a m).bind fun x m => (evX cl b m).bind fun y m => opt (b2D mx x y) m) P E t := by rw [evX] <;> exact (rfl)
@[simp ↓] theorem w_evX_ag {f} {c} {m : Ms} {P : D → Ms → Prop} {E : Ex → Ms → Prop} {t : Tg2 P E} : Wp (evX cl (.ag f c) m) P E t = Wp ((evH cl c m).bind fun h m => agM f h m) P E t := by rw [evX] <;> exact (rfl)
@[simp ↓] theorem w_evX_tupOf {c} {m : Ms} {P : D → Ms → Prop} {E : Ex → Ms → Prop} {t : Tg2 P E} : Wp (evX cl (.tupOf c) m) P E t = Wp ((evH cl c m).bind tupM) P E t := by rw [evX] <;> exact (rfl)
@[simp ↓] theorem w_evX_fr {f} {m : Ms} {P : D → Ms → Prop} {E : Ex → Ms → Prop} {t : Tg2 P E} : Wp (evX cl (.fr f) m) P E t = Wp (evF cl f m) P E t := by rw [evX] <;> exact (rfl)
@[simp ↓] theorem w_evX_mk {f} {m : Ms} {P : D → Ms → Prop} {E : Ex → Ms → Prop} {t : Tg2 P E} : Wp (evX cl (.mk f) m) P E t = Wp ((evF cl f m).bind fun c m => .ok (.loc m.S.length) { m with S := m.S ++ [c] }) P E t := by rw [evX] <;> exact (rfl)
@[simp ↓] theorem w_evX_pop {c} {m : Ms} {P : D → Ms → Prop} {E : Ex → Ms → Prop} {t : Tg2 P E} : Wp (evX cl (.pop c) m) P E t = Wp ((evH cl c m).bind popM) P E t := by rw [evX] <;> exact (rfl)
@[simp ↓] theorem w_evX_popi {c} {e} {m : Ms} {P : D → Ms → Prop} {E : Ex → Ms → Prop} {t : Tg2 P E} : Wp (evX cl (.popi c e) m) P E t = Wp ((evH cl c m).bind fun h m => ifB (kL h m) ((evX cl e m).bind fun d m => popiM h d m) .bad) P E t := by rw [evX] <;> exact (rfl)
@[simp ↓] theorem w_evX_ix {c} {e} {m : Ms} {P : D → Ms → Prop} {E : Ex → Ms → Prop} {t : Tg2 P E} : Wp (evX cl (.ix c e) m) P E t = Wp ((evH cl c m).bind fun h m => ifB (kL h m) ((evX cl e m).bind fun d m => ixM h d m) .bad) P E t := by rw [evX] <;> exact (rfl)
@[simp ↓] theorem w_evX_ixd {c} {e} {m : Ms} {P : D → Ms → Prop} {E : Ex → Ms → Prop} {t : Tg2 P E} : Wp (evX cl (.ixd c e) m) P E t = Wp ((evH cl c m).bind fun h m => ifB (kL h m) ((evX cl e m).bind fun d m => ixdM h d m) .bad) P E t := by rw [evX] <;> exact (rfl)
@[simp ↓] theorem w_evX_app {c} {e} {m : Ms} {P : D → Ms → Prop} {E : Ex → Ms → Prop} {t : Tg2 P E} : Wp (evX cl (.app c e) m) P E t = Wp ((evH cl c m).bind fun h m => ifB (kL h m) ((evX cl e m).bind fun d m => appM h d m) .bad) P E t := by rw [evX] <;> exact (rfl)
@[simp ↓] theorem w_evX_ext {c} {e} {m : Ms} {P : D → Ms → Prop} {E : Ex → Ms → Prop} {t : Tg2 P E} : Wp (evX cl (.ext c e) m) P E t = Wp ((evH cl c m).bind fun h m => ifB (kL h m) ((evH cl e m).bind fun g m => extM h g m) .bad) P E t := by rw [evX] <;> exact (rfl)
@[simp ↓] theorem w_evH_x {e} {m : Ms} {P : HV → Ms → Prop} {E : Ex → Ms → Prop} {t : Tg2 P E} : Wp (evH cl (.x e) m) P E t = Wp ((evX cl e m).bind fun d m => .ok (.val d) m) P E t := by rw [evH] <;> exact (rfl)
@[simp ↓] theorem w_evH_o {i} {m : Ms} {P : HV → Ms → Prop} {E : Ex → Ms → Prop} {t : Tg2 P E} : Wp (evH cl (.o i) m) P E t = Wp (match m.ρ[i]? with
    | some (.ow _) => .ok (.sl i) m
    | some (.rl _) => .ok (.sl i) m
    | some (.val d) => .ok (.val d) m
    | _ => .bad) P E t := by rw [evH] <;> exact (rfl)
@[simp ↓] theorem w_evXs_nil  {m : Ms} {P : (List D) → Ms → Prop} {E : Ex → Ms → Prop} {t : Tg2 P E} : Wp (evXs cl (.nil) m) P E t = Wp (.ok [] m) P E t := by rw [evXs] <;> exact (rfl)
@[simp ↓] theorem w_evXs_cons {e} {r} {m : Ms} {P : (List D) → Ms → Prop} {E : Ex → Ms → Prop} {t : Tg2 P E} : Wp (evXs cl (.cons e r) m) P E t = Wp ((evX cl e m).bind fun d m => (evXs cl r m).bind fun ds m => .ok (d :: ds) m) P E t := by rw [evXs] <;> exact (rfl)
@[simp ↓] theorem w_evXo_none  {m : Ms} {P : (Option Int) → Ms → Prop} {E : Ex → Ms → Prop} {t : Tg2 P E} : Wp (evXo cl (.none) m) P E t = Wp (.ok none m) P E t := by rw [evXo] <;> exact (rfl)
@[simp ↓] theorem w_evXo_some {e} {m : Ms} {P : (Option Int) → Ms → Prop} {E : Ex → Ms → Prop} {t : Tg2 P E} : Wp (evXo cl (.some e) m) P E t = Wp ((evX cl e m).bind fun d m => match d with
    | .int i => .ok (some i) m
    | _ => .bad) P E t := by rw [evXo] <;> exact (rfl)
@[simp ↓] theorem w_evT_cmp {o} {a} {b} {m : Ms} {P : Bool → Ms → Prop} {E : Ex → Ms → Prop} {t : Tg2 P E} : Wp (evT cl (.cmp o a b) m) P E t = Wp ((evX cl a m).bind fun x m => (evX cl b m).bind fun y m => (opt (cmpD o x y) m).bind fun z m => match z with
    | .bl k => .ok k m
    | _ => .bad) P E t := by rw [evT] <;> exact (rfl)
@[simp ↓] theorem w_evT_cm2 {o} {o'} {a} {b} {c} {m : Ms} {P : Bool → Ms → Prop} {E : Ex → Ms → Prop} {t : Tg2 P E} : Wp (evT cl (.cm2 o o' a b c) m) P E t = Wp ((evX cl a m).bind fun x m => (evX cl b m).bind fun y m => (opt (cmpD o x y) m).bind fun z m => ifD z ((evX cl c m).bind fun w m => (opt (cmpD o' y w) m).bind fun z m => match z with | .bl k => .ok k m | _ => .bad) (.ok false m)) P E t := by rw [evT] <;> exact (rfl)
@[simp ↓] theorem w_evT_inn {n} {a} {c} {m : Ms} {P : Bool → Ms → Prop} {E : Ex → Ms → Prop} {t : Tg2 P E} : Wp (evT cl (.inn n a c) m) P E t = Wp ((evX cl a m).bind fun x m => (evH cl c m).bind fun h m => inM n x h m) P E t := by rw [evT] <;> exact (rfl)
@[simp ↓] theorem w_evT_h {c} {m : Ms} {P : Bool → Ms → Prop} {E : Ex → Ms → Prop} {t : Tg2 P E} : Wp (evT cl (.h c) m) P E t = Wp ((evH cl c m).bind truM) P E t := by rw [evT] <;> exact (rfl)
@[simp ↓] theorem w_evT_and {a} {b} {m : Ms} {P : Bool → Ms → Prop} {E : Ex → Ms → Prop} {t : Tg2 P E} : Wp (evT cl (.and a b) m) P E t = Wp ((evT cl a m).bind fun x m => ifB x (evT cl b m) (.ok false m)) P E t := by rw [evT] <;> exact (rfl)
@[simp ↓] theorem w_evT_or {a} {b} {m : Ms} {P : Bool → Ms → Prop} {E : Ex → Ms → Prop} {t : Tg2 P E} : Wp (evT cl (.or a b) m) P E t = Wp ((evT cl a m).bind fun x m => ifB x (.ok true m) (evT cl b m)) P E t := by rw [evT] <;> exact (rfl)
@[simp ↓] theorem w_evT_one {a} {m : Ms} {P : Bool → Ms → Prop} {E : Ex → Ms → Prop} {t : Tg2 P E} : Wp (evT cl (.one a) m) P E t = Wp (evT cl a m) P E t := by rw [evT] <;> exact (rfl)
@[simp ↓] theorem w_evT_not {a} {m : Ms} {P : Bool → Ms → Prop} {E : Ex → Ms → Prop} {t : Tg2 P E} : Wp (evT cl (.not a) m) P E t = Wp ((evT cl a m).bind fun x m => .ok (!x) m) P E t := by rw [evT] <;> exact (rfl)
@[simp ↓] theorem w_evTs_nil  {m : Ms} {P : Bool → Ms → Prop} {E : Ex → Ms → Prop} {t : Tg2 P E} : Wp (evTs cl (.nil) m) P E t = Wp (.ok true m) P E t := by rw [evTs] <;> exact (rfl)
@[simp ↓] theorem w_evTs_cons {t_} {r} {m : Ms} {P : Bool → Ms → Prop} {E : Ex → Ms → Prop} {t : Tg2 P E} : Wp (evTs cl (.cons t_ r) m) P E t = Wp ((evT cl t_ m).bind fun x m => ifB x (evTs cl r m) (.ok false m)) P E t := by rw [evTs] <;> exact (rfl)
@[simp ↓] theorem w_evF_disp {es} {m : Ms} {P : D → Ms → Prop} {E : Ex → Ms → Prop} {t : Tg2 P E} : Wp (evF cl (.disp es) m) P E t = Wp ((evXs cl es m).bind fun ds m => ifP (ds.length ≤ sizeLine) (.ok (.lst ds) m)) P E t := by rw [evF] <;> exact (rfl)
@[simp ↓] theorem w_evF_comp {own} {tg} {it} {ifs} {elt} {m : Ms} {P : D → Ms → Prop} {E : Ex → Ms → Prop} {t : Tg2 P E} : Wp (evF cl (.comp own tg it ifs elt) m) P E t = Wp ((evIt cl it m).bind fun k m =>
      (calm (compG own k (compL own (bindTg tg) (evTs cl ifs) (fun m => (evX cl elt m).bind fun d m => .ok [d] m)) m)).bind fun ds m' => ifP (ds.length ≤ sizeLine) (.ok (.lst ds) m')) P E t := by rw [evF] <;> exact (rfl)
@[simp ↓] theorem w_evF_sdc {own} {tg} {it} {ifs} {elt} {m : Ms} {P : D → Ms → Prop} {E : Ex → Ms → Prop} {t : Tg2 P E} : Wp (evF cl (.sdc own tg it ifs elt) m) P E t = Wp ((evIt cl it m).bind fun k m =>
      (calm (compG own k (compL own (bindTg tg) (evTs cl ifs) (fun m => (evX cl elt m).bind fun d m => .ok [d] m)) m)).bind sdcM) P E t := by rw [evF] <;> exact (rfl)
@[simp ↓] theorem w_evF_com2 {own} {own1} {tg} {it} {ifs} {tg1} {it1} {ifs1} {elt} {m : Ms} {P : D → Ms → Prop} {E : Ex → Ms → Prop} {t : Tg2 P E} : Wp (evF cl (.com2 own own1 tg it ifs tg1 it1 ifs1 elt) m) P E t = Wp ((evIt cl it m).bind fun k m =>
      (calm (compG own k (compL own (bindTg tg) (evTs cl ifs) (fun m => (evIt cl it1 m).bind fun k1 m =>
        compG own1 k1 (compL own1 (bindTg tg1) (evTs cl ifs1) (fun m => (evX cl elt m).bind fun d m => .ok [d] m)) m)) m)).bind fun ds m' => ifP (ds.length ≤ sizeLine) (.ok (.lst ds) m')) P E t := by rw [evF] <;> exact (rfl)
@[simp ↓] theorem w_evF_callF {f} {es} {m : Ms} {P : D → Ms → Prop} {E : Ex → Ms → Prop} {t : Tg2 P E} : Wp (evF cl (.callF f es) m) P E t = Wp ((evXs cl es m).bind fun ds m => ofRcO (cl f ds m.S) m) P E t := by rw [evF] <;> exact (rfl)
@[simp ↓] theorem w_evS_retf {f} {m : Ms} {P : Fl → Ms → Prop} {E : Ex → Ms → Prop} {t : Tg2 P E} : Wp (evS cl (.retf f) m) P E t = Wp ((evF cl f m).bind fun c m => .ok (.ro c) m) P E t := by rw [evS] <;> exact (rfl)
@[simp ↓] theorem w_evS_reto {i} {m : Ms} {P : Fl → Ms → Prop} {E : Ex → Ms → Prop} {t : Tg2 P E} : Wp (evS cl (.reto i) m) P E t = Wp (match m.ρ[i]? with
  | some (.ow (.lst xs)) => .ok (.ro (.lst xs)) { m with ρ := m.ρ.set i .un }
  | some (.ow (.dic ((.non, .bl true) :: kvs))) => .ok (.ro (uD kvs)) { m with ρ := m.ρ.set i .un }
  | _ => .bad) P E t := by rw [evS] <;> exact (rfl)
@[simp ↓] theorem w_evF_unew {m : Ms} {P : D → Ms → Prop} {E : Ex → Ms → Prop} {t : Tg2 P E} : Wp (evF cl .unew m) P E t = Wp (.ok (uD []) m) P E t := by rw [evF] <;> exact (rfl)
@[simp ↓] theorem w_evF_udc {own} {tg} {it} {ifs} {key elt} {m : Ms} {P : D → Ms → Prop} {E : Ex → Ms → Prop} {t : Tg2 P E} : Wp (evF cl (.udc own tg it ifs key elt) m) P E t = Wp ((evIt cl it m).bind fun k m =>
      (calm (compG own k (compL own (bindTg tg) (evTs cl ifs) (fun m => (evX cl key m).bind fun a m => (evX cl elt m).bind fun d m => .ok [.tup [a, d]] m)) m)).bind udcM) P E t := by rw [evF] <;> exact (rfl)
@[simp ↓] theorem w_evS_uput {c} {i} {e} {m : Ms} {P : Fl → Ms → Prop} {E : Ex → Ms → Prop} {t : Tg2 P E} : Wp (evS cl (.uput c i e) m) P E t = Wp ((evX cl e m).bind fun d m => (evH cl c m).bind fun h m => (evX cl i m).bind fun k m => (uputM h k d m).bind fun _ m => .ok .nx m) P E t := by rw [evS] <;> exact (rfl)
@[simp ↓] theorem w_evX_trg {a} {m : Ms} {P : D → Ms → Prop} {E : Ex → Ms → Prop} {t : Tg2 P E} : Wp (evX cl (.trg a) m) P E t = Wp ((evX cl a m).bind trgM) P E t := by rw [evX] <;> exact (rfl)
@[simp ↓] theorem w_evF_lstOf {c} {m : Ms} {P : D → Ms → Prop} {E : Ex → Ms → Prop} {t : Tg2 P E} : Wp (evF cl (.lstOf c) m) P E t = Wp ((evH cl c m).bind lstM) P E t := by rw [evF] <;> exact (rfl)
@[simp ↓] theorem w_evF_cat {a} {b} {m : Ms} {P : D → Ms → Prop} {E : Ex → Ms → Prop} {t : Tg2 P E} : Wp (evF cl (.cat a b) m) P E t = Wp ((evH cl a m).bind fun h m => (evH cl b m).bind fun g m => catM h g m) P E t := by rw [evF] <;> exact (rfl)
@[simp ↓] theorem w_evF_rep {a} {n} {m : Ms} {P : D → Ms → Prop} {E : Ex → Ms → Prop} {t : Tg2 P E} : Wp (evF cl (.rep a n) m) P E t = Wp ((evH cl a m).bind fun h m => (evX cl n m).bind fun k m => repM h k m) P E t := by rw [evF] <;> exact (rfl)
@[simp ↓] theorem w_evF_srtt {j} {m : Ms} {P : D → Ms → Prop} {E : Ex → Ms → Prop} {t : Tg2 P E} : Wp (evF cl (.srtt j) m) P E t = Wp ((evH cl (.o j) m).bind srttM) P E t := by rw [evF] <;> exact (rfl)
@[simp ↓] theorem w_evF_srtd {j} {m : Ms} {P : D → Ms → Prop} {E : Ex → Ms → Prop} {t : Tg2 P E} : Wp (evF cl (.srtd j) m) P E t = Wp ((evH cl (.o j) m).bind srtdM) P E t := by rw [evF] <;> exact (rfl)
@[simp ↓] theorem w_evF_srt {c} {m : Ms} {P : D → Ms → Prop} {E : Ex → Ms → Prop} {t : Tg2 P E} : Wp (evF cl (.srt c) m) P E t = Wp ((evH cl c m).bind srtM) P E t := by rw [evF] <;> exact (rfl)
@[simp ↓] theorem w_evF_srtE {c} {m : Ms} {P : D → Ms → Prop} {E : Ex → Ms → Prop} {t : Tg2 P E} : Wp (evF cl (.srtE c) m) P E t = Wp ((evH cl c m).bind srtEM) P E t := by rw [evF] <;> exact (rfl)
@[simp ↓] theorem w_evF_lrg {a} {m : Ms} {P : D → Ms → Prop} {E : Ex → Ms → Prop} {t : Tg2 P E} : Wp (evF cl (.lrg a) m) P E t = Wp ((evX cl a m).bind lrgM) P E t := by rw [evF] <;> exact (rfl)
@[simp ↓] theorem w_evF_lrg2 {a} {b} {m : Ms} {P : D → Ms → Prop} {E : Ex → Ms → Prop} {t : Tg2 P E} : Wp (evF cl (.lrg2 a b) m) P E t = Wp ((evX cl a m).bind fun x m => (evX cl b m).bind fun y m => lrg2M x y m) P E t := by rw [evF] <;> exact (rfl)
@[simp ↓] theorem w_evF_slcL {c} {lo} {hi} {m : Ms} {P : D → Ms → Prop} {E : Ex → Ms → Prop} {t : Tg2 P E} : Wp (evF cl (.slcL c lo hi) m) P E t = Wp ((evH cl c m).bind fun h m => (evXo cl lo m).bind fun l m => (evXo cl hi m).bind fun k m => slcFM h l k m) P E t := by rw [evF] <;> exact (rfl)
@[simp ↓] theorem w_evIt_h {c} {m : Ms} {P : Wk → Ms → Prop} {E : Ex → Ms → Prop} {t : Tg2 P E} : Wp (evIt cl (.h c) m) P E t = Wp ((evH cl c m).bind walkM) P E t := by rw [evIt] <;> exact (rfl)
@[simp ↓] theorem w_evIt_rg1 {a} {m : Ms} {P : Wk → Ms → Prop} {E : Ex → Ms → Prop} {t : Tg2 P E} : Wp (evIt cl (.rg1 a) m) P E t = Wp ((evX cl a m).bind rng1M) P E t := by rw [evIt] <;> exact (rfl)
@[simp ↓] theorem w_evIt_rgd {a} {b} {m : Ms} {P : Wk → Ms → Prop} {E : Ex → Ms → Prop} {t : Tg2 P E} : Wp (evIt cl (.rgd a b) m) P E t = Wp ((evX cl a m).bind fun x m => (evX cl b m).bind fun y m => rngdM x y m) P E t := by rw [evIt] <;> exact (rfl)
@[simp ↓] theorem w_evIt_rg2 {a} {b} {m : Ms} {P : Wk → Ms → Prop} {E : Ex → Ms → Prop} {t : Tg2 P E} : Wp (evIt cl (.rg2 a b) m) P E t = Wp ((evX cl a m).bind fun x m => (evX cl b m).bind fun y m => rng2M x y m) P E t := by rw [evIt] <;> exact (rfl)
@[simp ↓] theorem w_evIt_en {c} {m : Ms} {P : Wk → Ms → Prop} {E : Ex → Ms → Prop} {t : Tg2 P E} : Wp (evIt cl (.en c) m) P E t = Wp ((evH cl c m).bind enumM) P E t := by rw [evIt] <;> exact (rfl)
@[simp ↓] theorem w_evIt_zp {c} {d} {m : Ms} {P : Wk → Ms → Prop} {E : Ex → Ms → Prop} {t : Tg2 P E} : Wp (evIt cl (.zp c d) m) P E t = Wp ((evH cl c m).bind fun h m => (evH cl d m).bind fun g m => zipM h g m) P E t := by rw [evIt] <;> exact (rfl)
@[simp ↓] theorem w_evS_set {tg} {e} {m : Ms} {P : Fl → Ms → Prop} {E : Ex → Ms → Prop} {t : Tg2 P E} : Wp (evS cl (.set tg e) m) P E t = Wp ((evX cl e m).bind fun d m => (bindTg tg d m).bind fun _ m => .ok .nx m) P E t := by rw [evS] <;> exact (rfl)
@[simp ↓] theorem w_evS_own {i} {f} {m : Ms} {P : Fl → Ms → Prop} {E : Ex → Ms → Prop} {t : Tg2 P E} : Wp (evS cl (.own i f) m) P E t = Wp ((evF cl f m).bind fun c m => (putOw i c m).bind fun _ m => .ok .nx m) P E t := by rw [evS] <;> exact (rfl)
@[simp ↓] theorem w_evS_par {i} {j} {a} {b} {m : Ms} {P : Fl → Ms → Prop} {E : Ex → Ms → Prop} {t : Tg2 P E} : Wp (evS cl (.par i j a b) m) P E t = Wp ((evX cl a m).bind fun x m => (evX cl b m).bind fun y m => (put1 i x m).bind fun _ m => (put1 j y m).bind fun _ m => .ok .nx m) P E t := by rw [evS] <;> exact (rfl)
@[simp ↓] theorem w_evS_odt {i} {m : Ms} {P : Fl → Ms → Prop} {E : Ex → Ms → Prop} {t : Tg2 P E} : Wp (evS cl (.odt i) m) P E t = Wp ((putOw i (.dic [(.non, .non)]) m).bind fun _ m => .ok .nx m) P E t := by rw [evS] <;> exact (rfl)
@[simp ↓] theorem w_evS_dpt {j} {es} {e} {m : Ms} {P : Fl → Ms → Prop} {E : Ex → Ms → Prop} {t : Tg2 P E} : Wp (evS cl (.dpt j es e) m) P E t = Wp ((evX cl e m).bind fun d m => (evH cl (.o j) m).bind fun h m => (evXs cl es m).bind fun ks m => (dptM h ks d m).bind fun _ m => .ok .nx m) P E t := by rw [evS] <;> exact (rfl)
@[simp ↓] theorem w_evS_odic {i} {m : Ms} {P : Fl → Ms → Prop} {E : Ex → Ms → Prop} {t : Tg2 P E} : Wp (evS cl (.odic i) m) P E t = Wp ((putOw i (.dic []) m).bind fun _ m => .ok .nx m) P E t := by rw [evS] <;> exact (rfl)
@[simp ↓] theorem w_evS_dput {j} {i} {e} {m : Ms} {P : Fl → Ms → Prop} {E : Ex → Ms → Prop} {t : Tg2 P E} : Wp (evS cl (.dput j i e) m) P E t = Wp ((evX cl e m).bind fun d m => (evH cl (.o j) m).bind fun h m => (evX cl i m).bind fun k m => (dputM h k d m).bind fun _ m => .ok .nx m) P E t := by rw [evS] <;> exact (rfl)
@[simp ↓] theorem w_evS_seti {c} {i} {e} {m : Ms} {P : Fl → Ms → Prop} {E : Ex → Ms → Prop} {t : Tg2 P E} : Wp (evS cl (.seti c i e) m) P E t = Wp ((evX cl e m).bind fun d m => (evH cl c m).bind fun h m => (evX cl i m).bind fun k m => (setM h k d m).bind fun _ m => .ok .nx m) P E t := by rw [evS] <;> exact (rfl)
@[simp ↓] theorem w_evS_aug {i} {o} {e} {m : Ms} {P : Fl → Ms → Prop} {E : Ex → Ms → Prop} {t : Tg2 P E} : Wp (evS cl (.aug i o e) m) P E t = Wp (match m.ρ[i]? with
    | some (.val x) => (evX cl e m).bind fun y m => (opt (binD o x y) m).bind fun d m => (put1 i d m).bind fun _ m => .ok .nx m
    | _ => .bad) P E t := by rw [evS] <;> exact (rfl)
@[simp ↓] theorem w_evS_ex {e} {m : Ms} {P : Fl → Ms → Prop} {E : Ex → Ms → Prop} {t : Tg2 P E} : Wp (evS cl (.ex e) m) P E t = Wp ((evX cl e m).bind fun _ m => .ok .nx m) P E t := by rw [evS] <;> exact (rfl)
@[simp ↓] theorem w_evS_ife {t_} {a} {b} {m : Ms} {P : Fl → Ms → Prop} {E : Ex → Ms → Prop} {t : Tg2 P E} : Wp (evS cl (.ife t_ a b) m) P E t = Wp ((evT cl t_ m).bind fun k m => ifB k (evSs cl a m) (evSs cl b m)) P E t := by rw [evS] <;> exact (rfl)
@[simp ↓] theorem w_evS_wh {t_} {b} {m : Ms} {P : Fl → Ms → Prop} {E : Ex → Ms → Prop} {t : Tg2 P E} : Wp (evS cl (.wh t_ b) m) P E t = Wp (whL (evT cl t_) (evSs cl b) whMax m) P E t := by rw [evS] <;> exact (rfl)
@[simp ↓] theorem w_evS_fr {tg} {it} {b} {m : Ms} {P : Fl → Ms → Prop} {E : Ex → Ms → Prop} {t : Tg2 P E} : Wp (evS cl (.fr tg it b) m) P E t = Wp ((evIt cl it m).bind fun k m => unR k m.ρ (forL (bindTg tg) (evSs cl b) k.xs (k.lock m))) P E t := by rw [evS] <;> exact (rfl)
@[simp ↓] theorem w_evS_ret {e} {m : Ms} {P : Fl → Ms → Prop} {E : Ex → Ms → Prop} {t : Tg2 P E} : Wp (evS cl (.ret e) m) P E t = Wp ((evX cl e m).bind fun d m => .ok (.rt d) m) P E t := by rw [evS] <;> exact (rfl)
@[simp ↓] theorem w_evS_retn  {m : Ms} {P : Fl → Ms → Prop} {E : Ex → Ms → Prop} {t : Tg2 P E} : Wp (evS cl (.retn) m) P E t = Wp (.ok (.rt .non) m) P E t := by rw [evS] <;> exact (rfl)
@[simp ↓] theorem w_evS_brk  {m : Ms} {P : Fl → Ms → Prop} {E : Ex → Ms → Prop} {t : Tg2 P E} : Wp (evS cl (.brk) m) P E t = Wp (.ok .br m) P E t := by rw [evS] <;> exact (rfl)
@[simp ↓] theorem w_evS_cnt  {m : Ms} {P : Fl → Ms → Prop} {E : Ex → Ms → Prop} {t : Tg2 P E} : Wp (evS cl (.cnt) m) P E t = Wp (.ok .ct m) P E t := by rw [evS] <;> exact (rfl)
@[simp ↓] theorem w_evS_pas  {m : Ms} {P : Fl → Ms → Prop} {E : Ex → Ms → Prop} {t : Tg2 P E} : Wp (evS cl (.pas) m) P E t = Wp (.ok .nx m) P E t := by rw [evS] <;> exact (rfl)
@[simp] theorem w_clM_nil {e : Ex} {m : Ms} {P : Fl → Ms → Prop} {E : Ex → Ms → Prop} {t : Tg2 P E} : Wp (clM e m []) P E t = E e m := by rw [clM, Wp_exc]
def offP (i : Nat) (m : Ms) (P : Ms → Prop) : Prop := match m.ρ[i]? with
  | some (.rl _) => False
  | some _ => P { m with ρ := m.ρ.set i .un }
  | none => False
@[simp] theorem w_clM_cons {e : Ex} {m : Ms} {h : Hd} {r : List Hd} {P : Fl → Ms → Prop} {E : Ex → Ms → Prop} {t : Tg2 P E} : Wp (clM e m (h :: r)) P E t = if subX e.c h.c = true then (match hbD e h.b with
      | some d => (match h.i with
        | some i => offP i m fun m => P (.rt d) m
        | none => P (.rt d) m)
      | none => False) else Wp (clM e m r) P E t := by
  obtain ⟨c, i, b⟩ := h
  rw [clM]
  dsimp only
  by_cases h1 : subX e.c c = true
  · rw [if_pos h1, if_pos h1]
    cases hbD e b with
    | none => simp only [Wp_bad]
    | some d =>
      cases i with
      | none => simp only [Wp_ok]
      | some i =>
        simp only [Wp_bind]
        unfold offM offP
        cases hq : m.ρ[i]? with
        | none => simp only [Wp_bad]
        | some s => cases s <;> simp only [Wp_bad, Wp_ok]
  · rw [if_neg h1, if_neg h1]
theorem w_trM {cs : List Nat} {hs : List Hd} {r : R Fl} {P : Fl → Ms → Prop} {E : Ex → Ms → Prop} {t : Tg2 P E} : Wp (trM cs hs r) P E t = Wp r P (fun e m => if cs.contains e.c then Wp (clM e m hs) P E ⟨()⟩ else False) ⟨()⟩ := by
  cases r with
  | ok a m => rw [Wp_ok]; show Wp (.ok a m) P E t = _; rw [Wp_ok]
  | bad => rw [Wp_bad]; show Wp .bad P E t = _; rw [Wp_bad]
  | exc e m =>
    rw [Wp_exc]
    unfold trM
    dsimp only
    by_cases h1 : cs.contains e.c = true
    · rw [if_pos h1, if_pos h1]
    · rw [if_neg h1, if_neg h1, Wp_bad]
@[simp ↓] theorem w_evS_trs {cs : List Nat} {b : Ss} {hs : List Hd} {m : Ms} {P : Fl → Ms → Prop} {E : Ex → Ms → Prop} {t : Tg2 P E} : Wp (evS cl (.trs cs hs b) m) P E t = Wp (trM cs hs (evSs cl b m)) P E t := by rw [evS] <;> exact (rfl)
@[simp ↓] theorem w_evS_raise {c} {es} {m : Ms} {P : Fl → Ms → Prop} {E : Ex → Ms → Prop} {t : Tg2 P E} : Wp (evS cl (.raise c es) m) P E t = Wp ((evXs cl es m).bind fun ds m => .exc ⟨c, ds⟩ m) P E t := by rw [evS] <;> exact (rfl)
@[simp ↓] theorem w_evSs_nil  {m : Ms} {P : Fl → Ms → Prop} {E : Ex → Ms → Prop} {t : Tg2 P E} : Wp (evSs cl (.nil) m) P E t = Wp (.ok .nx m) P E t := by rw [evSs] <;> exact (rfl)
@[simp ↓] theorem w_evSs_stk  {m : Ms} {P : Fl → Ms → Prop} {E : Ex → Ms → Prop} {t : Tg2 P E} : Wp (evSs cl (.stk) m) P E t = Wp (.bad) P E t := by rw [evSs] <;> exact (rfl)
@[simp ↓] theorem w_evSs_cons {s} {r} {m : Ms} {P : Fl → Ms → Prop} {E : Ex → Ms → Prop} {t : Tg2 P E} : Wp (evSs cl (.cons s r) m) P E t = Wp ((evS cl s m).bind fun f m => goS f (evSs cl r) m) P E t := by rw [evSs] <;> exact (rfl)
end

@[simp] theorem wipeR_nil {ρ : List Sl} : wipeR ρ [] = ρ := (rfl)
@[simp] theorem wipeR_cons {ρ : List Sl} {i : Nat} {is : List Nat} : wipeR ρ (i :: is) = (wipeR ρ is).set i .un := (rfl)
/-! ### loops -/
/-- slots that own alone may differ in -/
def Agree (own : List Nat) (ρ ρ' : List Sl) : Prop := ρ.length = ρ'.length ∧ ∀ i, i ∉ own → ρ[i]? = ρ'[i]?
theorem Agree.refl (own : List Nat) (ρ : List Sl) : Agree own ρ ρ := ⟨rfl, fun _ _ => rfl⟩
theorem Agree.set {own : List Nat} {ρ ρ' : List Sl} {j : Nat} {s : Sl} (h : Agree own ρ ρ') (hj : j ∈ own) : Agree own (ρ.set j s) ρ' :=
  ⟨by rw [List.length_set]; exact h.1, fun i hi => by rw [List.getElem?_set_ne (fun e => hi (by rw [← e]; exact hj))]; exact h.2 i hi⟩
theorem wipeR_length' {ρ : List Sl} : ∀ {own : List Nat}, (wipeR ρ own).length = ρ.length
  | [] => rfl
  | i :: is => by unfold wipeR; rw [List.length_set, wipeR_length']
theorem Agree.wipe {own : List Nat} {ρ ρ' : List Sl} (h : Agree own ρ ρ') : wipeR ρ own = wipeR ρ' own := by
  refine List.ext_getElem? fun i => ?_
  by_cases z : i ∈ own
  · by_cases k : i < ρ.length
    · have e1 : i < (wipeR ρ own).length := by rw [wipeR_length']; exact k
      have e2 : i < (wipeR ρ' own).length := by rw [wipeR_length', ← h.1]; exact k
      rw [List.getElem?_eq_getElem e1, List.getElem?_eq_getElem e2, wipeR_in z (List.getElem?_eq_getElem e1), wipeR_in z (List.getElem?_eq_getElem e2)]
    · rw [List.getElem?_eq_none (by rw [wipeR_length']; omega), List.getElem?_eq_none (by rw [wipeR_length', ← h.1]; omega)]
  · rw [wipeR_out z, wipeR_out z]; exact h.2 i z
theorem backR_agree {own : List Nat} {ρ ρ0 : List Sl} (h : Agree own ρ ρ0) (hp : ∀ i ∈ own, i < ρ0.length) : backR ρ ρ0 own = ρ0 := by
  refine List.ext_getElem? fun i => ?_
  by_cases z : i ∈ own
  · have k := hp i z
    have e1 : i < (backR ρ ρ0 own).length := by rw [backR_len, h.1]; exact k
    rw [List.getElem?_eq_getElem e1]
    have := backR_in z (List.getElem?_eq_getElem e1)
    rw [this, List.getElem?_eq_getElem k]
    rfl
  · rw [backR_out z]; exact h.2 i z
theorem plainS_lt {ρ : List Sl} {i : Nat} (h : plainS ρ i = true) : i < ρ.length := by
  unfold plainS at h
  cases q : ρ[i]? with
  | none => rw [q] at h; cases h
  | some s => exact (List.getElem?_eq_some_iff.mp q).1
theorem lockR_length {ρ : List Sl} {h : HV} : (lockR ρ h).length = ρ.length := lockR_len
/-- one turn of a clause -/
def turn (bd : D → Ms → R Unit) (ts : Ms → R Bool) (elt : Ms → R (List D)) (d : D) (m : Ms) : R (List D) := (bd d m).bind fun _ m => (ts m).bind fun b m => if b then elt m else .ok [] m
theorem unlock_agree {own : List Nat} {ρ ρ0 : List Sl} {h : HV} (hp : own.all (plainS (lockR ρ0 h)) = true) (a : Agree own ρ (lockR ρ0 h)) : unlockR (backR ρ ρ0 own) ρ0 h = ρ0 := by
  have pl : ∀ i ∈ own, i < ρ0.length := fun i hi => by
    have := plainS_lt (List.all_eq_true.mp hp i hi)
    rwa [lockR_length] at this
  cases h with
  | val d => exact backR_agree a pl
  | sl j =>
    unfold unlockR
    simp only
    split
    · rename_i c e
      have el : lockR ρ0 (.sl j) = ρ0.set j (.rl c) := by unfold lockR; simp only [e]
      have nj : j ∉ own := fun z => by
        have := List.all_eq_true.mp hp j z
        rw [el] at this
        unfold plainS at this
        rw [List.getElem?_set_self (List.getElem?_eq_some_iff.mp e).1] at this
        cases this
      have a' : Agree own (ρ.set j (.ow c)) ρ0 := ⟨by rw [List.length_set, a.1, lockR_length], fun i hi => by
        by_cases z : i = j
        · subst z
          rw [List.getElem?_set_self (by rw [a.1, lockR_length]; exact (List.getElem?_eq_some_iff.mp e).1), e]
        · rw [get_set_ne z, a.2 i hi, el, get_set_ne z]⟩
      have : (backR ρ ρ0 own).set j (.ow c) = backR (ρ.set j (.ow c)) ρ0 own := by
        refine List.ext_getElem? fun i => ?_
        by_cases z : i = j
        · subst z
          rw [backR_out nj]
          by_cases k : i < ρ.length
          · rw [List.getElem?_set_self (by rw [backR_len]; exact k), List.getElem?_set_self k]
          · rw [List.getElem?_eq_none (by rw [List.length_set, backR_len]; omega), List.getElem?_eq_none (by rw [List.length_set]; omega)]
        · rw [get_set_ne z]
          by_cases y : i ∈ own
          · by_cases k : i < ρ.length
            · have e1 : i < (backR ρ ρ0 own).length := by rw [backR_len]; exact k
              have e2 : i < (backR (ρ.set j (.ow c)) ρ0 own).length := by rw [backR_len, List.length_set]; exact k
              rw [List.getElem?_eq_getElem e1, List.getElem?_eq_getElem e2, backR_in y (List.getElem?_eq_getElem e1), backR_in y (List.getElem?_eq_getElem e2)]
            · rw [List.getElem?_eq_none (by rw [backR_len]; omega), List.getElem?_eq_none (by rw [backR_len, List.length_set]; omega)]
          · rw [backR_out y, backR_out y, get_set_ne z]
      rw [this]
      exact backR_agree a' pl
    · rename_i e
      have el : lockR ρ0 (.sl j) = ρ0 := by
        unfold lockR
        simp only
        try (split <;> first | rfl | (rename_i c q; exact absurd q (e c)))
      rw [el] at a
      exact backR_agree a pl
theorem Agree.trans {own : List Nat} {a b c : List Sl} (h : Agree own a b) (k : Agree own b c) : Agree own a c := ⟨h.1.trans k.1, fun i hi => (h.2 i hi).trans (k.2 i hi)⟩
theorem agree_wipe {own : List Nat} {ρ : List Sl} : Agree own (wipeR ρ own) ρ := ⟨wipeR_length', fun i hi => wipeR_out hi⟩
/-- the same by simp -/
def AgA (own : List Nat) : Nat → List Sl → List Sl → Prop
  | _, [], [] => True
  | k, a :: ρ, b :: ρ' => (k ∈ own ∨ a = b) ∧ AgA own (k + 1) ρ ρ'
  | _, _, _ => False
@[simp] theorem AgA_nil {own : List Nat} {k : Nat} : AgA own k [] [] = True := (rfl)
@[simp] theorem AgA_cons {own : List Nat} {k : Nat} {a b : Sl} {ρ ρ' : List Sl} : AgA own k (a :: ρ) (b :: ρ') = ((k ∈ own ∨ a = b) ∧ AgA own (k + 1) ρ ρ') := (rfl)
theorem AgA.len {own : List Nat} : ∀ {k : Nat} {ρ ρ' : List Sl}, AgA own k ρ ρ' → ρ.length = ρ'.length
  | _, [], [], _ => rfl
  | _, a :: ρ, b :: ρ', h => by rw [List.length_cons, List.length_cons, AgA.len h.2]
  | _, [], _ :: _, h => h.elim
  | _, _ :: _, [], h => h.elim
theorem AgA.get {own : List Nat} : ∀ {k : Nat} {ρ ρ' : List Sl}, AgA own k ρ ρ' → ∀ i, k + i ∉ own → ρ[i]? = ρ'[i]?
  | _, [], [], _, i, _ => rfl
  | k, a :: ρ, b :: ρ', h, 0, hi => by
    rcases h.1 with q | q
    · exact absurd q hi
    · rw [q]; rfl
  | k, a :: ρ, b :: ρ', h, i + 1, hi => by
    rw [List.getElem?_cons_succ, List.getElem?_cons_succ]
    exact AgA.get h.2 i (by rwa [show k + 1 + i = k + (i + 1) by omega])
  | _, [], _ :: _, h, _, _ => h.elim
  | _, _ :: _, [], h, _, _ => h.elim
theorem AgA.agree {own : List Nat} {ρ ρ' : List Sl} (h : AgA own 0 ρ ρ') : Agree own ρ ρ' := ⟨h.len, fun i hi => h.get i (by rwa [Nat.zero_add])⟩
/-- I: what is left, what has come, the store -/
theorem compL_wp {own : List Nat} {bd : D → Ms → R Unit} {ts : Ms → R Bool} {elt : Ms → R (List D)} {ρ0 : List Sl} {E : Ex → Ms → Prop} (I : List D → List D → List D → Prop)
    (step : ∀ d r acc S, I (d :: r) acc S → Wp (turn bd ts elt d ⟨wipeR ρ0 own, S⟩) (fun ys m => Agree own m.ρ (wipeR ρ0 own) ∧ I r (acc ++ ys) m.S) E ⟨()⟩) :
    ∀ (r acc : List D) (m : Ms) (P : List D → Ms → Prop) (t : Tg2 P E), Agree own m.ρ ρ0 → I r acc m.S → (∀ zs m', Agree own m'.ρ ρ0 → I [] (acc ++ zs) m'.S → P zs m') → Wp (compL own bd ts elt r m) P E t
  | [], acc, m, P, t, ha, hI, hP => by
    rw [compL, Wp_ok]
    exact hP [] m ha (by rw [List.append_nil]; exact hI)
  | d :: r, acc, m, P, t, ha, hI, hP => by
    have h := step d r acc m.S hI
    rw [compL, ha.wipe]
    unfold turn at h
    rw [Wp_bind] at h ⊢
    refine h.mono fun _ m1 h1 => ?_
    rw [Wp_bind] at h1 ⊢
    refine h1.mono fun b m2 h2 => ?_
    cases b with
    | true =>
      rw [if_pos rfl] at h2 ⊢
      rw [Wp_bind]
      refine h2.mono fun ys m3 ⟨h3, h4⟩ => ?_
      rw [Wp_bind]
      refine compL_wp I step r (acc ++ ys) m3 _ _ (h3.trans agree_wipe) h4 fun zs m' h5 h6 => ?_
      rw [Wp_ok]
      exact hP (ys ++ zs) m' h5 (by rw [← List.append_assoc]; exact h6)
    | false =>
      rw [if_neg Bool.false_ne_true] at h2 ⊢
      rw [Wp_ok] at h2
      obtain ⟨h3, h4⟩ := h2
      rw [List.append_nil] at h4
      exact compL_wp I step r acc m2 P t (h3.trans agree_wipe) h4 hP
/-- a clause: the slots are as they were -/
theorem compG_wp {own : List Nat} {k : Wk} {bd : D → Ms → R Unit} {ts : Ms → R Bool} {elt : Ms → R (List D)} {m : Ms} {P : List D → Ms → Prop} {E : Ex → Ms → Prop} {t : Tg2 P E} (hp : own.all (plainS (lockR m.ρ k.l)) = true) (I : List D → List D → List D → Prop) (h0 : I k.xs [] m.S)
    (step : ∀ d r acc S, I (d :: r) acc S → Wp (turn bd ts elt d ⟨wipeR (lockR m.ρ k.l) own, S⟩) (fun ys m' => AgA own 0 m'.ρ (wipeR (lockR m.ρ k.l) own) ∧ I r (acc ++ ys) m'.S) E ⟨()⟩)
    (hP : ∀ zs S, I [] zs S → P zs { m with S := S }) : Wp (compG own k (compL own bd ts elt) m) P E t := by
  unfold compG
  rw [if_pos (show own.all (plainS (k.lock m).ρ) = true from hp), Wp_bind]
  refine compL_wp (ρ0 := lockR m.ρ k.l) I (fun d r acc S h => (step d r acc S h).mono fun ys m' h => ⟨h.1.agree, h.2⟩) k.xs [] (k.lock m) _ _ (Agree.refl _ _) h0 fun zs m' h1 h2 => ?_
  rw [Wp_ok]
  have e : (k.unlock m.ρ { m' with ρ := backR m'.ρ m.ρ own } : Ms) = { m with S := m'.S } := by
    unfold Wk.unlock
    rw [unlock_agree hp h1]
  rw [e]
  exact hP zs m'.S h2
@[simp ↓] theorem Wp_calm {α : Type} {r : R α} {P : α → Ms → Prop} {E : Ex → Ms → Prop} {t : Tg2 P E} : Wp (calm r) P E t = Wp r P (fun _ _ => False) ⟨()⟩ := by
  cases r with
  | ok a m => rw [Wp_ok]; show Wp (.ok a m) P E t = _; rw [Wp_ok]
  | exc e m => rw [Wp_exc]; show Wp .bad P E t = _; rw [Wp_bad]
  | bad => rw [Wp_bad]; show Wp .bad P E t = _; rw [Wp_bad]
/-- the same at every turn: the store stays -/
theorem compG_map {own : List Nat} {k : Wk} {bd : D → Ms → R Unit} {ts : Ms → R Bool} {elt : Ms → R (List D)} {m : Ms} {P : List D → Ms → Prop} {E : Ex → Ms → Prop} {t : Tg2 P E} (hp : own.all (plainS (lockR m.ρ k.l)) = true) (f : D → List D)
    (step : ∀ d ∈ k.xs, Wp (turn bd ts elt d ⟨wipeR (lockR m.ρ k.l) own, m.S⟩) (fun ys m' => AgA own 0 m'.ρ (wipeR (lockR m.ρ k.l) own) ∧ m'.S = m.S ∧ ys = f d) E ⟨()⟩)
    (hP : P (k.xs.flatMap f) m) : Wp (compG own k (compL own bd ts elt) m) P E t := by
  refine compG_wp hp (fun r acc S => S = m.S ∧ ∃ done, k.xs = done ++ r ∧ acc = done.flatMap f) ⟨rfl, [], rfl, rfl⟩ ?_ ?_
  · rintro d r acc S ⟨rfl, done, e1, rfl⟩
    refine (step d (by rw [e1]; simp)).mono fun ys m' ⟨h1, h2, h3⟩ => ⟨h1, h2, done ++ [d], by rw [e1]; simp, by rw [List.flatMap_append, h3]; simp⟩
  · rintro zs S ⟨rfl, done, e1, rfl⟩
    rw [List.append_nil] at e1
    rw [← e1]
    exact hP
theorem compG_filter {own : List Nat} {k : Wk} {bd : D → Ms → R Unit} {ts : Ms → R Bool} {elt : Ms → R (List D)} {m : Ms} {P : List D → Ms → Prop} {E : Ex → Ms → Prop} {t : Tg2 P E} (hp : own.all (plainS (lockR m.ρ k.l)) = true) (p : D → Bool) (f : D → D)
    (step : ∀ d ∈ k.xs, Wp (turn bd ts elt d ⟨wipeR (lockR m.ρ k.l) own, m.S⟩) (fun ys m' => AgA own 0 m'.ρ (wipeR (lockR m.ρ k.l) own) ∧ m'.S = m.S ∧ ys = if p d = true then [f d] else []) E ⟨()⟩)
    (hP : P ((k.xs.filter p).map f) m) : Wp (compG own k (compL own bd ts elt) m) P E t := by
  refine compG_map hp (fun d => if p d = true then [f d] else []) step ?_
  have e : ∀ l : List D, l.flatMap (fun d => if p d = true then [f d] else []) = (l.filter p).map f := fun l => by
    induction l with
    | nil => rfl
    | cons d l ih =>
      rw [List.flatMap_cons, ih]
      cases h : p d <;> simp [List.filter_cons, h]
  rw [e]
  exact hP
theorem compG_map1 {own : List Nat} {k : Wk} {bd : D → Ms → R Unit} {ts : Ms → R Bool} {elt : Ms → R (List D)} {m : Ms} {P : List D → Ms → Prop} {E : Ex → Ms → Prop} {t : Tg2 P E} (hp : own.all (plainS (lockR m.ρ k.l)) = true) (f : D → D)
    (step : ∀ d ∈ k.xs, Wp (turn bd ts elt d ⟨wipeR (lockR m.ρ k.l) own, m.S⟩) (fun ys m' => AgA own 0 m'.ρ (wipeR (lockR m.ρ k.l) own) ∧ m'.S = m.S ∧ ys = [f d]) E ⟨()⟩)
    (hP : P (k.xs.map f) m) : Wp (compG own k (compL own bd ts elt) m) P E t := by
  refine compG_map hp (fun d => [f d]) step ?_
  have e : ∀ l : List D, l.flatMap (fun d => [f d]) = l.map f := fun l => by
    induction l with
    | nil => rfl
    | cons d l ih => rw [List.flatMap_cons, ih]; rfl
  rw [e]
  exact hP
theorem forL_wp {bd : D → Ms → R Unit} {body : Ms → R Fl} {E : Ex → Ms → Prop} {P : Fl → Ms → Prop} {t : Tg2 P E} (I : List D → Ms → Prop)
    (step : ∀ d r m, I (d :: r) m → Wp (bd d m) (fun _ m => Wp (body m) (fun fl m => match fl with
      | .nx => I r m
      | .ct => I r m
      | .br => P .nx m
      | .rt d => P (.rt d) m
      | .ro _ => False) E ⟨()⟩) E ⟨()⟩) (hP : ∀ m, I [] m → P .nx m) : ∀ (r : List D) (m : Ms), I r m → Wp (forL bd body r m) P E t
  | [], m, h => by rw [forL, Wp_ok]; exact hP m h
  | d :: r, m, h => by
    rw [forL, Wp_bind]
    refine (step d r m h).mono fun _ m1 h1 => ?_
    rw [Wp_bind]
    refine h1.mono fun fl m2 h2 => ?_
    cases fl with
    | nx => exact forL_wp I step hP r m2 h2
    | ct => exact forL_wp I step hP r m2 h2
    | br => show Wp (.ok .nx m2) P E t; rw [Wp_ok]; exact h2
    | rt d => show Wp (.ok (.rt d) m2) P E t; rw [Wp_ok]; exact h2
    | ro c => exact h2.elim
theorem whL_wp {tt : Ms → R Bool} {body : Ms → R Fl} {E : Ex → Ms → Prop} {P : Fl → Ms → Prop} {t : Tg2 P E} (I : Nat → Ms → Prop)
    (step : ∀ k m, I k m → Wp (tt m) (fun b m => if b then Wp (body m) (fun fl m => match fl with
      | .nx => ∃ j, j < k ∧ I j m
      | .ct => ∃ j, j < k ∧ I j m
      | .br => P .nx m
      | .rt d => P (.rt d) m
      | .ro _ => False) E ⟨()⟩ else P .nx m) E ⟨()⟩) : ∀ (n k : Nat) (m : Ms), k < n → I k m → Wp (whL tt body n m) P E t
  | 0, k, m, hk, h => by omega
  | n + 1, k, m, hk, h => by
    rw [whL, Wp_bind]
    refine (step k m h).mono fun b m1 h1 => ?_
    cases b with
    | true =>
      rw [if_pos rfl] at h1 ⊢
      rw [Wp_bind]
      refine h1.mono fun fl m2 h2 => ?_
      cases fl with
      | nx => obtain ⟨j, hj, h3⟩ := h2; exact whL_wp I step n j m2 (by omega) h3
      | ct => obtain ⟨j, hj, h3⟩ := h2; exact whL_wp I step n j m2 (by omega) h3
      | br => show Wp (.ok .nx m2) P E t; rw [Wp_ok]; exact h2
      | rt d => show Wp (.ok (.rt d) m2) P E t; rw [Wp_ok]; exact h2
      | ro c => exact h2.elim
    | false =>
      rw [if_neg Bool.false_ne_true] at h1 ⊢
      rw [Wp_ok]
      exact h1
@[simp ↓] theorem Wp_unR {k : Wk} {ρ0 : List Sl} {r : R Fl} {P : Fl → Ms → Prop} {E : Ex → Ms → Prop} {t : Tg2 P E} : Wp (unR k ρ0 r) P E t = Wp r (fun fl m => P fl (k.unlock ρ0 m)) (fun e m => E e (k.unlock ρ0 m)) ⟨()⟩ := by
  cases r with
  | ok a m => rw [Wp_ok]; show Wp (.ok a (k.unlock ρ0 m)) P E t = _; rw [Wp_ok]
  | exc e m => rw [Wp_exc]; show Wp (.exc e (k.unlock ρ0 m)) P E t = _; rw [Wp_exc]
  | bad => rw [Wp_bad]; show Wp .bad P E t = _; rw [Wp_bad]
@[simp ↓] theorem Wp_goS_nx {a : Ms → R Fl} {m : Ms} {P : Fl → Ms → Prop} {E : Ex → Ms → Prop} {t : Tg2 P E} : Wp (goS .nx a m) P E t = Wp (a m) P E t := (rfl)
@[simp ↓] theorem Wp_goS_rt {a : Ms → R Fl} {m : Ms} {d : D} {P : Fl → Ms → Prop} {E : Ex → Ms → Prop} {t : Tg2 P E} : Wp (goS (.rt d) a m) P E t = P (.rt d) m := by unfold goS; rw [Wp_ok]
@[simp ↓] theorem Wp_goS_ro {a : Ms → R Fl} {m : Ms} {d : D} {P : Fl → Ms → Prop} {E : Ex → Ms → Prop} {t : Tg2 P E} : Wp (goS (.ro d) a m) P E t = P (.ro d) m := by unfold goS; rw [Wp_ok]
@[simp ↓] theorem Wp_goS_br {a : Ms → R Fl} {m : Ms} {P : Fl → Ms → Prop} {E : Ex → Ms → Prop} {t : Tg2 P E} : Wp (goS .br a m) P E t = P .br m := by unfold goS; rw [Wp_ok]
@[simp ↓] theorem Wp_goS_ct {a : Ms → R Fl} {m : Ms} {P : Fl → Ms → Prop} {E : Ex → Ms → Prop} {t : Tg2 P E} : Wp (goS .ct a m) P E t = P .ct m := by unfold goS; rw [Wp_ok]
end Ev

set_option Elab.async false
set_option linter.all false
set_option maxRecDepth 100000
set_option autoImplicit false
set_option maxHeartbeats 1000000
/-! Lw2: the primitives, for simp. -/
namespace Ev
open PySem L2
section
variable {α β : Type} {E : Ex → Ms → Prop} {m : Ms}
@[simp] theorem rd_non : rd (.val .non) m = some .non := (rfl)
@[simp] theorem rd_bl {b : Bool} : rd (.val (.bl b)) m = some (.bl b) := (rfl)
@[simp] theorem rd_int {b : Int} : rd (.val (.int b)) m = some (.int b) := (rfl)
@[simp] theorem rd_str {b : Str} : rd (.val (.str b)) m = some (.str b) := (rfl)
@[simp] theorem rd_tup {b : List D} : rd (.val (.tup b)) m = some (.tup b) := (rfl)
@[simp] theorem rd_lst {b : List D} : rd (.val (.lst b)) m = some (.lst b) := (rfl)
@[simp] theorem rd_loc {n : Nat} : rd (.val (.loc n)) m = m.S[n]? := (rfl)
@[simp] theorem rd_sl {i : Nat} : rd (.sl i) m = (match m.ρ[i]? with
  | some (.ow c) => some c
  | some (.rl c) => some c
  | _ => none) := (rfl)
theorem rd_val {d : D} (h : isLoc d = false) : rd (.val d) m = some d := by cases d <;> first | rfl | cases h
@[simp] theorem kL_def {h : HV} : kL h m = (match rd h m with
  | some (.lst _) => true
  | _ => false) := (rfl)
@[simp ↓] theorem w_ixdM {h : HV} {k : D} {P : D → Ms → Prop} {t : Tg2 P E} : Wp (ixdM h k m) P E t = Wp (match rd h m with
  | some (.lst xs) => ifP (ixOk xs k = true) (.ok (.int (xs.idxOf k : Nat)) m)
  | _ => .bad) P E t := (rfl)
@[simp ↓] theorem w_wr_sl {i : Nat} {c : D} {P : Unit → Ms → Prop} {t : Tg2 P E} : Wp (wr (.sl i) c m) P E t = Wp (match m.ρ[i]? with
    | some (.ow (.lst _)) => .ok () { m with ρ := m.ρ.set i (.ow c) }
    | _ => .bad) P E t := (rfl)
@[simp ↓] theorem w_wr_loc {n : Nat} {c : D} {P : Unit → Ms → Prop} {t : Tg2 P E} : Wp (wr (.val (.loc n)) c m) P E t = Wp (if n < m.S.length then .ok () { m with S := m.S.set n c } else .bad) P E t := (rfl)
@[simp ↓] theorem Wp_iteT {a b : R α} {c : Prop} [Decidable c] {P : α → Ms → Prop} {t : Tg2 P E} : Wp (if c then a else b) P E t = if c then Wp a P E t else Wp b P E t := by split <;> exact (rfl)
@[simp] theorem Wp_opt_ite {a : α} {c : Prop} [Decidable c] {P : α → Ms → Prop} {t : Tg2 P E} : Wp (opt (if c then some a else none) m) P E t = (c ∧ P a m) := by
  by_cases h : c
  · rw [if_pos h, Wp_opt_some]; exact propext ⟨fun k => ⟨h, k⟩, fun k => k.2⟩
  · rw [if_neg h, opt_none, Wp_bad]; exact propext ⟨fun k => k.elim, fun k => absurd k.1 h⟩
theorem w_put1 {i : Nat} {d : D} {P : Unit → Ms → Prop} {t : Tg2 P E} : Wp (put1 i d m) P E t = Wp (match m.ρ[i]? with
  | some (.rl _) => .bad
  | some _ => .ok () { m with ρ := m.ρ.set i (.val d) }
  | none => .bad) P E t := (rfl)
theorem put1_nrl {ρ : List Sl} {S : List D} {i : Nat} {d : D} {s : Sl} {P : Unit → Ms → Prop} {t : Tg2 P E} (h : ρ[i]? = some s) (hs : ∀ c, s ≠ Sl.rl c) : Wp (put1 i d ⟨ρ, S⟩) P E t = P () ⟨ρ.set i (.val d), S⟩ := by
  rw [w_put1]
  show Wp (match ρ[i]? with | some (.rl _) => .bad | some _ => .ok () _ | none => .bad) P E t = _
  rw [h]
  cases s with
  | rl c => exact absurd rfl (hs c)
  | _ => rw [Wp_ok]
theorem w_putOw {i : Nat} {d : D} {P : Unit → Ms → Prop} {t : Tg2 P E} : Wp (putOw i d m) P E t = Wp (match m.ρ[i]? with
  | some (.rl _) => .bad
  | some _ => .ok () { m with ρ := m.ρ.set i (.ow d) }
  | none => .bad) P E t := (rfl)
/-- a slot that owns nothing; a slot that owns or is empty -/
def sv : Option D → Sl
  | none => .un
  | some d => .val d
def so : Option D → Sl
  | none => .un
  | some d => .ow d
def isRl : Sl → Bool
  | .rl _ => true
  | _ => false
@[simp] theorem isRl_sv {o : Option D} : isRl (sv o) = false := by cases o <;> rfl
@[simp] theorem isRl_so {o : Option D} : isRl (so o) = false := by cases o <;> rfl
@[simp] theorem isRl_un : isRl .un = false := (rfl)
@[simp] theorem isRl_val {d : D} : isRl (.val d) = false := (rfl)
@[simp] theorem isRl_ow {d : D} : isRl (.ow d) = false := (rfl)
theorem nrl_of {s : Sl} (h : ∀ c, s ≠ Sl.rl c) : isRl s = false := by cases s <;> first | rfl | exact absurd rfl (h _)
@[simp ↓] theorem w_put1' {ρ : List Sl} {S : List D} {i : Nat} {d : D} {P : Unit → Ms → Prop} {E : Ex → Ms → Prop} {t : Tg2 P E} : Wp (put1 i d ⟨ρ, S⟩) P E t = (match ρ[i]? with
  | some s => if isRl s = true then False else P () ⟨ρ.set i (.val d), S⟩
  | none => False) := by
  rw [w_put1]
  show Wp (match ρ[i]? with | some (.rl _) => .bad | some _ => .ok () _ | none => .bad) P E t = _
  cases ρ[i]? with
  | none => rw [Wp_bad]
  | some s => cases s <;> simp [isRl]
@[simp ↓] theorem w_putOw' {ρ : List Sl} {S : List D} {i : Nat} {d : D} {P : Unit → Ms → Prop} {E : Ex → Ms → Prop} {t : Tg2 P E} : Wp (putOw i d ⟨ρ, S⟩) P E t = (match ρ[i]? with
  | some s => if isRl s = true then False else P () ⟨ρ.set i (.ow d), S⟩
  | none => False) := by
  rw [w_putOw]
  show Wp (match ρ[i]? with | some (.rl _) => .bad | some _ => .ok () _ | none => .bad) P E t = _
  cases ρ[i]? with
  | none => rw [Wp_bad]
  | some s => cases s <;> simp [isRl]
def plSl : Sl → Bool
  | .ow _ => false
  | .rl _ => false
  | _ => true
@[simp] theorem plSl_sv {o : Option D} : plSl (sv o) = true := by cases o <;> rfl
@[simp] theorem plSl_val {d : D} : plSl (.val d) = true := (rfl)
@[simp] theorem plSl_un : plSl .un = true := (rfl)
theorem plainS' {ρ : List Sl} {i : Nat} : plainS ρ i = (match ρ[i]? with | some s => plSl s | none => false) := by
  unfold plainS
  cases ρ[i]? with
  | none => rfl
  | some s => cases s <;> rfl
@[simp ↓] theorem w_putAll_nil {P : Unit → Ms → Prop} {t : Tg2 P E} : Wp (putAll [] [] m) P E t = P () m := by rw [putAll, Wp_ok]
@[simp ↓] theorem w_putAll_cons {i : Nat} {is : List Nat} {d : D} {ds : List D} {P : Unit → Ms → Prop} {t : Tg2 P E} : Wp (putAll (i :: is) (d :: ds) m) P E t = Wp (put1 i d m) (fun _ m => Wp (putAll is ds m) P E t) E ⟨()⟩ := by rw [putAll, Wp_bind]
@[simp ↓] theorem w_bind_n {i : Nat} {d : D} {P : Unit → Ms → Prop} {t : Tg2 P E} : Wp (bindTg (.n i) d m) P E t = Wp (put1 i d m) P E t := (rfl)
@[simp ↓] theorem w_bind_t {is : List Nat} {ds : List D} {P : Unit → Ms → Prop} {t : Tg2 P E} : Wp (bindTg (.t is) (.tup ds) m) P E t = Wp (ifP (is.length = ds.length) (putAll is ds m)) P E t := (rfl)
@[simp ↓] theorem w_bind_tl {is : List Nat} {ds : List D} {P : Unit → Ms → Prop} {t : Tg2 P E} : Wp (bindTg (.t is) (.lst ds) m) P E t = Wp (ifP (is.length = ds.length) (putAll is ds m)) P E t := (rfl)
@[simp ↓] theorem w_popM {h : HV} {P : D → Ms → Prop} {t : Tg2 P E} : Wp (popM h m) P E t = Wp (match rd h m with
  | some (.lst xs) => match xs.getLast? with
    | some d => (wr h (.lst xs.dropLast) m).bind fun _ m => .ok d m
    | none => .bad
  | _ => .bad) P E t := (rfl)
@[simp ↓] theorem w_popiM {h : HV} {k : Int} {P : D → Ms → Prop} {t : Tg2 P E} : Wp (popiM h (.int k) m) P E t = Wp (match rd h m with
  | some (.lst xs) => ifP (0 ≤ k ∧ k < 1000000) (match xs[k.toNat]? with
    | some d => (wr h (.lst (xs.eraseIdx k.toNat)) m).bind fun _ m => .ok d m
    | none => .bad)
  | _ => .bad) P E t := by
  unfold popiM
  cases rd h m with
  | none => rfl
  | some c => cases c <;> rfl
@[simp ↓] theorem w_ixM {h : HV} {k : Int} {P : D → Ms → Prop} {t : Tg2 P E} : Wp (ixM h (.int k) m) P E t = Wp (match rd h m with
  | some (.lst xs) => match intsD xs with
    | some l => match l.findIdx? (· == k) with
      | some j => .ok (.int (j : Nat)) m
      | none => .bad
    | none => .bad
  | _ => .bad) P E t := by
  unfold ixM
  cases rd h m with
  | none => rfl
  | some c => cases c <;> rfl
@[simp ↓] theorem w_appM {h : HV} {d : D} {P : D → Ms → Prop} {t : Tg2 P E} : Wp (appM h d m) P E t = Wp (match rd h m with
  | some (.lst xs) => ifP (xs.length < sizeLine) ((wr h (.lst (xs ++ [d])) m).bind fun _ m => .ok .non m)
  | _ => .bad) P E t := (rfl)
@[simp ↓] theorem w_extM {h g : HV} {P : D → Ms → Prop} {t : Tg2 P E} : Wp (extM h g m) P E t = Wp (match rd h m, (rd g m).bind seqOf with
  | some (.lst xs), some ys => ifP (xs.length + ys.length ≤ sizeLine) ((wr h (.lst (xs ++ ys)) m).bind fun _ m => .ok .non m)
  | _, _ => .bad) P E t := (rfl)
@[simp ↓] theorem w_inM {n : Bool} {x : D} {h : HV} {P : Bool → Ms → Prop} {t : Tg2 P E} : Wp (inM n x h m) P E t = Wp ((opt ((rd h m).bind (innD x)) m).bind fun b m => .ok (if n then !b else b) m) P E t := (rfl)
@[simp ↓] theorem w_lenM {h : HV} {P : D → Ms → Prop} {t : Tg2 P E} : Wp (lenM h m) P E t = Wp ((opt ((rd h m).bind lenD) m).bind fun n m => .ok (.int n) m) P E t := (rfl)
@[simp ↓] theorem w_idxM {h : HV} {x : D} {P : D → Ms → Prop} {t : Tg2 P E} : Wp (idxM h x m) P E t = Wp (opt ((rd h m).bind (idxD · x)) m) P E t := (rfl)
@[simp ↓] theorem w_slcM {h : HV} {l k : Option Int} {P : D → Ms → Prop} {t : Tg2 P E} : Wp (slcM h l k m) P E t = Wp (opt ((rd h m).bind (slcD · l k)) m) P E t := (rfl)
@[simp ↓] theorem w_agM {f : Ag} {h : HV} {P : D → Ms → Prop} {t : Tg2 P E} : Wp (agM f h m) P E t = Wp (opt ((rd h m).bind (agD f)) m) P E t := (rfl)
@[simp ↓] theorem w_tupM {h : HV} {P : D → Ms → Prop} {t : Tg2 P E} : Wp (tupM h m) P E t = Wp ((opt ((rd h m).bind seqOf) m).bind fun xs m => .ok (.tup xs) m) P E t := (rfl)
@[simp ↓] theorem w_lstM {h : HV} {P : D → Ms → Prop} {t : Tg2 P E} : Wp (lstM h m) P E t = Wp ((opt ((rd h m).bind keysOf) m).bind fun xs m => .ok (.lst xs) m) P E t := (rfl)
@[simp ↓] theorem w_truM {h : HV} {P : Bool → Ms → Prop} {t : Tg2 P E} : Wp (truM h m) P E t = Wp (opt ((rd h m).bind truth) m) P E t := (rfl)
@[simp ↓] theorem w_catM {h g : HV} {P : D → Ms → Prop} {t : Tg2 P E} : Wp (catM h g m) P E t = Wp (match rd h m, rd g m with
  | some (.lst xs), some (.lst ys) => ifP (xs.length + ys.length ≤ sizeLine) (.ok (.lst (xs ++ ys)) m)
  | _, _ => .bad) P E t := (rfl)
@[simp ↓] theorem w_revM {h : HV} {P : D → Ms → Prop} {t : Tg2 P E} : Wp (revM h m) P E t = Wp (opt ((rd h m).bind revD) m) P E t := (rfl)
@[simp ↓] theorem w_slcFM {h : HV} {l k : Option Int} {P : D → Ms → Prop} {t : Tg2 P E} : Wp (slcFM h l k m) P E t = Wp (match rd h m with
  | some (.lst xs) => .ok (.lst (slcL xs l k)) m
  | _ => .bad) P E t := (rfl)
@[simp ↓] theorem w_setM {h : HV} {k d : D} {P : Unit → Ms → Prop} {t : Tg2 P E} : Wp (setM h k d m) P E t = Wp (match rd h m, k with
  | some (.lst xs), .int k => ifP (0 ≤ k ∧ k < xs.length) (wr h (.lst (xs.set k.toNat d)) m)
  | _, _ => .bad) P E t := (rfl)
@[simp ↓] theorem w_blM {b : Bool} {P : D → Ms → Prop} {t : Tg2 P E} : Wp (blM b m) P E t = P (.bl b) m := by unfold blM; rw [Wp_ok]
@[simp ↓] theorem w_isiM {x : D} {ty : Ty} {P : D → Ms → Prop} {t : Tg2 P E} : Wp (isiM x ty m) P E t = (isLoc x = false ∧ P (.bl (isiD x ty)) m) := by
  unfold isiM
  cases h : isLoc x with
  | true => rw [if_pos rfl, Wp_bad]; exact propext ⟨fun k => k.elim, fun k => by cases k.1⟩
  | false => rw [if_neg Bool.false_ne_true, Wp_ok]; exact propext ⟨fun k => ⟨rfl, k⟩, fun k => k.2⟩
@[simp ↓] theorem w_islM {x : D} {ty : Ty} {P : D → Ms → Prop} {t : Tg2 P E} : Wp (islM x ty m) P E t = Wp (opt ((rd (.val x) m).bind (islD ty)) m) P E t := (rfl)
@[simp ↓] theorem w_walkM {h : HV} {P : Wk → Ms → Prop} {t : Tg2 P E} : Wp (walkM h m) P E t = Wp (if isLocH h then .bad else (opt ((rd h m).bind itemsOf) m).bind fun xs m => .ok ⟨xs, h⟩ m) P E t := (rfl)
@[simp ↓] theorem w_enumM {h : HV} {P : Wk → Ms → Prop} {t : Tg2 P E} : Wp (enumM h m) P E t = Wp (if isLocH h then .bad else (opt ((rd h m).bind seqOf) m).bind fun xs m => .ok ⟨enumL 0 xs, h⟩ m) P E t := (rfl)
@[simp ↓] theorem w_zipM {h g : HV} {P : Wk → Ms → Prop} {t : Tg2 P E} : Wp (zipM h g m) P E t = Wp (if isValH h && isValH g then (opt ((rd h m).bind seqOf) m).bind fun xs m => (opt ((rd g m).bind seqOf) m).bind fun ys m => .ok ⟨zipL xs ys, .val .non⟩ m else .bad) P E t := (rfl)
@[simp ↓] theorem w_rng1M {j : Int} {P : Wk → Ms → Prop} {t : Tg2 P E} : Wp (rng1M (.int j) m) P E t = ((-(2 ^ 62) ≤ j ∧ j < 2 ^ 62) ∧ P ⟨rng 0 j.toNat, .val .non⟩ m) := by
  show Wp (ifP (-(2 ^ 62) ≤ j ∧ j < 2 ^ 62) (.ok ⟨rng 0 j.toNat, .val .non⟩ m)) P E t = _
  rw [Wp_ifP, Wp_ok]
@[simp] theorem isT_nil : isT [] = false := (rfl)
@[simp ↓] theorem w_lendM {h : HV} {P : D → Ms → Prop} {t : Tg2 P E} : Wp (lendM h m) P E t = Wp (match rd h m with
  | some (.dic kvs) => ifP (isT kvs = false) (.ok (.int kvs.length) m)
  | _ => .bad) P E t := (rfl)
@[simp ↓] theorem w_dptM {j : Nat} {ks : List D} {d : D} {ρ : List Sl} {S : List D} {P : Unit → Ms → Prop} {t : Tg2 P E} : Wp (dptM (.sl j) ks d ⟨ρ, S⟩) P E t = Wp (match ρ[j]? with
  | some (.ow (.dic ((.non, .non) :: kvs))) => match intsD ks with
    | some is => ifP (kvs.length < sizeLine ∧ is.length ≤ 1000) (.ok () ⟨ρ.set j (.ow (.dic ((.non, .non) :: putKD kvs (.tup (is.map D.int)) d))), S⟩)
    | none => .bad
  | _ => .bad) P E t := (rfl)
@[simp ↓] theorem w_srttM {h : HV} {P : D → Ms → Prop} {t : Tg2 P E} : Wp (srttM h m) P E t = Wp (match rd h m with
  | some (.dic ((.non, .non) :: kvs)) => ifP (sortOk (kvs.map (·.1)) = true) (.ok (.lst (sortL (kvs.map (·.1)))) m)
  | _ => .bad) P E t := (rfl)
@[simp ↓] theorem w_sdcM {ds : List D} {P : D → Ms → Prop} {t : Tg2 P E} : Wp (sdcM ds m) P E t = Wp (match intsD ds with
  | some is => ifP (ds.length ≤ sizeLine ∧ (ddI is).length < 64) (.ok (.lst ((sortI (ddI is)).map D.int)) m)
  | none => .bad) P E t := (rfl)
@[simp ↓] theorem w_srtdM {h : HV} {P : D → Ms → Prop} {t : Tg2 P E} : Wp (srtdM h m) P E t = Wp (match rd h m with
  | some (.dic kvs) => match keysI kvs with
    | some ks => ifP (ks.length < 64) (.ok (.lst ((sortI ks).map D.int)) m)
    | none => .bad
  | _ => .bad) P E t := (rfl)
@[simp ↓] theorem w_dputM {j : Nat} {i : Int} {d : D} {ρ : List Sl} {S : List D} {P : Unit → Ms → Prop} {t : Tg2 P E} : Wp (dputM (.sl j) (.int i) d ⟨ρ, S⟩) P E t = Wp (match ρ[j]? with
  | some (.ow (.dic kvs)) => ifP (kvs.length < sizeLine ∧ isT kvs = false) (.ok () ⟨ρ.set j (.ow (.dic (putKD kvs (.int i) d))), S⟩)
  | _ => .bad) P E t := (rfl)
@[simp ↓] theorem w_rngdM {i j : Int} {P : Wk → Ms → Prop} {t : Tg2 P E} : Wp (rngdM (.int i) (.int j) m) P E t = ((-(2 ^ 62) ≤ i ∧ i < 2 ^ 62 ∧ -(2 ^ 62) ≤ j ∧ j < 2 ^ 62) ∧ P ⟨rngd i (i - j).toNat, .val .non⟩ m) := by
  show Wp (ifP (-(2 ^ 62) ≤ i ∧ i < 2 ^ 62 ∧ -(2 ^ 62) ≤ j ∧ j < 2 ^ 62) (.ok ⟨rngd i (i - j).toNat, .val .non⟩ m)) P E t = _
  rw [Wp_ifP, Wp_ok]
@[simp ↓] theorem w_lrgM {j : Int} {P : D → Ms → Prop} {t : Tg2 P E} : Wp (lrgM (.int j) m) P E t = ((-(2 ^ 62) ≤ j ∧ j < 1000000) ∧ P (.lst (rng 0 j.toNat)) m) := by
  show Wp (ifP (-(2 ^ 62) ≤ j ∧ j < 1000000) (.ok (.lst (rng 0 j.toNat)) m)) P E t = _
  rw [Wp_ifP, Wp_ok]
@[simp ↓] theorem w_trgM {j : Int} {P : D → Ms → Prop} {t : Tg2 P E} : Wp (trgM (.int j) m) P E t = ((-(2 ^ 62) ≤ j ∧ j < 1000000) ∧ P (.tup (rng 0 j.toNat)) m) := by
  show Wp (ifP (-(2 ^ 62) ≤ j ∧ j < 1000000) (.ok (.tup (rng 0 j.toNat)) m)) P E t = _
  rw [Wp_ifP, Wp_ok]
@[simp ↓] theorem w_lrg2M {i j : Int} {P : D → Ms → Prop} {t : Tg2 P E} : Wp (lrg2M (.int i) (.int j) m) P E t = ((-(2 ^ 62) ≤ i ∧ i < 2 ^ 62 ∧ -(2 ^ 62) ≤ j ∧ j < 2 ^ 62 ∧ (j - i).toNat < 1000000) ∧ P (.lst (rng i (j - i).toNat)) m) := by
  show Wp (ifP (-(2 ^ 62) ≤ i ∧ i < 2 ^ 62 ∧ -(2 ^ 62) ≤ j ∧ j < 2 ^ 62 ∧ (j - i).toNat < 1000000) (.ok (.lst (rng i (j - i).toNat)) m)) P E t = _
  rw [Wp_ifP, Wp_ok]
@[simp ↓] theorem w_srtM {h : HV} {P : D → Ms → Prop} {t : Tg2 P E} : Wp (srtM h m) P E t = Wp (match (rd h m).bind keysLD with
  | some xs => ifP (sortOk xs = true) (.ok (.lst (sortL xs)) m)
  | none => .bad) P E t := (rfl)
@[simp ↓] theorem w_srtEM {h : HV} {P : D → Ms → Prop} {t : Tg2 P E} : Wp (srtEM h m) P E t = Wp (match rd h m with
  | some (.lst xs) => ifP (sortE xs = true) (.ok (.lst (sortL xs)) m)
  | _ => .bad) P E t := (rfl)
/-- o where b holds -/
def ifO {α : Type} (b : Bool) (o : Option α) : Option α := if b then o else none
@[simp ↓] theorem w_optO {α : Type} {b : Bool} {o : Option α} {P : α → Ms → Prop} {t : Tg2 P E} : Wp (opt (ifO b o) m) P E t = (b = true ∧ Wp (opt o m) P E t) := by
  cases b with
  | true => exact propext ⟨fun h => ⟨rfl, h⟩, fun h => h.2⟩
  | false => rw [show opt (ifO false o) m = .bad from rfl, Wp_bad]; exact propext ⟨fun h => h.elim, fun h => by cases h.1⟩
@[simp ↓] theorem w_udcM {ps : List D} {P : D → Ms → Prop} {t : Tg2 P E} : Wp (udcM ps m) P E t = Wp (match ps.foldl udStep (some []) with
  | some kvs => .ok (uD kvs) m
  | none => .bad) P E t := by
  rw [udcM_eq]
  cases ps.foldl udStep (some []) <;> rfl
@[simp ↓] theorem w_uputM {h : HV} {k d : D} {P : Unit → Ms → Prop} {t : Tg2 P E} : Wp (uputM h k d m) P E t = Wp (match rd h m with
  | some (.dic ((.non, .bl true) :: kvs)) => ifP ((uok k && sameK kvs k && decide (kvs.length < 1000000)) = true) (wrU h (uD (putKD kvs k d)) m)
  | _ => .bad) P E t := (rfl)
@[simp ↓] theorem w_wrU_loc {n : Nat} {c : D} {P : Unit → Ms → Prop} {t : Tg2 P E} : Wp (wrU (.val (.loc n)) c m) P E t = (n < m.S.length ∧ P () { m with S := m.S.set n c }) := by
  show Wp (ifP (n < m.S.length) (.ok () _)) P E t = _
  rw [Wp_ifP, Wp_ok]
@[simp ↓] theorem w_wrU_sl {i : Nat} {c : D} {P : Unit → Ms → Prop} {t : Tg2 P E} : Wp (wrU (.sl i) c m) P E t = Wp (match m.ρ[i]? with
  | some (.ow _) => .ok () { m with ρ := m.ρ.set i (.ow c) }
  | _ => .bad) P E t := (rfl)
@[simp ↓] theorem w_rng2M {i j : Int} {P : Wk → Ms → Prop} {t : Tg2 P E} : Wp (rng2M (.int i) (.int j) m) P E t = ((-(2 ^ 62) ≤ i ∧ i < 2 ^ 62 ∧ -(2 ^ 62) ≤ j ∧ j < 2 ^ 62) ∧ P ⟨rng i (j - i).toNat, .val .non⟩ m) := by
  show Wp (ifP (-(2 ^ 62) ≤ i ∧ i < 2 ^ 62 ∧ -(2 ^ 62) ≤ j ∧ j < 2 ^ 62) (.ok ⟨rng i (j - i).toNat, .val .non⟩ m)) P E t = _
  rw [Wp_ifP, Wp_ok]
end
/-! ### values -/
section
variable {i j : Int} {xs ys : List D} {a b : D}
@[simp] theorem isLoc_dic {kvs : List (D × D)} : isLoc (.dic kvs) = true := (rfl)
@[simp] theorem isLoc_non : isLoc .non = false := (rfl)
@[simp] theorem isLoc_bl {k : Bool} : isLoc (.bl k) = false := (rfl)
@[simp] theorem isLoc_int : isLoc (.int i) = false := (rfl)
@[simp] theorem isLoc_str {s : Str} : isLoc (.str s) = false := (rfl)
@[simp] theorem isLoc_tup : isLoc (.tup xs) = false := (rfl)
@[simp] theorem isLoc_lst : isLoc (.lst xs) = false := (rfl)
@[simp] theorem bin_add : binD .Add (.int i) (.int j) = some (.int (i + j)) := (rfl)
@[simp] theorem bin_sub : binD .Sub (.int i) (.int j) = some (.int (i - j)) := (rfl)
@[simp] theorem bin_mul : binD .Mult (.int i) (.int j) = if (-(2 ^ 64) < i ∧ i < 2 ^ 64) ∨ (-(2 ^ 64) < j ∧ j < 2 ^ 64) then some (.int (i * j)) else none := (rfl)
@[simp] theorem bin_div : binD .FloorDiv (.int i) (.int j) = if 0 < j ∧ j < 1073741824 then some (.int (i / j)) else none := (rfl)
@[simp] theorem bin_mod : binD .Mod (.int i) (.int j) = if 0 < j then some (.int (i % j)) else none := (rfl)
@[simp] theorem bin_pow : binD .Pow (.int i) (.int j) = if 0 ≤ j ∧ j ≤ 1000000 ∧ i.natAbs < 2 ^ 64 then some (.int (i ^ j.toNat)) else none := (rfl)
@[simp] theorem bin_addT : binD .Add (.tup xs) (.tup ys) = if xs.length + ys.length ≤ sizeLine then some (.tup (xs ++ ys)) else none := (rfl)
@[simp] theorem bin_addL : binD .Add (.lst xs) (.lst ys) = if xs.length + ys.length ≤ sizeLine then some (.lst (xs ++ ys)) else none := (rfl)
@[simp] theorem bin_mulT : binD .Mult (.tup xs) (.int j) = if 0 ≤ j ∧ j ≤ 1000 ∧ xs.length ≤ 1000 ∧ !xs.isEmpty then some (.tup (List.replicate j.toNat xs).flatten) else none := (rfl)
@[simp] theorem cmp_lt : cmpD .Lt (.int i) (.int j) = some (.bl (decide (i < j))) := (rfl)
@[simp] theorem cmp_le : cmpD .LtE (.int i) (.int j) = some (.bl (decide (i ≤ j))) := (rfl)
@[simp] theorem cmp_gt : cmpD .Gt (.int i) (.int j) = some (.bl (decide (j < i))) := (rfl)
@[simp] theorem cmp_ge : cmpD .GtE (.int i) (.int j) = some (.bl (decide (j ≤ i))) := (rfl)
@[simp] theorem cmp_eq : cmpD .Eq a b = if okEq a b then some (.bl (D.eqv a b)) else none := by cases a <;> exact (rfl)
@[simp] theorem cmp_ne : cmpD .NotEq a b = if okEq a b then some (.bl (!D.eqv a b)) else none := by cases a <;> exact (rfl)
@[simp] theorem cmp_isN : cmpD .Is a .non = some (.bl (decide (a = .non))) := by cases a <;> exact (rfl)
@[simp] theorem cmp_isnN : cmpD .IsNot a .non = some (.bl (!decide (a = .non))) := by cases a <;> exact (rfl)
@[simp] theorem cmp_isB {k l : Bool} : cmpD .Is (.bl k) (.bl l) = some (.bl (decide (k = l))) := (rfl)
@[simp] theorem cmp_isnB {k l : Bool} : cmpD .IsNot (.bl k) (.bl l) = some (.bl (!decide (k = l))) := (rfl)
@[simp] theorem okEq_ii : okEq (.int i) (.int j) = true := (rfl)
@[simp] theorem eqv_ii : D.eqv (.int i) (.int j) = (i == j) := by rw [D.eqv]
@[simp] theorem okEq_bb {k l : Bool} : okEq (.bl k) (.bl l) = true := (rfl)
@[simp] theorem eqv_bb {k l : Bool} : D.eqv (.bl k) (.bl l) = (k == l) := by rw [D.eqv]
@[simp] theorem eqv_ss {k l : Str} : D.eqv (.str k) (.str l) = (k == l) := by rw [D.eqv]
@[simp] theorem len_tup : lenD (.tup xs) = some (xs.length : Int) := (rfl)
@[simp] theorem len_lst : lenD (.lst xs) = some (xs.length : Int) := (rfl)
@[simp] theorem idx_tup : idxD (.tup xs) (.int i) = atL xs i := (rfl)
@[simp] theorem idx_lst : idxD (.lst xs) (.int i) = atL xs i := (rfl)
@[simp] theorem idx_dic {kvs : List (D × D)} {k : D} : idxD (.dic ((.non, .bl true) :: kvs)) k = ifO (uok k && sameK kvs k) (uAt kvs k) := by cases k <;> rfl
@[simp] theorem inn_dic {kvs : List (D × D)} {k : D} : innD k (.dic ((.non, .bl true) :: kvs)) = ifO (uok k && sameK kvs k) (some (uHas kvs k)) := (rfl)
@[simp] theorem len_dic {kvs : List (D × D)} : lenD (.dic ((.non, .bl true) :: kvs)) = some (kvs.length : Int) := (rfl)
@[simp] theorem keysOf_tup : keysOf (.tup xs) = some xs := (rfl)
@[simp] theorem keysOf_lst : keysOf (.lst xs) = some xs := (rfl)
@[simp] theorem keysOf_dic {kvs : List (D × D)} : keysOf (.dic ((.non, .bl true) :: kvs)) = some (kvs.map (·.1)) := (rfl)
@[simp] theorem keysLD_lst : keysLD (.lst xs) = some xs := (rfl)
@[simp] theorem keysLD_dic {kvs : List (D × D)} : keysLD (.dic ((.non, .bl true) :: kvs)) = some (kvs.map (·.1)) := (rfl)
@[simp] theorem rev_tup {xs : List D} : revD (.tup xs) = some (.tup xs.reverse) := (rfl)
@[simp] theorem rev_lst {xs : List D} : revD (.lst xs) = some (.lst xs.reverse) := (rfl)
@[simp] theorem cmp_ltT {xs ys : List D} : cmpD .Lt (.tup xs) (.tup ys) = if ltOk (.tup xs) (.tup ys) = true then some (.bl (ltD (.tup xs) (.tup ys))) else none := (rfl)
@[simp] theorem slc_tup {l k : Option Int} : slcD (.tup xs) l k = some (.tup (slcL xs l k)) := (rfl)
@[simp] theorem slc_lst {l k : Option Int} : slcD (.lst xs) l k = some (.lst (slcL xs l k)) := (rfl)
@[simp] theorem seqOf_tup : seqOf (.tup xs) = some xs := (rfl)
@[simp] theorem seqOf_lst : seqOf (.lst xs) = some xs := (rfl)
@[simp] theorem itemsOf_tup : itemsOf (.tup xs) = some xs := (rfl)
@[simp] theorem itemsOf_lst : itemsOf (.lst xs) = some xs := (rfl)
@[simp] theorem truth_bl {k : Bool} : truth (.bl k) = some k := (rfl)
@[simp] theorem truth_int : truth (.int i) = some (i != 0) := (rfl)
@[simp] theorem truth_tup : truth (.tup xs) = some (!xs.isEmpty) := (rfl)
@[simp] theorem truth_lst : truth (.lst xs) = some (!xs.isEmpty) := (rfl)
@[simp] theorem truth_non : truth .non = some false := (rfl)
@[simp] theorem b1_abs : b1D .abs (.int i) = some (.int (if i < 0 then -i else i)) := (rfl)
@[simp] theorem b1_int : b1D .int (.int i) = some (.int i) := (rfl)
@[simp] theorem b1_intb {k : Bool} : b1D .int (.bl k) = some (.int (if k then 1 else 0)) := (rfl)
@[simp] theorem b2_ii {mx : Bool} : b2D mx (.int i) (.int j) = some (.int (if mx then (if j > i then j else i) else (if j < i then j else i))) := (rfl)
@[simp] theorem isi_int : isiD (.int i) .int = true := (rfl)
@[simp] theorem isLocH_val {d : D} (h : isLoc d = false) : isLocH (.val d) = false := by cases d <;> first | rfl | cases h
@[simp] theorem isLocH_sl {n : Nat} : isLocH (.sl n) = false := (rfl)
@[simp] theorem Wk_lock_val {xs : List D} {d : D} {m : Ms} : Wk.lock ⟨xs, .val d⟩ m = m := (rfl)
@[simp] theorem Wk_unlock_val {xs : List D} {d : D} {m : Ms} {ρ : List Sl} : Wk.unlock ⟨xs, .val d⟩ ρ m = m := (rfl)
@[simp] theorem lockR_val' {ρ : List Sl} {d : D} : lockR ρ (.val d) = ρ := (rfl)
end
@[simp] theorem le_size {k : Nat} (h : k ≤ 1000) : (k ≤ sizeLine) = True := propext ⟨fun _ => trivial, fun _ => by have := small1000 h; omega⟩
@[simp] theorem lt_size {k : Nat} (h : k ≤ 1000) : (k < sizeLine) = True := propext ⟨fun _ => trivial, fun _ => small1000 h⟩
theorem atL_nat {xs : List D} {i : Int} (h : 0 ≤ i) : atL xs i = xs[i.toNat]? := by
  unfold atL L2.atI L2.ixN
  rw [if_pos h]
  by_cases k : i < xs.length
  · rw [if_pos k]; rfl
  · rw [if_neg k]
    exact (List.getElem?_eq_none (by omega)).symm
@[simp] theorem at_0 {x : D} {xs : List D} : atL (x :: xs) 0 = some x := by rw [atL_nat (by omega)]; rfl
@[simp] theorem at_1 {x y : D} {xs : List D} : atL (x :: y :: xs) 1 = some y := by rw [atL_nat (by omega)]; rfl
@[simp] theorem at_2 {x y z : D} {xs : List D} : atL (x :: y :: z :: xs) 2 = some z := by rw [atL_nat (by omega)]; rfl
@[simp] theorem at_3 {x y z w : D} {xs : List D} : atL (x :: y :: z :: w :: xs) 3 = some w := by rw [atL_nat (by omega)]; rfl
theorem sIx_n {n d : Nat} {i : Int} (h : 0 ≤ i) : HT.sIx n d (some i) = min i.toNat n := by
  obtain ⟨k, rfl⟩ := Int.eq_ofNat_of_zero_le h
  exact HT.sIx_nat n d k
theorem slc_from {xs : List D} {i : Int} (h : 0 ≤ i) : slcL xs (some i) none = xs.drop i.toNat := by
  unfold slcL
  rw [sIx_n h, HT.sIx_none]
  rcases Nat.le_total i.toNat xs.length with k | k
  · rw [Nat.min_eq_left k]
    exact List.take_of_length_le (by rw [List.length_drop]; exact Nat.le_refl _)
  · rw [Nat.min_eq_right k, List.drop_length, List.drop_eq_nil_iff.mpr k]
    simp
theorem slc_to {xs : List D} {i : Int} (h : 0 ≤ i) : slcL xs none (some i) = xs.take i.toNat := by
  unfold slcL
  rw [sIx_n h, HT.sIx_none, List.drop_zero, Nat.sub_zero]
  rcases Nat.le_total i.toNat xs.length with k | k
  · rw [Nat.min_eq_left k]
  · rw [Nat.min_eq_right k, List.take_length, List.take_of_length_le k]
@[simp] theorem slc_1 {xs : List D} : slcL xs (some 1) none = xs.drop 1 := slc_from (by omega)
@[simp] theorem slc_t1 {xs : List D} : slcL xs none (some 1) = xs.take 1 := slc_to (by omega)
end Ev

set_option Elab.async false
set_option linter.all false
set_option maxRecDepth 100000
set_option autoImplicit false
set_option maxHeartbeats 1000000
/-! Lw3: loops as folds. -/
namespace Ev
open PySem L2
/-- a loop whose state is told by s (folded by F over the items) and x (whatever else) -/
theorem forL_fold {α σ τ : Type} {bd : D → Ms → R Unit} {body : Ms → R Fl} {E : Ex → Ms → Prop} {P : Fl → Ms → Prop} {t : Tg2 P E} (L : List α) (f : α → D) (M : σ → τ → Ms) (F : σ → α → σ) {s0 : σ} {x0 : τ}
    (step : ∀ (done rest : List α) (a : α) (x : τ), L = done ++ a :: rest → ∀ {K : Fl → Ms → Prop} {E : Ex → Ms → Prop} {t : Tg2 K E}, (∀ x', K .nx (M (F (done.foldl F s0) a) x')) → Wp (bd (f a) (M (done.foldl F s0) x)) (fun _ m => Wp (body m) K E t) E ⟨()⟩)
    (hP : ∀ x, P .nx (M (L.foldl F s0) x)) : Wp (forL bd body (L.map f) (M s0 x0)) P E t := by
  refine forL_wp (fun r m => ∃ done rest x, L = done ++ rest ∧ r = rest.map f ∧ m = M (done.foldl F s0) x) ?_ ?_ _ _ ⟨[], L, x0, rfl, rfl, rfl⟩
  · rintro d r m ⟨done, rest, x, e, hr, rfl⟩
    cases rest with
    | nil => cases hr
    | cons a rest =>
      obtain ⟨rfl, rfl⟩ := List.cons.inj hr
      refine step done rest a x e fun x' => ?_
      exact ⟨done ++ [a], rest, x', by rw [e]; simp, rfl, by rw [List.foldl_append]; rfl⟩
  · rintro m ⟨done, rest, x, e, hr, rfl⟩
    have : rest = [] := by
      cases rest with
      | nil => rfl
      | cons _ _ => cases hr
    subst this
    rw [List.append_nil] at e
    rw [← e]
    exact hP x
/-- the same, with something that may be raised -/
theorem forL_foldE {α σ τ : Type} {bd : D → Ms → R Unit} {body : Ms → R Fl} {E : Ex → Ms → Prop} {P : Fl → Ms → Prop} {t : Tg2 P E} (L : List α) (f : α → D) (M : σ → τ → Ms) (I : List α → σ → Prop) {s0 : σ} {x0 : τ} (h0 : I [] s0)
    (step : ∀ (done rest : List α) (a : α) (s : σ) (x : τ), L = done ++ a :: rest → I done s → ∀ {K : Fl → Ms → Prop} {t : Tg2 K E}, (∀ s' x', I (done ++ [a]) s' → K .nx (M s' x')) → (∀ d m, P (.rt d) m → K (.rt d) m) → Wp (bd (f a) (M s x)) (fun _ m => Wp (body m) K E t) E ⟨()⟩)
    (hP : ∀ s x, I L s → P .nx (M s x)) : Wp (forL bd body (L.map f) (M s0 x0)) P E t := by
  refine forL_wp (fun r m => ∃ done rest s x, L = done ++ rest ∧ r = rest.map f ∧ I done s ∧ m = M s x) ?_ ?_ _ _ ⟨[], L, s0, x0, rfl, rfl, h0, rfl⟩
  · rintro d r m ⟨done, rest, s, x, e, hr, hI, rfl⟩
    cases rest with
    | nil => cases hr
    | cons a rest =>
      obtain ⟨rfl, rfl⟩ := List.cons.inj hr
      refine step done rest a s x e hI (fun s' x' h' => ?_) fun d m h => h
      exact ⟨done ++ [a], rest, s', x', by rw [e]; simp, rfl, h', rfl⟩
  · rintro m ⟨done, rest, s, x, e, hr, hI, rfl⟩
    have : rest = [] := by
      cases rest with
      | nil => rfl
      | cons _ _ => cases hr
    subst this
    rw [List.append_nil] at e
    subst e
    exact hP s x hI
/-- the same, with something that is so at each turn; some turns may leave the loop's def -/
theorem forL_foldI {α σ τ : Type} {bd : D → Ms → R Unit} {body : Ms → R Fl} {E : Ex → Ms → Prop} {P : Fl → Ms → Prop} {t : Tg2 P E} (L : List α) (f : α → D) (M : σ → τ → Ms) (I : List α → σ → Prop) {s0 : σ} {x0 : τ} (h0 : I [] s0)
    (step : ∀ (done rest : List α) (a : α) (s : σ) (x : τ), L = done ++ a :: rest → I done s → ∀ {K : Fl → Ms → Prop} {E : Ex → Ms → Prop} {t : Tg2 K E}, (∀ s' x', I (done ++ [a]) s' → K .nx (M s' x')) → (∀ d m, P (.rt d) m → K (.rt d) m) → Wp (bd (f a) (M s x)) (fun _ m => Wp (body m) K E t) E ⟨()⟩)
    (hP : ∀ s x, I L s → P .nx (M s x)) : Wp (forL bd body (L.map f) (M s0 x0)) P E t := by
  refine forL_wp (fun r m => ∃ done rest s x, L = done ++ rest ∧ r = rest.map f ∧ I done s ∧ m = M s x) ?_ ?_ _ _ ⟨[], L, s0, x0, rfl, rfl, h0, rfl⟩
  · rintro d r m ⟨done, rest, s, x, e, hr, hI, rfl⟩
    cases rest with
    | nil => cases hr
    | cons a rest =>
      obtain ⟨rfl, rfl⟩ := List.cons.inj hr
      refine step done rest a s x e hI (fun s' x' h' => ?_) fun d m h => h
      exact ⟨done ++ [a], rest, s', x', by rw [e]; simp, rfl, h', rfl⟩
  · rintro m ⟨done, rest, s, x, e, hr, hI, rfl⟩
    have : rest = [] := by
      cases rest with
      | nil => rfl
      | cons _ _ => cases hr
    subst this
    rw [List.append_nil] at e
    subst e
    exact hP s x hI
@[simp] theorem rd_dic {kvs : List (D × D)} {m : Ms} : rd (.val (.dic kvs)) m = some (.dic kvs) := (rfl)
@[simp ↓] theorem sv_some {d : D} : sv (some d) = .val d := (rfl)
@[simp ↓] theorem sv_none : sv none = .un := (rfl)
@[simp ↓] theorem so_some {d : D} : so (some d) = .ow d := (rfl)
@[simp ↓] theorem so_none : so none = .un := (rfl)
@[simp ↓] theorem w_repM {xs : List D} {k : Int} {m : Ms} {P : D → Ms → Prop} {E : Ex → Ms → Prop} {t : Tg2 P E} : Wp (repM (.val (.lst xs)) (.int k) m) P E t = Wp (ifP (k ≤ 1000000 ∧ -1000000 ≤ k ∧ xs.length * k.toNat ≤ sizeLine) (.ok (.lst (List.replicate k.toNat xs).flatten) m)) P E t := (rfl)
theorem foldl_ext {α β : Type} {g : α → List β} : ∀ (L : List α) (acc : List β), L.foldl (fun acc a => acc ++ g a) acc = acc ++ L.flatMap g
  | [], acc => by simp
  | a :: L, acc => by rw [List.foldl_cons, foldl_ext L, List.flatMap_cons, List.append_assoc]
theorem w_fnil {bd : D → Ms → R Unit} {body : Ms → R Fl} {m : Ms} {E : Ex → Ms → Prop} {P : Fl → Ms → Prop} {t : Tg2 P E} : Wp (forL bd body [] m) P E t = P .nx m := by rw [forL, Wp_ok]
theorem w_fcons {bd : D → Ms → R Unit} {body : Ms → R Fl} {d : D} {r : List D} {m : Ms} {E : Ex → Ms → Prop} {P : Fl → Ms → Prop} {t : Tg2 P E} : Wp (forL bd body (d :: r) m) P E t = Wp ((bd d m).bind fun _ m => (body m).bind fun fl m => match fl with
    | .nx => forL bd body r m
    | .ct => forL bd body r m
    | .br => .ok .nx m
    | .rt d => .ok (.rt d) m
    | .ro _ => .bad) P E t := by rw [forL] <;> exact (rfl)
end Ev

set_option Elab.async false
set_option linter.all false
set_option maxRecDepth 100000
set_option autoImplicit false
set_option maxHeartbeats 4000000
namespace EvP
open PySem PySem.Spec PyProof.Rows L2 Ev
/-- is_number -/
def f1 : Df :=
  { name := "is_number", ps := ["value", "low", "high"], ns := ["value", "low", "high"], body :=
    (.cons (.ret (.and (.isi (.v 0) .int) (.and (.not (.x (.isi (.v 0) .bool))) (.one (.cm2 .LtE .LtE (.v 1) (.v 0) (.v 2))))))
    .nil) }
/-- is_arities -/
def f2 : Df :=
  { name := "is_arities", ps := ["value"], ns := ["value", "arity"], body :=
    (.cons (.ife (.or (.not (.h (.x (.isi (.v 0) .tuple)))) (.one (.not (.cm2 .LtE .LtE (.ki 1) (.len (.x (.v 0))) (.gl "MOST_SYMBOLS" (.int 4))))))
    (.cons (.ret (.kb false))
    .nil)
    .nil)
    (.cons (.ret (.ag .all (.x (.fr (.comp [1] (.n 1) (.h (.x (.v 0))) .nil (.call 1 (.cons (.v 1) (.cons (.ki 0) (.cons (.gl "MOST_ARITY" (.int 2)) .nil)))))))))
    .nil)) }
/-- is_tree -/
def f3 : Df :=
  { name := "is_tree", ps := ["arities", "value"], ns := ["arities", "value", "waiting", "many", "node"], body :=
    (.cons (.own 2 (.disp (.cons (.v 1) .nil)))
    (.cons (.set (.n 3) (.ki 0))
    (.cons (.wh (.cmp .Gt (.len (.o 2)) (.ki 0))
    (.cons (.set (.n 4) (.pop (.o 2)))
    (.cons (.set (.n 3) (.bin .Add (.v 3) (.ki 1)))
    (.cons (.ife (.or (.cmp .Gt (.v 3) (.gl "MOST_NODES" (.int 15))) (.or (.not (.h (.x (.isi (.v 4) .tuple)))) (.one (.cmp .Eq (.len (.x (.v 4))) (.ki 0)))))
    (.cons (.ret (.kb false))
    .nil)
    .nil)
    (.cons (.ife (.or (.not (.h (.x (.call 1 (.cons (.idx (.x (.v 4)) (.ki 0)) (.cons (.ki 0) (.cons (.bin .Sub (.len (.x (.v 0))) (.ki 1)) .nil))))))) (.one (.cmp .NotEq (.len (.x (.v 4))) (.bin .Add (.ki 1) (.idx (.x (.v 0)) (.idx (.x (.v 4)) (.ki 0)))))))
    (.cons (.ret (.kb false))
    .nil)
    .nil)
    (.cons (.ex (.ext (.o 2) (.x (.slc (.x (.v 4)) (.some (.ki 1)) .none))))
    .nil))))))
    (.cons (.ret (.kb true))
    .nil)))) }
/-- is_place -/
def f4 : Df :=
  { name := "is_place", ps := ["value"], ns := ["value", "step"], body :=
    (.cons (.ret (.and (.isi (.v 0) .tuple) (.and (.cmp .Lt (.len (.x (.v 0))) (.gl "MOST_NODES" (.int 15))) (.one (.ag .all (.x (.fr (.comp [1] (.n 1) (.h (.x (.v 0))) .nil (.call 1 (.cons (.v 1) (.cons (.ki 0) (.cons (.ki 1) .nil))))))))))))
    .nil) }
/-- size_of -/
def f42 : Df :=
  { name := "size_of", ps := ["tree"], ns := ["tree", "child"], body :=
    (.cons (.ret (.bin .Add (.ki 1) (.ag .sum (.x (.fr (.comp [1] (.n 1) (.h (.x (.slc (.x (.v 0)) (.some (.ki 1)) .none))) .nil (.call 42 (.cons (.v 1) .nil))))))))
    .nil) }
/-- height_of -/
def f43 : Df :=
  { name := "height_of", ps := ["tree"], ns := ["tree", "child"], body :=
    (.cons (.ret (.bin .Add (.ki 1) (.ag .max (.x (.bin .Add (.fr (.disp (.cons (.ki 0) .nil))) (.fr (.comp [1] (.n 1) (.h (.x (.slc (.x (.v 0)) (.some (.ki 1)) .none))) .nil (.call 43 (.cons (.v 1) .nil)))))))))
    .nil) }
/-- places_of -/
def f717 : Df :=
  { name := "places_of", ps := ["tree"], ns := ["tree", "found", "at", "child", "place"], body :=
    (.cons (.own 1 (.disp (.cons (.tup .nil) .nil)))
    (.cons (.fr (.t [2, 3]) (.en (.x (.slc (.x (.v 0)) (.some (.ki 1)) .none)))
    (.cons (.ex (.ext (.o 1) (.x (.fr (.comp [4] (.n 4) (.h (.x (.fr (.callF 717 (.cons (.v 3) .nil))))) .nil (.bin .Add (.tup (.cons (.v 2) .nil)) (.v 4)))))))
    .nil))
    (.cons (.reto 1)
    .nil))) }
/-- part_at -/
def f46 : Df :=
  { name := "part_at", ps := ["tree", "place"], ns := ["tree", "place", "part", "step"], body :=
    (.cons (.set (.n 2) (.v 0))
    (.cons (.fr (.n 3) (.h (.x (.v 1)))
    (.cons (.ife (.cmp .Lt (.len (.x (.v 2))) (.bin .Add (.v 3) (.ki 2)))
    (.cons (.ret .kn)
    .nil)
    .nil)
    (.cons (.set (.n 2) (.idx (.x (.v 2)) (.bin .Add (.v 3) (.ki 1))))
    .nil)))
    (.cons (.ret (.v 2))
    .nil))) }
/-- put_at -/
def f44 : Df :=
  { name := "put_at", ps := ["tree", "place", "part"], ns := ["tree", "place", "part", "at"], body :=
    (.cons (.ife (.cmp .Eq (.len (.x (.v 1))) (.ki 0))
    (.cons (.ret (.v 2))
    .nil)
    .nil)
    (.cons (.set (.n 3) (.bin .Add (.idx (.x (.v 1)) (.ki 0)) (.ki 1)))
    (.cons (.ret (.bin .Add (.bin .Add (.slc (.x (.v 0)) .none (.some (.v 3))) (.tup (.cons (.call 44 (.cons (.idx (.x (.v 0)) (.v 3)) (.cons (.slc (.x (.v 1)) (.some (.ki 1)) .none) (.cons (.v 2) .nil)))) .nil))) (.slc (.x (.v 0)) (.some (.bin .Add (.v 3) (.ki 1))) .none)))
    .nil))) }
/-- check_arities -/
def f45 : Df :=
  { name := "check_arities", ps := ["arities"], ns := ["arities"], body :=
    (.cons (.ife (.not (.h (.x (.call 2 (.cons (.v 0) .nil)))))
    .stk
    .nil)
    .nil) }
/-- check_tree -/
def f18 : Df :=
  { name := "check_tree", ps := ["arities", "tree", "name"], ns := ["arities", "tree", "name"], body :=
    (.cons (.ife (.not (.h (.x (.call 3 (.cons (.v 0) (.cons (.v 1) .nil))))))
    .stk
    .nil)
    .nil) }
/-- check_place -/
def f47 : Df :=
  { name := "check_place", ps := ["place"], ns := ["place"], body :=
    (.cons (.ife (.not (.h (.x (.call 4 (.cons (.v 0) .nil)))))
    .stk
    .nil)
    .nil) }
/-- small -/
def f48 : Df :=
  { name := "small", ps := ["tree"], ns := ["tree"], body :=
    (.cons (.ife (.cmp .Gt (.call 42 (.cons (.v 0) .nil)) (.gl "MOST_NODES" (.int 15)))
    (.cons (.raise 1 (.cons (.ks "tree") .nil)) .nil)
    .nil)
    (.cons (.ret (.v 0))
    .nil)) }
/-- sizes -/
def f74 : Df :=
  { name := "sizes", ps := ["arities", "tree"], ns := ["arities", "tree"], body :=
    (.cons (.ex (.call 45 (.cons (.v 0) .nil)))
    (.cons (.ex (.call 18 (.cons (.v 0) (.cons (.v 1) (.cons (.ks "tree") .nil)))))
    (.cons (.ret (.tup (.cons (.call 42 (.cons (.v 1) .nil)) (.cons (.call 43 (.cons (.v 1) .nil)) .nil))))
    .nil))) }
/-- places -/
def f718 : Df :=
  { name := "places", ps := ["arities", "tree"], ns := ["arities", "tree"], body :=
    (.cons (.ex (.call 45 (.cons (.v 0) .nil)))
    (.cons (.ex (.call 18 (.cons (.v 0) (.cons (.v 1) (.cons (.ks "tree") .nil)))))
    (.cons (.retf (.callF 717 (.cons (.v 1) .nil)))
    .nil))) }
/-- part -/
def f50 : Df :=
  { name := "part", ps := ["arities", "tree", "place"], ns := ["arities", "tree", "place"], body :=
    (.cons (.ex (.call 45 (.cons (.v 0) .nil)))
    (.cons (.ex (.call 18 (.cons (.v 0) (.cons (.v 1) (.cons (.ks "tree") .nil)))))
    (.cons (.ex (.call 47 (.cons (.v 2) .nil)))
    (.cons (.ret (.call 46 (.cons (.v 1) (.cons (.v 2) .nil))))
    .nil)))) }
/-- put -/
def f76 : Df :=
  { name := "put", ps := ["arities", "tree", "place", "other"], ns := ["arities", "tree", "place", "other"], body :=
    (.cons (.ex (.call 45 (.cons (.v 0) .nil)))
    (.cons (.ex (.call 18 (.cons (.v 0) (.cons (.v 1) (.cons (.ks "tree") .nil)))))
    (.cons (.ex (.call 47 (.cons (.v 2) .nil)))
    (.cons (.ex (.call 18 (.cons (.v 0) (.cons (.v 3) (.cons (.ks "other") .nil)))))
    (.cons (.ife (.cmp .Is (.call 46 (.cons (.v 1) (.cons (.v 2) .nil))) .kn)
    (.cons (.raise 2 (.cons (.ks "place") .nil)) .nil)
    .nil)
    (.cons (.ret (.call 48 (.cons (.call 44 (.cons (.v 1) (.cons (.v 2) (.cons (.v 3) .nil)))) .nil)))
    .nil)))))) }
/-- _law_stream -/
def f5 : Df :=
  { name := "_law_stream", ps := ["_law_script"], ns := ["_law_script"], body :=
    (.cons (.ret (.mk (.disp (.cons (.fr (.lstOf (.x (.v 0)))) (.cons (.ki 0) (.cons (.ki 0) .nil))))))
    .nil) }
/-- _law_next -/
def f6 : Df :=
  { name := "_law_next", ps := ["_law_stream_here", "_law_many"], ns := ["_law_stream_here", "_law_many", "_law_digit", "_law_k", "_law_cell"], body :=
    (.cons (.ife (.cmp .Eq (.idx (.x (.v 0)) (.ki 1)) (.ki 0))
    (.cons (.set (.n 3) (.idx (.x (.v 0)) (.ki 2)))
    (.cons (.set (.n 4) (.bin .Add (.ki 7) (.v 3)))
    (.cons (.ife (.cmp .Lt (.v 3) (.len (.x (.idx (.x (.v 0)) (.ki 0)))))
    (.cons (.set (.n 4) (.b1 .abs (.idx (.x (.idx (.x (.v 0)) (.ki 0))) (.v 3))))
    .nil)
    .nil)
    (.cons (.ife (.cmp .Lt (.v 4) (.bin .Pow (.ki 10) (.ki 18)))
    (.cons (.set (.n 4) (.bin .Mod (.b1 .int (.bin .Add (.bin .Add (.bin .Mult (.v 4) (.ki 48271)) (.bin .Mult (.v 3) (.ki 69621))) (.ki 11))) (.ki 2147483647)))
    (.cons (.set (.n 4) (.bin .Add (.bin .Mult (.bin .Mod (.b1 .int (.bin .Add (.bin .Mult (.v 4) (.ki 16807)) (.ki 13))) (.ki 2147483647)) (.ki 65537)) (.v 4)))
    .nil))
    .nil)
    (.cons (.seti (.x (.v 0)) (.ki 1) (.v 4))
    (.cons (.seti (.x (.v 0)) (.ki 2) (.bin .Add (.v 3) (.ki 1)))
    .nil))))))
    .nil)
    (.cons (.set (.n 2) (.bin .Mod (.b1 .int (.idx (.x (.v 0)) (.ki 1))) (.v 1)))
    (.cons (.seti (.x (.v 0)) (.ki 1) (.bin .FloorDiv (.idx (.x (.v 0)) (.ki 1)) (.v 1)))
    (.cons (.ret (.v 2))
    .nil)))) }
/-- _law_is_integer -/
def f7 : Df :=
  { name := "_law_is_integer", ps := ["_law_actual"], ns := ["_law_actual"], body :=
    (.cons (.ret (.and (.isi (.v 0) .int) (.one (.not (.x (.isi (.v 0) .bool))))))
    .nil) }
/-- _law_equal -/
def f719 : Df :=
  { name := "_law_equal", ps := ["_law_actual", "_law_due"], ns := ["_law_actual", "_law_due", "_law_at"], body :=
    (.cons (.ife (.cmp .Is (.v 1) .kn)
    (.cons (.ret (.cmp .Is (.v 0) .kn))
    .nil)
    .nil)
    (.cons (.ife (.h (.x (.isi (.v 1) .bool)))
    (.cons (.ret (.and (.isi (.v 0) .bool) (.one (.cmp .Eq (.v 0) (.v 1)))))
    .nil)
    .nil)
    (.cons (.ife (.h (.x (.isi (.v 1) .int)))
    (.cons (.ret (.and (.call 7 (.cons (.v 0) .nil)) (.one (.cmp .Eq (.v 0) (.v 1)))))
    .nil)
    .nil)
    (.cons (.ife (.h (.x (.isi (.v 1) .str)))
    (.cons (.ret (.and (.isi (.v 0) .str) (.one (.cmp .Eq (.v 0) (.v 1)))))
    .nil)
    .nil)
    (.cons (.ife (.and (.h (.x (.isi (.v 1) .tuple))) (.one (.not (.h (.x (.isi (.v 0) .tuple))))))
    (.cons (.ret (.kb false))
    .nil)
    .nil)
    (.cons (.ife (.and (.h (.x (.isl (.v 1) .list))) (.one (.not (.h (.x (.isl (.v 0) .list))))))
    (.cons (.ret (.kb false))
    .nil)
    .nil)
    (.cons (.ife (.cmp .NotEq (.len (.x (.v 0))) (.len (.x (.v 1))))
    (.cons (.ret (.kb false))
    .nil)
    .nil)
    (.cons (.ret (.ag .all (.x (.fr (.comp [2] (.n 2) (.rg1 (.len (.x (.v 1)))) .nil (.call 719 (.cons (.idx (.x (.v 0)) (.v 2)) (.cons (.idx (.x (.v 1)) (.v 2)) .nil))))))))
    .nil)))))))) }
/-- _law_pick -/
def f9 : Df :=
  { name := "_law_pick", ps := ["_law_stream_here", "_law_rows"], ns := ["_law_stream_here", "_law_rows"], body :=
    (.cons (.ret (.idx (.x (.v 1)) (.call 6 (.cons (.v 0) (.cons (.len (.x (.v 1))) .nil)))))
    .nil) }
/-- _law_arities -/
def f10 : Df :=
  { name := "_law_arities", ps := ["_law_stream_here"], ns := ["_law_stream_here"], body :=
    (.cons (.ret (.call 9 (.cons (.v 0) (.cons (.fr (.disp (.cons (.tup (.cons (.ki 0) (.cons (.ki 0) (.cons (.ki 2) .nil)))) (.cons (.tup (.cons (.ki 0) (.cons (.ki 2) .nil))) (.cons (.tup (.cons (.ki 0) (.cons (.ki 1) (.cons (.ki 2) .nil)))) (.cons (.tup (.cons (.ki 0) (.cons (.ki 0) (.cons (.ki 1) .nil)))) (.cons (.tup (.cons (.ki 2) (.cons (.ki 0) (.cons (.ki 1) (.cons (.ki 0) .nil))))) (.cons (.tup (.cons (.ki 0) (.cons (.ki 0) (.cons (.ki 1) (.cons (.ki 2) .nil))))) (.cons (.tup (.cons (.ki 1) (.cons (.ki 0) .nil))) (.cons (.tup (.cons (.ki 0) .nil)) (.cons (.tup (.cons (.ki 1) (.cons (.ki 1) (.cons (.ki 0) (.cons (.ki 2) .nil))))) .nil))))))))))) .nil))))
    .nil) }
/-- _law_tree -/
def f11 : Df :=
  { name := "_law_tree", ps := ["_law_stream_here", "_law_arities_here", "_law_nodes"], ns := ["_law_stream_here", "_law_arities_here", "_law_nodes", "_law_leaves", "_law_inner", "_law_symbol", "_law_left"], body :=
    (.cons (.set (.n 3) (.fr (.comp [5] (.n 5) (.rg1 (.len (.x (.v 1)))) (.cons (.cmp .Eq (.idx (.x (.v 1)) (.v 5)) (.ki 0)) .nil) (.v 5))))
    (.cons (.set (.n 4) (.fr (.comp [5] (.n 5) (.rg1 (.len (.x (.v 1)))) (.cons (.cm2 .Lt .Lt (.ki 0) (.idx (.x (.v 1)) (.v 5)) (.v 2)) .nil) (.v 5))))
    (.cons (.ife (.or (.not (.h (.x (.v 4)))) (.one (.cmp .Eq (.call 6 (.cons (.v 0) (.cons (.ki 5) .nil))) (.ki 0))))
    (.cons (.ret (.tup (.cons (.call 9 (.cons (.v 0) (.cons (.v 3) .nil))) .nil)))
    .nil)
    .nil)
    (.cons (.set (.n 5) (.call 9 (.cons (.v 0) (.cons (.v 4) .nil))))
    (.cons (.ife (.cmp .Eq (.idx (.x (.v 1)) (.v 5)) (.ki 1))
    (.cons (.ret (.tup (.cons (.v 5) (.cons (.call 11 (.cons (.v 0) (.cons (.v 1) (.cons (.bin .Sub (.v 2) (.ki 1)) .nil)))) .nil))))
    .nil)
    .nil)
    (.cons (.set (.n 6) (.bin .Add (.ki 1) (.call 6 (.cons (.v 0) (.cons (.bin .Sub (.v 2) (.ki 2)) .nil)))))
    (.cons (.ret (.tup (.cons (.v 5) (.cons (.call 11 (.cons (.v 0) (.cons (.v 1) (.cons (.v 6) .nil)))) (.cons (.call 11 (.cons (.v 0) (.cons (.v 1) (.cons (.bin .Sub (.bin .Sub (.v 2) (.ki 1)) (.v 6)) .nil)))) .nil)))))
    .nil))))))) }
/-- _law_size -/
def f36 : Df :=
  { name := "_law_size", ps := ["_law_tree_here"], ns := ["_law_tree_here", "_law_child"], body :=
    (.cons (.ret (.bin .Add (.ki 1) (.ag .sum (.x (.fr (.comp [1] (.n 1) (.h (.x (.slc (.x (.v 0)) (.some (.ki 1)) .none))) .nil (.call 36 (.cons (.v 1) .nil))))))))
    .nil) }
/-- _law_spots -/
def f12 : Df :=
  { name := "_law_spots", ps := ["_law_tree_here"], ns := ["_law_tree_here", "_law_found", "_law_k", "_law_place", "_law_below"], body :=
    (.cons (.own 1 (.disp (.cons (.tup (.cons (.tup .nil) (.cons (.v 0) .nil))) .nil)))
    (.cons (.fr (.n 2) (.rg1 (.bin .Sub (.len (.x (.v 0))) (.ki 1)))
    (.cons (.ex (.ext (.o 1) (.x (.fr (.comp [3, 4] (.t [3, 4]) (.h (.x (.call 12 (.cons (.idx (.x (.v 0)) (.bin .Add (.v 2) (.ki 1))) .nil)))) .nil (.tup (.cons (.bin .Add (.tup (.cons (.v 2) .nil)) (.v 3)) (.cons (.v 4) .nil))))))))
    .nil))
    (.cons (.ret (.mv 1))
    .nil))) }
/-- _law_part -/
def f51 : Df :=
  { name := "_law_part", ps := ["_law_tree_here", "_law_place"], ns := ["_law_tree_here", "_law_place", "_law_found", "_law_spot", "_law_below"], body :=
    (.cons (.set (.n 2) (.fr (.comp [3, 4] (.t [3, 4]) (.h (.x (.call 12 (.cons (.v 0) .nil)))) (.cons (.cmp .Eq (.v 3) (.v 1)) .nil) (.v 4))))
    (.cons (.ret (.ife (.h (.x (.v 2))) (.idx (.x (.v 2)) (.ki 0)) .kn))
    .nil)) }
/-- _law_put -/
def f13 : Df :=
  { name := "_law_put", ps := ["_law_tree_here", "_law_place", "_law_below"], ns := ["_law_tree_here", "_law_place", "_law_below", "_law_at"], body :=
    (.cons (.ife (.cmp .Eq (.v 1) (.tup .nil))
    (.cons (.ret (.v 2))
    .nil)
    .nil)
    (.cons (.set (.n 3) (.bin .Add (.idx (.x (.v 1)) (.ki 0)) (.ki 1)))
    (.cons (.ret (.bin .Add (.bin .Add (.slc (.x (.v 0)) .none (.some (.v 3))) (.tup (.cons (.call 13 (.cons (.idx (.x (.v 0)) (.v 3)) (.cons (.slc (.x (.v 1)) (.some (.ki 1)) .none) (.cons (.v 2) .nil)))) .nil))) (.slc (.x (.v 0)) (.some (.bin .Add (.v 3) (.ki 1))) .none)))
    .nil))) }
/-- _law_height -/
def f568 : Df :=
  { name := "_law_height", ps := ["_law_tree_here"], ns := ["_law_tree_here", "_law_place", "_law_below"], body :=
    (.cons (.ret (.bin .Add (.ki 1) (.ag .max (.x (.fr (.comp [1, 2] (.t [1, 2]) (.h (.x (.call 12 (.cons (.v 0) .nil)))) .nil (.len (.x (.v 1)))))))))
    .nil) }
/-- _law_told -/
def f49 : Df :=
  { name := "_law_told", ps := ["_law_arities_here", "_law_tree_here", "_law_place", "_law_other"], ns := ["_law_arities_here", "_law_tree_here", "_law_place", "_law_other", "problem"], body :=
    (.cons (.trs [1, 2] [⟨1, some 4, (.ret (.lst (.cons (.fld 1) (.cons (.isx 9) .nil))))⟩, ⟨2, some 4, (.ret (.lst (.cons (.fld 2) (.cons (.isx 9) .nil))))⟩]
    (.cons (.ret (.call 76 (.cons (.v 0) (.cons (.v 1) (.cons (.v 2) (.cons (.v 3) .nil))))))
    .nil))
    .nil) }
/-- law -/
def f624 : Df :=
  { name := "law", ps := ["_law_script"], ns := ["_law_script", "_law_stream_here", "_law_arities_here", "_law_tree_here", "_law_other", "_law_spots_here", "_law_turn", "_law_told_here", "_law_place", "_law_below", "_law_due", "_law_k"], body :=
    (.cons (.set (.n 1) (.call 5 (.cons (.v 0) .nil)))
    (.cons (.set (.n 2) (.call 10 (.cons (.v 1) .nil)))
    (.cons (.set (.n 3) (.call 11 (.cons (.v 1) (.cons (.v 2) (.cons (.ki 15) .nil)))))
    (.cons (.set (.n 4) (.call 11 (.cons (.v 1) (.cons (.v 2) (.cons (.ki 15) .nil)))))
    (.cons (.set (.n 5) (.call 12 (.cons (.v 3) .nil)))
    (.cons (.fr (.n 6) (.rg1 (.ki 2))
    (.cons (.set (.n 7) (.mk (.callF 718 (.cons (.v 2) (.cons (.v 3) .nil)))))
    (.cons (.ife (.not (.h (.x (.call 719 (.cons (.v 7) (.cons (.fr (.comp [8, 9] (.t [8, 9]) (.h (.x (.v 5))) .nil (.v 8))) .nil))))))
    (.cons (.ret (.kb false))
    .nil)
    .nil)
    (.cons (.ex (.app (.x (.v 7)) .kn))
    .nil))))
    (.cons (.ife (.or (.not (.h (.x (.call 719 (.cons (.call 74 (.cons (.v 2) (.cons (.v 3) .nil))) (.cons (.tup (.cons (.len (.x (.v 5))) (.cons (.call 568 (.cons (.v 3) .nil)) .nil))) .nil)))))) (.one (.cmp .NotEq (.fr (.comp [8, 9] (.t [8, 9]) (.h (.x (.v 5))) .nil (.v 8))) (.fr (.srtE (.x (.fr (.comp [8, 9] (.t [8, 9]) (.h (.x (.v 5))) .nil (.v 8)))))))))
    (.cons (.ret (.kb false))
    .nil)
    .nil)
    (.cons (.fr (.n 6) (.rg1 (.ki 6))
    (.cons (.set (.n 8) (.ife (.cmp .Lt (.v 6) (.ki 3)) (.idx (.x (.call 9 (.cons (.v 1) (.cons (.v 5) .nil)))) (.ki 0)) (.tupOf (.x (.fr (.comp [11] (.n 11) (.rg1 (.call 6 (.cons (.v 1) (.cons (.ki 6) .nil)))) .nil (.call 6 (.cons (.v 1) (.cons (.ki 2) .nil)))))))))
    (.cons (.set (.n 9) (.call 51 (.cons (.v 3) (.cons (.v 8) .nil))))
    (.cons (.ife (.not (.h (.x (.call 719 (.cons (.call 50 (.cons (.v 2) (.cons (.v 3) (.cons (.v 8) .nil)))) (.cons (.v 9) .nil))))))
    (.cons (.ret (.kb false))
    .nil)
    .nil)
    (.cons (.set (.n 10) (.fr (.disp (.cons (.ks "place") (.cons (.kb true) .nil)))))
    (.cons (.ife (.cmp .IsNot (.v 9) .kn)
    (.cons (.set (.n 10) (.call 13 (.cons (.v 3) (.cons (.v 8) (.cons (.v 4) .nil)))))
    (.cons (.ife (.cmp .NotEq (.call 36 (.cons (.v 10) .nil)) (.bin .Sub (.bin .Add (.call 36 (.cons (.v 3) .nil)) (.call 36 (.cons (.v 4) .nil))) (.call 36 (.cons (.v 9) .nil))))
    (.cons (.ret (.kb false))
    .nil)
    .nil)
    (.cons (.ife (.cmp .Gt (.call 36 (.cons (.v 10) .nil)) (.ki 15))
    (.cons (.set (.n 10) (.fr (.disp (.cons (.ks "tree") (.cons (.kb true) .nil)))))
    .nil)
    .nil)
    .nil)))
    .nil)
    (.cons (.ife (.not (.h (.x (.call 719 (.cons (.call 49 (.cons (.v 2) (.cons (.v 3) (.cons (.v 8) (.cons (.v 4) .nil))))) (.cons (.v 10) .nil))))))
    (.cons (.ret (.kb false))
    .nil)
    .nil)
    .nil)))))))
    (.cons (.ret (.kb true))
    .nil))))))))) }
def tb : Tb := fun n => match n with
  | 1 => some f1
  | 2 => some f2
  | 3 => some f3
  | 4 => some f4
  | 42 => some f42
  | 43 => some f43
  | 717 => some f717
  | 46 => some f46
  | 44 => some f44
  | 45 => some f45
  | 18 => some f18
  | 47 => some f47
  | 48 => some f48
  | 74 => some f74
  | 718 => some f718
  | 50 => some f50
  | 76 => some f76
  | 5 => some f5
  | 6 => some f6
  | 7 => some f7
  | 719 => some f719
  | 9 => some f9
  | 10 => some f10
  | 11 => some f11
  | 36 => some f36
  | 12 => some f12
  | 51 => some f51
  | 13 => some f13
  | 568 => some f568
  | 49 => some f49
  | 624 => some f624
  | _ => none
def glL : List (Str × D) := [("MOST_SYMBOLS", (.int 4)), ("MOST_ARITY", (.int 2)), ("MOST_NODES", (.int 15))]
abbrev gl : Str → D → Bool := glOf glL
def topS (i : Nat) : Stmt := PySem.Challenge.pw_rootfirst_k02_places_and_parts.main.body.getD i (.Pass ⟨0, 0, 0, 0⟩)
def xcl : Nat → Option (Str × Str) := fun c => match c with
  | 1 => some ("TooLarge", "what")
  | 2 => some ("NotPossible", "why")
  | _ => none
def xnl : Nat → Option Str := fun c => match c with
  | 1 => some "TooLarge"
  | 2 => some "NotPossible"
  | 9 => some "TreeError"
  | _ => none
theorem ch1 : chDf tb gl f1 (topS 9) xcl xnl = true := by decide +kernel
theorem ch2 : chDf tb gl f2 (topS 10) xcl xnl = true := by decide +kernel
theorem ch3 : chDf tb gl f3 (topS 11) xcl xnl = true := by decide +kernel
theorem ch4 : chDf tb gl f4 (topS 12) xcl xnl = true := by decide +kernel
theorem ch42 : chDf tb gl f42 (topS 13) xcl xnl = true := by decide +kernel
theorem ch43 : chDf tb gl f43 (topS 14) xcl xnl = true := by decide +kernel
theorem ch717 : chDf tb gl f717 (topS 15) xcl xnl = true := by decide +kernel
theorem ch46 : chDf tb gl f46 (topS 16) xcl xnl = true := by decide +kernel
theorem ch44 : chDf tb gl f44 (topS 17) xcl xnl = true := by decide +kernel
theorem ch45 : chDf tb gl f45 (topS 18) xcl xnl = true := by decide +kernel
theorem ch18 : chDf tb gl f18 (topS 19) xcl xnl = true := by decide +kernel
theorem ch47 : chDf tb gl f47 (topS 20) xcl xnl = true := by decide +kernel
theorem ch48 : chDf tb gl f48 (topS 21) xcl xnl = true := by decide +kernel
theorem ch74 : chDf tb gl f74 (topS 22) xcl xnl = true := by decide +kernel
theorem ch718 : chDf tb gl f718 (topS 23) xcl xnl = true := by decide +kernel
theorem ch50 : chDf tb gl f50 (topS 24) xcl xnl = true := by decide +kernel
theorem ch76 : chDf tb gl f76 (topS 25) xcl xnl = true := by decide +kernel
theorem ch5 : chDf tb gl f5 (topS 27) xcl xnl = true := by decide +kernel
theorem ch6 : chDf tb gl f6 (topS 28) xcl xnl = true := by decide +kernel
theorem ch7 : chDf tb gl f7 (topS 29) xcl xnl = true := by decide +kernel
theorem ch719 : chDf tb gl f719 (topS 30) xcl xnl = true := by decide +kernel
theorem ch9 : chDf tb gl f9 (topS 31) xcl xnl = true := by decide +kernel
theorem ch10 : chDf tb gl f10 (topS 32) xcl xnl = true := by decide +kernel
theorem ch11 : chDf tb gl f11 (topS 33) xcl xnl = true := by decide +kernel
theorem ch36 : chDf tb gl f36 (topS 34) xcl xnl = true := by decide +kernel
theorem ch12 : chDf tb gl f12 (topS 35) xcl xnl = true := by decide +kernel
theorem ch51 : chDf tb gl f51 (topS 36) xcl xnl = true := by decide +kernel
theorem ch13 : chDf tb gl f13 (topS 37) xcl xnl = true := by decide +kernel
theorem ch568 : chDf tb gl f568 (topS 38) xcl xnl = true := by decide +kernel
theorem ch49 : chDf tb gl f49 (topS 39) xcl xnl = true := by decide +kernel
theorem ch624 : chDf tb gl f624 (topS 40) xcl xnl = true := by decide +kernel
end EvP

set_option Elab.async false
set_option linter.all false
set_option maxRecDepth 100000
set_option autoImplicit false
set_option maxHeartbeats 1000000
namespace EvP
open PySem L2 Ev
def isNum (v : D) (lo hi : Int) : Bool := match v with
  | .int i => decide (lo ≤ i) && decide (i ≤ hi)
  | _ => false
def Strm (c : D) : Prop := ∃ (ns : List Int) (a : Int) (k : Nat), c = .lst [.lst (ns.map D.int), .int a, .int k]
theorem all_bl {l : List Bool} : boolsD (l.map D.bl) = some l := by
  induction l with
  | nil => rfl
  | cons b l ih => simp [boolsD, ih]
theorem ag_all {xs : List D} {f : D → Bool} : agD .all (.lst (xs.map fun d => D.bl (f d))) = some (.bl (xs.all f)) := by
  have e : (xs.map fun d => D.bl (f d)) = (xs.map f).map D.bl := by rw [List.map_map]; rfl
  unfold agD
  rw [e]
  show (boolsD _).map _ = _
  rw [all_bl]
  simp
def nl1 (xs : List D) : Prop := ∀ d ∈ xs, isLoc d = false
def isAr (v : D) : Bool := match v with
  | .tup xs => decide (1 ≤ xs.length) && decide (xs.length ≤ 4) && xs.all (isNum · 0 2)
  | _ => false
def isPl (v : D) : Bool := match v with
  | .tup xs => decide (xs.length < 15) && xs.all (isNum · 0 1)
  | _ => false
mutual
/-- no places -/
def nl : D → Bool
  | .tup xs => nls xs
  | .lst xs => nls xs
  | .loc _ => false
  | .dic _ => false
  | _ => true
def nls : List D → Bool
  | [] => true
  | x :: xs => nl x && nls xs
end
theorem nl_loc {d : D} (h : nl d = true) : isLoc d = false := by cases d <;> first | rfl | cases h
theorem nls_mem : ∀ {xs : List D}, nls xs = true → ∀ d ∈ xs, nl d = true
  | [], _, d, hd => by cases hd
  | x :: xs, h, d, hd => by
    rw [nls, Bool.and_eq_true] at h
    rcases List.mem_cons.mp hd with q | q
    · rw [q]; exact h.1
    · exact nls_mem h.2 d q
theorem nls_of : ∀ {xs : List D}, (∀ d ∈ xs, nl d = true) → nls xs = true
  | [], _ => rfl
  | x :: xs, h => by rw [nls, h x (by simp), nls_of fun d hd => h d (by simp [hd])]; rfl
def okS (as : List Nat) (s : D) (k : Nat) : Bool := match s with
  | .int s => decide (0 ≤ s) && decide (as[s.toNat]? = some k)
  | _ => false
mutual
/-- a tree of any size -/
def trD (as : List Nat) : D → Bool
  | .tup xs => trH as xs
  | _ => false
def trH (as : List Nat) : List D → Bool
  | [] => false
  | s :: cs => okS as s cs.length && trL as cs
def trL (as : List Nat) : List D → Bool
  | [] => true
  | c :: cs => trD as c && trL as cs
end
mutual
def szD : D → Nat
  | .tup xs => szH xs
  | _ => 1
def szH : List D → Nat
  | [] => 1
  | _ :: cs => 1 + szL cs
def szL : List D → Nat
  | [] => 0
  | c :: cs => szD c + szL cs
end
theorem sz_pos : ∀ d : D, 1 ≤ szD d
  | .tup xs => by
    rw [szD]
    cases xs with
    | nil => rw [szH]; exact Nat.le_refl _
    | cons s cs => rw [szH]; omega
  | .non => by rw [szD] <;> simp
  | .bl _ => by rw [szD] <;> simp
  | .int _ => by rw [szD] <;> simp
  | .str _ => by rw [szD] <;> simp
  | .lst _ => by rw [szD] <;> simp
  | .dic _ => by rw [szD] <;> simp
  | .loc _ => by rw [szD] <;> simp
theorem trL_app {as : List Nat} : ∀ {xs ys : List D}, trL as (xs ++ ys) = (trL as xs && trL as ys)
  | [], ys => by rw [trL]; rfl
  | x :: xs, ys => by rw [List.cons_append, trL, trL, trL_app, Bool.and_assoc]
theorem szL_app : ∀ {xs ys : List D}, szL (xs ++ ys) = szL xs + szL ys
  | [], ys => by rw [szL]; simp
  | x :: xs, ys => by rw [List.cons_append, szL, szL, szL_app]; omega
def arD (as : List Nat) : D := .tup (as.map fun (a : Nat) => D.int a)
def treeB (as : List Nat) (ws : List D) (k : Nat) : Bool := trL as ws && decide (k + szL ws ≤ 15)
theorem treeB_push {as : List Nat} {ws cs : List D} {s : Int} {k : Nat} (h0 : 0 ≤ s) (h1 : as[s.toNat]? = some cs.length) : treeB as (ws ++ [.tup (.int s :: cs)]) k = treeB as (ws ++ cs) (k + 1) := by
  unfold treeB
  have e1 : trD as (.tup (.int s :: cs)) = trL as cs := by rw [trD, trH]; simp [okS, h0, h1]
  have e2 : szD (.tup (.int s :: cs)) = 1 + szL cs := by rw [szD, szH]
  rw [trL_app, trL_app, szL_app, szL_app, trL, trL, szL, szL, e1, e2]
  have e3 : (k + (szL ws + (1 + szL cs)) ≤ 15) = (k + 1 + (szL ws + szL cs) ≤ 15) := propext ⟨fun h => by omega, fun h => by omega⟩
  simp only [e3, szL, trL, Bool.and_true, Nat.add_zero]
theorem treeB_bad {as : List Nat} {ws : List D} {d : D} {k : Nat} (h : trD as d = false) : treeB as (ws ++ [d]) k = false := by
  unfold treeB
  rw [trL_app, trL, h]
  simp
theorem treeB_much {as : List Nat} {ws : List D} {d : D} {k : Nat} (h : 15 < k + 1) : treeB as (ws ++ [d]) k = false := by
  unfold treeB
  have := sz_pos d
  have e : ¬ (k + szL (ws ++ [d]) ≤ 15) := by rw [szL_app, szL, szL]; omega
  simp [e]
theorem trD_ht {as : List Nat} {xs : List D} (h : trD as (.tup xs) = true) : ∃ s cs, xs = .int s :: cs ∧ 0 ≤ s ∧ as[s.toNat]? = some cs.length ∧ trL as cs = true := by
  rw [trD] at h
  cases xs with
  | nil => rw [trH] at h; cases h
  | cons s cs =>
    rw [trH, Bool.and_eq_true] at h
    obtain ⟨h1, h2⟩ := h
    cases s with
    | int s =>
      simp only [okS, Bool.and_eq_true, decide_eq_true_eq] at h1
      exact ⟨s, cs, rfl, h1.1, h1.2, h2⟩
    | _ => cases h1
mutual
/-- no list is long -/
def wd : D → Bool
  | .tup xs => decide (xs.length ≤ 1000) && wds xs
  | .lst xs => decide (xs.length ≤ 1000) && wds xs
  | _ => true
def wds : List D → Bool
  | [] => true
  | x :: xs => wd x && wds xs
end
theorem wds_mem : ∀ {xs : List D}, wds xs = true → ∀ d ∈ xs, wd d = true
  | [], _, d, hd => by cases hd
  | x :: xs, h, d, hd => by
    rw [wds, Bool.and_eq_true] at h
    rcases List.mem_cons.mp hd with q | q
    · rw [q]; exact h.1
    · exact wds_mem h.2 d q
theorem deps_mem : ∀ {xs : List D} {d : D}, d ∈ xs → d.dep ≤ D.deps xs
  | [], d, hd => by cases hd
  | x :: xs, d, hd => by
    rw [D.deps]
    rcases List.mem_cons.mp hd with q | q
    · rw [q]; exact Nat.le_max_left _ _
    · exact Nat.le_trans (deps_mem q) (Nat.le_max_right _ _)
structure Ars (as : List Nat) : Prop where
  one : 1 ≤ as.length
  four : as.length ≤ 4
  two : ∀ a ∈ as, a ≤ 2
  leaf : 0 ∈ as
theorem ar_at {as : List Nat} {i : Nat} (h : i < as.length) : atL (as.map fun (a : Nat) => D.int a) (i : Nat) = some (.int (as[i] : Nat)) := by
  rw [atL_nat (Int.natCast_nonneg i), Int.toNat_natCast, List.getElem?_map, List.getElem?_eq_getElem h]
  rfl
theorem rng_mem {m : Nat} {x : D} (h : x ∈ rng 0 m) : ∃ i, i < m ∧ x = .int (i : Nat) := by
  obtain ⟨i, e⟩ := List.getElem?_of_mem h
  obtain ⟨h1, h2⟩ := rng_get e
  exact ⟨i, h1, by rw [h2]; simp⟩
theorem mem_rng {m i : Nat} (h : i < m) : D.int (i : Nat) ∈ rng 0 m := by
  unfold rng
  exact List.mem_map.mpr ⟨i, by simp [h], by simp⟩
def arOf (as : List Nat) (d : D) : Nat := match d with
  | .int i => as.getD i.toNat 9
  | _ => 9
theorem arOf_at {as : List Nat} {i : Nat} (h : i < as.length) : arOf as (.int (i : Nat)) = as[i] := by
  show as.getD (Int.toNat (i : Nat)) 9 = _
  rw [Int.toNat_natCast, List.getD_eq_getElem?_getD, List.getElem?_eq_getElem h]
  rfl
structure Tr (as : List Nat) (d : D) : Prop where
  ok : trD as d = true
  nl : nl d = true
theorem Tr.mk0 {as : List Nat} {i : Nat} (h : as[i]? = some 0) : Tr as (.tup [.int (i : Nat)]) := ⟨by rw [trD, trH, trL]; simp [okS, h], by simp [EvP.nl, EvP.nls]⟩
theorem Tr.mk1 {as : List Nat} {i : Nat} {a : D} (h : as[i]? = some 1) (ha : Tr as a) : Tr as (.tup [.int (i : Nat), a]) := ⟨by rw [trD, trH, trL, trL]; simp [okS, h, ha.ok], by simp [EvP.nl, EvP.nls, ha.nl]⟩
theorem Tr.mk2 {as : List Nat} {i : Nat} {a b : D} (h : as[i]? = some 2) (ha : Tr as a) (hb : Tr as b) : Tr as (.tup [.int (i : Nat), a, b]) := ⟨by rw [trD, trH, trL, trL, trL]; simp [okS, h, ha.ok, hb.ok], by simp [EvP.nl, EvP.nls, ha.nl, hb.nl]⟩
theorem sz0 {s : D} : szD (.tup [s]) = 1 := by rw [szD, szH, szL]
theorem sz1 {s a : D} : szD (.tup [s, a]) = 1 + szD a := by rw [szD, szH, szL, szL, Nat.add_zero]
theorem sz2 {s a b : D} : szD (.tup [s, a, b]) = 1 + (szD a + szD b) := by rw [szD, szH, szL, szL, szL, Nat.add_zero]
inductive Sub : D → List Nat → D → Prop
  | here (d : D) : Sub d [] d
  | down {xs : List D} {i : Nat} {c s : D} {p : List Nat} : xs[i + 1]? = some c → Sub c p s → Sub (.tup xs) (i :: p) s
def plD (p : List Nat) : D := .tup (p.map fun (i : Nat) => D.int i)
def putD : D → List Nat → D → D
  | _, [], b => b
  | .tup xs, i :: p, b => .tup (xs.take (i + 1) ++ [putD (xs.getD (i + 1) .non) p b] ++ xs.drop (i + 2))
  | t, _ :: _, _ => t
theorem trL_mem {as : List Nat} : ∀ {cs : List D}, trL as cs = true → ∀ c ∈ cs, trD as c = true
  | [], _, c, hc => by cases hc
  | x :: cs, h, c, hc => by
    rw [trL, Bool.and_eq_true] at h
    rcases List.mem_cons.mp hc with q | q
    · rw [q]; exact h.1
    · exact trL_mem h.2 c q
theorem Tr.inv {as : List Nat} {d : D} (h : Tr as d) : ∃ (s : Nat) (cs : List D), d = .tup (.int s :: cs) ∧ as[s]? = some cs.length ∧ ∀ c ∈ cs, Tr as c := by
  have hok := h.ok
  cases d with
  | tup xs =>
    obtain ⟨s, cs, rfl, h0, h1, h2⟩ := trD_ht hok
    have hn := h.nl
    rw [EvP.nl, EvP.nls, Bool.and_eq_true] at hn
    exact ⟨s.toNat, cs, by rw [Int.toNat_of_nonneg h0], h1, fun c hc => ⟨trL_mem h2 c hc, nls_mem hn.2 c hc⟩⟩
  | _ => simp [trD] at hok
theorem Tr.wid {as : List Nat} (A : Ars as) {s : Nat} {cs : List D} (h : as[s]? = some cs.length) : cs.length ≤ 2 := by
  obtain ⟨h1, h2⟩ := List.getElem?_eq_some_iff.mp h
  exact A.two _ (h2 ▸ List.getElem_mem h1)
theorem Sub.tr {as : List Nat} {t s : D} {p : List Nat} (h : Sub t p s) : Tr as t → Tr as s := by
  induction h with
  | here d => exact fun h => h
  | @down xs i c s p e _ ih =>
    intro ht
    obtain ⟨k, cs, e1, _, h2⟩ := ht.inv
    cases e1
    rw [List.getElem?_cons_succ] at e
    exact ih (h2 c (List.mem_of_getElem? e))
theorem split_at {cs : List D} {i : Nat} {c : D} (e : cs[i]? = some c) : cs = cs.take i ++ c :: cs.drop (i + 1) := by
  obtain ⟨h1, h2⟩ := List.getElem?_eq_some_iff.mp e
  rw [← h2, List.getElem_cons_drop, List.take_append_drop]
theorem put_eq {x : D} {cs : List D} {i : Nat} {c b : D} {p : List Nat} (e : cs[i]? = some c) : putD (.tup (x :: cs)) (i :: p) b = .tup (x :: (cs.take i ++ putD c p b :: cs.drop (i + 1))) := by
  rw [putD, List.getD_cons_succ, List.getD_eq_getElem?_getD, e]
  simp
theorem Sub.put {as : List Nat} {t s b : D} {p : List Nat} (h : Sub t p s) : Tr as t → nl b = true → trD as (putD t p b) = trD as b ∧ szD (putD t p b) + szD s = szD t + szD b ∧ nl (putD t p b) = true := by
  induction h with
  | here d => exact fun _ hb => ⟨rfl, Nat.add_comm _ _, hb⟩
  | @down xs i c s p e hs ih =>
    intro ht hb
    obtain ⟨k, cs, e1, h1, h2⟩ := ht.inv
    cases e1
    rw [List.getElem?_cons_succ] at e
    have hc := h2 c (List.mem_of_getElem? e)
    obtain ⟨i1, i2, i3⟩ := ih hc hb
    rw [put_eq e]
    have sp := split_at e
    have tl : trL as cs = true := by
      have := ht.ok
      rw [trD, trH, Bool.and_eq_true] at this
      exact this.2
    have nlcs : nls cs = true := by
      have := ht.nl
      rw [nl, nls, Bool.and_eq_true] at this
      exact this.2
    have len : (cs.take i ++ putD c p b :: cs.drop (i + 1)).length = cs.length := by
      conv => rhs; rw [sp]
      simp
    have tl' := tl
    have sz' : szL cs = szL (cs.take i) + (szD c + szL (cs.drop (i + 1))) := by
      conv => lhs; rw [sp]
      rw [szL_app, szL]
    rw [sp, trL_app, trL, Bool.and_eq_true, Bool.and_eq_true] at tl'
    refine ⟨?_, ?_, ?_⟩
    · rw [trD, trH, len, trL_app, trL, i1, tl'.1, tl'.2.2]
      simp [okS, h1]
    · rw [szD, szH, szD, szH, szL_app, szL, sz']
      omega
    · rw [nl, nls]
      refine Bool.and_eq_true _ _ ▸ ⟨rfl, nls_of fun d hd => ?_⟩
      rcases List.mem_append.mp hd with q | q
      · exact nls_mem nlcs d (List.mem_of_mem_take q)
      · rcases List.mem_cons.mp q with q | q
        · rw [q]; exact i3
        · exact nls_mem nlcs d (List.mem_of_mem_drop q)
theorem szL_mem {cs : List D} {i : Nat} {c : D} (e : cs[i]? = some c) : szD c ≤ szL cs := by
  rw [split_at e, szL_app, szL]
  omega
theorem Sub.len {t s : D} {p : List Nat} (h : Sub t p s) : p.length + szD s ≤ szD t := by
  induction h with
  | here d => simp
  | @down xs i c s p e _ ih =>
    cases xs with
    | nil => simp at e
    | cons x cs =>
      rw [List.getElem?_cons_succ] at e
      have := szL_mem e
      rw [szD, szH, List.length_cons]
      omega
theorem pl_plD (p : List Nat) : (plD p).pl = true ∧ (plD p).dep ≤ 1 := by
  unfold plD
  induction p with
  | nil => simp [D.pl, D.pls, D.dep, D.deps]
  | cons i p ih =>
    simp [D.pl, D.pls, D.dep, D.deps] at ih ⊢
    exact ih
end EvP

set_option Elab.async false
set_option linter.all false
set_option maxRecDepth 100000
set_option autoImplicit false
set_option maxHeartbeats 1000000
/-! Pu: data of numbers, None, tuples and lists: == is equality. -/
namespace EvP
open PySem L2 Ev
mutual
def pur : D → Bool
  | .tup xs => purs xs
  | .lst xs => purs xs
  | .int _ => true
  | .non => true
  | _ => false
def purs : List D → Bool
  | [] => true
  | x :: xs => pur x && purs xs
end
theorem purs_of : ∀ {xs : List D}, (∀ d ∈ xs, pur d = true) → purs xs = true
  | [], _ => rfl
  | x :: xs, h => by rw [purs, h x (by simp), purs_of fun d hd => h d (by simp [hd])]; rfl
theorem purs_mem : ∀ {xs : List D}, purs xs = true → ∀ d ∈ xs, pur d = true
  | [], _, d, hd => by cases hd
  | x :: xs, h, d, hd => by
    rw [purs, Bool.and_eq_true] at h
    rcases List.mem_cons.mp hd with q | q
    · rw [q]; exact h.1
    · exact purs_mem h.2 d q
mutual
theorem pur_eqv : ∀ a b : D, pur a = true → pur b = true → D.eqv a b = decide (a = b)
  | .non, b, ha, hb => by cases b <;> first | (simp [D.eqv]) | (cases hb)
  | .int i, b, ha, hb => by
    cases b <;> first | (simp [D.eqv]; done) | (cases hb; done) | skip
    all_goals (rw [D.eqv, Bool.eq_iff_iff]; simp)
  | .tup xs, b, ha, hb => by
    cases b with
    | tup ys =>
      rw [pur] at ha hb
      rw [D.eqv, pur_eqvs xs ys ha hb, decide_eq_decide]
      exact ⟨fun h => by rw [h], fun h => by injection h⟩
    | non => simp [D.eqv]
    | int i => simp [D.eqv]
    | lst ys => simp [D.eqv]
    | _ => cases hb
  | .lst xs, b, ha, hb => by
    cases b with
    | lst ys =>
      rw [pur] at ha hb
      rw [D.eqv, pur_eqvs xs ys ha hb, decide_eq_decide]
      exact ⟨fun h => by rw [h], fun h => by injection h⟩
    | non => simp [D.eqv]
    | int i => simp [D.eqv]
    | tup ys => simp [D.eqv]
    | _ => cases hb
  | .bl _, b, ha, hb => by cases ha
  | .str _, b, ha, hb => by cases ha
  | .dic _, b, ha, hb => by cases ha
  | .loc _, b, ha, hb => by cases ha
theorem pur_eqvs : ∀ a b : List D, purs a = true → purs b = true → D.eqvs a b = decide (a = b)
  | [], b, ha, hb => by cases b <;> simp [D.eqvs]
  | x :: xs, b, ha, hb => by
    cases b with
    | nil => simp [D.eqvs]
    | cons y ys =>
      rw [purs, Bool.and_eq_true] at ha hb
      rw [D.eqvs, pur_eqv x y ha.1 hb.1, pur_eqvs xs ys ha.2 hb.2, Bool.eq_iff_iff]
      simp
end
mutual
theorem pur_pl : ∀ a : D, pur a = true → a.pl = true
  | .non, _ => rfl
  | .int _, _ => rfl
  | .tup xs, h => by rw [pur] at h; rw [D.pl]; exact purs_pl xs h
  | .lst xs, h => by rw [pur] at h; rw [D.pl]; exact purs_pl xs h
  | .bl _, h => by cases h
  | .str _, h => by cases h
  | .dic _, h => by cases h
  | .loc _, h => by cases h
theorem purs_pl : ∀ a : List D, purs a = true → D.pls a = true
  | [], _ => rfl
  | x :: xs, h => by
    rw [purs, Bool.and_eq_true] at h
    rw [D.pls, pur_pl x h.1, purs_pl xs h.2]
    rfl
end
mutual
theorem pur_nl : ∀ a : D, pur a = true → nl a = true
  | .non, _ => rfl
  | .int _, _ => rfl
  | .tup xs, h => by rw [pur] at h; rw [nl]; exact purs_nl xs h
  | .lst xs, h => by rw [pur] at h; rw [nl]; exact purs_nl xs h
  | .bl _, h => by cases h
  | .str _, h => by cases h
  | .dic _, h => by cases h
  | .loc _, h => by cases h
theorem purs_nl : ∀ a : List D, purs a = true → nls a = true
  | [], _ => rfl
  | x :: xs, h => by
    rw [purs, Bool.and_eq_true] at h
    rw [nls, pur_nl x h.1, purs_nl xs h.2]
    rfl
end
theorem deps_leP {xs : List D} {m : Nat} (h : ∀ x ∈ xs, x.dep ≤ m) : D.deps xs ≤ m := by
  induction xs with
  | nil => exact Nat.zero_le _
  | cons x xs ih =>
    rw [D.deps]
    exact Nat.max_le.mpr ⟨h x (by simp), ih fun y hy => h y (by simp [hy])⟩
theorem inL_pur {x : D} {xs : List D} (hx : pur x = true) (hxs : purs xs = true) : inL x xs = decide (x ∈ xs) := by
  unfold inL
  rw [Bool.eq_iff_iff, List.any_eq_true, decide_eq_true_eq]
  constructor
  · rintro ⟨y, hy, h⟩
    rw [pur_eqv y x (purs_mem hxs y hy) hx, decide_eq_true_eq] at h
    rw [← h]; exact hy
  · intro h
    exact ⟨x, h, by rw [pur_eqv x x hx hx]; simp⟩
theorem okEq_pur {a b : D} (ha : pur a = true) (hb : pur b = true) (da : a.dep ≤ 64) (db : b.dep ≤ 64) : okEq a b = true := by
  unfold okEq
  rw [pur_pl a ha, pur_pl b hb, decide_eq_true da, decide_eq_true db]
  rfl
theorem innT_pur {x : D} {xs : List D} (hx : pur x = true) (hxs : ∀ y ∈ xs, pur y = true ∧ y.dep ≤ 63) (dx : x.dep ≤ 64) : innD x (.tup xs) = some (decide (x ∈ xs)) := by
  have p := purs_of fun d hd => (hxs d hd).1
  have ok : okEq x (.tup xs) = true := okEq_pur hx (by rw [pur]; exact p) dx (by rw [D.dep]; have := deps_leP fun d hd => (hxs d hd).2; omega)
  rw [innD, if_pos ok, inL_pur hx p]
theorem innL_pur {x : D} {xs : List D} (hx : pur x = true) (hxs : ∀ y ∈ xs, pur y = true ∧ y.dep ≤ 63) (dx : x.dep ≤ 64) : innD x (.lst xs) = some (decide (x ∈ xs)) := by
  have p := purs_of fun d hd => (hxs d hd).1
  have ok : okEq x (.lst xs) = true := okEq_pur hx (by rw [pur]; exact p) dx (by rw [D.dep]; have := deps_leP fun d hd => (hxs d hd).2; omega)
  rw [innD, if_pos ok, inL_pur hx p]
theorem eq_pur {a b : D} (ha : pur a = true) (hb : pur b = true) (da : a.dep ≤ 64) (db : b.dep ≤ 64) : cmpD .Eq a b = some (.bl (decide (a = b))) := by
  rw [cmp_eq, okEq_pur ha hb da db, pur_eqv a b ha hb]
  rfl
theorem ne_pur {a b : D} (ha : pur a = true) (hb : pur b = true) (da : a.dep ≤ 64) (db : b.dep ≤ 64) : cmpD .NotEq a b = some (.bl (!decide (a = b))) := by
  rw [cmp_ne, okEq_pur ha hb da db, pur_eqv a b ha hb]
  rfl
/-- items that a function has made -/
theorem innT_map {α : Type} {f : α → D} {x : α} {L : List α} (hf : ∀ y, pur (f y) = true ∧ (f y).dep ≤ 63) (inj : ∀ y, f y = f x → y = x) [Decidable (x ∈ L)] : innD (f x) (.tup (L.map f)) = some (decide (x ∈ L)) := by
  rw [innT_pur (hf x).1 (fun y hy => by obtain ⟨z, _, rfl⟩ := List.mem_map.mp hy; exact hf z) (by have := (hf x).2; omega)]
  congr 1
  rw [decide_eq_decide, List.mem_map]
  exact ⟨fun ⟨y, hy, e⟩ => inj y e ▸ hy, fun h => ⟨x, h, rfl⟩⟩
theorem innL_map {α : Type} {f : α → D} {x : α} {L : List α} (hf : ∀ y, pur (f y) = true ∧ (f y).dep ≤ 63) (inj : ∀ y, f y = f x → y = x) [Decidable (x ∈ L)] : innD (f x) (.lst (L.map f)) = some (decide (x ∈ L)) := by
  rw [innL_pur (hf x).1 (fun y hy => by obtain ⟨z, _, rfl⟩ := List.mem_map.mp hy; exact hf z) (by have := (hf x).2; omega)]
  congr 1
  rw [decide_eq_decide, List.mem_map]
  exact ⟨fun ⟨y, hy, e⟩ => inj y e ▸ hy, fun h => ⟨x, h, rfl⟩⟩
end EvP

set_option Elab.async false
set_option linter.all false
set_option maxRecDepth 100000
set_option autoImplicit false
set_option maxHeartbeats 1000000
/-! Okv: values that may be handed in, no program in sight. -/
namespace EvP
open PySem L2 Ev
structure Okv (v : D) : Prop where
  nl : nl v = true
  wd : wd v = true
structure OkL (xs : List D) : Prop where
  len : xs.length ≤ 1000
  all : ∀ x ∈ xs, Okv x
theorem wds_of : ∀ {xs : List D}, (∀ d ∈ xs, wd d = true) → wds xs = true
  | [], _ => rfl
  | x :: xs, h => by rw [wds, h x (by simp), wds_of fun d hd => h d (by simp [hd])]; rfl
theorem OkL.tup {xs : List D} (h : OkL xs) : Okv (.tup xs) :=
  ⟨by rw [EvP.nl]; exact nls_of fun x hx => (h.all x hx).nl, by rw [EvP.wd, Bool.and_eq_true, decide_eq_true_eq]; exact ⟨h.len, wds_of fun x hx => (h.all x hx).wd⟩⟩
theorem OkL.lst {xs : List D} (h : OkL xs) : Okv (.lst xs) :=
  ⟨by rw [EvP.nl]; exact nls_of fun x hx => (h.all x hx).nl, by rw [EvP.wd, Bool.and_eq_true, decide_eq_true_eq]; exact ⟨h.len, wds_of fun x hx => (h.all x hx).wd⟩⟩
theorem Okv.tup {xs : List D} (h : Okv (.tup xs)) : OkL xs := by
  obtain ⟨h1, h2⟩ := h
  rw [EvP.nl] at h1
  rw [EvP.wd, Bool.and_eq_true, decide_eq_true_eq] at h2
  exact ⟨h2.1, fun x hx => ⟨nls_mem h1 x hx, wds_mem h2.2 x hx⟩⟩
theorem Okv.int (i : Int) : Okv (.int i) := ⟨rfl, rfl⟩
theorem Okv.bl (i : Bool) : Okv (.bl i) := ⟨rfl, rfl⟩
theorem Okv.str (i : Str) : Okv (.str i) := ⟨rfl, rfl⟩
theorem Okv.non : Okv .non := ⟨rfl, rfl⟩
theorem OkL.sub {xs ys : List D} (h : OkL xs) (hs : ∀ y ∈ ys, y ∈ xs) (hl : ys.length ≤ 1000) : OkL ys := ⟨hl, fun y hy => h.all y (hs y hy)⟩
theorem slc_sub {xs : List D} {l k : Option Int} : (∀ x ∈ slcL xs l k, x ∈ xs) ∧ (slcL xs l k).length ≤ xs.length := by
  unfold slcL
  refine ⟨fun x hx => List.mem_of_mem_drop (List.mem_of_mem_take hx), ?_⟩
  rw [List.length_take, List.length_drop]
  omega
theorem OkL.slc {xs : List D} (h : OkL xs) {l k : Option Int} : OkL (slcL xs l k) := h.sub slc_sub.1 (Nat.le_trans slc_sub.2 h.len)
theorem OkL.rev {xs : List D} (h : OkL xs) : OkL xs.reverse := h.sub (fun y hy => List.mem_reverse.mp hy) (by rw [List.length_reverse]; exact h.len)
theorem OkL.app {xs ys : List D} (h : OkL xs) (g : OkL ys) (hl : xs.length + ys.length ≤ 1000) : OkL (xs ++ ys) :=
  ⟨by rw [List.length_append]; exact hl, fun x hx => (List.mem_append.mp hx).elim (h.all x) (g.all x)⟩
theorem OkL.one {x : D} (h : Okv x) : OkL [x] := ⟨by simp, fun y hy => by rw [List.mem_singleton.mp hy]; exact h⟩
theorem OkL.nil : OkL [] := ⟨by simp, fun y hy => by cases hy⟩
theorem OkL.cons {x : D} {xs : List D} (h : Okv x) (g : OkL xs) (hl : xs.length < 1000) : OkL (x :: xs) := by
  have := (OkL.one h).app g (by simp; omega)
  exact this
theorem Okv.ints {ks : List Nat} (h : ks.length ≤ 1000) : OkL (ks.map fun (k : Nat) => D.int k) :=
  ⟨by rw [List.length_map]; exact h, fun x hx => by obtain ⟨k, _, rfl⟩ := List.mem_map.mp hx; exact .int _⟩
theorem OkL.map {α : Type} {f : α → D} {L : List α} (hl : L.length ≤ 1000) (h : ∀ a ∈ L, Okv (f a)) : OkL (L.map f) :=
  ⟨by rw [List.length_map]; exact hl, fun x hx => by obtain ⟨k, hk, rfl⟩ := List.mem_map.mp hx; exact h k hk⟩
theorem OkL.rep {xs : List D} (h : OkL xs) {k : Nat} (hl : k * xs.length ≤ 1000) : OkL (List.replicate k xs).flatten := by
  refine ⟨by rw [List.length_flatten]; simp; exact hl, fun x hx => ?_⟩
  obtain ⟨ys, hy, hx⟩ := List.mem_flatten.mp hx
  rw [(List.mem_replicate.mp hy).2] at hx
  exact h.all x hx
theorem OkL.tail {xs : List D} (h : OkL xs) : OkL xs.tail := h.sub (fun y hy => List.mem_of_mem_tail hy) (by have := h.len; simp; omega)
theorem OkL.drop {xs : List D} (h : OkL xs) (k : Nat) : OkL (xs.drop k) := h.sub (fun y hy => List.mem_of_mem_drop hy) (by have := h.len; simp; omega)
theorem OkL.take {xs : List D} (h : OkL xs) (k : Nat) : OkL (xs.take k) := h.sub (fun y hy => List.mem_of_mem_take hy) (by have := h.len; simp; omega)
theorem OkL.rng {k : Nat} (h : k ≤ 1000) : OkL (rng 0 k) := by
  unfold Ev.rng
  exact .map (by rw [List.length_range]; exact h) fun _ _ => .int _
theorem Okv.plD {r : List Nat} (h : r.length ≤ 1000) : Okv (EvP.plD r) := (Okv.ints h).tup
theorem enumL_from : ∀ (xs : List D) (k : Nat), enumL k xs = (List.range xs.length).map fun i => .tup [.int ((k + i : Nat) : Int), xs.getD i .non]
  | [], k => by simp [enumL]
  | x :: xs, k => by
    rw [enumL, enumL_from xs (k + 1), List.length_cons, List.range_succ_eq_map, List.map_cons, List.map_map]
    congr 1
    refine List.map_congr_left fun i _ => ?_
    show D.tup [.int ((k + 1 + i : Nat) : Int), xs.getD i .non] = .tup [.int ((k + (i + 1) : Nat) : Int), (x :: xs).getD (i + 1) .non]
    rw [List.getD_cons_succ, show k + 1 + i = k + (i + 1) by omega]
theorem enumL_eq (xs : List D) : enumL 0 xs = (List.range xs.length).map fun i => .tup [.int (i : Nat), xs.getD i .non] := by
  rw [enumL_from]
  exact List.map_congr_left fun i _ => by rw [Nat.zero_add]
theorem zipL_eq : ∀ (xs ys : List D), zipL xs ys = (List.range (min xs.length ys.length)).map fun i => .tup [xs.getD i .non, ys.getD i .non]
  | [], ys => by simp [zipL]
  | x :: xs, [] => by simp [zipL]
  | x :: xs, y :: ys => by
    rw [zipL, zipL_eq xs ys, List.length_cons, List.length_cons, show min (xs.length + 1) (ys.length + 1) = min xs.length ys.length + 1 by omega, List.range_succ_eq_map, List.map_cons, List.map_map]
    congr 1
/-- a loop over data -/
theorem forL_foldX {σ τ : Type} {bd : D → Ms → R Unit} {body : Ms → R Fl} {E : Ex → Ms → Prop} {P : Fl → Ms → Prop} {t : Tg2 P E} (L : List D) (M : σ → τ → Ms) (I : List D → σ → Prop) {s0 : σ} {x0 : τ} (h0 : I [] s0)
    (step : ∀ (done rest : List D) (a : D) (s : σ) (x : τ), L = done ++ a :: rest → I done s → ∀ {K : Fl → Ms → Prop} {E : Ex → Ms → Prop} {t : Tg2 K E}, (∀ s' x', I (done ++ [a]) s' → K .nx (M s' x')) → (∀ d m, P (.rt d) m → K (.rt d) m) → Wp (bd a (M s x)) (fun _ m => Wp (body m) K E t) E ⟨()⟩)
    (hP : ∀ s x, I L s → P .nx (M s x)) : Wp (forL bd body L (M s0 x0)) P E t := by
  have := forL_foldI (t := t) L id M I (x0 := x0) h0 step hP
  rwa [List.map_id] at this
/-- one of a list, by a draw -/
theorem w_at {xs : List D} {z : Int} {P : D → Ms → Prop} {E : Ex → Ms → Prop} {t : Tg2 P E} {m : Ms} (h0 : 0 ≤ z) (h1 : z < xs.length) (h : ∀ x ∈ xs, P x m) : Wp (opt (atL xs z) m) P E t := by
  have hk : z.toNat < xs.length := by omega
  rw [atL_nat h0, List.getElem?_eq_getElem hk, Wp_opt_some]
  exact h _ (List.getElem_mem hk)
end EvP

set_option Elab.async false
set_option linter.all false
set_option maxRecDepth 100000
set_option autoImplicit false
set_option maxHeartbeats 1000000
/-! Am: automata, no program in sight. -/
namespace EvP
open PySem L2 Ev
/-- an entry of that arity -/
inductive Row (q : Nat) : Nat → D → Prop
  | z {s : Nat} : s < q → Row q 0 (.int s)
  | s {a : Nat} {xs : List D} : xs.length = q → (∀ x ∈ xs, Row q a x) → Row q (a + 1) (.tup xs)
def walkD : D → List Nat → D
  | d, [] => d
  | .tup xs, k :: ks => walkD (xs.getD k .non) ks
  | _, _ :: _ => .non
theorem Row.step {q a k : Nat} {d : D} (h : Row q (a + 1) d) (hk : k < q) : ∃ xs c, d = .tup xs ∧ xs.length = q ∧ xs[k]? = some c ∧ Row q a c := by
  cases h with
  | @s _ xs h1 h2 =>
    have hl : k < xs.length := by omega
    exact ⟨xs, xs[k], rfl, h1, List.getElem?_eq_getElem hl, h2 _ (List.getElem_mem hl)⟩
theorem walk_cons {xs : List D} {k : Nat} {ks : List Nat} {c : D} (h : xs[k]? = some c) : walkD (.tup xs) (k :: ks) = walkD c ks := by
  rw [walkD, List.getD_eq_getElem?_getD, h]
  rfl
theorem Row.walk {q : Nat} : ∀ {ks : List Nat} {d : D}, Row q ks.length d → (∀ k ∈ ks, k < q) → ∃ s, s < q ∧ walkD d ks = .int (s : Nat)
  | [], d, h, _ => by
    cases h with
    | z hs => exact ⟨_, hs, by rw [walkD]⟩
  | k :: ks, d, h, hk => by
    obtain ⟨xs, c, rfl, h1, h2, h3⟩ := h.step (hk k (by simp))
    obtain ⟨s, hs, e⟩ := Row.walk h3 fun k' hk' => hk k' (by simp [hk'])
    exact ⟨s, hs, by rw [walk_cons h2, e]⟩
theorem walk_snoc {ks : List Nat} {k : Nat} : ∀ {d : D}, walkD d (ks ++ [k]) = walkD (walkD d ks) [k] := by
  induction ks with
  | nil => intro d; rfl
  | cons j ks ih =>
    intro d
    cases d with
    | tup xs => rw [List.cons_append, walkD, walkD]; exact ih
    | _ => simp [walkD]
def toN (d : D) : Nat := match d with
  | .int i => i.toNat
  | _ => 0
mutual
/-- the state of a tree -/
def stD (st : List D) : D → Nat
  | .tup xs => stH st xs
  | _ => 0
def stH (st : List D) : List D → Nat
  | [] => 0
  | s :: cs => toN (walkD (st.getD (toN s) .non) (stL st cs))
def stL (st : List D) : List D → List Nat
  | [] => []
  | c :: cs => stD st c :: stL st cs
end
theorem stL_map {st : List D} : ∀ {cs : List D}, stL st cs = cs.map (stD st)
  | [] => by rw [stL]; rfl
  | c :: cs => by rw [stL, stL_map]; rfl
structure Aut (as : List Nat) (gd : List Bool) (st : List D) : Prop where
  ars : Ars as
  q1 : 1 ≤ gd.length
  q4 : gd.length ≤ 4
  len : st.length = as.length
  row : ∀ (i a : Nat) (d : D), as[i]? = some a → st[i]? = some d → Row gd.length a d
def auD (as : List Nat) (gd : List Bool) (st : List D) : D := .tup [arD as, .tup (gd.map D.bl), .tup st]
section
variable {as : List Nat} {gd : List Bool} {st : List D}
theorem Aut.entry (A : Aut as gd st) {s k : Nat} (h : as[s]? = some k) : ∃ d, st[s]? = some d ∧ Row gd.length k d := by
  have hl : s < st.length := by rw [A.len]; exact (List.getElem?_eq_some_iff.mp h).1
  exact ⟨st[s], List.getElem?_eq_getElem hl, A.row s k _ h (List.getElem?_eq_getElem hl)⟩
theorem szD_lt {s : D} {cs : List D} {c : D} (h : c ∈ cs) : szD c < szD (.tup (s :: cs)) := by
  obtain ⟨i, e⟩ := List.getElem?_of_mem h
  have := szL_mem e
  rw [szD, szH]
  omega
/-- the state, and where it is read -/
theorem Aut.stOk (A : Aut as gd st) : ∀ (k : Nat) (t : D), szD t ≤ k → Tr as t → stD st t < gd.length ∧ ∃ (s : Nat) (cs : List D) (d : D), t = .tup (.int s :: cs) ∧ as[s]? = some cs.length ∧ st[s]? = some d ∧ Row gd.length cs.length d ∧ (∀ c ∈ cs, Tr as c ∧ stD st c < gd.length) ∧ walkD d (cs.map (stD st)) = .int (stD st t : Nat) := by
  intro k
  induction k using Nat.strongRecOn with
  | _ k ih =>
  intro t hk ht
  obtain ⟨s, cs, rfl, h1, h2⟩ := ht.inv
  obtain ⟨d, e, hr⟩ := A.entry h1
  have hc : ∀ c ∈ cs, Tr as c ∧ stD st c < gd.length := fun c hc => ⟨h2 c hc, (ih (szD c) (by have := szD_lt (s := .int (s : Nat)) hc; omega) c (Nat.le_refl _) (h2 c hc)).1⟩
  obtain ⟨r, hr1, hr2⟩ := Row.walk (ks := cs.map (stD st)) (by rw [List.length_map]; exact hr) (fun k hk => by
    obtain ⟨c, hc1, rfl⟩ := List.mem_map.mp hk
    exact (hc c hc1).2)
  have es : stD st (.tup (.int s :: cs)) = r := by
    rw [stD, stH, stL_map]
    show toN (walkD (st.getD (Int.toNat (s : Nat)) .non) _) = r
    rw [Int.toNat_natCast, List.getD_eq_getElem?_getD, e]
    show toN (walkD d _) = r
    rw [hr2]
    show Int.toNat (r : Nat) = r
    exact Int.toNat_natCast r
  refine ⟨by rw [es]; exact hr1, s, cs, d, rfl, h1, e, hr, hc, by rw [es]; exact hr2⟩
end
end EvP

set_option Elab.async false
set_option linter.all false
set_option maxRecDepth 100000
set_option autoImplicit false
set_option maxHeartbeats 1000000
/-! Pm: places of trees, no program in sight. -/
namespace EvP
open PySem L2 Ev
mutual
/-- == of a value with itself -/
theorem eqv_self : ∀ d : D, d.pl = true → D.eqv d d = true
  | .non, _ => by simp [D.eqv]
  | .bl _, _ => by simp [D.eqv]
  | .int _, _ => by simp [D.eqv]
  | .str _, _ => by simp [D.eqv]
  | .tup xs, h => by rw [D.eqv]; rw [D.pl] at h; exact eqvs_self xs h
  | .lst xs, h => by rw [D.eqv]; rw [D.pl] at h; exact eqvs_self xs h
  | .dic _, h => by simp [D.pl] at h
  | .loc _, h => by simp [D.pl] at h
theorem eqvs_self : ∀ ds : List D, D.pls ds = true → D.eqvs ds ds = true
  | [], _ => by rw [D.eqvs]
  | d :: ds, h => by
    rw [D.pls, Bool.and_eq_true] at h
    rw [D.eqvs, eqv_self d h.1, eqvs_self ds h.2]
    rfl
end
mutual
/-- the places of a tree, in order -/
def plT : D → List (List Nat)
  | .tup xs => plH xs
  | _ => [[]]
def plH : List D → List (List Nat)
  | [] => [[]]
  | _ :: cs => [] :: plL 0 cs
def plL : Nat → List D → List (List Nat)
  | _, [] => []
  | i, c :: cs => (plT c).map (i :: ·) ++ plL (i + 1) cs
end
/-- the part at a place -/
def partD : D → List Nat → D
  | t, [] => t
  | .tup xs, i :: p => partD (xs.getD (i + 1) .non) p
  | _, _ :: _ => .non
theorem part_cons {x : D} {cs : List D} {i : Nat} {c : D} {p : List Nat} (e : cs[i]? = some c) : partD (.tup (x :: cs)) (i :: p) = partD c p := by
  rw [partD, List.getD_cons_succ, List.getD_eq_getElem?_getD, e]
  rfl
theorem Sub.part {t s : D} {p : List Nat} (h : Sub t p s) : partD t p = s := by
  induction h with
  | here d => rw [partD]
  | @down xs i c s p e _ ih =>
    cases xs with
    | nil => simp at e
    | cons x cs =>
      rw [List.getElem?_cons_succ] at e
      rw [part_cons e, ih]
theorem plL_mem {i : Nat} : ∀ {cs : List D} {q : List Nat}, q ∈ plL i cs ↔ ∃ j c p, cs[j]? = some c ∧ p ∈ plT c ∧ q = (i + j) :: p
  | [], q => by
    rw [plL]
    constructor
    · intro h; cases h
    · rintro ⟨j, c, p, e, _⟩; simp at e
  | c :: cs, q => by
    rw [plL, List.mem_append, List.mem_map, plL_mem]
    constructor
    · rintro (⟨p, hp, rfl⟩ | ⟨j, c', p, e, hp, rfl⟩)
      · exact ⟨0, c, p, rfl, hp, rfl⟩
      · exact ⟨j + 1, c', p, by rw [List.getElem?_cons_succ]; exact e, hp, by rw [show i + 1 + j = i + (j + 1) by omega]⟩
    · rintro ⟨j, c', p, e, hp, rfl⟩
      cases j with
      | zero =>
        cases e
        exact .inl ⟨p, hp, rfl⟩
      | succ j =>
        rw [List.getElem?_cons_succ] at e
        exact .inr ⟨j, c', p, e, hp, by rw [show i + 1 + j = i + (j + 1) by omega]⟩
theorem plT_sub {as : List Nat} : ∀ (k : Nat) (t : D), szD t ≤ k → Tr as t → ∀ p, p ∈ plT t ↔ ∃ s, Sub t p s := by
  intro k
  induction k using Nat.strongRecOn with
  | _ k ih =>
  intro t hk ht p
  obtain ⟨s, cs, rfl, h1, h2⟩ := ht.inv
  rw [plT, plH, List.mem_cons, plL_mem]
  constructor
  · rintro (rfl | ⟨j, c, p', e, hp, rfl⟩)
    · exact ⟨_, .here _⟩
    · have hc := List.mem_of_getElem? e
      obtain ⟨u, hu⟩ := (ih (szD c) (by have := szD_lt (s := .int (s : Nat)) hc; omega) c (Nat.le_refl _) (h2 c hc) p').mp hp
      rw [Nat.zero_add]
      exact ⟨u, .down (by rw [List.getElem?_cons_succ]; exact e) hu⟩
  · rintro ⟨u, hu⟩
    cases hu with
    | here => exact .inl rfl
    | @down xs i c s' p' e hu =>
      rw [List.getElem?_cons_succ] at e
      have hc := List.mem_of_getElem? e
      exact .inr ⟨i, c, p', e, (ih (szD c) (by have := szD_lt (s := .int (s : Nat)) hc; omega) c (Nat.le_refl _) (h2 c hc) p').mpr ⟨u, hu⟩, by rw [Nat.zero_add]⟩
theorem plL_len : ∀ {cs : List D} {i : Nat}, (∀ c ∈ cs, (plT c).length = szD c) → (plL i cs).length = szL cs
  | [], _, _ => by rw [plL, szL]; rfl
  | c :: cs, i, h => by
    rw [plL, szL, List.length_append, List.length_map, h c (by simp), plL_len fun c hc => h c (by simp [hc])]
theorem plT_len {as : List Nat} : ∀ (k : Nat) (t : D), szD t ≤ k → Tr as t → (plT t).length = szD t := by
  intro k
  induction k using Nat.strongRecOn with
  | _ k ih =>
  intro t hk ht
  obtain ⟨s, cs, rfl, h1, h2⟩ := ht.inv
  rw [plT, plH, szD, szH, List.length_cons, plL_len fun c hc => ih (szD c) (by have := szD_lt (s := .int (s : Nat)) hc; omega) c (Nat.le_refl _) (h2 c hc)]
  omega
theorem plL_snoc {cs : List D} {c : D} : ∀ {i : Nat}, plL i (cs ++ [c]) = plL i cs ++ (plT c).map ((i + cs.length) :: ·) := by
  induction cs with
  | nil => intro i; rw [List.nil_append, plL, plL, plL]; simp
  | cons x cs ih =>
    intro i
    rw [List.cons_append, plL, plL, ih, List.append_assoc, List.length_cons, show i + 1 + cs.length = i + (cs.length + 1) by omega]
end EvP

set_option Elab.async false
set_option linter.all false
set_option maxRecDepth 100000
set_option autoImplicit false
set_option maxHeartbeats 1000000
/-! Pm2: places and parts put in. -/
namespace EvP
open PySem L2 Ev
theorem eqvs_ints : ∀ {p q : List Nat}, D.eqvs (p.map fun (i : Nat) => D.int i) (q.map fun (i : Nat) => D.int i) = decide (p = q)
  | [], [] => by simp [D.eqvs]
  | [], _ :: _ => by simp [D.eqvs]
  | _ :: _, [] => by simp [D.eqvs]
  | a :: p, b :: q => by
    rw [List.map_cons, List.map_cons, D.eqvs, eqvs_ints, D.eqv]
    by_cases h : a = b
    · subst h
      simp
    · have : ((a : Int) == (b : Int)) = false := by simp; omega
      simp [this, h]
theorem eqv_plD {p q : List Nat} : D.eqv (plD p) (plD q) = decide (p = q) := by
  unfold plD
  rw [D.eqv]
  exact eqvs_ints
/-- the put tree at a place that is not below the place put at -/
theorem Sub.off {as : List Nat} {t s b : D} {p : List Nat} (h : Sub t p s) : Tr as t → ∀ {w : List Nat} {u : D}, Sub t w u → ¬ p <+: w →
    (∃ u', Sub (putD t p b) w u' ∧ ((¬ w <+: p → u' = u) ∧ (w <+: p → u' = putD u (p.drop w.length) b ∧ Sub u (p.drop w.length) s))) := by
  induction h with
  | here d =>
    intro _ w u _ hn
    exact absurd (List.nil_prefix) hn
  | @down xs i c s p e hs ih =>
    intro ht w u hw hn
    obtain ⟨k, cs, e1, h1, h2⟩ := ht.inv
    cases e1
    rw [List.getElem?_cons_succ] at e
    have hc := h2 c (List.mem_of_getElem? e)
    cases hw with
    | here =>
      refine ⟨_, .here _, fun h => absurd List.nil_prefix h, fun _ => ⟨rfl, ?_⟩⟩
      exact .down (by rw [List.getElem?_cons_succ]; exact e) hs
    | @down _ j c2 _ w e2 hw =>
      rw [List.getElem?_cons_succ] at e2
      rw [put_eq e]
      have hl := (List.getElem?_eq_some_iff.mp e).1
      by_cases z : j = i
      · subst z
        rw [e] at e2
        cases e2
        have hn' : ¬ p <+: w := fun q => hn ((List.cons_prefix_cons).mpr ⟨rfl, q⟩)
        obtain ⟨u', g1, g2, g3⟩ := ih hc hw hn'
        refine ⟨u', .down ?_ g1, fun q => g2 fun q' => q ((List.cons_prefix_cons).mpr ⟨rfl, q'⟩), fun q => ?_⟩
        · rw [List.getElem?_cons_succ, List.getElem?_append_right (by rw [List.length_take]; omega), List.length_take, Nat.min_eq_left (Nat.le_of_lt hl), Nat.sub_self]
          rfl
        · have := g3 ((List.cons_prefix_cons).mp q).2
          simpa using this
      · refine ⟨u, .down ?_ hw, fun _ => rfl, fun q => absurd ((List.cons_prefix_cons).mp q).1 z⟩
        rw [List.getElem?_cons_succ]
        rcases Nat.lt_or_gt_of_ne z with lt | gt
        · rw [List.getElem?_append_left (by rw [List.length_take]; omega), List.getElem?_take, if_pos lt]
          exact e2
        · rw [List.getElem?_append_right (by rw [List.length_take]; omega), List.length_take, Nat.min_eq_left (Nat.le_of_lt hl)]
          obtain ⟨m, rfl⟩ : ∃ m, j = i + 1 + m := ⟨j - i - 1, by omega⟩
          rw [show i + 1 + m - i = m + 1 by omega, List.getElem?_cons_succ, List.getElem?_drop]
          exact e2
/-- the same state put in -/
theorem Sub.state {as : List Nat} {st : List D} {t s b : D} {p : List Nat} (h : Sub t p s) : Tr as t → stD st b = stD st s → stD st (putD t p b) = stD st t := by
  induction h with
  | here d => exact fun _ e => by rw [putD]; exact e
  | @down xs i c s p e hs ih =>
    intro ht eq
    obtain ⟨k, cs, e1, h1, h2⟩ := ht.inv
    cases e1
    rw [List.getElem?_cons_succ] at e
    have hc := h2 c (List.mem_of_getElem? e)
    rw [put_eq e, stD, stD, stH, stH, stL_map, stL_map]
    have : (cs.take i ++ putD c p b :: cs.drop (i + 1)).map (stD st) = cs.map (stD st) := by
      conv => rhs; rw [split_at e]
      rw [List.map_append, List.map_append, List.map_cons, List.map_cons, ih hc eq]
    rw [this]
theorem Sub.drop_put {as : List Nat} {u s b : D} {q : List Nat} (h : Sub u q s) : True := trivial
end EvP

set_option Elab.async false
set_option linter.all false
set_option maxRecDepth 100000
set_option autoImplicit false
set_option maxHeartbeats 1000000
/-! Srt: what sorted does, no program in sight. -/
namespace EvP
open PySem L2 Ev
def ltP (a b : D) : Bool := PySem.W.dataLt a.py b.py
theorem ltP_irr (a : D) : ltP a a = false := PyProof.Rows.lex_irrefl _
theorem ltP_trans {a b c : D} (h1 : ltP a b = true) (h2 : ltP b c = true) : ltP a c = true := PyProof.Rows.lex_trans _ _ _ h1 h2
theorem ltP_neg {a b c : D} (h : ltP a c = true) : ltP a b = true ∨ ltP b c = true := PyProof.Rows.lex_negTrans _ _ _ h
def leP (a b : D) : Bool := !ltP b a
theorem leP_trans (a b c : D) (h1 : leP a b = true) (h2 : leP b c = true) : leP a c = true := by
  unfold leP at *
  cases h : ltP c a with
  | false => rfl
  | true =>
    rcases ltP_neg (b := b) h with z | z
    · rw [z] at h2; cases h2
    · rw [z] at h1; cases h1
theorem leP_total (a b : D) : (leP a b || leP b a) = true := by
  unfold leP
  cases h : ltP b a with
  | false => rfl
  | true =>
    cases h2 : ltP a b with
    | false => rfl
    | true => have := ltP_trans h h2; rw [ltP_irr] at this; cases this
theorem sortL_le (xs : List D) : sortL xs = xs.mergeSort leP := rfl
theorem sortL_perm (xs : List D) : (sortL xs).Perm xs := List.mergeSort_perm _ _
theorem sortL_pw (xs : List D) : (sortL xs).Pairwise fun a b => leP a b = true := by
  rw [sortL_le]
  exact List.pairwise_mergeSort leP_trans leP_total xs
theorem pw_mem {α : Type} {r : α → α → Prop} : ∀ {l : List α}, l.Pairwise r → ∀ {a b : α}, a ∈ l → b ∈ l → a = b ∨ r a b ∨ r b a
  | [], _, a, b, ha, _ => by cases ha
  | x :: l, h, a, b, ha, hb => by
    rw [List.pairwise_cons] at h
    rcases List.mem_cons.mp ha with z | z <;> rcases List.mem_cons.mp hb with y | y
    · exact .inl (z.trans y.symm)
    · exact .inr (.inl (z ▸ h.1 b y))
    · exact .inr (.inr (y ▸ h.1 a z))
    · exact pw_mem h.2 z y
/-- what ascends is the sorted one of all that have the same members -/
theorem sortL_uniq {xs ys : List D} (hp : ys.Perm xs) (h : ys.Pairwise fun a b => ltP a b = true) : sortL xs = ys := by
  refine List.Perm.eq_of_pairwise (le := fun a b => leP a b = true) (fun a b ha hb h1 h2 => ?_) (sortL_pw xs) (h.imp fun {a b} q => ?_) ((sortL_perm xs).trans hp.symm)
  · have ha' : a ∈ ys := hp.mem_iff.mpr ((sortL_perm xs).mem_iff.mp ha)
    have hb' : b ∈ ys := hb
    rcases pw_mem h ha' hb' with z | z | z
    · exact z
    · unfold leP at h2; rw [z] at h2; cases h2
    · unfold leP at h1; rw [z] at h1; cases h1
  · unfold leP
    cases h2 : ltP b a with
    | false => rfl
    | true => have := ltP_trans q h2; rw [ltP_irr] at this; cases this
/-- places, one before another -/
def plt (a b : List Nat) : Bool := decide ((a.map fun (i : Nat) => (i : Int)) < (b.map fun (i : Nat) => (i : Int)))
theorem py_ns : ∀ p : List Nat, D.pys (p.map fun (i : Nat) => D.int i) = (p.map fun (i : Nat) => (i : Int)).map PyData.int
  | [] => rfl
  | i :: p => by
    show PyData.int i :: D.pys _ = _
    rw [py_ns p]
    rfl
theorem ltP_pl (a b : List Nat) : ltP (plD a) (plD b) = plt a b := by
  show PySem.W.dataLt (.tuple (D.pys _)) (.tuple (D.pys _)) = _
  rw [PySem.W.dataLt_tuple, py_ns, py_ns]
  exact PySem.W.dataLt_ints _ _
theorem plt_pre {p a b : List Nat} : plt (p ++ a) (p ++ b) = plt a b := by
  unfold plt
  congr 1
  apply propext
  rw [List.map_append, List.map_append]
  generalize (p.map fun (i : Nat) => (i : Int)) = q
  induction q with
  | nil => rfl
  | cons x q ih =>
    rw [List.cons_append, List.cons_append, List.cons_lt_cons_iff]
    constructor
    · rintro (h | ⟨_, h⟩)
      · omega
      · exact ih.mp h
    · intro h
      exact .inr ⟨rfl, ih.mpr h⟩
theorem plt_nil {p a : List Nat} (h : a ≠ []) : plt p (p ++ a) = true := by
  have := plt_pre (p := p) (a := []) (b := a)
  rw [List.append_nil] at this
  rw [this]
  cases a with
  | nil => exact absurd rfl h
  | cons x a => unfold plt; simp
theorem plt_step {p a b : List Nat} {i j : Nat} (h : i < j) : plt (p ++ i :: a) (p ++ j :: b) = true := by
  rw [plt_pre]
  unfold plt
  rw [decide_eq_true_eq, List.map_cons, List.map_cons, List.cons_lt_cons_iff]
  left
  omega
theorem alike_pl (a b : List Nat) : PySem.W.alike (plD a).py (plD b).py = true := by
  show PySem.W.alike (.tuple (D.pys _)) (.tuple (D.pys _)) = true
  rw [py_ns, py_ns, PySem.W.alike]
  exact PySem.W.alike_ints _ _
theorem eqv_py_pl (a b : List Nat) (h : plt a b = true) : PyData.eqv (plD a).py (plD b).py = false := by
  cases e : PyData.eqv (plD a).py (plD b).py with
  | false => rfl
  | true =>
    have := (PySem.W.toks_eqv _ _ (alike_pl a b)).1 e
    have h2 := ltP_pl a b
    rw [h] at h2
    unfold ltP PySem.W.dataLt at h2
    rw [this] at h2
    have h3 := ltP_irr (plD b)
    unfold ltP PySem.W.dataLt at h3
    rw [h3] at h2
    cases h2
/-- tuples that begin with a place -/
theorem ltP_tup {a b : List Nat} {xs ys : List D} (h : plt a b = true) : ltP (.tup (plD a :: xs)) (.tup (plD b :: ys)) = true := by
  show PySem.W.dataLt (.tuple ((plD a).py :: D.pys xs)) (.tuple ((plD b).py :: D.pys ys)) = true
  rw [PySem.W.dataLt_tuple, PySem.W.dataLt_cons (alike_pl a b), eqv_py_pl a b h, if_neg Bool.false_ne_true]
  have := ltP_pl a b
  rw [h] at this
  exact this
end EvP

set_option Elab.async false
set_option linter.all false
set_option maxRecDepth 100000
set_option autoImplicit false
set_option maxHeartbeats 1000000
/-! So: the order of trees, no program in sight. -/
namespace EvP
open PySem L2 Ev
mutual
/-- the symbols, node by node -/
def symD : D → List Nat
  | .tup xs => symH xs
  | _ => []
def symH : List D → List Nat
  | [] => []
  | s :: cs => toN s :: symL cs
def symL : List D → List Nat
  | [] => []
  | c :: cs => symD c ++ symL cs
end
theorem toNi {k : Nat} : toN (.int (k : Nat)) = k := Int.toNat_natCast k
theorem sym_cons {s : Nat} {cs : List D} : symD (.tup (.int (s : Nat) :: cs)) = s :: symL cs := by rw [symD, symH, toNi]
theorem symL_app : ∀ {xs ys : List D}, symL (xs ++ ys) = symL xs ++ symL ys
  | [], ys => by rw [symL]; rfl
  | x :: xs, ys => by rw [List.cons_append, symL, symL, symL_app, List.append_assoc]
theorem sym_len {as : List Nat} : ∀ (k : Nat) (t : D), szD t ≤ k → Tr as t → (symD t).length = szD t := by
  intro k
  induction k with
  | zero => intro t h; have := sz_pos t; omega
  | succ k ih =>
    intro t hk ht
    obtain ⟨s, cs, rfl, h1, h2⟩ := ht.inv
    have hL : ∀ cs' : List D, (∀ c ∈ cs', Tr as c ∧ szD c ≤ k) → (symL cs').length = szL cs' := fun cs' => by
      induction cs' with
      | nil => intro _; rw [symL, szL]; rfl
      | cons c cs' ih' =>
        intro hc
        rw [symL, szL, List.length_append, ih c (hc c (by simp)).2 (hc c (by simp)).1, ih' fun c hm => hc c (by simp [hm])]
    rw [sym_cons, List.length_cons, hL cs fun c hc => ⟨h2 c hc, by have := szD_lt (s := .int (s : Nat)) hc; omega⟩, szD, szH]
    omega
/-- the symbols tell the tree -/
theorem sym_inj {as : List Nat} : ∀ (k : Nat) (a b : D) (r r' : List Nat), szD a ≤ k → Tr as a → Tr as b → symD a ++ r = symD b ++ r' → a = b ∧ r = r' := by
  intro k
  induction k with
  | zero => intro a b r r' h; have := sz_pos a; omega
  | succ k ih =>
    intro a b r r' hk ha hb e
    obtain ⟨s, cs, rfl, h1, h2⟩ := ha.inv
    obtain ⟨s', cs', rfl, g1, g2⟩ := hb.inv
    rw [sym_cons, sym_cons, List.cons_append, List.cons_append] at e
    obtain ⟨es, er⟩ := List.cons.inj e
    subst es
    rw [h1] at g1
    have hlen : cs.length = cs'.length := Option.some.inj g1
    have hL : ∀ (xs ys : List D) (r r' : List Nat), xs.length = ys.length → (∀ c ∈ xs, Tr as c ∧ szD c ≤ k) → (∀ c ∈ ys, Tr as c) → symL xs ++ r = symL ys ++ r' → xs = ys ∧ r = r' := fun xs => by
      induction xs with
      | nil =>
        intro ys r r' hl _ _ e
        cases ys with
        | nil => exact ⟨rfl, by simpa [symL] using e⟩
        | cons y ys => cases hl
      | cons x xs ih' =>
        intro ys r r' hl hx hy e
        cases ys with
        | nil => cases hl
        | cons y ys =>
          rw [symL, symL, List.append_assoc, List.append_assoc] at e
          obtain ⟨e1, e2⟩ := ih x y _ _ (hx x (by simp)).2 (hx x (by simp)).1 (hy y (by simp)) e
          obtain ⟨e3, e4⟩ := ih' ys r r' (by simpa using hl) (fun c hc => hx c (by simp [hc])) (fun c hc => hy c (by simp [hc])) e2
          exact ⟨by rw [e1, e3], e4⟩
    obtain ⟨e1, e2⟩ := hL cs cs' r r' hlen (fun c hc => ⟨h2 c hc, by have := szD_lt (s := .int (s : Nat)) hc; omega⟩) g2 er
    exact ⟨by rw [e1], e2⟩
def kN (t : D) : List Nat := szD t :: symD t
theorem kN_inj {as : List Nat} {a b : D} (ha : Tr as a) (hb : Tr as b) (h : kN a = kN b) : a = b := by
  have := (List.cons.inj h).2
  exact (sym_inj _ a b [] [] (Nat.le_refl _) ha hb (by simpa using this)).1
theorem ints_tri : ∀ {a b : List Int}, ¬ a < b → ¬ b < a → a = b
  | [], [], _, _ => rfl
  | [], y :: b, h, _ => absurd (by simp) h
  | x :: a, [], _, h => absurd (by simp) h
  | x :: a, y :: b, h1, h2 => by
    rw [List.cons_lt_cons_iff] at h1 h2
    have e : x = y := by
      rcases Int.lt_trichotomy x y with z | z | z
      · exact absurd (.inl z) h1
      · exact z
      · exact absurd (.inl z) h2
    subst e
    rw [ints_tri (fun z => h1 (.inr ⟨rfl, z⟩)) fun z => h2 (.inr ⟨rfl, z⟩)]
theorem plt_tri {a b : List Nat} (h1 : plt a b = false) (h2 : plt b a = false) : a = b := by
  unfold plt at h1 h2
  have := ints_tri (of_decide_eq_false h1) (of_decide_eq_false h2)
  have inj : ∀ {x y : List Nat}, (x.map fun (i : Nat) => (i : Int)) = (y.map fun (i : Nat) => (i : Int)) → x = y := fun {x} => by
    induction x with
    | nil => intro y h; cases y with | nil => rfl | cons _ _ => cases h
    | cons i x ih =>
      intro y h
      cases y with
      | nil => cases h
      | cons j y =>
        rw [List.map_cons, List.map_cons] at h
        obtain ⟨e1, e2⟩ := List.cons.inj h
        rw [ih e2, show i = j by omega]
  exact inj this
theorem plt_asym {a b : List Nat} (h : plt a b = true) : plt b a = false := by
  rw [← ltP_pl] at h ⊢
  cases e : ltP (plD b) (plD a) with
  | false => rfl
  | true => have := ltP_trans h e; rw [ltP_irr] at this; cases this
theorem plt_irr {a : List Nat} : plt a a = false := by rw [← ltP_pl]; exact ltP_irr _
/-- the law's own key -/
def ordD (t : D) : D := .tup [.int (szD t : Nat), plD (symD t)]
theorem ord_lt {a b : D} : ltD (ordD a) (ordD b) = plt (kN a) (kN b) := by
  show PySem.W.dataLt (.tuple [.int (szD a : Nat), (plD (symD a)).py]) (.tuple [.int (szD b : Nat), (plD (symD b)).py]) = _
  rw [PySem.W.dataLt_pair (by simp [PySem.W.alike]) (alike_pl _ _), PySem.W.dataLt_int]
  have hp : PySem.W.dataLt (plD (symD a)).py (plD (symD b)).py = plt (symD a) (symD b) := ltP_pl _ _
  rw [hp]
  have ek : plt (kN a) (kN b) = decide (((szD a : Nat) : Int) < (szD b : Nat) ∨ (((szD a : Nat) : Int) = (szD b : Nat) ∧ plt (symD a) (symD b) = true)) := by
    unfold plt kN
    rw [decide_eq_decide, List.map_cons, List.map_cons, List.cons_lt_cons_iff, decide_eq_true_eq]
  rw [ek]
  by_cases e : ((szD a : Nat) : Int) = (szD b : Nat)
  · have e1 : PyData.eqv (.int (szD a : Nat)) (.int (szD b : Nat)) = true := by rw [e]; simp [PyData.eqv]
    rw [if_pos e1]
    have e2 : ¬ ((szD a : Nat) : Int) < (szD b : Nat) := by omega
    cases hq : plt (symD a) (symD b) with
    | true => rw [eqv_py_pl _ _ hq]; simp [e]
    | false =>
      have : (if PyData.eqv (plD (symD a)).py (plD (symD b)).py = true then false else false) = false := by split <;> rfl
      rw [this]
      simp [e2]
  · have e1 : ¬ PyData.eqv (.int (szD a : Nat)) (.int (szD b : Nat)) = true := by simpa [PyData.eqv] using e
    rw [if_neg e1]
    simp [e]
theorem ord_ok (a b : D) : ltOk (ordD a) (ordD b) = true := by
  have h : ∀ a, (ordD a).pl = true ∧ (ordD a).dep ≤ 2 := fun a => by
    have := pl_plD (symD a)
    simp [ordD, D.pl, D.pls, D.dep, D.deps, this.1]
    omega
  have h1 := h a
  have h2 := h b
  have h3 : (ordD a).dep ≤ 60 := by omega
  have h4 : PySem.W.alike (ordD a).py (ordD b).py = true := by
    show PySem.W.alike (.tuple [.int (szD a : Nat), (plD (symD a)).py]) (.tuple [.int (szD b : Nat), (plD (symD b)).py]) = true
    rw [PySem.W.alike, PySem.W.alikeAll, PySem.W.alikeAll, alike_pl, PySem.W.alikeAll]
    simp [PySem.W.alike]
  unfold ltOk
  rw [h1.1, h2.1, h4, decide_eq_true h3]
  rfl
theorem key_lt (a b : D) : ltD (plD (kN a)) (plD (kN b)) = plt (kN a) (kN b) := ltP_pl _ _
theorem key_ok (a b : D) : ltOk (plD (kN a)) (plD (kN b)) = true := by
  have h1 := pl_plD (kN a)
  have h2 := pl_plD (kN b)
  have h3 : (plD (kN a)).dep ≤ 60 := by omega
  unfold ltOk
  rw [h1.1, h2.1, alike_pl, decide_eq_true h3]
  rfl
/-- == of trees -/
theorem tree_eqv {as : List Nat} : ∀ (k : Nat) (a b : D), szD a ≤ k → Tr as a → Tr as b → D.eqv a b = decide (a = b) := by
  intro k
  induction k with
  | zero => intro a b h; have := sz_pos a; omega
  | succ k ih =>
    intro a b hk ha hb
    obtain ⟨s, cs, rfl, h1, h2⟩ := ha.inv
    obtain ⟨s', cs', rfl, g1, g2⟩ := hb.inv
    have hL : ∀ (xs ys : List D), (∀ c ∈ xs, Tr as c ∧ szD c ≤ k) → (∀ c ∈ ys, Tr as c) → D.eqvs xs ys = decide (xs = ys) := fun xs => by
      induction xs with
      | nil => intro ys _ _; cases ys <;> simp [D.eqvs]
      | cons x xs ih' =>
        intro ys hx hy
        cases ys with
        | nil => simp [D.eqvs]
        | cons y ys =>
          rw [D.eqvs, ih x y (hx x (by simp)).2 (hx x (by simp)).1 (hy y (by simp)), ih' ys (fun c hc => hx c (by simp [hc])) fun c hc => hy c (by simp [hc])]
          by_cases e1 : x = y <;> by_cases e2 : xs = ys <;> simp [e1, e2]
    rw [D.eqv, D.eqvs, eqv_ii, hL cs cs' (fun c hc => ⟨h2 c hc, by have := szD_lt (s := .int (s : Nat)) hc; omega⟩) g2]
    by_cases e1 : s = s'
    · by_cases e2 : cs = cs' <;> simp [e1, e2]
    · have e3 : ¬ (s : Int) = (s' : Int) := by omega
      have e4 : ((s : Int) == (s' : Int)) = false := beq_eq_false_iff_ne.mpr e3
      rw [e4]
      simp
      intro e
      exact absurd e e3
end EvP

set_option Elab.async false
set_option linter.all false
set_option maxRecDepth 100000
set_option autoImplicit false
set_option maxHeartbeats 1000000
/-! Lt: trees by depth, no program in sight. -/
namespace EvP
open PySem L2 Ev
def lit (as : List Nat) : Nat → D → Bool
  | 0, _ => false
  | d + 1, .tup (x :: cs) => okS as x cs.length && cs.all (lit as d)
  | _ + 1, _ => false
theorem trL_all {as : List Nat} : ∀ {cs : List D}, trL as cs = cs.all (trD as)
  | [] => by rw [trL]; rfl
  | c :: cs => by rw [trL, trL_all]; rfl
theorem lit_tr {as : List Nat} : ∀ {d : Nat} {v : D}, lit as d v = true → trD as v = true
  | 0, v, h => by rw [lit] at h; cases h
  | d + 1, v, h => by
    cases v with
    | tup xs =>
      cases xs with
      | nil => simp [lit] at h
      | cons x cs =>
        rw [lit, Bool.and_eq_true] at h
        rw [trD, trH, h.1, trL_all, Bool.true_and, List.all_eq_true]
        exact fun c hc => lit_tr (List.all_eq_true.mp h.2 c hc)
    | _ => simp [lit] at h
theorem tr_lit {as : List Nat} : ∀ {d : Nat} {v : D}, szD v ≤ d → trD as v = true → lit as d v = true
  | 0, v, hs, _ => by have := sz_pos v; omega
  | d + 1, v, hs, h => by
    cases v with
    | tup xs =>
      cases xs with
      | nil => simp [trD, trH] at h
      | cons x cs =>
        rw [trD, trH, Bool.and_eq_true, trL_all] at h
        rw [lit, h.1, Bool.true_and, List.all_eq_true]
        refine fun c hc => tr_lit ?_ (List.all_eq_true.mp h.2 c hc)
        have := szD_lt (s := x) hc
        omega
    | _ => simp [trD] at h
/-- up to 15 nodes both say the same -/
theorem lit_iff {as : List Nat} {v : D} (h : szD v ≤ 15) : lit as 15 v = trD as v := by
  cases e : trD as v with
  | true => exact tr_lit h e
  | false =>
    cases e2 : lit as 15 v with
    | true => rw [lit_tr e2] at e; cases e
    | false => rfl
theorem ag_sum {cs : List D} : agD .sum (.lst (cs.map fun c => D.int (szD c : Nat))) = some (.int (szL cs : Nat)) := by
  have h : ∀ cs : List D, intsD (cs.map fun c => D.int (szD c : Nat)) = some (cs.map fun c => (szD c : Int)) := fun cs => by
    induction cs with
    | nil => rfl
    | cons c cs ih => simp [intsD, ih]
  have h2 : ∀ cs : List D, (cs.map fun c => (szD c : Int)).sum = (szL cs : Nat) := fun cs => by
    induction cs with
    | nil => simp [szL]
    | cons c cs ih => rw [List.map_cons, List.sum_cons, ih, szL]; omega
  show ((intsD _).map fun l => D.int l.sum) = _
  rw [h, Option.map_some, h2]
end EvP

set_option Elab.async false
set_option linter.all false
set_option maxRecDepth 100000
set_option autoImplicit false
set_option maxHeartbeats 1000000
/-! Sd: trees that are alike to a depth, no program in sight. -/
namespace EvP
open PySem L2 Ev
/-- alike to a depth -/
def sameD : Nat → D → D → Bool
  | 0, _, _ => true
  | k + 1, .tup (x :: cs), .tup (y :: ds) => decide (x = y) && (cs.zip ds).all fun p => sameD k p.1 p.2
  | _ + 1, _, _ => false
def rootD : D → D
  | .tup (x :: _) => x
  | _ => .non
/-- what is seen of a tree to a depth -/
def seen (d : Nat) (t : D) : List (List Nat × D) := ((plT t).filter fun p => decide (p.length < d)).map fun p => (p, rootD (partD t p))
def seenL (d : Nat) : Nat → List D → List (List Nat × D)
  | _, [] => []
  | i, c :: r => (seen d c).map (fun q => (i :: q.1, q.2)) ++ seenL d (i + 1) r
theorem seen_zero {t : D} : seen 0 t = [] := by
  unfold seen
  rw [List.filter_eq_nil_iff.mpr]
  · rfl
  · intro p _
    simp
theorem seenL_eq {d : Nat} {x : D} {full : List D} : ∀ (cs : List D) (i : Nat), full.drop i = cs → ((plL i cs).filter fun p => decide (p.length < d + 1)).map (fun p => (p, rootD (partD (.tup (x :: full)) p))) = seenL d i cs
  | [], i, e => by rw [plL, seenL]; rfl
  | c :: r, i, e => by
    have hc : full[i]? = some c := by rw [← List.head?_drop, e]; rfl
    have hr : full.drop (i + 1) = r := by
      have := congrArg List.tail e
      simpa using this
    rw [plL, seenL, List.filter_append, List.map_append, seenL_eq r (i + 1) hr]
    congr 1
    unfold seen
    rw [List.filter_map, List.map_map, List.map_map]
    have e1 : ((fun p : List Nat => decide (p.length < d + 1)) ∘ fun x => i :: x) = fun p => decide (p.length < d) := by
      funext p
      simp
    rw [e1]
    refine List.map_congr_left fun p _ => ?_
    show (i :: p, rootD (partD (.tup (x :: full)) (i :: p))) = (i :: p, rootD (partD c p))
    rw [part_cons hc]
theorem seen_succ {d : Nat} {x : D} {cs : List D} : seen (d + 1) (.tup (x :: cs)) = ([], x) :: seenL d 0 cs := by
  rw [← seenL_eq (x := x) (full := cs) cs 0 rfl]
  unfold seen
  rw [plT, plH, List.filter_cons_of_pos (by simp), List.map_cons]
  rfl
theorem seenL_head {d : Nat} : ∀ {cs : List D} {i : Nat}, ∀ q ∈ seenL d i cs, ∃ j p, i ≤ j ∧ q.1 = j :: p
  | [], i, q, h => by rw [seenL] at h; cases h
  | c :: r, i, q, h => by
    rw [seenL] at h
    rcases List.mem_append.mp h with h | h
    · obtain ⟨y, _, rfl⟩ := List.mem_map.mp h
      exact ⟨i, y.1, Nat.le_refl _, rfl⟩
    · obtain ⟨j, p, hj, e⟩ := seenL_head q h
      exact ⟨j, p, by omega, e⟩
theorem tag_app {i : Nat} : ∀ {l l' R R' : List (List Nat × D)}, (∀ q ∈ R, ∃ j p, i < j ∧ q.1 = j :: p) → (∀ q ∈ R', ∃ j p, i < j ∧ q.1 = j :: p) → l.map (fun q => (i :: q.1, q.2)) ++ R = l'.map (fun q => (i :: q.1, q.2)) ++ R' → l = l' ∧ R = R'
  | [], [], R, R', _, _, e => ⟨rfl, e⟩
  | [], y :: l', R, R', h, _, e => by
    exfalso
    have e : R = (i :: y.1, y.2) :: (l'.map (fun q => (i :: q.1, q.2)) ++ R') := e
    obtain ⟨j, p, hj, e2⟩ := h (i :: y.1, y.2) (by rw [e]; simp)
    cases e2
    omega
  | x :: l, [], R, R', _, h, e => by
    exfalso
    have e : (i :: x.1, x.2) :: (l.map (fun q => (i :: q.1, q.2)) ++ R) = R' := e
    obtain ⟨j, p, hj, e2⟩ := h (i :: x.1, x.2) (by rw [← e]; simp)
    cases e2
    omega
  | x :: l, y :: l', R, R', h, h', e => by
    have e : (i :: x.1, x.2) :: (l.map (fun q => (i :: q.1, q.2)) ++ R) = (i :: y.1, y.2) :: (l'.map (fun q => (i :: q.1, q.2)) ++ R') := e
    obtain ⟨e1, e2⟩ := List.cons.inj e
    obtain ⟨e3, e4⟩ := tag_app h h' e2
    obtain ⟨x1, x2⟩ := x
    obtain ⟨y1, y2⟩ := y
    cases e1
    exact ⟨by rw [e3], e4⟩
theorem seenL_iff {d : Nat} (hq : ∀ a b : D, True) {C : D → Prop} (ih : ∀ a b, C a → C b → (seen d a = seen d b ↔ sameD d a b = true)) : ∀ {cs ds : List D} {i : Nat}, cs.length = ds.length → (∀ c ∈ cs, C c) → (∀ c ∈ ds, C c) →
    (seenL d i cs = seenL d i ds ↔ ((cs.zip ds).all fun p => sameD d p.1 p.2) = true)
  | [], [], i, _, _, _ => by simp
  | [], _ :: _, i, e, _, _ => by simp at e
  | _ :: _, [], i, e, _, _ => by simp at e
  | c :: cs, e :: ds, i, hl, h1, h2 => by
    have hl : cs.length = ds.length := by simpa using hl
    have k := seenL_iff hq ih (i := i + 1) hl (fun x hx => h1 x (by simp [hx])) (fun x hx => h2 x (by simp [hx]))
    have k0 := ih c e (h1 c (by simp)) (h2 e (by simp))
    rw [seenL, seenL, List.zip_cons_cons, List.all_cons, Bool.and_eq_true, ← k, ← k0]
    constructor
    · intro q
      exact tag_app (fun q hq => by obtain ⟨j, p, a, b⟩ := seenL_head q hq; exact ⟨j, p, by omega, b⟩) (fun q hq => by obtain ⟨j, p, a, b⟩ := seenL_head q hq; exact ⟨j, p, by omega, b⟩) q
    · rintro ⟨e1, e2⟩
      rw [e1, e2]
theorem seen_iff {as : List Nat} : ∀ (d : Nat) (a b : D), Tr as a → Tr as b → (seen d a = seen d b ↔ sameD d a b = true) := by
  intro d
  induction d with
  | zero => intro a b _ _; rw [seen_zero, seen_zero, sameD]; simp
  | succ d ih =>
    intro a b ha hb
    obtain ⟨s, cs, rfl, h1, h2⟩ := ha.inv
    obtain ⟨s', ds, rfl, g1, g2⟩ := hb.inv
    rw [seen_succ, seen_succ, sameD, Bool.and_eq_true, decide_eq_true_eq]
    by_cases e : s = s'
    · subst e
      rw [h1] at g1
      have hl : cs.length = ds.length := Option.some.inj g1
      rw [← seenL_iff (fun _ _ => trivial) (C := Tr as) ih hl h2 g2 (i := 0)]
      simp
    · have e2 : ¬ (D.int (s : Nat) = D.int (s' : Nat)) := fun z => e (by have := D.int.inj z; omega)
      constructor
      · intro z
        have := (List.cons.inj z).1
        exact absurd (congrArg Prod.snd this) e2
      · rintro ⟨z, _⟩
        exact absurd z e2
theorem sameD_self {as : List Nat} {d : Nat} {a : D} (ha : Tr as a) : sameD d a a = true := (seen_iff d a a ha ha).mp rfl
theorem sameD_symm {as : List Nat} {d : Nat} {a b : D} (ha : Tr as a) (hb : Tr as b) : sameD d b a = sameD d a b := by
  have h1 := seen_iff d a b ha hb
  have h2 := seen_iff d b a hb ha
  cases e : sameD d a b with
  | true => exact h2.mp (h1.mpr e).symm
  | false =>
    cases e2 : sameD d b a with
    | false => rfl
    | true =>
      have := h1.mp (h2.mpr e2).symm
      rw [e] at this
      cases this
theorem zip_eq : ∀ {cs ds : List D}, cs.length = ds.length → (∀ p ∈ cs.zip ds, p.1 = p.2) → cs = ds
  | [], [], _, _ => rfl
  | [], _ :: _, e, _ => by simp at e
  | _ :: _, [], e, _ => by simp at e
  | c :: cs, d :: ds, e, h => by
    rw [zip_eq (cs := cs) (ds := ds) (by simpa using e) fun p hp => h p (by simp [hp])]
    have := h (c, d) (by simp)
    rw [show c = d from this]
theorem same_deep {as : List Nat} : ∀ (k : Nat) (a b : D), Tr as a → Tr as b → szD a ≤ k → sameD k a b = true → a = b := by
  intro k
  induction k with
  | zero => intro a b _ _ h; have := sz_pos a; omega
  | succ k ih =>
    intro a b ha hb hk h
    obtain ⟨s, cs, rfl, h1, h2⟩ := ha.inv
    obtain ⟨s', ds, rfl, g1, g2⟩ := hb.inv
    rw [sameD, Bool.and_eq_true, decide_eq_true_eq, List.all_eq_true] at h
    obtain ⟨e, h⟩ := h
    have e : s = s' := by have := D.int.inj e; omega
    subst e
    rw [h1] at g1
    have hl : cs.length = ds.length := Option.some.inj g1
    rw [zip_eq hl fun p hp => ?_]
    have hp1 := List.of_mem_zip hp
    exact ih p.1 p.2 (h2 _ hp1.1) (g2 _ hp1.2) (by have := szD_lt (s := .int (s : Nat)) hp1.1; omega) (h p hp)
/-- a row of what is seen -/
def rowD (q : List Nat × D) : D := .tup [plD q.1, q.2]
theorem rows_eqv : ∀ {l l' : List (List Nat × D)}, (∀ q ∈ l, ∃ s : Nat, q.2 = .int (s : Nat)) → (∀ q ∈ l', ∃ s : Nat, q.2 = .int (s : Nat)) → D.eqvs (l.map rowD) (l'.map rowD) = decide (l = l')
  | [], [], _, _ => by simp [D.eqvs]
  | [], _ :: _, _, _ => by simp [D.eqvs]
  | _ :: _, [], _, _ => by simp [D.eqvs]
  | q :: l, q' :: l', h, h' => by
    obtain ⟨p, x⟩ := q
    obtain ⟨p', x'⟩ := q'
    obtain ⟨s, e⟩ := h (p, x) (by simp)
    obtain ⟨s', e'⟩ := h' (p', x') (by simp)
    have e : x = .int (s : Nat) := e
    have e' : x' = .int (s' : Nat) := e'
    subst e e'
    rw [List.map_cons, List.map_cons, D.eqvs, rows_eqv (fun q hq => h q (by simp [hq])) (fun q hq => h' q (by simp [hq]))]
    show (D.eqv (.tup [plD p, .int (s : Nat)]) (.tup [plD p', .int (s' : Nat)]) && _) = _
    rw [D.eqv, D.eqvs, D.eqvs, D.eqvs, eqv_plD, eqv_ii]
    by_cases e1 : p = p'
    · by_cases e2 : s = s'
      · by_cases e3 : l = l' <;> simp [e1, e2, e3]
      · have e3 : ¬ (s : Int) = (s' : Int) := by omega
        simp [e1, e2, e3]
    · simp [e1]
theorem seen_int {as : List Nat} {d : Nat} {t : D} (ht : Tr as t) : ∀ q ∈ seen d t, ∃ s : Nat, q.2 = .int (s : Nat) := by
  intro q hq
  unfold seen at hq
  obtain ⟨p, hp, rfl⟩ := List.mem_map.mp hq
  obtain ⟨u, hu⟩ := (plT_sub (szD t) t (Nat.le_refl _) ht p).mp (List.mem_filter.mp hp).1
  obtain ⟨s, cs, e, _, _⟩ := (hu.tr ht).inv
  rw [hu.part, e]
  exact ⟨s, rfl⟩
theorem seen_len {as : List Nat} {d : Nat} {t : D} (ht : Tr as t) : (seen d t).length ≤ szD t := by
  unfold seen
  rw [List.length_map, ← plT_len (szD t) t (Nat.le_refl _) ht]
  exact List.length_filter_le _ _
/-- a place that is not there -/
theorem part_none {as : List Nat} : ∀ (p : List Nat) (t : D), Tr as t → p ∉ plT t → partD t p = .non
  | [], t, ht, h => by
    exfalso
    exact h ((plT_sub (szD t) t (Nat.le_refl _) ht []).mpr ⟨t, .here t⟩)
  | i :: p, t, ht, h => by
    obtain ⟨s, cs, rfl, h1, h2⟩ := ht.inv
    cases e : cs[i]? with
    | some c =>
      rw [part_cons e]
      have hc := List.mem_of_getElem? e
      refine part_none p c (h2 c hc) fun z => h ?_
      rw [plT, plH]
      refine List.mem_cons_of_mem _ (plL_mem.mpr ⟨i, c, p, e, z, by rw [Nat.zero_add]⟩)
    | none =>
      rw [partD, List.getD_cons_succ, List.getD_eq_getElem?_getD, e]
      cases p <;> rfl
theorem part_tr {as : List Nat} {p : List Nat} {t : D} (ht : Tr as t) (h : p ∈ plT t) : Tr as (partD t p) ∧ Sub t p (partD t p) ∧ szD (partD t p) ≤ szD t := by
  obtain ⟨u, hu⟩ := (plT_sub (szD t) t (Nat.le_refl _) ht p).mp h
  have := hu.len
  rw [hu.part]
  exact ⟨hu.tr ht, hu, by omega⟩
theorem plT_take {as : List Nat} {p : List Nat} {t : D} (ht : Tr as t) (h : p ∈ plT t) (k : Nat) : p.take k ∈ plT t := by
  obtain ⟨u, hu⟩ := (plT_sub (szD t) t (Nat.le_refl _) ht p).mp h
  refine (plT_sub (szD t) t (Nat.le_refl _) ht _).mpr ?_
  clear h ht
  induction hu generalizing k with
  | here d => exact ⟨d, by rw [List.take_nil]; exact .here d⟩
  | @down xs i c s p e hs ih =>
    cases k with
    | zero => exact ⟨_, .here _⟩
    | succ k =>
      obtain ⟨v, hv⟩ := ih k
      exact ⟨v, .down e hv⟩
end EvP

set_option Elab.async false
set_option linter.all false
set_option maxRecDepth 100000
set_option autoImplicit false
set_option maxHeartbeats 1000000
/-! Gf: grafts, no program in sight. -/
namespace EvP
open PySem L2 Ev
/-- equal to a depth at each proper beginning -/
def alongB (d : Nat) (a b : D) (p : List Nat) : Bool := (List.range p.length).all fun k => sameD d (partD a (p.take k)) (partD b (p.take k))
theorem sameD_mono : ∀ (d : Nat) (a b : D), sameD (d + 1) a b = true → sameD d a b = true := by
  intro d
  induction d with
  | zero => intro a b _; rw [sameD]
  | succ d ih =>
    intro a b h
    cases a with
    | tup xs =>
      cases xs with
      | nil => simp [sameD] at h
      | cons x cs =>
        cases b with
        | tup ys =>
          cases ys with
          | nil => simp [sameD] at h
          | cons y ds =>
            rw [sameD, Bool.and_eq_true, List.all_eq_true] at h
            rw [sameD, Bool.and_eq_true, List.all_eq_true]
            exact ⟨h.1, fun p hp => ih _ _ (h.2 p hp)⟩
        | _ => simp [sameD] at h
    | _ => simp [sameD] at h
theorem part_non : ∀ q : List Nat, partD .non q = .non
  | [] => by rw [partD]
  | _ :: _ => by rw [partD]; simp
theorem part_app : ∀ (p q : List Nat) (t : D), partD t (p ++ q) = partD (partD t p) q
  | [], q, t => by rw [List.nil_append, show partD t [] = t by cases t <;> rw [partD]]
  | i :: p, q, t => by
    rw [List.cons_append]
    cases t with
    | tup xs =>
      rw [partD, partD]
      exact part_app p q _
    | _ => simp [partD, part_non]
theorem put_self {as : List Nat} {t s : D} {p : List Nat} (h : Sub t p s) : Tr as t → putD t p s = t := by
  induction h with
  | here d => intro _; cases d <;> rw [putD]
  | @down xs i c s p e hs ih =>
    intro ht
    obtain ⟨k, cs, e1, h1, h2⟩ := ht.inv
    cases e1
    rw [List.getElem?_cons_succ] at e
    rw [put_eq e, ih (h2 c (List.mem_of_getElem? e))]
    congr 2
    exact (split_at e).symm
theorem part_put {as : List Nat} {t s b : D} {p : List Nat} (h : Sub t p s) : Tr as t → ∀ k, partD (putD t p b) (p.take k) = putD (partD t (p.take k)) (p.drop k) b := by
  induction h with
  | here d =>
    intro _ k
    rw [List.take_nil, List.drop_nil]
    cases d <;> cases b <;> simp [partD, putD]
  | @down xs i c s p e hs ih =>
    intro ht k
    obtain ⟨m, cs, e1, h1, h2⟩ := ht.inv
    cases e1
    rw [List.getElem?_cons_succ] at e
    cases k with
    | zero =>
      rw [List.take_zero, List.drop_zero]
      rw [partD, partD]
    | succ k =>
      rw [List.take_succ_cons, List.drop_succ_cons, part_cons e, put_eq e]
      have hi := (List.getElem?_eq_some_iff.mp e).1
      have e2 : (cs.take i ++ putD c p b :: cs.drop (i + 1))[i]? = some (putD c p b) := by
        rw [List.getElem?_append_right (by rw [List.length_take]; omega)]
        rw [List.length_take]
        rw [show i - min i cs.length = 0 by omega]
        rfl
      rw [part_cons e2]
      exact ih (h2 c (List.mem_of_getElem? e)) k
theorem same_child {d i : Nat} {x y : D} {cs ds : List D} {c e : D} (h : sameD (d + 1) (.tup (x :: cs)) (.tup (y :: ds)) = true) (hc : cs[i]? = some c) (he : ds[i]? = some e) : sameD d c e = true := by
  rw [sameD, Bool.and_eq_true, List.all_eq_true] at h
  refine h.2 (c, e) ?_
  refine List.mem_of_getElem? (i := i) ?_
  rw [List.getElem?_zip_eq_some]
  exact ⟨hc, he⟩
theorem along_zero {d : Nat} {a b : D} {i : Nat} {p : List Nat} (h : alongB d a b (i :: p) = true) : sameD d a b = true := by
  unfold alongB at h
  rw [List.all_eq_true] at h
  have := h 0 (by simp)
  rw [List.take_zero] at this
  cases a <;> cases b <;> simpa [partD] using this
theorem along_down {d : Nat} {x y : D} {cs ds : List D} {i : Nat} {p : List Nat} {c e : D} (hc : cs[i]? = some c) (he : ds[i]? = some e) (h : alongB d (.tup (x :: cs)) (.tup (y :: ds)) (i :: p) = true) : alongB d c e p = true := by
  unfold alongB at h ⊢
  rw [List.all_eq_true] at h ⊢
  intro k hk
  have := h (k + 1) (by simp at hk ⊢; omega)
  rw [List.take_succ_cons, part_cons hc, part_cons he] at this
  exact this
theorem same_graft {as : List Nat} {d : Nat} : ∀ (p : List Nat) (a b sa sb : D), p ≠ [] → Sub a p sa → Sub b p sb → Tr as a → Tr as b → alongB d a b p = true → sameD d a (putD a p sb) = true
  | [], a, b, sa, sb, hp, _, _, _, _, _ => absurd rfl hp
  | i :: p, a, b, sa, sb, _, ha, hb, ta, tb, h => by
    cases ha with
    | @down xs _ c _ _ e1 s1 =>
      cases hb with
      | @down ys _ e _ _ e2 s2 =>
        obtain ⟨k, cs, q1, q2, q3⟩ := ta.inv
        cases q1
        obtain ⟨k', ds, r1, r2, r3⟩ := tb.inv
        cases r1
        rw [List.getElem?_cons_succ] at e1 e2
        have hz := along_zero h
        cases d with
        | zero => rw [sameD]
        | succ d =>
          rw [put_eq e1]
          have key : sameD d c (putD c p sb) = true := by
            cases p with
            | nil =>
              cases s2
              have : putD c [] sb = sb := by cases c <;> rw [putD]
              rw [this]
              exact same_child hz e1 e2
            | cons j p =>
              have := same_graft (d := d + 1) (j :: p) c e sa sb (by simp) s1 s2 (q3 c (List.mem_of_getElem? e1)) (r3 e (List.mem_of_getElem? e2)) (along_down e1 e2 h)
              exact sameD_mono _ _ _ this
          rw [sameD, Bool.and_eq_true, List.all_eq_true]
          refine ⟨by simp, fun q hq => ?_⟩
          have hi := (List.getElem?_eq_some_iff.mp e1).1
          obtain ⟨j, hj⟩ := List.getElem?_of_mem hq
          rw [List.getElem?_zip_eq_some] at hj
          obtain ⟨h1, h2⟩ := hj
          by_cases z : j = i
          · subst z
            rw [e1] at h1
            rw [List.getElem?_append_right (by rw [List.length_take]; omega), List.length_take, show j - min j cs.length = 0 by omega] at h2
            simp at h1 h2
            rw [← h1, ← h2]
            exact key
          · have h3 : cs[j]? = some q.2 := by
              rcases Nat.lt_or_ge j i with lt | ge
              · rw [List.getElem?_append_left (by rw [List.length_take]; omega), List.getElem?_take, if_pos lt] at h2
                exact h2
              · rw [List.getElem?_append_right (by rw [List.length_take]; omega), List.length_take, show j - min i cs.length = (j - i - 1) + 1 by omega, List.getElem?_cons_succ, List.getElem?_drop, show i + 1 + (j - i - 1) = j by omega] at h2
                exact h2
            rw [h1] at h3
            rw [← Option.some.inj h3]
            exact sameD_self (q3 q.1 (List.mem_of_getElem? h1))
theorem along_shift {d : Nat} {a b : D} {p : List Nat} (h : alongB d a b p = true) (k : Nat) : alongB d (partD a (p.take k)) (partD b (p.take k)) (p.drop k) = true := by
  unfold alongB at h ⊢
  rw [List.all_eq_true] at h ⊢
  intro j hj
  have hj : j < p.length - k := by simpa using hj
  have := h (k + j) (by simp; omega)
  rw [List.take_add, part_app, part_app] at this
  exact this
theorem sub_app {t s : D} {p : List Nat} (h : Sub t p s) : ∀ k, Sub (partD t (p.take k)) (p.drop k) s := by
  induction h with
  | here d => intro k; rw [List.take_nil, List.drop_nil]; cases d <;> exact .here _
  | @down xs i c s p e hs ih =>
    intro k
    cases k with
    | zero => rw [List.take_zero, List.drop_zero, partD]; exact .down e hs
    | succ k =>
      rw [List.take_succ_cons, List.drop_succ_cons]
      have : partD (.tup xs) (i :: p.take k) = partD c (p.take k) := by
        rw [partD, List.getD_eq_getElem?_getD, e]
        rfl
      rw [this]
      exact ih k
/-- the graft is equal to the first tree along the path -/
theorem along_graft {as : List Nat} {d : Nat} {a b sa sb : D} {p : List Nat} (ha : Sub a p sa) (hb : Sub b p sb) (ta : Tr as a) (tb : Tr as b) (h : alongB d a b p = true) : alongB d a (putD a p sb) p = true := by
  have h0 := h
  unfold alongB
  rw [List.all_eq_true]
  intro k hk
  have hk : k < p.length := by simpa using hk
  rw [part_put ha ta k]
  have pa := (plT_sub (szD a) a (Nat.le_refl _) ta p).mpr ⟨_, ha⟩
  have pb := (plT_sub (szD b) b (Nat.le_refl _) tb p).mpr ⟨_, hb⟩
  exact same_graft (p.drop k) _ _ sa sb (fun z => by have := congrArg List.length z; simp at this; omega) (sub_app ha k) (sub_app hb k) (part_tr ta (plT_take ta pa k)).1 (part_tr tb (plT_take tb pb k)).1 (along_shift h0 k)
/-- the parts are equal to the depth less 1 -/
theorem along_part {as : List Nat} {d : Nat} {a b sa sb : D} {p : List Nat} (ha : Sub a p sa) (hb : Sub b p sb) (ta : Tr as a) (tb : Tr as b) (hp : p ≠ []) (h : alongB (d + 1) a b p = true) : sameD d sa sb = true := by
  have hl : 0 < p.length := List.length_pos_iff.mpr hp
  have s1 := sub_app ha (p.length - 1)
  have s2 := sub_app hb (p.length - 1)
  have h1 := along_shift h (p.length - 1)
  have hd : (p.drop (p.length - 1)).length = 1 := by rw [List.length_drop]; omega
  have pa := (plT_sub (szD a) a (Nat.le_refl _) ta p).mpr ⟨_, ha⟩
  have pb := (plT_sub (szD b) b (Nat.le_refl _) tb p).mpr ⟨_, hb⟩
  have t1 := (part_tr ta (plT_take ta pa (p.length - 1))).1
  have t2 := (part_tr tb (plT_take tb pb (p.length - 1))).1
  generalize partD a (p.take (p.length - 1)) = A at s1 h1 t1
  generalize partD b (p.take (p.length - 1)) = B at s2 h1 t2
  generalize p.drop (p.length - 1) = q at s1 s2 h1 hd
  match q, hd with
  | [i], _ =>
    have hz := along_zero h1
    cases s1 with
    | @down xs _ c _ _ e1 q1 =>
      cases q1
      cases s2 with
      | @down ys _ e _ _ e2 q2 =>
        cases q2
        obtain ⟨k, cs, z1, _, _⟩ := t1.inv
        cases z1
        obtain ⟨k', ds, z2, _, _⟩ := t2.inv
        cases z2
        rw [List.getElem?_cons_succ] at e1 e2
        exact same_child hz e1 e2
end EvP

set_option Elab.async false
set_option linter.all false
set_option maxRecDepth 100000
set_option autoImplicit false
set_option maxHeartbeats 1000000
/-! Ps: the places of a tree ascend; heights. No program in sight. -/
namespace EvP
open PySem L2 Ev
mutual
theorem plT_asc : ∀ t : D, (plT t).Pairwise fun a b => plt a b = true
  | .tup xs => by rw [plT]; exact plH_asc xs
  | .non => by simp [plT]
  | .bl _ => by simp [plT]
  | .int _ => by simp [plT]
  | .str _ => by simp [plT]
  | .lst _ => by simp [plT]
  | .dic _ => by simp [plT]
  | .loc _ => by simp [plT]
theorem plH_asc : ∀ xs : List D, (plH xs).Pairwise fun a b => plt a b = true
  | [] => by simp [plH]
  | _ :: cs => by
    rw [plH, List.pairwise_cons]
    refine ⟨fun p hp => ?_, plL_asc cs 0⟩
    obtain ⟨j, c, q, _, _, rfl⟩ := plL_mem.mp hp
    exact plt_nil (p := []) (by simp)
theorem plL_asc : ∀ (cs : List D) (i : Nat), (plL i cs).Pairwise fun a b => plt a b = true
  | [], _ => by rw [plL]; exact .nil
  | c :: cs, i => by
    rw [plL, List.pairwise_append]
    refine ⟨?_, plL_asc cs (i + 1), ?_⟩
    · rw [List.pairwise_map]
      exact (plT_asc c).imp fun {a b} h => (plt_pre (p := [i]) (a := a) (b := b)).trans h
    · intro a ha b hb
      obtain ⟨p, _, rfl⟩ := List.mem_map.mp ha
      obtain ⟨j, c', q, _, _, rfl⟩ := plL_mem.mp hb
      exact plt_step (p := []) (by omega)
end
theorem plT_sorted (t : D) : sortL ((plT t).map plD) = (plT t).map plD := by
  refine sortL_uniq (List.Perm.refl _) ?_
  rw [List.pairwise_map]
  exact (plT_asc t).imp fun {a b} h => (ltP_pl a b).trans h
theorem fold_max : ∀ (r : List Int) (i m : Int), i ≤ m → (∀ x ∈ r, x ≤ m) → (i = m ∨ m ∈ r) → r.foldl max i = m
  | [], i, m, h1, _, h3 => by
    rcases h3 with h3 | h3
    · exact h3
    · cases h3
  | x :: r, i, m, h1, h2, h3 => by
    rw [List.foldl_cons]
    have hx := h2 x (by simp)
    refine fold_max r (max i x) m (by omega) (fun y hy => h2 y (by simp [hy])) ?_
    rcases h3 with h3 | h3
    · left; omega
    · rcases List.mem_cons.mp h3 with h3 | h3
      · left; omega
      · exact .inr h3
theorem ints_mapN : ∀ l : List Nat, intsD (l.map fun (i : Nat) => D.int i) = some (l.map fun (i : Nat) => (i : Int))
  | [] => rfl
  | x :: l => by
    show (intsD (l.map fun (i : Nat) => D.int i)).map _ = _
    rw [ints_mapN l]
    rfl
theorem ag_maxN {l : List Nat} {m : Nat} (hm : m ∈ l) (hl : ∀ x ∈ l, x ≤ m) : agD .max (.lst (l.map fun (i : Nat) => D.int i)) = some (.int (m : Nat)) := by
  show (intsD (l.map fun (i : Nat) => D.int i)).bind _ = _
  rw [ints_mapN]
  cases l with
  | nil => cases hm
  | cons x l =>
    show some (D.int ((l.map fun (i : Nat) => (i : Int)).foldl max (x : Int))) = _
    rw [fold_max _ _ (m : Int) (by have := hl x (by simp); omega) (fun y hy => by
      obtain ⟨z, hz, rfl⟩ := List.mem_map.mp hy
      have := hl z (by simp [hz]); omega) ?_]
    rcases List.mem_cons.mp hm with h | h
    · left; rw [h]
    · right; exact List.mem_map.mpr ⟨m, h, rfl⟩
mutual
/-- the height of a tree -/
def hgD : D → Nat
  | .tup (_ :: cs) => 1 + hgL cs
  | _ => 1
def hgL : List D → Nat
  | [] => 0
  | c :: cs => max (hgD c) (hgL cs)
end
theorem hgL_le : ∀ {cs : List D} {c : D}, c ∈ cs → hgD c ≤ hgL cs
  | x :: cs, c, h => by
    rw [hgL]
    rcases List.mem_cons.mp h with rfl | h
    · exact Nat.le_max_left _ _
    · exact Nat.le_trans (hgL_le h) (Nat.le_max_right _ _)
theorem hgL_mem : ∀ {cs : List D}, hgL cs = 0 ∨ ∃ c ∈ cs, hgD c = hgL cs
  | [] => .inl rfl
  | x :: cs => by
    rw [hgL]
    rcases Nat.le_total (hgD x) (hgL cs) with h | h
    · rw [Nat.max_eq_right h]
      rcases hgL_mem (cs := cs) with z | ⟨c, hc, e⟩
      · exact .inl z
      · exact .inr ⟨c, by simp [hc], e⟩
    · rw [Nat.max_eq_left h]
      exact .inr ⟨x, by simp, rfl⟩
mutual
theorem hg_pl : ∀ t : D, (∀ p ∈ plT t, p.length + 1 ≤ hgD t) ∧ ∃ p ∈ plT t, p.length + 1 = hgD t
  | .tup [] => by simp [plT, plH, hgD]
  | .tup (x :: cs) => by
    rw [plT, plH, hgD]
    have h := hg_plL cs 0
    constructor
    · intro p hp
      rcases List.mem_cons.mp hp with rfl | hp
      · simp
      · have := h.1 p hp
        omega
    · rcases h.2 with z | ⟨p, hp, e⟩
      · exact ⟨[], by simp, by rw [z]; rfl⟩
      · exact ⟨p, by simp [hp], by omega⟩
  | .non => by simp [plT, hgD]
  | .bl _ => by simp [plT, hgD]
  | .int _ => by simp [plT, hgD]
  | .str _ => by simp [plT, hgD]
  | .lst _ => by simp [plT, hgD]
  | .dic _ => by simp [plT, hgD]
  | .loc _ => by simp [plT, hgD]
theorem hg_plL : ∀ (cs : List D) (i : Nat), (∀ p ∈ plL i cs, p.length ≤ hgL cs) ∧ (hgL cs = 0 ∨ ∃ p ∈ plL i cs, p.length = hgL cs)
  | [], _ => by simp [plL, hgL]
  | c :: cs, i => by
    rw [plL, hgL]
    have h1 := hg_pl c
    have h2 := hg_plL cs (i + 1)
    constructor
    · intro p hp
      rcases List.mem_append.mp hp with hp | hp
      · obtain ⟨q, hq, rfl⟩ := List.mem_map.mp hp
        exact Nat.le_trans (h1.1 q hq) (Nat.le_max_left _ _)
      · exact Nat.le_trans (h2.1 p hp) (Nat.le_max_right _ _)
    · rcases Nat.le_total (hgD c) (hgL cs) with h | h
      · rw [Nat.max_eq_right h]
        rcases h2.2 with z | ⟨p, hp, e⟩
        · exact .inl z
        · exact .inr ⟨p, by simp [hp], e⟩
      · rw [Nat.max_eq_left h]
        obtain ⟨q, hq, e⟩ := h1.2
        exact .inr ⟨i :: q, List.mem_append.mpr (.inl (List.mem_map.mpr ⟨q, hq, rfl⟩)), e⟩
end
end EvP

set_option Elab.async false
set_option linter.all false
set_option maxRecDepth 100000
set_option autoImplicit false
set_option maxHeartbeats 4000000
namespace EvP
open PySem L2 Ev
section
section
variable {n : Nat} {S : List D} {P : D → List D → Prop} {E : Ex → List D → Prop} {t : Tg2 P E} {as : List Nat} {gd : List Bool} {st : List D} {rows : List D}
theorem sp_is_number {v : D} {lo hi : Int} (hn : 1 ≤ n) (hv : isLoc v = false) (h : P (.bl (isNum v lo hi)) S) : WpC (runF tb n 1 [v, .int lo, .int hi] S) P E t := by
  obtain ⟨n, rfl⟩ : ∃ k, n = k + 1 := ⟨n - 1, by omega⟩
  refine wp_run (df := f1) rfl rfl ?_
  cases v <;> simp [f1, isiD] <;> first | exact h | cases hv | skip
  · rename_i i
    by_cases q : lo ≤ i <;> by_cases q' : i ≤ hi <;> simp [q, q', isNum] at h ⊢ <;> exact h
theorem sp_next {c : D} {many : Int} (hn : 1 ≤ n) (hc : Strm c) (h0 : 0 < many) (h1 : many < 1073741824)
    (h : ∀ d c', Strm c' → 0 ≤ d → d < many → P (.int d) (c' :: S)) : WpC (runF tb n 6 [.loc 0, .int many] (c :: S)) P E t := by
  obtain ⟨n, rfl⟩ : ∃ k, n = k + 1 := ⟨n - 1, by omega⟩
  obtain ⟨ns, a, k, rfl⟩ := hc
  refine wp_run (df := f6) rfl rfl ?_
  have fin : ∀ (x : Int) (k : Nat), 0 < many ∧ (0 < many ∧ many < 1073741824) ∧ P (.int (x % many)) (.lst [.lst (ns.map D.int), .int (x / many), .int k] :: S) := fun x k =>
    ⟨h0, ⟨h0, h1⟩, h _ _ ⟨ns, _, k, rfl⟩ (Int.emod_nonneg _ (by omega)) (Int.emod_lt_of_pos _ h0)⟩
  have fin2 : ∀ (x : Int) (k : Nat), 0 < many ∧ (0 < many ∧ many < 1073741824) ∧ P (.int (x % many)) (.lst [.lst (ns.map D.int), .int (x / many), .int (k + 1)] :: S) := fun x k => fin x (k + 1)
  simp [f6]
  split
  · split
    · rename_i hk
      rw [atL_nat (by omega), Int.toNat_natCast, List.getElem?_map, List.getElem?_eq_getElem hk]
      simp
      exact ite2 (fun _ => fin2 _ k) fun _ => fin2 _ k
    · generalize (7 + (k : Int)) = z
      refine ite2 (fun _ => ?_) fun _ => ?_
      · exact fin2 _ k
      · exact fin2 _ k
  · exact fin _ k
theorem sp_is_arities {v : D} (hn : 2 ≤ n) (hv : isLoc v = false) (hx : ∀ xs, v = .tup xs → nl1 xs) (h : P (.bl (isAr v)) S) : WpC (runF tb n 2 [v] S) P E t := by
  obtain ⟨n, rfl⟩ : ∃ k, n = k + 1 := ⟨n - 1, by omega⟩
  refine wp_run (df := f2) rfl rfl ?_
  cases v with
  | tup xs =>
    by_cases q1 : (1 : Int) ≤ xs.length
    · by_cases q2 : (xs.length : Int) ≤ 4
      · simp [f2, isiD, q1, q2]
        refine compG_map1 (by rfl) (fun d => .bl (isNum d 0 2)) (fun d hd => ?_) ?_
        · unfold turn
          simp
          refine sp_is_number (by omega) (hx xs rfl d hd) ?_
          simp
        · simp [ag_all]
          refine ⟨by have := small1000 (n := xs.length) (by omega); omega, ?_⟩
          have e : isAr (.tup xs) = xs.all (isNum · 0 2) := by
            have q1' : 1 ≤ xs.length := by omega
            have q2' : xs.length ≤ 4 := by omega
            simp [isAr, q1', q2']
          rw [e] at h
          exact h
      · simp [f2, isiD, q1, q2]
        have q2' : ¬ xs.length ≤ 4 := by omega
        simp [isAr, q2'] at h
        exact h
    · simp [f2, isiD, q1]
      have q1' : ¬ 1 ≤ xs.length := by omega
      simp [isAr, q1'] at h
      exact h
  | loc _ => cases hv
  | dic _ => cases hv
  | _ =>
    simp [f2, isiD]
    exact h
theorem sp_is_tree {as : List Nat} {v : D} (hn : 2 ≤ n) (ha : ∀ a ∈ as, a ≤ 2) (hv : nl v = true) (h : P (.bl (trD as v && decide (szD v ≤ 15))) S) : WpC (runF tb n 3 [arD as, v] S) P E t := by
  obtain ⟨n, rfl⟩ : ∃ k, n = k + 1 := ⟨n - 1, by omega⟩
  refine wp_run (df := f3) rfl rfl ?_
  simp [f3, arD]
  refine whL_wp (fun k m => ∃ ws many s4, k + many = 16 ∧ many ≤ 15 ∧ ws.length ≤ many + 1 ∧ nls ws = true ∧ (∀ c, s4 ≠ Sl.rl c) ∧ m = ⟨[.val (.tup (as.map fun (a : Nat) => D.int a)), .val v, .ow (.lst ws), .val (.int (many : Nat)), s4], S⟩ ∧ (trD as v && decide (szD v ≤ 15)) = treeB as ws many) ?_ _ 16 _ (by decide) ?_
  · rintro k m ⟨ws, many, s4, hk, hm, hws, hnl, h4, rfl, ht⟩
    rcases List.eq_nil_or_concat ws with rfl | ⟨ws, d, rfl⟩
    · simp
      have e : treeB as [] many = true := by unfold treeB; rw [trL, szL]; simp; omega
      rw [e] at ht
      rw [ht] at h
      exact h
    · have hd : nl d = true := nls_mem hnl d (by simp)
      simp at hws
      simp [nrl_of h4]
      rw [List.concat_eq_append] at ht
      have bad : treeB as (ws ++ [d]) many = false → P (.bl false) S := fun e => by
        rw [e] at ht
        rw [ht] at h
        exact h
      refine ite2 (fun hc => bad (treeB_much (by omega))) fun hc => ⟨nl_loc hd, ?_⟩
      have hnw : nls ws = true := nls_of fun c hc => nls_mem hnl c (by simp [hc])
      cases d with
      | tup xs =>
        cases xs with
        | nil =>
          simp [isiD]
          exact bad (treeB_bad (by rw [trD, trH]))
        | cons s cs =>
          have hs : nl s = true ∧ nls cs = true := by
            rw [nl, nls, Bool.and_eq_true] at hd
            exact hd
          simp [isiD]
          refine ite2 (fun hc => absurd hc (by omega)) fun _ => ?_
          refine sp_is_number (by omega) (nl_loc hs.1) ?_
          simp
          have badS : okS as s cs.length = false → P (.bl false) S := fun e => bad (treeB_bad (by rw [trD, trH, e]; rfl))
          cases s with
          | int i =>
            by_cases hi : 0 ≤ i ∧ i ≤ (as.length : Int) - 1
            · have e1 : isNum (.int i) 0 ((as.length : Int) - 1) = true := by simp [isNum, hi.1, hi.2]
              rw [if_pos e1]
              have hl : i.toNat < as.length := by omega
              have e2 : as[i.toNat]? = some as[i.toNat] := List.getElem?_eq_getElem hl
              have ha2 := ha as[i.toNat] (List.getElem_mem hl)
              simp only [idx_tup, atL_nat hi.1, List.getElem?_map, e2, Option.map_some]
              by_cases hk2 : cs.length = as[i.toNat]
              · have q3 : ((cs.length : Int) + 1 == 1 + (as[i.toNat] : Nat)) = true := by simp; omega
                simp [q3]
                refine ⟨by have := small1000 (n := ws.length + cs.length) (by omega); omega, k - 1, by omega, ws ++ cs, many + 1, by omega, by omega, by rw [List.length_append]; omega, nls_of fun c hc => ?_, _, ?_, ⟨rfl, by simp, rfl⟩, ht.trans (treeB_push hi.1 (by rw [e2, hk2]))⟩
                · rcases List.mem_append.mp hc with q | q
                  · exact nls_mem hnw c q
                  · exact nls_mem hs.2 c q
                · intro c q; cases q
              · have q3 : ((cs.length : Int) + 1 == 1 + (as[i.toNat] : Nat)) = false := by simp; omega
                simp [q3]
                exact badS (by simp [okS, e2]; intro _ z; exact absurd z.symm hk2)
            · have e1 : isNum (.int i) 0 ((as.length : Int) - 1) = false := by
                simp [isNum]
                intro h1
                omega
              rw [if_neg (by rw [e1]; simp)]
              refine badS ?_
              simp [okS]
              intro h1 h2
              have := (List.getElem?_eq_some_iff.mp h2).1
              omega
          | _ => exact badS rfl
      | loc _ => cases hd
      | dic _ => cases hd
      | _ =>
        simp [isiD]
        exact bad (treeB_bad (by rw [trD] <;> simp))
  · refine ⟨[v], 0, .un, rfl, by omega, by simp, by simp [nls, hv], by simp, rfl, ?_⟩
    unfold treeB
    rw [trL, szL, trL, szL]
    simp
theorem sp_stream {l : List Int} (hn : 1 ≤ n) (hl : l.length ≤ 63) (h : ∀ c, Strm c → P (.loc S.length) (S ++ [c])) : WpC (runF tb n 5 [.lst (l.map D.int)] S) P E t := by
  obtain ⟨n, rfl⟩ : ∃ k, n = k + 1 := ⟨n - 1, by omega⟩
  refine wp_run (df := f5) rfl rfl ?_
  simp [f5]
  exact h _ ⟨l, 0, 0, rfl⟩
theorem sp_is_place {v : D} (hn : 2 ≤ n) (hv : isLoc v = false) (hx : ∀ xs, v = .tup xs → nl1 xs) (h : P (.bl (isPl v)) S) : WpC (runF tb n 4 [v] S) P E t := by
  obtain ⟨n, rfl⟩ : ∃ k, n = k + 1 := ⟨n - 1, by omega⟩
  refine wp_run (df := f4) rfl rfl ?_
  cases v with
  | tup xs =>
    by_cases q2 : (xs.length : Int) < 15
    · simp [f4, isiD, q2]
      refine compG_map1 (by rfl) (fun d => .bl (isNum d 0 1)) (fun d hd => ?_) ?_
      · unfold turn
        simp
        refine sp_is_number (by omega) (hx xs rfl d hd) ?_
        simp
      · simp [ag_all]
        refine ⟨by have := small1000 (n := xs.length) (by omega); omega, ?_⟩
        have e : isPl (.tup xs) = xs.all (isNum · 0 1) := by
          have q2' : xs.length < 15 := by omega
          simp [isPl, q2']
        rw [e] at h
        exact h
    · simp [f4, isiD, q2]
      have q2' : ¬ xs.length < 15 := by omega
      simp [isPl, q2'] at h
      exact h
  | loc _ => cases hv
  | dic _ => cases hv
  | _ =>
    simp [f4, isiD]
    exact h
theorem ag_rep {k : Nat} : agD .all (.lst (List.replicate k (.bl true))) = some (.bl true) := by
  have e : List.replicate k (D.bl true) = (List.replicate k true).map D.bl := by rw [List.map_replicate]
  unfold agD
  rw [e]
  show (boolsD _).map _ = _
  rw [all_bl]
  simp
theorem compG_true {own : List Nat} {k : Wk} {bd : D → Ms → R Unit} {ts : Ms → R Bool} {elt : Ms → R (List D)} {m : Ms} {P : List D → Ms → Prop} {E : Ex → Ms → Prop} {t : Tg2 P E} (hp : own.all (plainS (lockR m.ρ k.l)) = true)
    (step : ∀ d ∈ k.xs, Wp (turn bd ts elt d ⟨wipeR (lockR m.ρ k.l) own, m.S⟩) (fun ys m' => AgA own 0 m'.ρ (wipeR (lockR m.ρ k.l) own) ∧ m'.S = m.S ∧ ys = [.bl true]) E ⟨()⟩)
    (hP : P (List.replicate k.xs.length (.bl true)) m) : Wp (compG own k (compL own bd ts elt) m) P E t := by
  refine compG_map1 hp (fun _ => .bl true) step ?_
  rw [List.map_const']
  exact hP
theorem isAr_ok {as : List Nat} (A : Ars as) : isAr (arD as) = true := by
  have h1 := A.one
  have h4 := A.four
  unfold isAr arD
  simp only [List.length_map, Bool.and_eq_true, decide_eq_true_eq, List.all_eq_true, List.mem_map]
  refine ⟨⟨h1, h4⟩, ?_⟩
  rintro x ⟨a, ha, rfl⟩
  have := A.two a ha
  simp [isNum]
  omega
theorem ar_nl1 {as : List Nat} : ∀ xs, arD as = .tup xs → nl1 xs := by
  intro xs h d hd
  cases h
  obtain ⟨a, _, rfl⟩ := List.mem_map.mp hd
  rfl
theorem sp_check_tree (A : Ars as) {tr : D} {nm : D} (ht : Tr as tr) (hs : szD tr ≤ 15) (hn : 5 ≤ n) (h : P .non S) : WpC (runF tb n 18 [arD as, tr, nm] S) P E t := by
  obtain ⟨n, rfl⟩ : ∃ k, n = k + 1 := ⟨n - 1, by omega⟩
  refine wp_run (df := f18) rfl rfl ?_
  simp [f18]
  refine sp_is_tree (by omega) A.two ht.nl ?_
  rw [ht.ok, decide_eq_true hs]
  simp
  exact h
theorem plD_cons {j : Nat} {p : List Nat} : plD (j :: p) = .tup (.int (j : Nat) :: p.map fun (i : Nat) => D.int i) := rfl
theorem place_small {tr : D} {p : List Nat} {s : D} (h : Sub tr p s) (h15 : szD tr ≤ 15) : p.length ≤ 15 := by have := h.len; omega
def sdrop : Nat → Ss → Ss
  | 0, s => s
  | n + 1, .cons _ r => sdrop n r
  | _ + 1, s => s
def snth : Nat → Ss → Sm
  | 0, .cons s _ => s
  | n + 1, .cons _ r => snth n r
  | _, _ => .pas
theorem toN_plD (p : List Nat) : (p.map fun (i : Nat) => D.int i).map toN = p := by
  rw [List.map_map]
  exact (List.map_congr_left fun i _ => by show Int.toNat (i : Nat) = i; exact Int.toNat_natCast i).trans (List.map_id _)
theorem okP {a b : List Nat} : okEq (.tup (a.map fun (i : Nat) => D.int i)) (.tup (b.map fun (i : Nat) => D.int i)) = true := by
  have h1 := pl_plD a
  have h2 := pl_plD b
  unfold plD at h1 h2
  simp [okEq, h1.1, h2.1]
  omega
theorem eqP {a b : List Nat} : D.eqv (.tup (a.map fun (i : Nat) => D.int i)) (.tup (b.map fun (i : Nat) => D.int i)) = decide (a = b) := eqv_plD
theorem inL_mem {d : D} {xs : List D} (h : d ∈ xs) (hp : d.pl = true) : inL d xs = true := by
  unfold inL
  exact List.any_eq_true.mpr ⟨d, h, eqv_self _ hp⟩
def isI (d : D) : Bool := match d with
  | .int _ => true
  | _ => false
theorem deps_le {k : Nat} : ∀ {xs : List D}, (∀ x ∈ xs, x.dep ≤ k) → D.deps xs ≤ k
  | [], _ => by rw [D.deps]; omega
  | x :: xs, h => by
    rw [D.deps]
    exact Nat.max_le.mpr ⟨h x (by simp), deps_le fun y hy => h y (by simp [hy])⟩
theorem pls_of : ∀ {xs : List D}, (∀ x ∈ xs, x.pl = true) → D.pls xs = true
  | [], _ => by rw [D.pls]
  | x :: xs, h => by rw [D.pls, h x (by simp), pls_of fun y hy => h y (by simp [hy])]; rfl
theorem sp_is_int {v : D} (hn : 1 ≤ n) (hv : isLoc v = false) (h : P (.bl (isI v)) S) : WpC (runF tb n 7 [v] S) P E t := by
  obtain ⟨n, rfl⟩ : ∃ k, n = k + 1 := ⟨n - 1, by omega⟩
  refine wp_run (df := f7) rfl rfl ?_
  cases v <;> simp [f7, isiD] <;> first | exact h | cases hv
theorem rng_step {m j : Nat} {x : D} {r : List D} (h : x :: r = (rng 0 m).drop j) : j < m ∧ x = .int (j : Nat) ∧ r = (rng 0 m).drop (j + 1) := by
  have hj : j < m := by
    rcases Nat.lt_or_ge j m with q | q
    · exact q
    · rw [List.drop_eq_nil_iff.mpr (by rw [rng_len]; exact q)] at h; cases h
  rw [List.drop_eq_getElem_cons (by rw [rng_len]; exact hj)] at h
  refine ⟨hj, ?_, (List.cons.inj h).2⟩
  rw [(List.cons.inj h).1]
  simp [rng]
theorem rng_end {m j : Nat} (hj : j ≤ m) (h : [] = (rng 0 m).drop j) : j = m := by
  have := congrArg List.length h
  rw [List.length_drop, rng_len] at this
  simp at this
  omega
theorem draw_mem {l : List D} {z : Int} (h0 : 0 ≤ z) (h1 : z < l.length) : ∃ x, x ∈ l ∧ atL l z = some x := by
  have : z.toNat < l.length := by omega
  exact ⟨l[z.toNat], List.getElem_mem this, by rw [atL_nat h0, List.getElem?_eq_getElem this]⟩
theorem Tr.plD {as : List Nat} : ∀ (k : Nat) (tr : D), szD tr ≤ k → Tr as tr → tr.pl = true ∧ tr.dep ≤ k := by
  intro k
  induction k with
  | zero => intro tr h; have := sz_pos tr; omega
  | succ k ih =>
    intro tr h ht
    obtain ⟨s, cs, rfl, h1, h2⟩ := ht.inv
    have hc : ∀ c ∈ cs, c.pl = true ∧ c.dep ≤ k := fun c hc => by
      have := szD_lt (s := .int (s : Nat)) hc
      exact ih c (by omega) (h2 c hc)
    rw [D.pl, D.pls, D.dep, D.deps]
    refine ⟨by rw [pls_of fun c hm => (hc c hm).1]; rfl, ?_⟩
    have := deps_le fun c hm => (hc c hm).2
    have e : (D.int (s : Nat)).dep = 0 := rfl
    rw [e]
    omega
theorem sp_check_arities (A : Ars as) (hn : 3 ≤ n) (h : P .non S) : WpC (runF tb n 45 [arD as] S) P E t := by
  obtain ⟨n, rfl⟩ : ∃ k, n = k + 1 := ⟨n - 1, by omega⟩
  refine wp_run (df := f45) rfl rfl ?_
  simp [f45]
  refine sp_is_arities (by omega) rfl ar_nl1 ?_
  rw [isAr_ok A]
  simp
  exact h
end
theorem sp_is_integer {n : Nat} {S : List D} {P : D → List D → Prop} {E : Ex → List D → Prop} {t : Tg2 P E} {i : Int} (hn : 1 ≤ n) (h : P (.bl true) S) : WpC (runF tb n 7 [.int i] S) P E t := sp_is_int hn rfl h
section
variable {n : Nat} {S : List D} {P : D → List D → Prop} {E : Ex → List D → Prop} {t : Tg2 P E} {as : List Nat} {gd : List Bool} {st : List D} {rows : List D}
theorem sp_pick {c : D} {rows : List D} (hn : 2 ≤ n) (hc : Strm c) (h0 : rows ≠ []) (h1 : rows.length < 1000000) (h : ∀ d c', Strm c' → d ∈ rows → P d (c' :: S)) : WpC (runF tb n 9 [.loc 0, .lst rows] (c :: S)) P E t := by
  obtain ⟨n, rfl⟩ : ∃ k, n = k + 1 := ⟨n - 1, by omega⟩
  refine wp_run (df := f9) rfl rfl ?_
  have hl : 0 < rows.length := List.length_pos_iff.mpr h0
  simp [f9]
  refine sp_next (by omega) hc (by omega) (by omega) fun d c' hc' hd0 hd1 => ?_
  have hd : d.toNat < rows.length := by omega
  simp
  rw [atL_nat hd0, List.getElem?_eq_getElem hd]
  simp
  exact h _ _ hc' (List.getElem_mem hd)
theorem sp_arities {c : D} (hn : 3 ≤ n) (hc : Strm c) (h : ∀ as c', Strm c' → Ars as → P (arD as) (c' :: S)) : WpC (runF tb n 10 [.loc 0] (c :: S)) P E t := by
  obtain ⟨n, rfl⟩ : ∃ k, n = k + 1 := ⟨n - 1, by omega⟩
  refine wp_run (df := f10) rfl rfl ?_
  simp [f10]
  refine sp_pick (by omega) hc ?_ ?_ fun d c' hc' hd => ?_
  · simp
  · simp
  simp at hd
  have fin : ∀ as : List Nat, 1 ≤ as.length → as.length ≤ 4 → (∀ a ∈ as, a ≤ 2) → 0 ∈ as → d = arD as → P d (c' :: S) := fun as h1 h2 h3 h4 e => by
    rw [e]; exact h as c' hc' ⟨h1, h2, h3, h4⟩
  simp
  rcases hd with e | e | e | e | e | e | e | e | e
  · exact fin [0, 0, 2] (by simp) (by simp) (by simp) (by simp) e
  · exact fin [0, 2] (by simp) (by simp) (by simp) (by simp) e
  · exact fin [0, 1, 2] (by simp) (by simp) (by simp) (by simp) e
  · exact fin [0, 0, 1] (by simp) (by simp) (by simp) (by simp) e
  · exact fin [2, 0, 1, 0] (by simp) (by simp) (by simp) (by simp) e
  · exact fin [0, 0, 1, 2] (by simp) (by simp) (by simp) (by simp) e
  · exact fin [1, 0] (by simp) (by simp) (by simp) (by simp) e
  · exact fin [0] (by simp) (by simp) (by simp) (by simp) e
  · exact fin [1, 1, 0, 2] (by simp) (by simp) (by simp) (by simp) e
theorem e11 : tb 11 = some f11 := by rfl
theorem sp_tree {as : List Nat} (A : Ars as) : ∀ (k n : Nat), 1 ≤ k → k ≤ 15 → k + 3 ≤ n → ∀ {c : D} {S : List D} {P : D → List D → Prop} {E : Ex → List D → Prop} {t : Tg2 P E}, Strm c →
    (∀ d c', Strm c' → Tr as d → szD d ≤ k → P d (c' :: S)) → WpC (runF tb n 11 [.loc 0, arD as, .int (k : Nat)] (c :: S)) P E t
 := by
    intro k
    induction k using Nat.strongRecOn with
    | _ k ih =>
    intro n h1 h2 hn c S P E t hc h
    obtain ⟨n, rfl⟩ : ∃ m, n = m + 1 := ⟨n - 1, by omega⟩
    refine wp_run (df := f11) rfl rfl ?_
    have sm : ∀ {l : List D}, l.length ≤ as.length → l.length ≤ sizeLine := fun {l} hl => by have := small1000 (n := l.length) (by have := A.four; omega); omega
    have A4 := A.four
    simp [f11, arD]
    refine ⟨by omega, compG_filter (by rfl) (fun d => decide (arOf as d = 0)) id (fun x hx => ?_) ?_⟩
    · obtain ⟨i, hi, rfl⟩ := rng_mem hx
      unfold turn
      simp [ar_at hi, arOf_at hi]
    · simp only [Wp_ifP]
      refine ⟨by rw [List.length_map]; exact Nat.le_trans (List.length_filter_le _ _) (by rw [rng_len]; exact sm (l := rng 0 as.length) (by rw [rng_len]; exact Nat.le_refl _) |> fun z => by rwa [rng_len] at z), ?_⟩
      simp
      refine ⟨by omega, compG_filter (by rfl) (fun d => decide (0 < arOf as d ∧ arOf as d < k)) id (fun x hx => ?_) ?_⟩
      · obtain ⟨i, hi, rfl⟩ := rng_mem hx
        unfold turn
        simp [ar_at hi, arOf_at hi]
        split
        · split <;> omega
        · omega
      · simp only [Wp_ifP]
        refine ⟨by rw [List.length_map]; exact Nat.le_trans (List.length_filter_le _ _) (by rw [rng_len]; exact sm (l := rng 0 as.length) (by rw [rng_len]; exact Nat.le_refl _) |> fun z => by rwa [rng_len] at z), ?_⟩
        obtain ⟨i0, hi0, e0⟩ := List.getElem_of_mem A.leaf
        have lv : ∀ c {Q : D → List D → Prop} {E t}, Strm c → (∀ d c', Strm c' → (∃ i, as[i]? = some 0 ∧ d = .int (i : Nat)) → Q d (c' :: S)) → WpC (runF tb n 9 [.loc 0, .lst ((rng 0 as.length).filter fun d => decide (arOf as d = 0))] (c :: S)) Q E t := fun c Q E t hc hq => by
          refine sp_pick (by omega) hc ?_ ?_ fun d c' hc' hd => ?_
          · exact List.ne_nil_of_mem (List.mem_filter.mpr ⟨mem_rng hi0, by rw [arOf_at hi0, e0]; rfl⟩)
          · have := List.length_filter_le (fun d => decide (arOf as d = 0)) (rng 0 as.length)
            rw [rng_len] at this
            omega
          · obtain ⟨h3, h4⟩ := List.mem_filter.mp hd
            obtain ⟨i, hi, rfl⟩ := rng_mem h3
            rw [arOf_at hi] at h4
            exact hq _ c' hc' ⟨i, by rw [List.getElem?_eq_getElem hi, of_decide_eq_true h4], rfl⟩
        have inn : ∀ d ∈ (rng 0 as.length).filter (fun d => decide (0 < arOf as d ∧ arOf as d < k)), ∃ i a, as[i]? = some a ∧ d = .int (i : Nat) ∧ 0 < a ∧ a < k ∧ a ≤ 2 ∧ i < as.length := fun d hd => by
          obtain ⟨h3, h4⟩ := List.mem_filter.mp hd
          obtain ⟨i, hi, rfl⟩ := rng_mem h3
          rw [arOf_at hi] at h4
          have h4 := of_decide_eq_true h4
          exact ⟨i, as[i], List.getElem?_eq_getElem hi, rfl, h4.1, h4.2, A.two _ (List.getElem_mem hi), hi⟩
        have innl := List.length_filter_le (fun d => decide (0 < arOf as d ∧ arOf as d < k)) (rng 0 as.length)
        rw [rng_len] at innl
        simp only [List.map_id, List.map_id_fun, id]
        generalize (rng 0 as.length).filter (fun d => decide (0 < arOf as d ∧ arOf as d < k)) = inner at inn innl ⊢
        have leafEnd : ∀ c, Strm c → ∀ i, as[i]? = some 0 → P (.tup [.int (i : Nat)]) (c :: S) := fun c hc i hi => h _ c hc (Tr.mk0 hi) (by rw [sz0]; exact h1)
        cases inner with
        | nil =>
          simp
          refine lv c hc fun d c' hc' ⟨i, hi, e⟩ => ?_
          subst e
          simp
          exact leafEnd c' hc' i hi
        | cons d0 ds =>
          simp
          refine sp_next (by omega) hc (by omega) (by omega) fun z c' hc' hz0 hz1 => ?_
          simp
          refine ite2 (fun _ => ?_) fun _ => ?_
          · refine lv c' hc' fun d c' hc' ⟨i, hi, e⟩ => ?_
            subst e
            simp
            exact leafEnd c' hc' i hi
          · refine sp_pick (by omega) hc' (by simp) (by omega) fun d c1 hc1 hd => ?_
            obtain ⟨i, a, ha, rfl, ha0, hak, ha2, hi⟩ := inn d hd
            have ea : as[i] = a := by rw [List.getElem?_eq_getElem hi] at ha; exact Option.some.inj ha
            simp [ar_at hi, ea]
            refine ite2 (fun q => ?_) fun q => ?_
            · have qa : a = 1 := by omega
              subst qa
              have ek : (k : Int) - 1 = ((k - 1 : Nat) : Int) := by omega
              rw [ek]
              refine ih (k - 1) (by omega) n (by omega) (by omega) (by omega) hc1 fun d c2 hc2 ht hs => ?_
              simp
              exact h _ c2 hc2 (Tr.mk1 ha ht) (by rw [sz1]; omega)
            · have qa : a = 2 := by omega
              subst qa
              refine sp_next (by omega) hc1 (by omega) (by omega) fun z c2 hc2 hz0 hz1 => ?_
              simp
              obtain ⟨l, rfl⟩ : ∃ l : Nat, z = l := ⟨z.toNat, by omega⟩
              have ek : 1 + (l : Int) = ((l + 1 : Nat) : Int) := by omega
              rw [ek]
              refine ih (l + 1) (by omega) n (by omega) (by omega) (by omega) hc2 fun x c3 hc3 htx hsx => ?_
              simp
              have ek2 : (k : Int) - 1 - ((l : Int) + 1) = ((k - 2 - l : Nat) : Int) := by omega
              rw [ek2]
              refine ih (k - 2 - l) (by omega) n (by omega) (by omega) (by omega) hc3 fun y c4 hc4 hty hsy => ?_
              simp
              exact h _ c4 hc4 (Tr.mk2 ha htx hty) (by rw [sz2]; omega)
theorem sp_put {as : List Nat} (A : Ars as) {tr s : D} {p : List Nat} (h : Sub tr p s) : Tr as tr → ∀ {b : D} {n : Nat} {S : List D} {P : D → List D → Prop} {E : Ex → List D → Prop} {t : Tg2 P E}, p.length + 1 ≤ n → P (putD tr p b) S → WpC (runF tb n 13 [tr, plD p, b] S) P E t := by
  induction h with
  | here d =>
    intro ht b n S P E t hn hP
    obtain ⟨n, rfl⟩ : ∃ m, n = m + 1 := ⟨n - 1, by omega⟩
    refine wp_run (df := f13) rfl rfl ?_
    simp [f13, plD, okEq, D.pl, D.pls, D.dep, D.deps, D.eqv, D.eqvs]
    rw [putD] at hP
    exact hP
  | @down xs i c s p e hs ih =>
    intro ht b n S P E t hn hP
    obtain ⟨n, rfl⟩ : ∃ m, n = m + 1 := ⟨n - 1, by omega⟩
    obtain ⟨k, cs, e1, h1, h2⟩ := ht.inv
    cases e1
    have e0 := e
    rw [List.getElem?_cons_succ] at e
    have hc := h2 c (List.mem_of_getElem? e)
    have hw := Tr.wid A h1
    have hi := (List.getElem?_eq_some_iff.mp e).1
    refine wp_run (df := f13) rfl rfl ?_
    have q1 := (pl_plD (i :: p)).1
    have q2 := (pl_plD (i :: p)).2
    have ok : okEq (.tup (.int (i : Nat) :: p.map fun (j : Nat) => D.int j)) (.tup []) = true := by
      have : okEq (plD (i :: p)) (.tup []) = true := by simp [okEq, q1, D.pl, D.pls, D.dep, D.deps]; omega
      exact this
    have ea : atL (.int (k : Nat) :: cs) ((i : Int) + 1) = some c := by
      rw [show (i : Int) + 1 = ((i + 1 : Nat) : Int) by omega, atL_nat (Int.natCast_nonneg _), Int.toNat_natCast]
      exact e0
    simp [f13, plD, ok, D.eqv, D.eqvs, ea]
    have es1 : slcL (.int (k : Nat) :: cs) none (some ((i : Int) + 1)) = .int (k : Nat) :: cs.take i := by
      rw [slc_to (by omega), show ((i : Int) + 1).toNat = i + 1 by omega]; rfl
    have es2 : slcL (.int (k : Nat) :: cs) (some ((i : Int) + 1 + 1)) none = cs.drop (i + 1) := by
      rw [slc_from (by omega), show ((i : Int) + 1 + 1).toNat = i + 1 + 1 by omega]; rfl
    refine ih hc (by simp at hn; omega) ?_
    rw [put_eq e] at hP
    have z1 : (cs.take i).length ≤ 2 := by rw [List.length_take]; omega
    have z2 : (cs.drop (i + 1)).length ≤ 2 := by rw [List.length_drop]; omega
    have s2 : ∀ k, k ≤ 1000 → k ≤ sizeLine := fun k hk => by have := small1000 hk; omega
    simp [es1, es2]
    refine ⟨s2 _ (by omega), s2 _ (by omega), ?_⟩
    exact hP
theorem sp_law_size (A : Ars as) : ∀ (k n : Nat) (tr : D), szD tr ≤ k → k + 1 ≤ n → Tr as tr → ∀ {S : List D} {P : D → List D → Prop} {E : Ex → List D → Prop} {t : Tg2 P E}, P (.int (szD tr : Nat)) S → WpC (runF tb n 36 [tr] S) P E t := by
  intro k
  induction k using Nat.strongRecOn with
  | _ k ih =>
  intro n tr hk hn ht S P E t h
  obtain ⟨n, rfl⟩ : ∃ m, n = m + 1 := ⟨n - 1, by omega⟩
  obtain ⟨s, cs, rfl, h1, h2⟩ := ht.inv
  have hw2 := Tr.wid A h1
  refine wp_run (df := f36) rfl rfl ?_
  simp [f36]
  refine compG_map1 (by rfl) (fun c => .int (szD c : Nat)) (fun c hc => ?_) ?_
  · unfold turn
    simp
    have hc : c ∈ cs := hc
    have hlt := szD_lt (s := .int (s : Nat)) hc
    refine ih (szD c) (by omega) n c (Nat.le_refl _) (by omega) (h2 c hc) ?_
    simp
  · simp [ag_sum]
    refine ⟨by have := small1000 (n := cs.length) (by omega); omega, ?_⟩
    rw [szD, szH] at h
    have e : (1 : Int) + (szL cs : Nat) = ((1 + szL cs : Nat) : Int) := by omega
    rw [e]
    exact h
theorem sp_size_of (A : Ars as) : ∀ (k n : Nat) (tr : D), szD tr ≤ k → k + 1 ≤ n → Tr as tr → ∀ {S : List D} {P : D → List D → Prop} {E : Ex → List D → Prop} {t : Tg2 P E}, P (.int (szD tr : Nat)) S → WpC (runF tb n 42 [tr] S) P E t := by
  intro k
  induction k using Nat.strongRecOn with
  | _ k ih =>
  intro n tr hk hn ht S P E t h
  obtain ⟨n, rfl⟩ : ∃ m, n = m + 1 := ⟨n - 1, by omega⟩
  obtain ⟨s, cs, rfl, h1, h2⟩ := ht.inv
  have hw2 := Tr.wid A h1
  refine wp_run (df := f42) rfl rfl ?_
  simp [f42]
  refine compG_map1 (by rfl) (fun c => .int (szD c : Nat)) (fun c hc => ?_) ?_
  · unfold turn
    simp
    have hc : c ∈ cs := hc
    have hlt := szD_lt (s := .int (s : Nat)) hc
    refine ih (szD c) (by omega) n c (Nat.le_refl _) (by omega) (h2 c hc) ?_
    simp
  · simp [ag_sum]
    refine ⟨by have := small1000 (n := cs.length) (by omega); omega, ?_⟩
    rw [szD, szH] at h
    have e : (1 : Int) + (szL cs : Nat) = ((1 + szL cs : Nat) : Int) := by omega
    rw [e]
    exact h
end
section
variable {n : Nat} {S : List D} {P : D → List D → Prop} {E : Ex → List D → Prop} {t : Tg2 P E} {as : List Nat}
theorem ag_allG {α : Type} {xs : List α} {f : α → Bool} : agD .all (.lst (xs.map fun a => D.bl (f a))) = some (.bl (xs.all f)) := by
  show (boolsD (xs.map fun a => D.bl (f a))).map (fun l => D.bl (l.all id)) = _
  rw [show (xs.map fun a => D.bl (f a)) = (xs.map f).map D.bl by rw [List.map_map]; rfl, all_bl]
  simp [Function.comp_def]
theorem enum_zip {g : D → D} {f : D → D → D} (full : List D) (hg : ∀ (i : Nat) (c e : D), full[i]? = some e → g (.tup [.int (i : Nat), c]) = f c e) : ∀ (cs ds : List D) (i : Nat), full.drop i = ds → cs.length = ds.length → (enumL i cs).map g = (cs.zip ds).map fun p => f p.1 p.2
  | [], ds, i, _, _ => by simp [enumL]
  | c :: cs, [], i, _, e => by simp at e
  | c :: cs, e :: ds, i, h, hl => by
    have hc : full[i]? = some e := by rw [← List.head?_drop, h]; rfl
    have hr : full.drop (i + 1) = ds := by
      have := congrArg List.tail h
      simpa using this
    rw [enumL, List.map_cons, List.zip_cons_cons, List.map_cons, hg i c e hc, enum_zip full hg cs ds (i + 1) hr (by simpa using hl)]
theorem part_len {as : List Nat} {t : D} (ht : Tr as t) {p : List Nat} (h : p ∈ plT t) : p.length + 1 ≤ szD t := by
  obtain ⟨u, hu⟩ := (plT_sub (szD t) t (Nat.le_refl _) ht p).mp h
  have := hu.len
  have := sz_pos u
  omega
theorem sp_part {tr : D} {p : List Nat} (A : Ars as) (ht : Tr as tr) (hp : p.length ≤ 15) (hn : 1 ≤ n) (h : P (partD tr p) S) : WpC (runF tb n 46 [tr, plD p] S) P E t := by
  obtain ⟨n, rfl⟩ : ∃ m, n = m + 1 := ⟨n - 1, by omega⟩
  refine wp_run (df := f46) rfl rfl ?_
  simp [f46, plD]
  obtain ⟨I, hI⟩ : ∃ I : List D → Ms → Prop, I = fun r m => ∃ (q : List Nat) (u : D) (o3 : Option D), r = (q.map fun (i : Nat) => D.int i) ∧ partD u q = partD tr p ∧ Tr as u ∧ m = ⟨[.val tr, .val (.tup (p.map fun (i : Nat) => D.int i)), .val u, sv o3], S⟩ := ⟨_, rfl⟩
  refine forL_wp I ?_ ?_ _ _ ?_
  · intro x r m h'
    rw [hI] at h'
    obtain ⟨q, u, o3, hr, hq, hu, rfl⟩ := h'
    cases q with
    | nil => simp at hr
    | cons i q =>
      simp at hr
      obtain ⟨rfl, rfl⟩ := hr
      obtain ⟨k, cs, rfl, h1, h2⟩ := hu.inv
      have s2 : ∀ k, k ≤ 1000 → k ≤ sizeLine := fun k hk => by have := small1000 hk; omega
      cases e : cs[i]? with
      | some c =>
        have ea : atL (.int (k : Nat) :: cs) ((i : Int) + 1) = some c := by
          rw [show (i : Int) + 1 = ((i + 1 : Nat) : Int) by omega, atL_nat (Int.natCast_nonneg _), Int.toNat_natCast]
          exact e
        have hl := (List.getElem?_eq_some_iff.mp e).1
        have hc : ¬ ((cs.length : Int) + 1 < (i : Int) + 2) := by omega
        simp [ea, hc]
        show I _ _
        rw [hI]
        exact ⟨q, c, some (.int (i : Nat)), rfl, by rw [← hq, part_cons e], h2 c (List.mem_of_getElem? e), rfl⟩
      | none =>
        have hl := List.getElem?_eq_none_iff.mp e
        have hc : (cs.length : Int) + 1 < (i : Int) + 2 := by omega
        have : partD tr p = .non := by
          rw [← hq, partD, List.getD_cons_succ, List.getD_eq_getElem?_getD, e]
          cases q <;> rfl
        rw [this] at h
        simp [hc]
        exact h
  · intro m h'
    rw [hI] at h'
    obtain ⟨q, u, o3, hr, hq, hu, rfl⟩ := h'
    have : q = [] := by simpa using hr.symm
    subst this
    rw [partD] at hq
    subst hq
    simp
    exact h
  · rw [hI]
    exact ⟨p, tr, none, rfl, rfl, ht, rfl⟩
theorem sp_spots (A : Ars as) : ∀ (k : Nat) (n : Nat) (tr : D), szD tr ≤ k → k ≤ 15 → k + 1 ≤ n → Tr as tr → ∀ {S : List D} {P : D → List D → Prop} {E : Ex → List D → Prop} {t : Tg2 P E},
    P (.lst ((plT tr).map fun p => .tup [plD p, partD tr p])) S → WpC (runF tb n 12 [tr] S) P E t := by
  intro k
  induction k using Nat.strongRecOn with
  | _ k ih =>
  intro n tr hk h15 hn ht S P E t h
  obtain ⟨n, rfl⟩ : ∃ m, n = m + 1 := ⟨n - 1, by omega⟩
  have hlen := plT_len _ tr (Nat.le_refl _) ht
  obtain ⟨s, cs, rfl, h1, h2⟩ := ht.inv
  have hw := Tr.wid A h1
  refine wp_run (df := f12) rfl rfl ?_
  have s2 : ∀ k, k ≤ 1000 → k ≤ sizeLine := fun k hk => by have := small1000 hk; omega
  rw [plT, plH] at h hlen
  have hsz : szD (.tup (.int (s : Nat) :: cs)) = 1 + szL cs := by rw [szD, szH]
  simp [f12]
  refine ⟨by omega, ?_⟩
  obtain ⟨I, hI⟩ : ∃ I : List D → Ms → Prop, I = fun r m => ∃ (j : Nat) (o2 : Option D), j ≤ cs.length ∧ r = (rng 0 cs.length).drop j ∧ m = ⟨[.val (.tup (.int (s : Nat) :: cs)), .ow (.lst (([] :: plL 0 (cs.take j)).map fun p => .tup [plD p, partD (.tup (.int (s : Nat) :: cs)) p])), sv o2, .un, .un], S⟩ := ⟨_, rfl⟩
  refine forL_wp I ?_ ?_ _ _ ?_
  · intro d r m h'
    rw [hI] at h'
    obtain ⟨j, o2, hj, hr, rfl⟩ := h'
    obtain ⟨hj', rfl, hr2⟩ := rng_step hr
    have hc : cs[j]? = some cs[j] := List.getElem?_eq_getElem hj'
    have hcm := List.getElem_mem hj'
    generalize cs[j] = c at hc hcm
    have ea : atL (.int (s : Nat) :: cs) ((j : Int) + 1) = some c := by
      rw [show (j : Int) + 1 = ((j + 1 : Nat) : Int) by omega, atL_nat (Int.natCast_nonneg _), Int.toNat_natCast]
      exact hc
    have hlt := szD_lt (s := .int (s : Nat)) hcm
    have hsnoc : plL 0 (cs.take (j + 1)) = plL 0 (cs.take j) ++ (plT c).map (j :: ·) := by
      rw [List.take_add_one, hc]
      show plL 0 (cs.take j ++ [c]) = _
      rw [plL_snoc, List.length_take, Nat.min_eq_left (Nat.le_of_lt hj'), Nat.zero_add]
    have hl1 : (plL 0 (cs.take j)).length ≤ 15 := by
      rw [plL_len fun c hc => plT_len (szD c) c (Nat.le_refl _) (h2 c (List.mem_of_mem_take hc))]
      have : szL cs = szL (cs.take j) + szL (cs.drop j) := by rw [← szL_app, List.take_append_drop]
      omega
    have hl2 : (plT c).length ≤ 15 := by rw [plT_len (szD c) c (Nat.le_refl _) (h2 c hcm)]; omega
    have hmap : (((plT c).map fun p => D.tup [plD p, partD c p]).map fun r => match r with | .tup [.tup pl, b] => D.tup [.tup (.int (j : Nat) :: pl), b] | _ => .non) = ((plT c).map (j :: ·)).map fun p => .tup [plD p, partD (.tup (.int (s : Nat) :: cs)) p] := by
      rw [List.map_map, List.map_map]
      refine List.map_congr_left fun p _ => ?_
      show D.tup [.tup (.int (j : Nat) :: p.map fun (i : Nat) => D.int i), partD c p] = .tup [plD (j :: p), partD (.tup (.int (s : Nat) :: cs)) (j :: p)]
      rw [part_cons hc]
      rfl
    simp [ea]
    refine ih (szD c) (by omega) n c (Nat.le_refl _) (by omega) (by omega) (h2 _ hcm) ?_
    simp
    refine compG_map1 (by simp [plainS']) (fun r => match r with | .tup [.tup pl, b] => .tup [.tup (.int (j : Nat) :: pl), b] | _ => .non) (fun r hr => ?_) ?_
    · obtain ⟨p, hp, rfl⟩ := List.mem_map.mp hr
      have := part_len (h2 _ hcm) hp
      unfold turn
      simp [plD]
      exact s2 _ (by omega)
    · dsimp only
      rw [hmap]
      simp
      refine ⟨s2 _ (by omega), s2 _ (by omega), ?_⟩
      show I _ _
      rw [hI]
      refine ⟨j + 1, some (.int (j : Nat)), by omega, hr2, ?_⟩
      rw [hsnoc]
      simp [sv]
  · intro m h'
    rw [hI] at h'
    obtain ⟨j, o2, hj, hr, rfl⟩ := h'
    obtain rfl := rng_end hj hr
    rw [List.take_length]
    simp
    simp at h
    exact h
  · rw [hI]
    refine ⟨0, none, Nat.zero_le _, rfl, ?_⟩
    simp [plL, plD, partD, sv]
theorem sp_law_part (A : Ars as) {tr : D} {p : List Nat} (ht : Tr as tr) (h15 : szD tr ≤ 15) (hp : p.length ≤ 15) (hn : 17 ≤ n) (h : P (partD tr p) S) : WpC (runF tb n 51 [tr, plD p] S) P E t := by
  obtain ⟨n, rfl⟩ : ∃ m, n = m + 1 := ⟨n - 1, by omega⟩
  have s2 : ∀ k, k ≤ 1000 → k ≤ sizeLine := fun k hk => by have := small1000 hk; omega
  have hlen := plT_len _ tr (Nat.le_refl _) ht
  refine wp_run (df := f51) rfl rfl ?_
  simp [f51]
  refine sp_spots A 15 n tr h15 (by omega) (by omega) ht ?_
  simp
  refine compG_filter (by simp [plainS']) (fun r => match r with | .tup [q, _] => D.eqv q (plD p) | _ => false) (fun r => match r with | .tup [_, b] => b | _ => .non) (fun r hr => ?_) ?_
  · obtain ⟨q, hq, rfl⟩ := List.mem_map.mp hr
    have e1 : okEq (plD q) (plD p) = true := okP
    unfold turn
    by_cases e : q = p
    · simp [e1, eqv_plD, e]
      exact okP
    · simp [e1, eqv_plD, e]
  · dsimp only
    have e1 : ((((plT tr).map fun p => D.tup [plD p, partD tr p]).filter fun r => match r with | .tup [q, _] => D.eqv q (plD p) | _ => false).map fun r => match r with | .tup [_, b] => b | _ => .non) = ((plT tr).filter fun q => decide (q = p)).map fun _ => partD tr p := by
      rw [List.filter_map, List.map_map]
      have e2 : ((fun r => match r with | D.tup [q, _] => D.eqv q (plD p) | _ => false) ∘ fun p => D.tup [plD p, partD tr p]) = fun q : List Nat => decide (q = p) := by
        funext q
        simp [eqv_plD]
      rw [e2]
      refine List.map_congr_left fun q hq => ?_
      have : q = p := by simpa using (List.mem_filter.mp hq).2
      rw [this]
      rfl
    rw [e1]
    have hfl := List.length_filter_le (fun q => decide (q = p)) (plT tr)
    by_cases hm : p ∈ plT tr
    · have hne : (plT tr).filter (fun q => decide (q = p)) ≠ [] := fun z => by
        have : p ∈ (plT tr).filter (fun q => decide (q = p)) := List.mem_filter.mpr ⟨hm, by simp⟩
        rw [z] at this
        cases this
      cases e : (plT tr).filter (fun q => decide (q = p)) with
      | nil => exact absurd e hne
      | cons q l =>
        rw [e, List.length_cons] at hfl
        simp
        refine ⟨s2 _ (by omega), ?_⟩
        exact h
    · have e : (plT tr).filter (fun q => decide (q = p)) = [] := List.filter_eq_nil_iff.mpr fun q hq => by
        simp
        intro z
        exact hm (z ▸ hq)
      rw [e]
      rw [part_none p tr ht hm] at h
      simp
      exact h
theorem slc_take {p : List Nat} {k : Nat} : slcL (p.map fun (i : Nat) => D.int i) none (some (k : Int)) = (p.take k).map fun (i : Nat) => D.int i := by
  rw [slc_to (by omega)]
  simp
theorem sp_check_place {p : List Nat} (hp : p.length < 15) (h1 : ∀ i ∈ p, i ≤ 1) (hn : 4 ≤ n) (h : P .non S) : WpC (runF tb n 47 [plD p] S) P E t := by
  obtain ⟨n, rfl⟩ : ∃ k, n = k + 1 := ⟨n - 1, by omega⟩
  refine wp_run (df := f47) rfl rfl ?_
  simp [f47]
  refine sp_is_place (by omega) rfl (fun xs e => ?_) ?_
  · cases e
    intro x hx
    obtain ⟨i, _, rfl⟩ := List.mem_map.mp hx
    rfl
  · have e : isPl (plD p) = true := by
      simp [isPl, plD, isNum]
      exact ⟨by omega, fun i hi => by have := h1 i hi; omega⟩
    simp [e]
    exact h
theorem place_bin (A : Ars as) {tr s : D} {p : List Nat} (h : Sub tr p s) : Tr as tr → ∀ i ∈ p, i ≤ 1 := by
  induction h with
  | here d => intro _ i hi; cases hi
  | @down xs i c s p e _ ih =>
    intro ht j hj
    obtain ⟨k, cs, e2, h1, h2⟩ := ht.inv
    cases e2
    rw [List.getElem?_cons_succ] at e
    have hl := (List.getElem?_eq_some_iff.mp e).1
    have hw := Tr.wid A h1
    rcases List.mem_cons.mp hj with q | q
    · omega
    · exact ih (h2 c (List.mem_of_getElem? e)) j q
end
end
section
section
variable {n : Nat} {S : List D} {P : D → List D → Prop} {E : Ex → List D → Prop} {t : Tg2 P E} {as : List Nat}
theorem sp_put_at {as : List Nat} (A : Ars as) {tr s : D} {p : List Nat} (h : Sub tr p s) : Tr as tr → ∀ {b : D} {n : Nat} {S : List D} {P : D → List D → Prop} {E : Ex → List D → Prop} {t : Tg2 P E}, p.length + 1 ≤ n → P (putD tr p b) S → WpC (runF tb n 44 [tr, plD p, b] S) P E t := by
  induction h with
  | here d =>
    intro ht b n S P E t hn hP
    obtain ⟨n, rfl⟩ : ∃ m, n = m + 1 := ⟨n - 1, by omega⟩
    refine wp_run (df := f44) rfl rfl ?_
    simp [f44, plD]
    rw [putD] at hP
    exact hP
  | @down xs i c s p e hs ih =>
    intro ht b n S P E t hn hP
    obtain ⟨n, rfl⟩ : ∃ m, n = m + 1 := ⟨n - 1, by omega⟩
    obtain ⟨k, cs, e1, h1, h2⟩ := ht.inv
    cases e1
    have e0 := e
    rw [List.getElem?_cons_succ] at e
    have hc := h2 c (List.mem_of_getElem? e)
    have hw := Tr.wid A h1
    have hi := (List.getElem?_eq_some_iff.mp e).1
    refine wp_run (df := f44) rfl rfl ?_
    have ea : atL (.int (k : Nat) :: cs) ((i : Int) + 1) = some c := by
      rw [show (i : Int) + 1 = ((i + 1 : Nat) : Int) by omega, atL_nat (Int.natCast_nonneg _), Int.toNat_natCast]
      exact e0
    have ne : ¬ ((p.length : Int) + 1 = 0) := by omega
    simp [f44, plD, ne, ea]
    have es1 : slcL (.int (k : Nat) :: cs) none (some ((i : Int) + 1)) = .int (k : Nat) :: cs.take i := by
      rw [slc_to (by omega), show ((i : Int) + 1).toNat = i + 1 by omega]; rfl
    have es2 : slcL (.int (k : Nat) :: cs) (some ((i : Int) + 1 + 1)) none = cs.drop (i + 1) := by
      rw [slc_from (by omega), show ((i : Int) + 1 + 1).toNat = i + 1 + 1 by omega]; rfl
    refine ih hc (by simp at hn; omega) ?_
    rw [put_eq e] at hP
    have z1 : (cs.take i).length ≤ 2 := by rw [List.length_take]; omega
    have z2 : (cs.drop (i + 1)).length ≤ 2 := by rw [List.length_drop]; omega
    have s2 : ∀ k, k ≤ 1000 → k ≤ sizeLine := fun k hk => by have := small1000 hk; omega
    simp [es1, es2]
    refine ⟨s2 _ (by omega), s2 _ (by omega), ?_⟩
    exact hP
theorem sp_small (A : Ars as) {tr : D} {k : Nat} (ht : Tr as tr) (hk : szD tr ≤ k) (hn : k + 2 ≤ n) (h : szD tr ≤ 15 → P tr S) (hE : ¬ szD tr ≤ 15 → E ⟨1, [.str "tree"]⟩ S) : WpC (runF tb n 48 [tr] S) P E t := by
  obtain ⟨n, rfl⟩ : ∃ m, n = m + 1 := ⟨n - 1, by omega⟩
  refine wp_run (df := f48) rfl rfl ?_
  simp [f48]
  refine sp_size_of A k n tr hk (by omega) ht ?_
  by_cases q : szD tr ≤ 15
  · have q' : ¬ ((15 : Int) < (szD tr : Nat)) := by omega
    simp [q']
    exact h q
  · have q' : ((15 : Int) < (szD tr : Nat)) := by omega
    simp [q']
    exact hE q
theorem sp_part_f (A : Ars as) {tr : D} {p : List Nat} (ht : Tr as tr) (h15 : szD tr ≤ 15) (hp : p.length < 15) (h1 : ∀ i ∈ p, i ≤ 1) (hn : 6 ≤ n) (h : P (partD tr p) S) : WpC (runF tb n 50 [arD as, tr, plD p] S) P E t := by
  obtain ⟨n, rfl⟩ : ∃ m, n = m + 1 := ⟨n - 1, by omega⟩
  refine wp_run (df := f50) rfl rfl ?_
  simp [f50]
  refine sp_check_arities A (by omega) ?_
  simp
  refine sp_check_tree A ht h15 (by omega) ?_
  simp
  refine sp_check_place hp h1 (by omega) ?_
  simp
  refine sp_part A ht (by omega) (by omega) ?_
  simp
  exact h
def dueG (a b : D) (p : List Nat) : D := if p ∈ plT a ∧ p ∈ plT b then (if szD (putD a p (partD b p)) ≤ 15 then putD a p (partD b p) else .lst [.str "large", .str "tree"]) else .lst [.str "not", .str "place"]
theorem put_tr {as : List Nat} {a b : D} {p : List Nat} (ha : Tr as a) (hb : Tr as b) (pa : p ∈ plT a) (pb : p ∈ plT b) : Tr as (putD a p (partD b p)) ∧ szD (putD a p (partD b p)) + szD (partD a p) = szD a + szD (partD b p) := by
  have h1 := part_tr ha pa
  have h2 := part_tr hb pb
  have h3 := h1.2.1.put ha h2.1.nl
  exact ⟨⟨h3.1.trans h2.1.ok, h3.2.2⟩, h3.2.1⟩
end
end
end EvP

set_option Elab.async false
set_option linter.all false
set_option maxRecDepth 100000
set_option autoImplicit false
set_option maxHeartbeats 4000000
namespace EvP
open PySem L2 Ev
theorem compG_filtI {α : Type} {own : List Nat} {k : Wk} {bd : D → Ms → R Unit} {ts : Ms → R Bool} {elt : Ms → R (List D)} {m : Ms} {P : List D → Ms → Prop} {E : Ex → Ms → Prop} {t : Tg2 P E} (L : List α) (f g : α → D) (p : α → Bool) (hx : k.xs = L.map f) (hp : own.all (plainS (lockR m.ρ k.l)) = true)
    (step : ∀ x ∈ L, Wp (turn bd ts elt (f x) ⟨wipeR (lockR m.ρ k.l) own, m.S⟩) (fun ys m' => AgA own 0 m'.ρ (wipeR (lockR m.ρ k.l) own) ∧ m'.S = m.S ∧ ys = if p x = true then [g x] else []) E ⟨()⟩)
    (hP : P ((L.filter p).map g) m) : Wp (compG own k (compL own bd ts elt) m) P E t := by
  refine compG_wp hp (fun r acc S => S = m.S ∧ ∃ done l, L = done ++ l ∧ r = l.map f ∧ acc = (done.filter p).map g) ⟨rfl, [], L, rfl, hx, rfl⟩ ?_ ?_
  · rintro d r acc S ⟨rfl, done, l, e1, e2, rfl⟩
    cases l with
    | nil => cases e2
    | cons x l =>
      obtain ⟨rfl, rfl⟩ := List.cons.inj e2
      refine (step x (by rw [e1]; simp)).mono fun ys m' ⟨h1, h2, h3⟩ => ⟨h1, h2, done ++ [x], l, by rw [e1]; simp, rfl, ?_⟩
      rw [List.filter_append, List.map_append, h3]
      by_cases z : p x = true
      · simp [z]
      · simp [z]
  · rintro zs S ⟨rfl, done, l, e1, e2, rfl⟩
    have : l = [] := by
      cases l with
      | nil => rfl
      | cons _ _ => cases e2
    subst this
    rw [List.append_nil] at e1
    rw [← e1]
    exact hP
theorem compG_mapI {α : Type} {own : List Nat} {k : Wk} {bd : D → Ms → R Unit} {ts : Ms → R Bool} {elt : Ms → R (List D)} {m : Ms} {P : List D → Ms → Prop} {E : Ex → Ms → Prop} {t : Tg2 P E} (L : List α) (f g : α → D) (hx : k.xs = L.map f) (hp : own.all (plainS (lockR m.ρ k.l)) = true)
    (step : ∀ x ∈ L, Wp (turn bd ts elt (f x) ⟨wipeR (lockR m.ρ k.l) own, m.S⟩) (fun ys m' => AgA own 0 m'.ρ (wipeR (lockR m.ρ k.l) own) ∧ m'.S = m.S ∧ ys = [g x]) E ⟨()⟩)
    (hP : P (L.map g) m) : Wp (compG own k (compL own bd ts elt) m) P E t := by
  refine compG_filtI L f g (fun _ => true) hx hp (fun x hx => ?_) ?_
  · simpa using step x hx
  · rw [List.filter_eq_self.mpr fun _ _ => rfl]
    exact hP
theorem sp_equal : ∀ (n : Nat) (d : D), d.dep + 2 ≤ n → d.pl = true → d.dep ≤ 64 → wd d = true → ∀ {S : List D} {P : D → List D → Prop} {E : Ex → List D → Prop} {t : Tg2 P E}, P (.bl true) S → WpC (runF tb n 719 [d, d] S) P E t
  | 0, d, hn, _, _, _, _, _, _, _, _ => by omega
  | n + 1, d, hn, hp, hd, hw, S, P, E, t, h => by
    refine wp_run (df := f719) rfl rfl ?_
    have seq : ∀ (xs : List D) (k : Bool), d = (if k then .lst xs else .tup xs) → Wp (evSs (runF tb n) f719.body ⟨[d, d].map .val ++ List.replicate (f719.ns.length - [d, d].length) .un, S⟩) (PF P) (fun e m => E e m.S) ⟨()⟩ := fun xs k e => by
      have hl : xs.length ≤ 1000 := by
        subst e
        cases k
        · rw [if_neg Bool.false_ne_true, wd, Bool.and_eq_true] at hw; exact of_decide_eq_true hw.1
        · rw [if_pos rfl, wd, Bool.and_eq_true] at hw; exact of_decide_eq_true hw.1
      have hws : wds xs = true := by
        subst e
        cases k
        · rw [if_neg Bool.false_ne_true, wd, Bool.and_eq_true] at hw; exact hw.2
        · rw [if_pos rfl, wd, Bool.and_eq_true] at hw; exact hw.2
      have hps : D.pls xs = true := by
        subst e
        cases k <;> simpa [D.pl] using hp
      have hds : D.deps xs + 1 = d.dep := by
        subst e
        cases k <;> simp [D.dep]
      have turnA : ∀ (x : D), x ∈ rng 0 xs.length → ∃ i, i < xs.length ∧ x = .int (i : Nat) := fun x hx => by
        obtain ⟨i, e⟩ := List.getElem?_of_mem hx
        obtain ⟨h1, h2⟩ := rng_get e
        exact ⟨i, h1, by rw [h2]; simp⟩
      have szs := small1000 hl
      subst e
      cases k
      all_goals
        simp [f719, isiD, islD, isLoc]
        refine ⟨by omega, compG_map1 (by rfl) (fun d => .bl ((fun _ => true) d)) (fun x hx => ?_) ?_⟩
        · obtain ⟨i, hi, rfl⟩ := turnA x hx
          unfold turn
          have ea : atL xs (i : Nat) = some xs[i] := by rw [atL_nat (Int.natCast_nonneg i), Int.toNat_natCast, List.getElem?_eq_getElem hi]
          simp [ea]
          have hm := List.getElem_mem hi
          refine sp_equal n _ (by have := deps_mem hm; omega) (D.pls_mem hps _ hm) (by have := deps_mem hm; omega) (wds_mem hws _ hm) ?_
          simp
        · simp only [Wp_bind, Wp_ifP, List.length_map]
          refine ⟨by rw [rng_len]; omega, ?_⟩
          simp only [Wp_ok]
          have et : (rng 0 xs.length).all (fun _ => true) = true := by simp
          simp [ag_all, et]
          exact h
    cases d with
    | tup xs => exact seq xs false rfl
    | lst xs => exact seq xs true rfl
    | non => simp [f719, isiD, islD, isLoc]; exact h
    | bl k => simp [f719, isiD, islD, isLoc]; exact h
    | int i =>
      simp [f719, isiD, islD, isLoc]
      refine sp_is_integer (by simp [D.dep] at hn; omega) ?_
      simp
      exact h
    | str s =>
      simp [f719, isiD, islD, isLoc]
      have e : okEq (.str s) (.str s) = true := by simp [okEq, hp, D.dep]
      exact ⟨e, h⟩
    | dic _ => simp [D.pl] at hp
    | loc _ => simp [D.pl] at hp
/-- a list in the store, and what is due -/
theorem sp_equalL {n k : Nat} {xs : List D} {S : List D} {P : D → List D → Prop} {E : Ex → List D → Prop} {t : Tg2 P E} (hS : S[k]? = some (.lst xs)) (hn : D.deps xs + 3 ≤ n) (hps : D.pls xs = true) (hd : D.deps xs ≤ 63) (hl : xs.length ≤ 1000) (hws : wds xs = true) (h : P (.bl true) S) : WpC (runF tb n 719 [.loc k, .lst xs] S) P E t := by
  obtain ⟨n, rfl⟩ : ∃ k, n = k + 1 := ⟨n - 1, by omega⟩
  have szs := small1000 hl
  refine wp_run (df := f719) rfl rfl ?_
  have turnA : ∀ (x : D), x ∈ rng 0 xs.length → ∃ i, i < xs.length ∧ x = .int (i : Nat) := fun x hx => by
    obtain ⟨i, e⟩ := List.getElem?_of_mem hx
    obtain ⟨h1, h2⟩ := rng_get e
    exact ⟨i, h1, by rw [h2]; simp⟩
  simp [f719, isiD, islD, isLoc, hS]
  refine ⟨by omega, compG_map1 (by rfl) (fun d => .bl ((fun _ => true) d)) (fun x hx => ?_) ?_⟩
  · obtain ⟨i, hi, rfl⟩ := turnA x hx
    unfold turn
    have ea : atL xs (i : Nat) = some xs[i] := by rw [atL_nat (Int.natCast_nonneg i), Int.toNat_natCast, List.getElem?_eq_getElem hi]
    simp [ea, hS]
    have hm := List.getElem_mem hi
    refine sp_equal n _ (by have := deps_mem hm; omega) (D.pls_mem hps _ hm) (by have := deps_mem hm; omega) (wds_mem hws _ hm) ?_
    simp
  · simp only [Wp_bind, Wp_ifP, List.length_map]
    refine ⟨by rw [rng_len]; omega, ?_⟩
    simp only [Wp_ok]
    have et : (rng 0 xs.length).all (fun _ => true) = true := by simp
    simp [ag_all, et]
    exact h
end EvP

set_option Elab.async false
set_option linter.all false
set_option maxRecDepth 100000
set_option autoImplicit false
set_option maxHeartbeats 4000000
namespace EvP
open PySem L2 Ev
section
variable {n : Nat} {S : List D} {P : D → List D → Prop} {E : Ex → List D → Prop} {t : Tg2 P E} {as : List Nat}
theorem sp_height_of (A : Ars as) : ∀ (k n : Nat) (tr : D), szD tr ≤ k → k + 1 ≤ n → Tr as tr → ∀ {S : List D} {P : D → List D → Prop} {E : Ex → List D → Prop} {t : Tg2 P E}, P (.int (hgD tr : Nat)) S → WpC (runF tb n 43 [tr] S) P E t := by
  intro k
  induction k using Nat.strongRecOn with
  | _ k ih =>
  intro n tr hk hn ht S P E t h
  obtain ⟨n, rfl⟩ : ∃ m, n = m + 1 := ⟨n - 1, by omega⟩
  obtain ⟨s, cs, rfl, h1, h2⟩ := ht.inv
  have hw2 := Tr.wid A h1
  have s2 : ∀ k, k ≤ 1000 → k ≤ sizeLine := fun k hk => by have := small1000 hk; omega
  refine wp_run (df := f43) rfl rfl ?_
  simp [f43]
  refine compG_map1 (by rfl) (fun c => .int (hgD c : Nat)) (fun c hc => ?_) ?_
  · unfold turn
    simp
    have hc : c ∈ cs := hc
    have hlt := szD_lt (s := .int (s : Nat)) hc
    refine ih (szD c) (by omega) n c (Nat.le_refl _) (by omega) (h2 c hc) ?_
    simp
  · have em : agD .max (.lst (.int 0 :: cs.map fun c => D.int (hgD c : Nat))) = some (.int (hgL cs : Nat)) := by
      have := ag_maxN (l := 0 :: cs.map hgD) (m := hgL cs) (by
        rcases hgL_mem (cs := cs) with z | ⟨c, hc, e⟩
        · rw [z]; simp
        · exact List.mem_cons_of_mem _ (List.mem_map.mpr ⟨c, hc, e⟩)) (fun x hx => by
        rcases List.mem_cons.mp hx with rfl | hx
        · exact Nat.zero_le _
        · obtain ⟨c, hc, rfl⟩ := List.mem_map.mp hx
          exact hgL_le hc)
      rw [List.map_cons, List.map_map] at this
      exact this
    simp [em]
    have e : (1 : Int) + (hgL cs : Nat) = (hgD (.tup (.int (s : Nat) :: cs)) : Nat) := by rw [hgD]; omega
    rw [e]
    exact ⟨s2 _ (by omega), s2 _ (by omega), h⟩
theorem sp_places_of (A : Ars as) : ∀ (k : Nat) (n : Nat) (tr : D), szD tr ≤ k → k ≤ 15 → k + 1 ≤ n → Tr as tr → ∀ {S : List D} {P : D → List D → Prop} {E : Ex → List D → Prop} {t : Tg2 P E},
    P (.lst ((plT tr).map plD)) S → WpC (givC (runF tb n 717 [tr] S)) P E t := by
  intro k
  induction k using Nat.strongRecOn with
  | _ k ih =>
  intro n tr hk h15 hn ht S P E t h
  obtain ⟨n, rfl⟩ : ∃ m, n = m + 1 := ⟨n - 1, by omega⟩
  have hlen := plT_len _ tr (Nat.le_refl _) ht
  obtain ⟨s, cs, rfl, h1, h2⟩ := ht.inv
  have hw := Tr.wid A h1
  refine wp_runO (df := f717) rfl rfl ?_
  have s2 : ∀ k, k ≤ 1000 → k ≤ sizeLine := fun k hk => by have := small1000 hk; omega
  rw [plT, plH] at h hlen
  have hsz : szD (.tup (.int (s : Nat) :: cs)) = 1 + szL cs := by rw [szD, szH]
  simp [f717]
  obtain ⟨I, hI⟩ : ∃ I : List D → Ms → Prop, I = fun r m => ∃ (j : Nat) (o2 o3 : Option D), j ≤ cs.length ∧ r = enumL j (cs.drop j) ∧ m = ⟨[.val (.tup (.int (s : Nat) :: cs)), .ow (.lst (([] :: plL 0 (cs.take j)).map plD)), sv o2, sv o3, .un], S⟩ := ⟨_, rfl⟩
  refine forL_wp I ?_ ?_ _ _ ?_
  · intro d r m h'
    rw [hI] at h'
    obtain ⟨j, o2, o3, hj, hr, rfl⟩ := h'
    rcases Nat.lt_or_ge j cs.length with hj' | hj'
    · rw [List.drop_eq_getElem_cons hj', enumL] at hr
      have hc : cs[j]? = some cs[j] := List.getElem?_eq_getElem hj'
      have hcm := List.getElem_mem hj'
      generalize cs[j] = c at hc hcm hr
      obtain ⟨rfl, rfl⟩ := List.cons.inj hr
      have hlt := szD_lt (s := .int (s : Nat)) hcm
      have hsnoc : plL 0 (cs.take (j + 1)) = plL 0 (cs.take j) ++ (plT c).map (j :: ·) := by
        rw [List.take_add_one, hc]
        show plL 0 (cs.take j ++ [c]) = _
        rw [plL_snoc, List.length_take, Nat.min_eq_left (Nat.le_of_lt hj'), Nat.zero_add]
      have hl1 : (plL 0 (cs.take j)).length ≤ 15 := by
        rw [plL_len fun c hc => plT_len (szD c) c (Nat.le_refl _) (h2 c (List.mem_of_mem_take hc))]
        have : szL cs = szL (cs.take j) + szL (cs.drop j) := by rw [← szL_app, List.take_append_drop]
        omega
      have hl2 : (plT c).length ≤ 15 := by rw [plT_len (szD c) c (Nat.le_refl _) (h2 c hcm)]; omega
      simp
      refine ih (szD c) (by omega) n c (Nat.le_refl _) (by omega) (by omega) (h2 _ hcm) ?_
      simp
      refine compG_mapI (plT c) plD (fun p => plD (j :: p)) (by rfl) (by simp [plainS']) (fun p hp => ?_) ?_
      · have := part_len (h2 _ hcm) hp
        unfold turn
        simp [plD]
        exact s2 _ (by omega)
      · simp
        refine ⟨s2 _ (by omega), s2 _ (by omega), ?_⟩
        show I _ _
        rw [hI]
        refine ⟨j + 1, some (.int (j : Nat)), some c, by omega, rfl, ?_⟩
        rw [hsnoc]
        simp [sv]
    · rw [List.drop_eq_nil_of_le hj', enumL] at hr
      cases hr
  · intro m h'
    rw [hI] at h'
    obtain ⟨j, o2, o3, hj, hr, rfl⟩ := h'
    have hj' : j = cs.length := by
      rcases Nat.lt_or_ge j cs.length with hj' | hj'
      · rw [List.drop_eq_getElem_cons hj', enumL] at hr
        cases hr
      · omega
    subst hj'
    rw [List.take_length]
    simp
    simp at h
    exact h
  · rw [hI]
    refine ⟨0, none, none, Nat.zero_le _, rfl, ?_⟩
    simp [plL, plD, sv]
theorem sp_places (A : Ars as) {tr : D} (ht : Tr as tr) (h15 : szD tr ≤ 15) (hn : 20 ≤ n) (h : P (.lst ((plT tr).map plD)) S) : WpC (givC (runF tb n 718 [arD as, tr] S)) P E t := by
  obtain ⟨n, rfl⟩ : ∃ k, n = k + 1 := ⟨n - 1, by omega⟩
  refine wp_runO (df := f718) rfl rfl ?_
  simp [f718]
  refine sp_check_arities A (by omega) ?_
  simp
  refine sp_check_tree A ht h15 (by omega) ?_
  simp
  refine sp_places_of A 15 _ _ h15 (Nat.le_refl _) (by omega) ht ?_
  simp
  exact h
theorem sp_sizes (A : Ars as) {tr : D} (ht : Tr as tr) (h15 : szD tr ≤ 15) (hn : 20 ≤ n) (h : P (.tup [.int (szD tr : Nat), .int (hgD tr : Nat)]) S) : WpC (runF tb n 74 [arD as, tr] S) P E t := by
  obtain ⟨n, rfl⟩ : ∃ k, n = k + 1 := ⟨n - 1, by omega⟩
  have s2 : ∀ k, k ≤ 1000 → k ≤ sizeLine := fun k hk => by have := small1000 hk; omega
  refine wp_run (df := f74) rfl rfl ?_
  simp [f74]
  refine sp_check_arities A (by omega) ?_
  simp
  refine sp_check_tree A ht h15 (by omega) ?_
  simp
  refine sp_size_of A 15 _ _ h15 (by omega) ht ?_
  simp
  refine sp_height_of A 15 _ _ h15 (by omega) ht ?_
  simp
  exact h
theorem sp_law_height (A : Ars as) {tr : D} (ht : Tr as tr) (h15 : szD tr ≤ 15) (hn : 20 ≤ n) (h : P (.int (hgD tr : Nat)) S) : WpC (runF tb n 568 [tr] S) P E t := by
  obtain ⟨n, rfl⟩ : ∃ k, n = k + 1 := ⟨n - 1, by omega⟩
  have s2 : ∀ k, k ≤ 1000 → k ≤ sizeLine := fun k hk => by have := small1000 hk; omega
  refine wp_run (df := f568) rfl rfl ?_
  simp [f568]
  refine sp_spots A 15 _ _ h15 (Nat.le_refl _) (by omega) ht ?_
  simp
  refine compG_mapI (plT tr) (fun p => .tup [plD p, partD tr p]) (fun p => .int (p.length : Nat)) (by rfl) (by simp [plainS']) (fun p hp => ?_) ?_
  · unfold turn
    simp [plD]
  · have hg := hg_pl tr
    obtain ⟨p, hp, e⟩ := hg.2
    have em := ag_maxN (l := (plT tr).map List.length) (m := p.length) (List.mem_map.mpr ⟨p, hp, rfl⟩) (fun x hx => by
      obtain ⟨q, hq, rfl⟩ := List.mem_map.mp hx
      have := hg.1 q hq
      omega)
    rw [List.map_map] at em
    have em : agD .max (.lst ((plT tr).map fun p => D.int (p.length : Nat))) = some (.int (p.length : Nat)) := em
    have hl := plT_len _ tr (Nat.le_refl _) ht
    have e1 : (1 : Int) + (p.length : Nat) = (hgD tr : Nat) := by omega
    simp [em, e1]
    exact ⟨s2 _ (by omega), h⟩
def dueT (a b : D) (p : List Nat) : D := if p ∈ plT a then (if szD (putD a p b) ≤ 15 then putD a p b else .lst [.str "tree", .bl true]) else .lst [.str "place", .bl true]
theorem put_tr1 {a b : D} {p : List Nat} (ha : Tr as a) (hb : Tr as b) (pa : p ∈ plT a) : Tr as (putD a p b) ∧ szD (putD a p b) + szD (partD a p) = szD a + szD b := by
  have h1 := part_tr ha pa
  have h3 := h1.2.1.put ha hb.nl
  exact ⟨⟨h3.1.trans hb.ok, h3.2.2⟩, h3.2.1⟩
theorem sp_told1 (A : Ars as) {a b : D} {p : List Nat} (ha : Tr as a) (hb : Tr as b) (ha15 : szD a ≤ 15) (hb15 : szD b ≤ 15) (hp : p.length < 15) (h1 : ∀ i ∈ p, i ≤ 1) (hn : 40 ≤ n) (h : P (dueT a b p) S) : WpC (runF tb n 49 [arD as, a, plD p, b] S) P E t := by
  obtain ⟨n, rfl⟩ : ∃ k, n = k + 2 := ⟨n - 2, by omega⟩
  refine wp_run (df := f49) rfl rfl ?_
  simp [f49]
  rw [w_trM]
  simp
  refine wp_run (df := f76) rfl rfl ?_
  simp [f76]
  refine sp_check_arities A (by omega) ?_
  simp
  refine sp_check_tree A ha ha15 (by omega) ?_
  simp
  refine sp_check_place hp h1 (by omega) ?_
  simp
  refine sp_check_tree A hb hb15 (by omega) ?_
  simp
  unfold dueT at h
  refine sp_part A ha (by omega) (by omega) ?_
  by_cases q : p ∈ plT a
  · obtain ⟨pt, ps⟩ := put_tr1 ha hb q
    have hpa := part_tr ha q
    rw [if_pos q] at h
    obtain ⟨s', cs', e', _, _⟩ := hpa.1.inv
    have hs := hpa.2.1
    rw [e']
    simp
    refine sp_put_at A hs ha (by omega) ?_
    simp
    refine sp_small A (k := 30) pt (by omega) (by omega) (fun z => ?_) fun z => ?_
    · rw [if_pos z] at h
      simp
      exact h
    · rw [if_neg z] at h
      simp [subX, hbD, hxD, hxDs, offP]
      exact h
  · rw [if_neg q] at h
    rw [part_none p a ha q]
    simp [subX, hbD, hxD, hxDs, offP]
    exact h
end
end EvP

set_option Elab.async false
set_option linter.all false
set_option maxRecDepth 100000
set_option autoImplicit false
set_option maxHeartbeats 4000000
namespace EvP
open PySem L2 Ev
theorem tr_wd {as : List Nat} (A : Ars as) : ∀ (k : Nat) (tr : D), szD tr ≤ k → Tr as tr → wd tr = true := by
  intro k
  induction k using Nat.strongRecOn with
  | _ k ih =>
  intro tr hk ht
  obtain ⟨s, cs, rfl, h1, h2⟩ := ht.inv
  have hw := Tr.wid A h1
  rw [wd, Bool.and_eq_true, decide_eq_true_eq, wds]
  refine ⟨by rw [List.length_cons]; omega, ?_⟩
  have : wds cs = true := wds_of fun c hc => by
    have hlt := szD_lt (s := .int (s : Nat)) hc
    exact ih (szD c) (by omega) c (Nat.le_refl _) (h2 c hc)
  rw [this]
  simp [wd]
def b6 : Ss := match snth 7 f624.body with | .fr _ _ b => b | _ => .nil
section
variable {n : Nat} {P : Fl → Ms → Prop} {E : Ex → Ms → Prop} {t : Tg2 P E} {as : List Nat}
theorem tailQ (hn : 60 ≤ n) (A : Ars as) {a b d0 sp : D} {p : List Nat} {x6 x7 x9 x10 x11 : Option D} {S : List D} (ha : Tr as a) (hb : Tr as b) (ha15 : szD a ≤ 15) (hb15 : szD b ≤ 15) (hp : p.length < 15) (h1 : ∀ i ∈ p, i ≤ 1)
    (h : ∀ x9 x10, P .nx ⟨[.val d0, .val (.loc 0), .val (arD as), .val a, .val b, .val sp, sv x6, sv x7, .val (plD p), sv x9, sv x10, sv x11], S⟩) :
    Wp (evSs (runF tb n) (sdrop 1 b6) ⟨[.val d0, .val (.loc 0), .val (arD as), .val a, .val b, .val sp, sv x6, sv x7, .val (plD p), sv x9, sv x10, sv x11], S⟩) P E t := by
  have s2 : ∀ k, k ≤ 1000 → k ≤ sizeLine := fun k hk => by have := small1000 hk; omega
  have trok : ∀ {d : D}, Tr as d → szD d ≤ 15 → d.pl = true ∧ d.dep ≤ 15 ∧ wd d = true := fun {d} hd h15 => ⟨(Tr.plD 15 d h15 hd).1, (Tr.plD 15 d h15 hd).2, tr_wd A 15 d h15 hd⟩
  simp [b6, f624, snth, sdrop]
  refine sp_law_part A ha ha15 (by omega) (by omega) ?_
  simp
  refine sp_part_f A ha ha15 hp h1 (by omega) ?_
  simp
  by_cases q : p ∈ plT a
  · have hpa := part_tr ha q
    obtain ⟨o1, o2, o3⟩ := trok hpa.1 (by omega)
    refine sp_equal n _ (by omega) o1 (by omega) o3 ?_
    obtain ⟨pt, ps⟩ := put_tr1 ha hb q
    have eT : dueT a b p = if szD (putD a p b) ≤ 15 then putD a p b else .lst [.str "tree", .bl true] := if_pos q
    have hpt := hpa.1
    have hsub := hpa.2.1
    have hsz := hpa.2.2
    have hpos := sz_pos (partD a p)
    generalize partD a p = w at ps hpt hsub hsz hpos o1 o2 o3 ⊢
    obtain ⟨s', cs', e', _, _⟩ := hpt.inv
    have ew : cmpD .IsNot w .non = some (.bl true) := by rw [e']; rfl
    simp [ew]
    refine sp_put A hsub ha (by omega) ?_
    simp
    refine sp_law_size A 30 n _ (by omega) (by omega) pt ?_
    simp
    refine sp_law_size A 15 n _ ha15 (by omega) ha ?_
    simp
    refine sp_law_size A 15 n _ hb15 (by omega) hb ?_
    simp
    refine sp_law_size A 15 n _ (by omega) (by omega) hpt ?_
    simp
    refine ite2 (fun _ => ?_) fun z => absurd (by omega) z
    refine sp_law_size A 30 n _ (by omega) (by omega) pt ?_
    simp
    refine ite2 (fun z => ?_) fun z => ?_
    · refine sp_told1 A ha hb ha15 hb15 hp h1 (by omega) ?_
      rw [eT, if_neg (by omega)]
      simp
      refine sp_equal n _ (by simp [D.dep, D.deps]; omega) (by decide +kernel) (by simp [D.dep, D.deps]) (by decide +kernel) ?_
      simp
      exact h (some _) (some _)
    · refine sp_told1 A ha hb ha15 hb15 hp h1 (by omega) ?_
      have z15 : szD (putD a p b) ≤ 15 := by omega
      obtain ⟨u1, u2, u3⟩ := trok pt z15
      rw [eT, if_pos z15]
      simp
      refine sp_equal n _ (by omega) u1 (by omega) u3 ?_
      simp
      exact h (some _) (some _)
  · rw [part_none p a ha q]
    refine sp_equal n _ (by simp [D.dep]; omega) rfl (by simp [D.dep]) rfl ?_
    have eT : dueT a b p = .lst [.str "place", .bl true] := if_neg q
    simp
    refine sp_told1 A ha hb ha15 hb15 hp h1 (by omega) ?_
    rw [eT]
    simp
    refine sp_equal n _ (by simp [D.dep, D.deps]; omega) (by decide +kernel) (by simp [D.dep, D.deps]) (by decide +kernel) ?_
    simp
    exact h (some _) (some _)
end
end EvP

set_option Elab.async false
set_option linter.all false
set_option maxRecDepth 100000
set_option autoImplicit false
set_option maxHeartbeats 4000000
namespace EvP
open PySem L2 Ev
def b5 : Ss := match snth 5 f624.body with | .fr _ _ b => b | _ => .nil
def spD (a : D) : D := .lst ((plT a).map fun p => .tup [plD p, partD a p])
section
variable {n : Nat} {P : Fl → Ms → Prop} {E : Ex → Ms → Prop} {t : Tg2 P E} {as : List Nat}
theorem pls_ok {a : D} (hl : (plT a).length ≤ 15) (hp : ∀ p ∈ plT a, p.length ≤ 15) : D.pls ((plT a).map plD) = true ∧ D.deps ((plT a).map plD) ≤ 1 ∧ wds ((plT a).map plD) = true := by
  refine ⟨pls_of fun x hx => ?_, deps_le fun x hx => ?_, wds_of fun x hx => ?_⟩
  · obtain ⟨p, _, rfl⟩ := List.mem_map.mp hx
    exact (pl_plD p).1
  · obtain ⟨p, _, rfl⟩ := List.mem_map.mp hx
    exact (pl_plD p).2
  · obtain ⟨p, h, rfl⟩ := List.mem_map.mp hx
    exact (Okv.plD (by have := hp p h; omega)).wd
theorem loop5 (hn : 60 ≤ n) (A : Ars as) {a b d0 c : D} {T : List D} (ha : Tr as a) (ha15 : szD a ≤ 15)
    (h : ∀ T x6 x7, P .nx ⟨[.val d0, .val (.loc 0), .val (arD as), .val a, .val b, .val (spD a), sv x6, sv x7, .un, .un, .un, .un], c :: T⟩) :
    Wp (forL (bindTg (.n 6)) (evSs (runF tb n) b5) (rng 0 2) ⟨[.val d0, .val (.loc 0), .val (arD as), .val a, .val b, .val (spD a), .un, .un, .un, .un, .un, .un], c :: T⟩) P E t := by
  have s2 : ∀ k, k ≤ 1000 → k ≤ sizeLine := fun k hk => by have := small1000 hk; omega
  have hl := plT_len _ a (Nat.le_refl _) ha
  have hpl : ∀ p ∈ plT a, p.length ≤ 15 := fun p hp => by have := part_len ha hp; omega
  obtain ⟨o1, o2, o3⟩ := pls_ok (a := a) (by omega) hpl
  refine forL_foldX (rng 0 2) (fun (T : List D) (x : Option D × Option D) => ⟨[.val d0, .val (.loc 0), .val (arD as), .val a, .val b, .val (spD a), sv x.1, sv x.2, .un, .un, .un, .un], c :: T⟩) (fun _ _ => True) (s0 := T) (x0 := (none, none)) trivial ?_ (fun T x _ => h T _ _)
  rintro done rest y T ⟨x6, x7⟩ _ _ K E t hK hR
  simp [b5, f624, snth]
  refine sp_places A ha ha15 (by omega) ?_
  simp [spD]
  refine compG_mapI (plT a) (fun p => .tup [plD p, partD a p]) plD (by rfl) (by simp [plainS']) (fun p hp => ?_) ?_
  · unfold turn
    simp
  have hl2 : ((plT a).map plD).length ≤ 15 := by rw [List.length_map]; omega
  generalize (plT a).map plD = Q at hl2 o1 o2 o3 ⊢
  simp
  refine ⟨s2 _ (by omega), ?_⟩
  refine sp_equalL (k := T.length + 1) (by simp) (by omega) o1 (by omega) (by omega) o3 ?_
  simp
  exact ⟨by have := s2 (Q.length + 1) (by omega); omega, hK _ (some _, some _) trivial⟩
theorem loop7 (hn : 80 ≤ n) (A : Ars as) {a b d0 c : D} {x6 x7 x8 x9 x10 : Option D} {T : List D} (hc : Strm c) (ha : Tr as a) (hb : Tr as b) (ha15 : szD a ≤ 15) (hb15 : szD b ≤ 15) (h : ∀ m, P .nx m) :
    Wp (forL (bindTg (.n 6)) (evSs (runF tb n) b6) (rng 0 6) ⟨[.val d0, .val (.loc 0), .val (arD as), .val a, .val b, .val (spD a), sv x6, sv x7, sv x8, sv x9, sv x10, .un], c :: T⟩) P E t := by
  have s2 : ∀ k, k ≤ 1000 → k ≤ sizeLine := fun k hk => by have := small1000 hk; omega
  have hl := plT_len _ a (Nat.le_refl _) ha
  have hsz := sz_pos a
  refine forL_foldX (rng 0 6) (fun (c : D) (x : Option D × Option D × Option D × Option D × Option D) => ⟨[.val d0, .val (.loc 0), .val (arD as), .val a, .val b, .val (spD a), sv x.1, sv x.2.1, sv x.2.2.1, sv x.2.2.2.1, sv x.2.2.2.2, .un], c :: T⟩) (fun _ c => Strm c) (s0 := c) (x0 := (x6, x7, x8, x9, x10)) hc ?_ (fun c x _ => h _)
  rintro done rest y c ⟨x6, x7, x8, x9, x10⟩ hL hc K E t hK hR
  obtain ⟨i, rfl⟩ : ∃ i : Nat, y = .int (i : Nat) := by
    have hy : y ∈ rng 0 6 := by rw [hL]; simp
    obtain ⟨i, e⟩ := List.getElem?_of_mem hy
    exact ⟨i, by rw [(rng_get e).2]; simp⟩
  have hbB : b6 = .cons (snth 0 b6) (sdrop 1 b6) := rfl
  have tl := @tailQ n K E t as (by omega) A a b d0 (spD a)
  rw [hbB]
  generalize sdrop 1 b6 = TL at tl ⊢
  simp [b6, f624, snth]
  refine ite2 (fun _ => ?_) fun _ => ?_
  · refine sp_pick (by omega) hc (fun z => ?_) (by rw [List.length_map]; omega) fun r c hc hr => ?_
    · have := congrArg List.length z
      rw [List.length_map] at this
      simp at this
      rw [this] at hl
      simp at hl
      omega
    obtain ⟨p, hp, rfl⟩ := List.mem_map.mp hr
    simp
    exact tl (x6 := some _) (x11 := none) ha hb ha15 hb15 (by have := part_len ha hp; omega) (place_bin A (part_tr ha hp).2.1 ha) fun x9 x10 => hK c (some _, x7, some _, x9, x10) hc
  · refine sp_next (by omega) hc (by omega) (by omega) fun z c hc z0 z1 => ?_
    obtain ⟨m, rfl⟩ : ∃ k : Nat, z = k := ⟨z.toNat, by omega⟩
    simp
    refine ⟨by omega, ?_⟩
    refine compG_wp (by rfl) (fun r acc S' => ∃ c, S' = c :: T ∧ Strm c ∧ ∃ F : List Nat, (∀ i ∈ F, i ≤ 1) ∧ acc = F.map (fun (k : Nat) => D.int k) ∧ F.length + r.length ≤ 5) ⟨c, rfl, hc, [], by simp, rfl, by simp [rng]; omega⟩ ?_ ?_
    · rintro d r acc S' ⟨c, rfl, hc, F, hF, rfl, hr⟩
      unfold turn
      simp
      refine sp_next (by omega) hc (by omega) (by omega) fun z c hc z0 z1 => ?_
      obtain ⟨k, rfl⟩ : ∃ k : Nat, z = k := ⟨z.toNat, by omega⟩
      simp
      simp at hr
      refine ⟨hc, F ++ [k], ?_, by simp, by simp; omega⟩
      intro i hi
      rcases List.mem_append.mp hi with hi | hi
      · exact hF i hi
      · rw [List.mem_singleton.mp hi]; omega
    · rintro zs S' ⟨c, rfl, hc, F, hF, rfl, hr⟩
      simp at hr
      simp [s2 F.length (by omega)]
      exact tl (p := F) (x6 := some _) (x11 := none) ha hb ha15 hb15 (by omega) hF fun x9 x10 => hK c (some _, x7, some _, x9, x10) hc
end
theorem law_wp (ns : List Int) (hl : ns.length ≤ 63) : WpC (runF tb 200 624 [.lst (ns.map D.int)] []) (fun d _ => d = .bl true) (fun _ _ => False) ⟨()⟩ := by
  have s2 : ∀ k, k ≤ 1000 → k ≤ sizeLine := fun k hk => by have := small1000 hk; omega
  refine wp_run (df := f624) rfl rfl ?_
  simp [f624]
  refine sp_stream (by omega) hl fun c hc => ?_
  simp
  refine sp_arities (by omega) hc fun as c hc A => ?_
  simp
  refine sp_tree A 15 199 (by omega) (by omega) (by omega) hc fun a c hc ha ha15 => ?_
  simp
  refine sp_tree A 15 199 (by omega) (by omega) (by omega) hc fun b c hc hb hb15 => ?_
  simp
  refine sp_spots A 15 _ a (by omega) (by omega) (by omega) ha ?_
  simp
  refine loop5 (T := []) (by omega) A ha ha15 fun T x6 x7 => ?_
  simp [spD]
  refine sp_sizes A ha ha15 (by omega) ?_
  simp
  refine sp_law_height A ha ha15 (by omega) ?_
  have hl := plT_len _ a (Nat.le_refl _) ha
  have e1 : ((plT a).length : Int) = (szD a : Nat) := by rw [hl]
  simp [e1]
  have hpl : ∀ p ∈ plT a, p.length ≤ 15 := fun p hp => by have := part_len ha hp; omega
  obtain ⟨o1, o2, o3⟩ := pls_ok (a := a) (by omega) hpl
  have so := plT_sorted a
  refine sp_equal 199 _ (by simp [D.dep, D.deps]) rfl (by simp [D.dep, D.deps]) rfl ?_
  simp
  have ss : sortE ((plT a).map plD) = true := by
    obtain ⟨s, cs, e, _, _⟩ := ha.inv
    have hE : fstE ((plT a).map plD) = true := by
      rw [e, plT, plH]
      rfl
    unfold sortE
    rw [o1, decide_eq_true (show D.deps ((plT a).map plD) ≤ 60 by omega), hE]
    simp only [Bool.true_and, Bool.and_true, Bool.and_eq_true, List.all_eq_true]
    refine ⟨fun x hx y hy => ?_, fun x hx => ?_⟩
    · obtain ⟨p, _, rfl⟩ := List.mem_map.mp hx
      obtain ⟨r, _, rfl⟩ := List.mem_map.mp hy
      exact alike_pl _ _
    · obtain ⟨p, _, rfl⟩ := List.mem_map.mp hx
      rfl
  have ne : cmpD .NotEq (.lst ((plT a).map plD)) (.lst ((plT a).map plD)) = some (.bl false) := by
    have t1 : (D.lst ((plT a).map plD)).pl = true := by rw [D.pl]; exact o1
    have g1 : okEq (.lst ((plT a).map plD)) (.lst ((plT a).map plD)) = true := by
      have e : (D.lst ((plT a).map plD)).dep ≤ 64 := by rw [D.dep]; omega
      unfold okEq
      rw [t1, decide_eq_true e]
      rfl
    show (if okEq _ _ = true then some (D.bl (!D.eqv _ _)) else none) = _
    rw [if_pos g1, eqv_self _ t1]
    rfl
  refine compG_mapI (plT a) (fun p => .tup [plD p, partD a p]) plD (by rfl) (by simp [plainS']) (fun p hp => ?_) ?_
  · unfold turn
    simp
  have hl2 : ((plT a).map plD).length ≤ 15 := by rw [List.length_map]; omega
  have l2 := s2 _ (show ((plT a).map plD).length ≤ 1000 by omega)
  simp [-List.length_map, l2]
  refine compG_mapI (plT a) (fun p => .tup [plD p, partD a p]) plD (by rfl) (by simp [plainS']) (fun p hp => ?_) ?_
  · unfold turn
    simp
  generalize (plT a).map plD = Q at so ss ne l2 ⊢
  simp [l2, so, ss, ne]
  exact loop7 (x8 := none) (x9 := none) (x10 := none) (by omega) A hc ha hb ha15 hb15 fun m => by
    simp
end EvP

set_option Elab.async false
set_option linter.all false
set_option maxRecDepth 100000
set_option autoImplicit false
set_option maxHeartbeats 4000000
namespace EvP
open Ev
theorem law_true (ns : List Int) (hl : ns.length ≤ 63) : ∃ S', runF tb 200 624 [.lst (ns.map D.int)] [] = .ok (.bl true) S' := by
  obtain ⟨d, S, h1, h2⟩ := of_WpC (law_wp ns hl)
  exact ⟨S, by rw [h1, h2]⟩
end EvP
namespace EvP
open PySem PySem.Spec PyProof.Rows L2 Ev
theorem all_mk {l : PySem.W.OpenLaw} {w : World} {K : PySem.W.Frag} {h : Heap} {mg : Str → Option Value} {fa : Addr} (X : K.In h) (G : h.Ns mainGlobals mg) (hfa : mg "law" = some (.ref fa))
    {a1_ : Addr} {od1 an1 : Option Addr} {sl1 : Array (Option Value)} {oc1 kV1 dc1 pm1 cd1 ct1 : Value}
    {a2_ : Addr} {od2 an2 : Option Addr} {sl2 : Array (Option Value)} {oc2 kV2 dc2 pm2 cd2 ct2 : Value}
    {a3_ : Addr} {od3 an3 : Option Addr} {sl3 : Array (Option Value)} {oc3 kV3 dc3 pm3 cd3 ct3 : Value}
    {a4_ : Addr} {od4 an4 : Option Addr} {sl4 : Array (Option Value)} {oc4 kV4 dc4 pm4 cd4 ct4 : Value}
    {a42_ : Addr} {od42 an42 : Option Addr} {sl42 : Array (Option Value)} {oc42 kV42 dc42 pm42 cd42 ct42 : Value}
    {a43_ : Addr} {od43 an43 : Option Addr} {sl43 : Array (Option Value)} {oc43 kV43 dc43 pm43 cd43 ct43 : Value}
    {a717_ : Addr} {od717 an717 : Option Addr} {sl717 : Array (Option Value)} {oc717 kV717 dc717 pm717 cd717 ct717 : Value}
    {a46_ : Addr} {od46 an46 : Option Addr} {sl46 : Array (Option Value)} {oc46 kV46 dc46 pm46 cd46 ct46 : Value}
    {a44_ : Addr} {od44 an44 : Option Addr} {sl44 : Array (Option Value)} {oc44 kV44 dc44 pm44 cd44 ct44 : Value}
    {a45_ : Addr} {od45 an45 : Option Addr} {sl45 : Array (Option Value)} {oc45 kV45 dc45 pm45 cd45 ct45 : Value}
    {a18_ : Addr} {od18 an18 : Option Addr} {sl18 : Array (Option Value)} {oc18 kV18 dc18 pm18 cd18 ct18 : Value}
    {a47_ : Addr} {od47 an47 : Option Addr} {sl47 : Array (Option Value)} {oc47 kV47 dc47 pm47 cd47 ct47 : Value}
    {a48_ : Addr} {od48 an48 : Option Addr} {sl48 : Array (Option Value)} {oc48 kV48 dc48 pm48 cd48 ct48 : Value}
    {a74_ : Addr} {od74 an74 : Option Addr} {sl74 : Array (Option Value)} {oc74 kV74 dc74 pm74 cd74 ct74 : Value}
    {a718_ : Addr} {od718 an718 : Option Addr} {sl718 : Array (Option Value)} {oc718 kV718 dc718 pm718 cd718 ct718 : Value}
    {a50_ : Addr} {od50 an50 : Option Addr} {sl50 : Array (Option Value)} {oc50 kV50 dc50 pm50 cd50 ct50 : Value}
    {a76_ : Addr} {od76 an76 : Option Addr} {sl76 : Array (Option Value)} {oc76 kV76 dc76 pm76 cd76 ct76 : Value}
    {a5_ : Addr} {od5 an5 : Option Addr} {sl5 : Array (Option Value)} {oc5 kV5 dc5 pm5 cd5 ct5 : Value}
    {a6_ : Addr} {od6 an6 : Option Addr} {sl6 : Array (Option Value)} {oc6 kV6 dc6 pm6 cd6 ct6 : Value}
    {a7_ : Addr} {od7 an7 : Option Addr} {sl7 : Array (Option Value)} {oc7 kV7 dc7 pm7 cd7 ct7 : Value}
    {a719_ : Addr} {od719 an719 : Option Addr} {sl719 : Array (Option Value)} {oc719 kV719 dc719 pm719 cd719 ct719 : Value}
    {a9_ : Addr} {od9 an9 : Option Addr} {sl9 : Array (Option Value)} {oc9 kV9 dc9 pm9 cd9 ct9 : Value}
    {a10_ : Addr} {od10 an10 : Option Addr} {sl10 : Array (Option Value)} {oc10 kV10 dc10 pm10 cd10 ct10 : Value}
    {a11_ : Addr} {od11 an11 : Option Addr} {sl11 : Array (Option Value)} {oc11 kV11 dc11 pm11 cd11 ct11 : Value}
    {a36_ : Addr} {od36 an36 : Option Addr} {sl36 : Array (Option Value)} {oc36 kV36 dc36 pm36 cd36 ct36 : Value}
    {a12_ : Addr} {od12 an12 : Option Addr} {sl12 : Array (Option Value)} {oc12 kV12 dc12 pm12 cd12 ct12 : Value}
    {a51_ : Addr} {od51 an51 : Option Addr} {sl51 : Array (Option Value)} {oc51 kV51 dc51 pm51 cd51 ct51 : Value}
    {a13_ : Addr} {od13 an13 : Option Addr} {sl13 : Array (Option Value)} {oc13 kV13 dc13 pm13 cd13 ct13 : Value}
    {a568_ : Addr} {od568 an568 : Option Addr} {sl568 : Array (Option Value)} {oc568 kV568 dc568 pm568 cd568 ct568 : Value}
    {a49_ : Addr} {od49 an49 : Option Addr} {sl49 : Array (Option Value)} {oc49 kV49 dc49 pm49 cd49 ct49 : Value}
    {a624_ : Addr} {od624 an624 : Option Addr} {sl624 : Array (Option Value)} {oc624 kV624 dc624 pm624 cd624 ct624 : Value}
    (a1 : PySem.W.nsIn K mainGlobals "is_number" = some (some (.ref a1_))) (l1 : K.lookup a1_ = some ⟨oc1, od1, .func (PySem.W.fnOf "is_number" "is_number" (defArgs (topS 9)) (defBody (topS 9)) (defScope (topS 9)) .none kV1 dc1 pm1 an1 cd1 ct1), sl1⟩) (c1 : PySem.W.codeIn K cd1 "is_number" = true) (k1 : PySem.W.keepIn K (.ref a1_) = true)
    (a2 : PySem.W.nsIn K mainGlobals "is_arities" = some (some (.ref a2_))) (l2 : K.lookup a2_ = some ⟨oc2, od2, .func (PySem.W.fnOf "is_arities" "is_arities" (defArgs (topS 10)) (defBody (topS 10)) (defScope (topS 10)) .none kV2 dc2 pm2 an2 cd2 ct2), sl2⟩) (c2 : PySem.W.codeIn K cd2 "is_arities" = true) (k2 : PySem.W.keepIn K (.ref a2_) = true)
    (a3 : PySem.W.nsIn K mainGlobals "is_tree" = some (some (.ref a3_))) (l3 : K.lookup a3_ = some ⟨oc3, od3, .func (PySem.W.fnOf "is_tree" "is_tree" (defArgs (topS 11)) (defBody (topS 11)) (defScope (topS 11)) .none kV3 dc3 pm3 an3 cd3 ct3), sl3⟩) (c3 : PySem.W.codeIn K cd3 "is_tree" = true) (k3 : PySem.W.keepIn K (.ref a3_) = true)
    (a4 : PySem.W.nsIn K mainGlobals "is_place" = some (some (.ref a4_))) (l4 : K.lookup a4_ = some ⟨oc4, od4, .func (PySem.W.fnOf "is_place" "is_place" (defArgs (topS 12)) (defBody (topS 12)) (defScope (topS 12)) .none kV4 dc4 pm4 an4 cd4 ct4), sl4⟩) (c4 : PySem.W.codeIn K cd4 "is_place" = true) (k4 : PySem.W.keepIn K (.ref a4_) = true)
    (a42 : PySem.W.nsIn K mainGlobals "size_of" = some (some (.ref a42_))) (l42 : K.lookup a42_ = some ⟨oc42, od42, .func (PySem.W.fnOf "size_of" "size_of" (defArgs (topS 13)) (defBody (topS 13)) (defScope (topS 13)) .none kV42 dc42 pm42 an42 cd42 ct42), sl42⟩) (c42 : PySem.W.codeIn K cd42 "size_of" = true) (k42 : PySem.W.keepIn K (.ref a42_) = true)
    (a43 : PySem.W.nsIn K mainGlobals "height_of" = some (some (.ref a43_))) (l43 : K.lookup a43_ = some ⟨oc43, od43, .func (PySem.W.fnOf "height_of" "height_of" (defArgs (topS 14)) (defBody (topS 14)) (defScope (topS 14)) .none kV43 dc43 pm43 an43 cd43 ct43), sl43⟩) (c43 : PySem.W.codeIn K cd43 "height_of" = true) (k43 : PySem.W.keepIn K (.ref a43_) = true)
    (a717 : PySem.W.nsIn K mainGlobals "places_of" = some (some (.ref a717_))) (l717 : K.lookup a717_ = some ⟨oc717, od717, .func (PySem.W.fnOf "places_of" "places_of" (defArgs (topS 15)) (defBody (topS 15)) (defScope (topS 15)) .none kV717 dc717 pm717 an717 cd717 ct717), sl717⟩) (c717 : PySem.W.codeIn K cd717 "places_of" = true) (k717 : PySem.W.keepIn K (.ref a717_) = true)
    (a46 : PySem.W.nsIn K mainGlobals "part_at" = some (some (.ref a46_))) (l46 : K.lookup a46_ = some ⟨oc46, od46, .func (PySem.W.fnOf "part_at" "part_at" (defArgs (topS 16)) (defBody (topS 16)) (defScope (topS 16)) .none kV46 dc46 pm46 an46 cd46 ct46), sl46⟩) (c46 : PySem.W.codeIn K cd46 "part_at" = true) (k46 : PySem.W.keepIn K (.ref a46_) = true)
    (a44 : PySem.W.nsIn K mainGlobals "put_at" = some (some (.ref a44_))) (l44 : K.lookup a44_ = some ⟨oc44, od44, .func (PySem.W.fnOf "put_at" "put_at" (defArgs (topS 17)) (defBody (topS 17)) (defScope (topS 17)) .none kV44 dc44 pm44 an44 cd44 ct44), sl44⟩) (c44 : PySem.W.codeIn K cd44 "put_at" = true) (k44 : PySem.W.keepIn K (.ref a44_) = true)
    (a45 : PySem.W.nsIn K mainGlobals "check_arities" = some (some (.ref a45_))) (l45 : K.lookup a45_ = some ⟨oc45, od45, .func (PySem.W.fnOf "check_arities" "check_arities" (defArgs (topS 18)) (defBody (topS 18)) (defScope (topS 18)) .none kV45 dc45 pm45 an45 cd45 ct45), sl45⟩) (c45 : PySem.W.codeIn K cd45 "check_arities" = true) (k45 : PySem.W.keepIn K (.ref a45_) = true)
    (a18 : PySem.W.nsIn K mainGlobals "check_tree" = some (some (.ref a18_))) (l18 : K.lookup a18_ = some ⟨oc18, od18, .func (PySem.W.fnOf "check_tree" "check_tree" (defArgs (topS 19)) (defBody (topS 19)) (defScope (topS 19)) .none kV18 dc18 pm18 an18 cd18 ct18), sl18⟩) (c18 : PySem.W.codeIn K cd18 "check_tree" = true) (k18 : PySem.W.keepIn K (.ref a18_) = true)
    (a47 : PySem.W.nsIn K mainGlobals "check_place" = some (some (.ref a47_))) (l47 : K.lookup a47_ = some ⟨oc47, od47, .func (PySem.W.fnOf "check_place" "check_place" (defArgs (topS 20)) (defBody (topS 20)) (defScope (topS 20)) .none kV47 dc47 pm47 an47 cd47 ct47), sl47⟩) (c47 : PySem.W.codeIn K cd47 "check_place" = true) (k47 : PySem.W.keepIn K (.ref a47_) = true)
    (a48 : PySem.W.nsIn K mainGlobals "small" = some (some (.ref a48_))) (l48 : K.lookup a48_ = some ⟨oc48, od48, .func (PySem.W.fnOf "small" "small" (defArgs (topS 21)) (defBody (topS 21)) (defScope (topS 21)) .none kV48 dc48 pm48 an48 cd48 ct48), sl48⟩) (c48 : PySem.W.codeIn K cd48 "small" = true) (k48 : PySem.W.keepIn K (.ref a48_) = true)
    (a74 : PySem.W.nsIn K mainGlobals "sizes" = some (some (.ref a74_))) (l74 : K.lookup a74_ = some ⟨oc74, od74, .func (PySem.W.fnOf "sizes" "sizes" (defArgs (topS 22)) (defBody (topS 22)) (defScope (topS 22)) .none kV74 dc74 pm74 an74 cd74 ct74), sl74⟩) (c74 : PySem.W.codeIn K cd74 "sizes" = true) (k74 : PySem.W.keepIn K (.ref a74_) = true)
    (a718 : PySem.W.nsIn K mainGlobals "places" = some (some (.ref a718_))) (l718 : K.lookup a718_ = some ⟨oc718, od718, .func (PySem.W.fnOf "places" "places" (defArgs (topS 23)) (defBody (topS 23)) (defScope (topS 23)) .none kV718 dc718 pm718 an718 cd718 ct718), sl718⟩) (c718 : PySem.W.codeIn K cd718 "places" = true) (k718 : PySem.W.keepIn K (.ref a718_) = true)
    (a50 : PySem.W.nsIn K mainGlobals "part" = some (some (.ref a50_))) (l50 : K.lookup a50_ = some ⟨oc50, od50, .func (PySem.W.fnOf "part" "part" (defArgs (topS 24)) (defBody (topS 24)) (defScope (topS 24)) .none kV50 dc50 pm50 an50 cd50 ct50), sl50⟩) (c50 : PySem.W.codeIn K cd50 "part" = true) (k50 : PySem.W.keepIn K (.ref a50_) = true)
    (a76 : PySem.W.nsIn K mainGlobals "put" = some (some (.ref a76_))) (l76 : K.lookup a76_ = some ⟨oc76, od76, .func (PySem.W.fnOf "put" "put" (defArgs (topS 25)) (defBody (topS 25)) (defScope (topS 25)) .none kV76 dc76 pm76 an76 cd76 ct76), sl76⟩) (c76 : PySem.W.codeIn K cd76 "put" = true) (k76 : PySem.W.keepIn K (.ref a76_) = true)
    (a5 : PySem.W.nsIn K mainGlobals "_law_stream" = some (some (.ref a5_))) (l5 : K.lookup a5_ = some ⟨oc5, od5, .func (PySem.W.fnOf "_law_stream" "_law_stream" (defArgs (topS 27)) (defBody (topS 27)) (defScope (topS 27)) .none kV5 dc5 pm5 an5 cd5 ct5), sl5⟩) (c5 : PySem.W.codeIn K cd5 "_law_stream" = true) (k5 : PySem.W.keepIn K (.ref a5_) = true)
    (a6 : PySem.W.nsIn K mainGlobals "_law_next" = some (some (.ref a6_))) (l6 : K.lookup a6_ = some ⟨oc6, od6, .func (PySem.W.fnOf "_law_next" "_law_next" (defArgs (topS 28)) (defBody (topS 28)) (defScope (topS 28)) .none kV6 dc6 pm6 an6 cd6 ct6), sl6⟩) (c6 : PySem.W.codeIn K cd6 "_law_next" = true) (k6 : PySem.W.keepIn K (.ref a6_) = true)
    (a7 : PySem.W.nsIn K mainGlobals "_law_is_integer" = some (some (.ref a7_))) (l7 : K.lookup a7_ = some ⟨oc7, od7, .func (PySem.W.fnOf "_law_is_integer" "_law_is_integer" (defArgs (topS 29)) (defBody (topS 29)) (defScope (topS 29)) .none kV7 dc7 pm7 an7 cd7 ct7), sl7⟩) (c7 : PySem.W.codeIn K cd7 "_law_is_integer" = true) (k7 : PySem.W.keepIn K (.ref a7_) = true)
    (a719 : PySem.W.nsIn K mainGlobals "_law_equal" = some (some (.ref a719_))) (l719 : K.lookup a719_ = some ⟨oc719, od719, .func (PySem.W.fnOf "_law_equal" "_law_equal" (defArgs (topS 30)) (defBody (topS 30)) (defScope (topS 30)) .none kV719 dc719 pm719 an719 cd719 ct719), sl719⟩) (c719 : PySem.W.codeIn K cd719 "_law_equal" = true) (k719 : PySem.W.keepIn K (.ref a719_) = true)
    (a9 : PySem.W.nsIn K mainGlobals "_law_pick" = some (some (.ref a9_))) (l9 : K.lookup a9_ = some ⟨oc9, od9, .func (PySem.W.fnOf "_law_pick" "_law_pick" (defArgs (topS 31)) (defBody (topS 31)) (defScope (topS 31)) .none kV9 dc9 pm9 an9 cd9 ct9), sl9⟩) (c9 : PySem.W.codeIn K cd9 "_law_pick" = true) (k9 : PySem.W.keepIn K (.ref a9_) = true)
    (a10 : PySem.W.nsIn K mainGlobals "_law_arities" = some (some (.ref a10_))) (l10 : K.lookup a10_ = some ⟨oc10, od10, .func (PySem.W.fnOf "_law_arities" "_law_arities" (defArgs (topS 32)) (defBody (topS 32)) (defScope (topS 32)) .none kV10 dc10 pm10 an10 cd10 ct10), sl10⟩) (c10 : PySem.W.codeIn K cd10 "_law_arities" = true) (k10 : PySem.W.keepIn K (.ref a10_) = true)
    (a11 : PySem.W.nsIn K mainGlobals "_law_tree" = some (some (.ref a11_))) (l11 : K.lookup a11_ = some ⟨oc11, od11, .func (PySem.W.fnOf "_law_tree" "_law_tree" (defArgs (topS 33)) (defBody (topS 33)) (defScope (topS 33)) .none kV11 dc11 pm11 an11 cd11 ct11), sl11⟩) (c11 : PySem.W.codeIn K cd11 "_law_tree" = true) (k11 : PySem.W.keepIn K (.ref a11_) = true)
    (a36 : PySem.W.nsIn K mainGlobals "_law_size" = some (some (.ref a36_))) (l36 : K.lookup a36_ = some ⟨oc36, od36, .func (PySem.W.fnOf "_law_size" "_law_size" (defArgs (topS 34)) (defBody (topS 34)) (defScope (topS 34)) .none kV36 dc36 pm36 an36 cd36 ct36), sl36⟩) (c36 : PySem.W.codeIn K cd36 "_law_size" = true) (k36 : PySem.W.keepIn K (.ref a36_) = true)
    (a12 : PySem.W.nsIn K mainGlobals "_law_spots" = some (some (.ref a12_))) (l12 : K.lookup a12_ = some ⟨oc12, od12, .func (PySem.W.fnOf "_law_spots" "_law_spots" (defArgs (topS 35)) (defBody (topS 35)) (defScope (topS 35)) .none kV12 dc12 pm12 an12 cd12 ct12), sl12⟩) (c12 : PySem.W.codeIn K cd12 "_law_spots" = true) (k12 : PySem.W.keepIn K (.ref a12_) = true)
    (a51 : PySem.W.nsIn K mainGlobals "_law_part" = some (some (.ref a51_))) (l51 : K.lookup a51_ = some ⟨oc51, od51, .func (PySem.W.fnOf "_law_part" "_law_part" (defArgs (topS 36)) (defBody (topS 36)) (defScope (topS 36)) .none kV51 dc51 pm51 an51 cd51 ct51), sl51⟩) (c51 : PySem.W.codeIn K cd51 "_law_part" = true) (k51 : PySem.W.keepIn K (.ref a51_) = true)
    (a13 : PySem.W.nsIn K mainGlobals "_law_put" = some (some (.ref a13_))) (l13 : K.lookup a13_ = some ⟨oc13, od13, .func (PySem.W.fnOf "_law_put" "_law_put" (defArgs (topS 37)) (defBody (topS 37)) (defScope (topS 37)) .none kV13 dc13 pm13 an13 cd13 ct13), sl13⟩) (c13 : PySem.W.codeIn K cd13 "_law_put" = true) (k13 : PySem.W.keepIn K (.ref a13_) = true)
    (a568 : PySem.W.nsIn K mainGlobals "_law_height" = some (some (.ref a568_))) (l568 : K.lookup a568_ = some ⟨oc568, od568, .func (PySem.W.fnOf "_law_height" "_law_height" (defArgs (topS 38)) (defBody (topS 38)) (defScope (topS 38)) .none kV568 dc568 pm568 an568 cd568 ct568), sl568⟩) (c568 : PySem.W.codeIn K cd568 "_law_height" = true) (k568 : PySem.W.keepIn K (.ref a568_) = true)
    (a49 : PySem.W.nsIn K mainGlobals "_law_told" = some (some (.ref a49_))) (l49 : K.lookup a49_ = some ⟨oc49, od49, .func (PySem.W.fnOf "_law_told" "_law_told" (defArgs (topS 39)) (defBody (topS 39)) (defScope (topS 39)) .none kV49 dc49 pm49 an49 cd49 ct49), sl49⟩) (c49 : PySem.W.codeIn K cd49 "_law_told" = true) (k49 : PySem.W.keepIn K (.ref a49_) = true)
    (a624 : PySem.W.nsIn K mainGlobals "law" = some (some (.ref a624_))) (l624 : K.lookup a624_ = some ⟨oc624, od624, .func (PySem.W.fnOf "law" "law" (defArgs (topS 40)) (defBody (topS 40)) (defScope (topS 40)) .none kV624 dc624 pm624 an624 cd624 ct624), sl624⟩) (c624 : PySem.W.codeIn K cd624 "law" = true) (k624 : PySem.W.keepIn K (.ref a624_) = true)
    {u0 : Value} (gc0 : PySem.W.nsIn K mainGlobals "MOST_SYMBOLS" = some (some u0)) (rc0 : RelV (V.int 4) u0)
    {u1 : Value} (gc1 : PySem.W.nsIn K mainGlobals "MOST_ARITY" = some (some u1)) (rc1 : RelV (V.int 2) u1)
    {u2 : Value} (gc2 : PySem.W.nsIn K mainGlobals "MOST_NODES" = some (some u2)) (rc2 : RelV (V.int 15) u2)
    {C9 : Addr} (xa9 : PySem.W.nsIn K mainGlobals "TreeError" = some (some (.ref C9))) (xl9 : PySem.W.subIn K (.ref C9) (.type "BaseException") = some true) (xo9 : PySem.W.isClsIn K C9 = true) (xm9 : PySem.W.typeIn K (.ref C9) = some (.type "type"))
    {C1 fI1 T1 Nx1 : Addr} {nm1 qx1 : Str} {bs1 : List Value} {sn1 : List Str} {sub1 : List Value} {ab1 : Bool} {col1 : Option Bool} {dd1 : Option Addr} {mx1 my1 mz1 mu1 mv1 : Option Value} {odx1 anx1 : Option Addr} {slx1 : Array (Option Value)} {ocx1 dcx1 pmx1 cdx1 ctx1 : Value}
    (xa1 : PySem.W.nsIn K mainGlobals "TooLarge" = some (some (.ref C1)))
    (xb1 : K.lookup C1 = some (excClassObj nm1 qx1 C1 Nx1 bs1 [.ref T1, .type "ValueError", .type "Exception", .type "BaseException", .type "object"] true sn1 sub1 ab1 col1 dd1 mx1 my1 mz1 mu1 mv1 "ValueError.__new__"))
    (xc1 : PySem.W.findIn K (.ref C1) "__setattr__" = some (some (.builtin "object.__setattr__"))) (xd1 : PySem.W.findIn K (.ref C1) "__getattribute__" = some (some (.builtin "BaseException.__getattribute__"))) (xe1 : PySem.W.findIn K (.ref C1) "__getattr__" = some none) (xf1 : PySem.W.findIn K (.ref C1) "what" = some none)
    (xg1 : PySem.W.findIn K (.ref C1) "__init__" = some (some (.ref fI1))) (xh1 : PySem.W.typeIn K (.ref fI1) = some (.type "function"))
    (xi1 : K.lookup fI1 = some ⟨ocx1, odx1, .func (PySem.W.fnOf "__init__" "TooLarge.__init__" (PySem.TooLargeX.iA ⟨10, 17, 10, 21⟩ ⟨10, 23, 10, 27⟩) (PySem.TooLargeX.iB ⟨11, 8, 11, 12⟩ ⟨11, 8, 11, 17⟩ ⟨11, 20, 11, 24⟩ ⟨11, 8, 11, 24⟩) PySem.TooLargeX.iS .none .none dcx1 pmx1 anx1 cdx1 ctx1), slx1⟩) (xj1 : PySem.W.codeIn K cdx1 "TooLarge.__init__" = true)
    (xk1 : PySem.W.keepIn K (.ref C1) = true) (xl1 : PySem.W.subIn K (.ref C1) (.type "BaseException") = some true) (xm1 : PySem.W.typeIn K (.ref C1) = some (.type "type")) (xn1 : PySem.W.hasDictIn K C1 = true) (xo1 : PySem.W.isClsIn K C1 = true)
    {C2 fI2 T2 Nx2 : Addr} {nm2 qx2 : Str} {bs2 : List Value} {sn2 : List Str} {sub2 : List Value} {ab2 : Bool} {col2 : Option Bool} {dd2 : Option Addr} {mx2 my2 mz2 mu2 mv2 : Option Value} {odx2 anx2 : Option Addr} {slx2 : Array (Option Value)} {ocx2 dcx2 pmx2 cdx2 ctx2 : Value}
    (xa2 : PySem.W.nsIn K mainGlobals "NotPossible" = some (some (.ref C2)))
    (xb2 : K.lookup C2 = some (excClassObj nm2 qx2 C2 Nx2 bs2 [.ref T2, .type "ValueError", .type "Exception", .type "BaseException", .type "object"] true sn2 sub2 ab2 col2 dd2 mx2 my2 mz2 mu2 mv2 "ValueError.__new__"))
    (xc2 : PySem.W.findIn K (.ref C2) "__setattr__" = some (some (.builtin "object.__setattr__"))) (xd2 : PySem.W.findIn K (.ref C2) "__getattribute__" = some (some (.builtin "BaseException.__getattribute__"))) (xe2 : PySem.W.findIn K (.ref C2) "__getattr__" = some none) (xf2 : PySem.W.findIn K (.ref C2) "why" = some none)
    (xg2 : PySem.W.findIn K (.ref C2) "__init__" = some (some (.ref fI2))) (xh2 : PySem.W.typeIn K (.ref fI2) = some (.type "function"))
    (xi2 : K.lookup fI2 = some ⟨ocx2, odx2, .func (PySem.W.fnOf "__init__" "NotPossible.__init__" (PySem.NotPossibleX.iA ⟨14, 17, 14, 21⟩ ⟨14, 23, 14, 26⟩) (PySem.NotPossibleX.iB ⟨15, 8, 15, 12⟩ ⟨15, 8, 15, 16⟩ ⟨15, 19, 15, 22⟩ ⟨15, 8, 15, 22⟩) PySem.NotPossibleX.iS .none .none dcx2 pmx2 anx2 cdx2 ctx2), slx2⟩) (xj2 : PySem.W.codeIn K cdx2 "NotPossible.__init__" = true)
    (xk2 : PySem.W.keepIn K (.ref C2) = true) (xl2 : PySem.W.subIn K (.ref C2) (.type "BaseException") = some true) (xm2 : PySem.W.typeIn K (.ref C2) = some (.type "type")) (xn2 : PySem.W.hasDictIn K C2 = true) (xo2 : PySem.W.isClsIn K C2 = true)
    (xs1_1 : PySem.W.subIn K (.ref C1) (.ref C1) = some true)
    (xs1_2 : PySem.W.subIn K (.ref C1) (.ref C2) = some false)
    (yh1 : PySem.W.findIn K (.ref C1) "__class__" = some (some (.builtin "object.__class__"))) (ym1 : PySem.W.mroIn K C1 (.type "object") = some true)
    (xs1_9 : PySem.W.subIn K (.ref C1) (.ref C9) = some true)
    (xs2_1 : PySem.W.subIn K (.ref C2) (.ref C1) = some false)
    (xs2_2 : PySem.W.subIn K (.ref C2) (.ref C2) = some true)
    (yh2 : PySem.W.findIn K (.ref C2) "__class__" = some (some (.builtin "object.__class__"))) (ym2 : PySem.W.mroIn K C2 (.type "object") = some true)
    (xs2_9 : PySem.W.subIn K (.ref C2) (.ref C9) = some true)
    (sp0 : PySem.W.specialIn K (.builtin "object.__class__") "__get__" = some (some (.builtin "getset_descriptor.__get__"))) (tk0 : PySem.W.takesIn K (.builtin "object.__class__") = some true)
    (z0 : PySem.W.nsIn K mainGlobals "len" = some none)
    (z1 : PySem.W.nsIn K mainGlobals "isinstance" = some none)
    (z2 : PySem.W.nsIn K mainGlobals "int" = some none)
    (z3 : PySem.W.nsIn K mainGlobals "bool" = some none)
    (z4 : PySem.W.nsIn K mainGlobals "str" = some none)
    (z5 : PySem.W.nsIn K mainGlobals "tuple" = some none)
    (z6 : PySem.W.nsIn K mainGlobals "list" = some none)
    (z7 : PySem.W.nsIn K mainGlobals "abs" = some none)
    (z8 : PySem.W.nsIn K mainGlobals "all" = some none)
    (z9 : PySem.W.nsIn K mainGlobals "any" = some none)
    (z10 : PySem.W.nsIn K mainGlobals "sum" = some none)
    (z11 : PySem.W.nsIn K mainGlobals "max" = some none)
    (z12 : PySem.W.nsIn K mainGlobals "min" = some none)
    (z13 : PySem.W.nsIn K mainGlobals "range" = some none)
    (z14 : PySem.W.nsIn K mainGlobals "enumerate" = some none)
    (z15 : PySem.W.nsIn K mainGlobals "zip" = some none)
    (z16 : PySem.W.nsIn K mainGlobals "sorted" = some none)
    (z17 : PySem.W.nsIn K mainGlobals "dict" = some none)
    (z18 : PySem.W.nsIn K mainGlobals "set" = some none) :
    ∃ fd : FuncData, (∀ (s : Shared) (v : Value), BindsTo s fd ⟨[v], []⟩ [("_law_script", v)]) ∧ ∀ base : Heap, K.In base → base.Ns mainGlobals mg → FnOk l.prog w K mg base (L2.CX l.prog w) 201 fa fd ["_law_script"] (spC0 K (runF tb 200 624)) := by
  have e := hfa.symm.trans (PySem.W.mg_of X G a624)
  cases e
  have F1 : Fact K mg tb gl f1 xcl xnl := fact_mk X G (df := f1) (st := topS 9) a1 l1 c1 k1 (fun _ _ _ _ _ _ us hl => match us, hl with | [_, _, _], _ => rfl) ch1
  have F2 : Fact K mg tb gl f2 xcl xnl := fact_mk X G (df := f2) (st := topS 10) a2 l2 c2 k2 (fun _ _ _ _ _ _ us hl => match us, hl with | [_], _ => rfl) ch2
  have F3 : Fact K mg tb gl f3 xcl xnl := fact_mk X G (df := f3) (st := topS 11) a3 l3 c3 k3 (fun _ _ _ _ _ _ us hl => match us, hl with | [_, _], _ => rfl) ch3
  have F4 : Fact K mg tb gl f4 xcl xnl := fact_mk X G (df := f4) (st := topS 12) a4 l4 c4 k4 (fun _ _ _ _ _ _ us hl => match us, hl with | [_], _ => rfl) ch4
  have F42 : Fact K mg tb gl f42 xcl xnl := fact_mk X G (df := f42) (st := topS 13) a42 l42 c42 k42 (fun _ _ _ _ _ _ us hl => match us, hl with | [_], _ => rfl) ch42
  have F43 : Fact K mg tb gl f43 xcl xnl := fact_mk X G (df := f43) (st := topS 14) a43 l43 c43 k43 (fun _ _ _ _ _ _ us hl => match us, hl with | [_], _ => rfl) ch43
  have F717 : Fact K mg tb gl f717 xcl xnl := fact_mk X G (df := f717) (st := topS 15) a717 l717 c717 k717 (fun _ _ _ _ _ _ us hl => match us, hl with | [_], _ => rfl) ch717
  have F46 : Fact K mg tb gl f46 xcl xnl := fact_mk X G (df := f46) (st := topS 16) a46 l46 c46 k46 (fun _ _ _ _ _ _ us hl => match us, hl with | [_, _], _ => rfl) ch46
  have F44 : Fact K mg tb gl f44 xcl xnl := fact_mk X G (df := f44) (st := topS 17) a44 l44 c44 k44 (fun _ _ _ _ _ _ us hl => match us, hl with | [_, _, _], _ => rfl) ch44
  have F45 : Fact K mg tb gl f45 xcl xnl := fact_mk X G (df := f45) (st := topS 18) a45 l45 c45 k45 (fun _ _ _ _ _ _ us hl => match us, hl with | [_], _ => rfl) ch45
  have F18 : Fact K mg tb gl f18 xcl xnl := fact_mk X G (df := f18) (st := topS 19) a18 l18 c18 k18 (fun _ _ _ _ _ _ us hl => match us, hl with | [_, _, _], _ => rfl) ch18
  have F47 : Fact K mg tb gl f47 xcl xnl := fact_mk X G (df := f47) (st := topS 20) a47 l47 c47 k47 (fun _ _ _ _ _ _ us hl => match us, hl with | [_], _ => rfl) ch47
  have F48 : Fact K mg tb gl f48 xcl xnl := fact_mk X G (df := f48) (st := topS 21) a48 l48 c48 k48 (fun _ _ _ _ _ _ us hl => match us, hl with | [_], _ => rfl) ch48
  have F74 : Fact K mg tb gl f74 xcl xnl := fact_mk X G (df := f74) (st := topS 22) a74 l74 c74 k74 (fun _ _ _ _ _ _ us hl => match us, hl with | [_, _], _ => rfl) ch74
  have F718 : Fact K mg tb gl f718 xcl xnl := fact_mk X G (df := f718) (st := topS 23) a718 l718 c718 k718 (fun _ _ _ _ _ _ us hl => match us, hl with | [_, _], _ => rfl) ch718
  have F50 : Fact K mg tb gl f50 xcl xnl := fact_mk X G (df := f50) (st := topS 24) a50 l50 c50 k50 (fun _ _ _ _ _ _ us hl => match us, hl with | [_, _, _], _ => rfl) ch50
  have F76 : Fact K mg tb gl f76 xcl xnl := fact_mk X G (df := f76) (st := topS 25) a76 l76 c76 k76 (fun _ _ _ _ _ _ us hl => match us, hl with | [_, _, _, _], _ => rfl) ch76
  have F5 : Fact K mg tb gl f5 xcl xnl := fact_mk X G (df := f5) (st := topS 27) a5 l5 c5 k5 (fun _ _ _ _ _ _ us hl => match us, hl with | [_], _ => rfl) ch5
  have F6 : Fact K mg tb gl f6 xcl xnl := fact_mk X G (df := f6) (st := topS 28) a6 l6 c6 k6 (fun _ _ _ _ _ _ us hl => match us, hl with | [_, _], _ => rfl) ch6
  have F7 : Fact K mg tb gl f7 xcl xnl := fact_mk X G (df := f7) (st := topS 29) a7 l7 c7 k7 (fun _ _ _ _ _ _ us hl => match us, hl with | [_], _ => rfl) ch7
  have F719 : Fact K mg tb gl f719 xcl xnl := fact_mk X G (df := f719) (st := topS 30) a719 l719 c719 k719 (fun _ _ _ _ _ _ us hl => match us, hl with | [_, _], _ => rfl) ch719
  have F9 : Fact K mg tb gl f9 xcl xnl := fact_mk X G (df := f9) (st := topS 31) a9 l9 c9 k9 (fun _ _ _ _ _ _ us hl => match us, hl with | [_, _], _ => rfl) ch9
  have F10 : Fact K mg tb gl f10 xcl xnl := fact_mk X G (df := f10) (st := topS 32) a10 l10 c10 k10 (fun _ _ _ _ _ _ us hl => match us, hl with | [_], _ => rfl) ch10
  have F11 : Fact K mg tb gl f11 xcl xnl := fact_mk X G (df := f11) (st := topS 33) a11 l11 c11 k11 (fun _ _ _ _ _ _ us hl => match us, hl with | [_, _, _], _ => rfl) ch11
  have F36 : Fact K mg tb gl f36 xcl xnl := fact_mk X G (df := f36) (st := topS 34) a36 l36 c36 k36 (fun _ _ _ _ _ _ us hl => match us, hl with | [_], _ => rfl) ch36
  have F12 : Fact K mg tb gl f12 xcl xnl := fact_mk X G (df := f12) (st := topS 35) a12 l12 c12 k12 (fun _ _ _ _ _ _ us hl => match us, hl with | [_], _ => rfl) ch12
  have F51 : Fact K mg tb gl f51 xcl xnl := fact_mk X G (df := f51) (st := topS 36) a51 l51 c51 k51 (fun _ _ _ _ _ _ us hl => match us, hl with | [_, _], _ => rfl) ch51
  have F13 : Fact K mg tb gl f13 xcl xnl := fact_mk X G (df := f13) (st := topS 37) a13 l13 c13 k13 (fun _ _ _ _ _ _ us hl => match us, hl with | [_, _, _], _ => rfl) ch13
  have F568 : Fact K mg tb gl f568 xcl xnl := fact_mk X G (df := f568) (st := topS 38) a568 l568 c568 k568 (fun _ _ _ _ _ _ us hl => match us, hl with | [_], _ => rfl) ch568
  have F49 : Fact K mg tb gl f49 xcl xnl := fact_mk X G (df := f49) (st := topS 39) a49 l49 c49 k49 (fun _ _ _ _ _ _ us hl => match us, hl with | [_, _, _, _], _ => rfl) ch49
  have F624 : Fact K mg tb gl f624 xcl xnl := fact_mk X G (df := f624) (st := topS 40) a624 l624 c624 k624 (fun _ _ _ _ _ _ us hl => match us, hl with | [_], _ => rfl) ch624
  have T : Tab K mg tb gl xcl xnl := ⟨fun f df hf => (by
    unfold tb at hf
    split at hf <;> first | (cases hf; assumption) | cases hf), blL_mk X G (.cons z0 (.cons z1 (.cons z2 (.cons z3 (.cons z4 (.cons z5 (.cons z6 (.cons z7 (.cons z8 (.cons z9 (.cons z10 (.cons z11 (.cons z12 (.cons z13 (.cons z14 (.cons z15 (.cons z16 (.cons z17 (.cons z18 (.nil)))))))))))))))))))), glOf_mk (.cons (glF_int X G gc0 rc0) (.cons (glF_int X G gc1 rc1) (.cons (glF_int X G gc2 rc2) (.nil))))⟩
  have TX1 : PySem.TooLargeX.LowTxt K mg C1 fI1 := { gC := PySem.W.mg_of X G xa1, cls := ⟨nm1, qx1, Nx1, bs1, _, sn1, sub1, ab1, col1, dd1, mx1, my1, mz1, mu1, mv1, xb1, rfl⟩, sa := xc1, ga := xd1, gg := xe1, noN := xf1, iC := xg1, tC := xh1, kC := xk1, exC := xl1, tyC := xm1, hdC := xn1, te := exm_is xl1 xo1 xm1 xs1_1, fn := ⟨_, _, _, _, _, _, _, _, _, _, _, _, _, _, xi1, xj1⟩ }
  have TX2 : PySem.NotPossibleX.LowTxt K mg C2 fI2 := { gC := PySem.W.mg_of X G xa2, cls := ⟨nm2, qx2, Nx2, bs2, _, sn2, sub2, ab2, col2, dd2, mx2, my2, mz2, mu2, mv2, xb2, rfl⟩, sa := xc2, ga := xd2, gg := xe2, noN := xf2, iC := xg2, tC := xh2, kC := xk2, exC := xl2, tyC := xm2, hdC := xn2, te := exm_is xl2 xo2 xm2 xs2_2, fn := ⟨_, _, _, _, _, _, _, _, _, _, _, _, _, _, xi2, xj2⟩ }
  have TX : TabX K mg xcl xnl (fun c => match c with | 1 => C1 | 2 => C2 | 9 => C9 | _ => 0) (fun c => match c with | 1 => ["what"] | 2 => ["why"] | _ => []) := by
    refine ⟨fun c p h => ?_, fun c n h => ?_, fun c p c2 n h h2 hn => ?_, fun c p c2 n h h2 => ?_, fun c p h => ?_⟩
    · unfold xcl at h
      split at h
      · cases h; exact ⟨rfl, mkR_TooLarge TX1⟩
      · cases h; exact ⟨rfl, mkR_NotPossible TX2⟩
      · cases h
    · unfold xnl at h
      split at h
      · cases h; exact ⟨fun _ => PySem.W.mg_of X G xa1, fun q => (nomatch q)⟩
      · cases h; exact ⟨fun _ => PySem.W.mg_of X G xa2, fun q => (nomatch q)⟩
      · cases h; exact ⟨fun _ => PySem.W.mg_of X G xa9, fun q => (nomatch q)⟩
      · cases h
    · unfold xcl at h
      unfold xnl at h2
      split at h
      · split at h2
        · exact exm_is xl1 xo1 xm1 xs1_1
        · exact exm_is xl2 xo2 xm2 xs1_2
        · exact exm_is xl9 xo9 xm9 xs1_9
        · cases h2
      · split at h2
        · exact exm_is xl1 xo1 xm1 xs2_1
        · exact exm_is xl2 xo2 xm2 xs2_2
        · exact exm_is xl9 xo9 xm9 xs2_9
        · cases h2
      · cases h
    · unfold xcl at h
      unfold xnl at h2
      split at h
      · split at h2
        · exact kit_is3 xo1 xm1 xs1_1 xs1_1
        · exact kit_is3 xo2 xm2 xs1_1 xs1_2
        · exact kit_is3 xo9 xm9 xs1_1 xs1_9
        · cases h2
      · split at h2
        · exact kit_is3 xo1 xm1 xs2_2 xs2_1
        · exact kit_is3 xo2 xm2 xs2_2 xs2_2
        · exact kit_is3 xo9 xm9 xs2_2 xs2_9
        · cases h2
      · cases h
    · unfold xcl at h
      split at h
      · exact ⟨xo1, xd1, xe1, xl1, yh1, sp0, tk0, ym1⟩
      · exact ⟨xo2, xd2, xe2, xl2, yh2, sp0, tk0, ym2⟩
      · cases h
  exact ⟨PySem.W.fnOf "law" "law" (defArgs (topS 40)) (defBody (topS 40)) (defScope (topS 40)) .none kV624 dc624 pm624 an624 cd624 ct624, fun s v => .of_eq rfl, fun base _ _ => (fn_ok T TX 200 624 f624 rfl _ _ (topS 40) (fun_mk l624 c624 k624) ch624).imp fun vs H Q E h => spC0_sp vs H Q E h⟩
end EvP
open PySem PySem.W PyProof.Rows
set_option maxHeartbeats 0 in
theorem PySem.Challenge.cw_rootfirst_k02_places_and_parts_holds : PySem.Challenge.rw_rootfirst_k02_places_and_parts.Holds := by
  w_on; o_law; k_head; (case hw => w_witness2)
  k_fill
  refine L2.walk_of (l := PySem.Challenge.rw_rootfirst_k02_places_and_parts) (n := 63) (k := 201) (x := "_law_script") (CX := fun w => L2.CX PySem.Challenge.rw_rootfirst_k02_places_and_parts.prog w) (sp := fun w => Ev.spC0 _ (Ev.runF EvP.tb 200 624)) rfl (by decide) rfl ⟨rfl, by decide, by decide⟩ (fun w h Y => PySem.W.kIn_of Y) ?F (fun _ _ a ns hl hO hS => Ev.law_sp0 hO hS (EvP.law_true ns hl)) (fun w H s e s' h => Ev.law_cx w H s e s' h)
  case F =>
    intro w mg fa h KX G hmg
    refine' EvP.all_mk KX G hmg ?a1 ?l1 ?c1 ?k1 ?a2 ?l2 ?c2 ?k2 ?a3 ?l3 ?c3 ?k3 ?a4 ?l4 ?c4 ?k4 ?a42 ?l42 ?c42 ?k42 ?a43 ?l43 ?c43 ?k43 ?a717 ?l717 ?c717 ?k717 ?a46 ?l46 ?c46 ?k46 ?a44 ?l44 ?c44 ?k44 ?a45 ?l45 ?c45 ?k45 ?a18 ?l18 ?c18 ?k18 ?a47 ?l47 ?c47 ?k47 ?a48 ?l48 ?c48 ?k48 ?a74 ?l74 ?c74 ?k74 ?a718 ?l718 ?c718 ?k718 ?a50 ?l50 ?c50 ?k50 ?a76 ?l76 ?c76 ?k76 ?a5 ?l5 ?c5 ?k5 ?a6 ?l6 ?c6 ?k6 ?a7 ?l7 ?c7 ?k7 ?a719 ?l719 ?c719 ?k719 ?a9 ?l9 ?c9 ?k9 ?a10 ?l10 ?c10 ?k10 ?a11 ?l11 ?c11 ?k11 ?a36 ?l36 ?c36 ?k36 ?a12 ?l12 ?c12 ?k12 ?a51 ?l51 ?c51 ?k51 ?a13 ?l13 ?c13 ?k13 ?a568 ?l568 ?c568 ?k568 ?a49 ?l49 ?c49 ?k49 ?a624 ?l624 ?c624 ?k624 ?gc0 ?rc0 ?gc1 ?rc1 ?gc2 ?rc2 ?yh1 ?ym1 ?xs1_9 ?xa1 ?xb1 ?xc1 ?xd1 ?xe1 ?xf1 ?xg1 ?xh1 ?xi1 ?xj1 ?xk1 ?xl1 ?xm1 ?xn1 ?xo1 ?xs1_1 ?xs1_2 ?yh2 ?ym2 ?xs2_9 ?xa2 ?xb2 ?xc2 ?xd2 ?xe2 ?xf2 ?xg2 ?xh2 ?xi2 ?xj2 ?xk2 ?xl2 ?xm2 ?xn2 ?xo2 ?xs2_1 ?xs2_2 ?xa9 ?xl9 ?xo9 ?xm9 ?sp0 ?tk0 ?z0 ?z1 ?z2 ?z3 ?z4 ?z5 ?z6 ?z7 ?z8 ?z9 ?z10 ?z11 ?z12 ?z13 ?z14 ?z15 ?z16 ?z17 ?z18
    (case a1 => k_is); (case l1 => k_is); (case c1 => k_is); (case k1 => k_is); (case a2 => k_is); (case l2 => k_is); (case c2 => k_is); (case k2 => k_is); (case a3 => k_is); (case l3 => k_is); (case c3 => k_is); (case k3 => k_is); (case a4 => k_is); (case l4 => k_is); (case c4 => k_is); (case k4 => k_is); (case a42 => k_is); (case l42 => k_is); (case c42 => k_is); (case k42 => k_is); (case a43 => k_is); (case l43 => k_is); (case c43 => k_is); (case k43 => k_is); (case a717 => k_is); (case l717 => k_is); (case c717 => k_is); (case k717 => k_is); (case a46 => k_is); (case l46 => k_is); (case c46 => k_is); (case k46 => k_is); (case a44 => k_is); (case l44 => k_is); (case c44 => k_is); (case k44 => k_is); (case a45 => k_is); (case l45 => k_is); (case c45 => k_is); (case k45 => k_is); (case a18 => k_is); (case l18 => k_is); (case c18 => k_is); (case k18 => k_is); (case a47 => k_is); (case l47 => k_is); (case c47 => k_is); (case k47 => k_is); (case a48 => k_is); (case l48 => k_is); (case c48 => k_is); (case k48 => k_is); (case a74 => k_is); (case l74 => k_is); (case c74 => k_is); (case k74 => k_is); (case a718 => k_is); (case l718 => k_is); (case c718 => k_is); (case k718 => k_is); (case a50 => k_is); (case l50 => k_is); (case c50 => k_is); (case k50 => k_is); (case a76 => k_is); (case l76 => k_is); (case c76 => k_is); (case k76 => k_is); (case a5 => k_is); (case l5 => k_is); (case c5 => k_is); (case k5 => k_is); (case a6 => k_is); (case l6 => k_is); (case c6 => k_is); (case k6 => k_is); (case a7 => k_is); (case l7 => k_is); (case c7 => k_is); (case k7 => k_is); (case a719 => k_is); (case l719 => k_is); (case c719 => k_is); (case k719 => k_is); (case a9 => k_is); (case l9 => k_is); (case c9 => k_is); (case k9 => k_is); (case a10 => k_is); (case l10 => k_is); (case c10 => k_is); (case k10 => k_is); (case a11 => k_is); (case l11 => k_is); (case c11 => k_is); (case k11 => k_is); (case a36 => k_is); (case l36 => k_is); (case c36 => k_is); (case k36 => k_is); (case a12 => k_is); (case l12 => k_is); (case c12 => k_is); (case k12 => k_is); (case a51 => k_is); (case l51 => k_is); (case c51 => k_is); (case k51 => k_is); (case a13 => k_is); (case l13 => k_is); (case c13 => k_is); (case k13 => k_is); (case a568 => k_is); (case l568 => k_is); (case c568 => k_is); (case k568 => k_is); (case a49 => k_is); (case l49 => k_is); (case c49 => k_is); (case k49 => k_is); (case a624 => k_is); (case l624 => k_is); (case c624 => k_is); (case k624 => k_is); (case gc0 => k_is); (case rc0 => exact ⟨_, rfl⟩); (case gc1 => k_is); (case rc1 => exact ⟨_, rfl⟩); (case gc2 => k_is); (case rc2 => exact ⟨_, rfl⟩); (case yh1 => k_is); (case ym1 => k_is); (case xs1_9 => k_is); (case xa1 => k_is); (case xb1 => k_is); (case xc1 => k_is); (case xd1 => k_is); (case xe1 => k_is); (case xf1 => k_is); (case xg1 => k_is); (case xh1 => k_is); (case xi1 => k_is); (case xj1 => k_is); (case xk1 => k_is); (case xl1 => k_is); (case xm1 => k_is); (case xn1 => k_is); (case xo1 => k_is); (case xs1_1 => k_is); (case xs1_2 => k_is); (case yh2 => k_is); (case ym2 => k_is); (case xs2_9 => k_is); (case xa2 => k_is); (case xb2 => k_is); (case xc2 => k_is); (case xd2 => k_is); (case xe2 => k_is); (case xf2 => k_is); (case xg2 => k_is); (case xh2 => k_is); (case xi2 => k_is); (case xj2 => k_is); (case xk2 => k_is); (case xl2 => k_is); (case xm2 => k_is); (case xn2 => k_is); (case xo2 => k_is); (case xs2_1 => k_is); (case xs2_2 => k_is); (case xa9 => k_is); (case xl9 => k_is); (case xo9 => k_is); (case xm9 => k_is); (case sp0 => k_is); (case tk0 => k_is); (case z0 => k_is); (case z1 => k_is); (case z2 => k_is); (case z3 => k_is); (case z4 => k_is); (case z5 => k_is); (case z6 => k_is); (case z7 => k_is); (case z8 => k_is); (case z9 => k_is); (case z10 => k_is); (case z11 => k_is); (case z12 => k_is); (case z13 => k_is); (case z14 => k_is); (case z15 => k_is); (case z16 => k_is); (case z17 => k_is); (case z18 => k_is)

