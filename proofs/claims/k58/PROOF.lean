import PyProof.Rows.All
import Wide.All
import OpenK.AllK
import Wide.FinOn
import HandS.ForMost
import HandS.Flow
import HandS.SortOrd
import HandS.SortRule
import HandS.DictComp
import HandS.IsInst
import HandS.TupAny
import KE.SortData
import KE.DataEq
import KE.KDictKeyed
import HandS.TupMul
import HandS.Style
import HandS.Zip
import HandS.Rev
import PyProof.EnumMake
import PyProof.EnumIter
import PyProof.TupleIter
import HandS.DictTup
import KE.KDictPairs
import KE.KPairComp
import HandS.Conv
import HandS.SetKeys
import HandS.SetFor
import PyProof.Rows.SetFrom
import PySem.Challenge.RW_stagesworn_k58_told_papers_of_what_is_al
set_option Elab.async false
set_option linter.all false
set_option maxRecDepth 100000
/-! A small language Ex / Sm that the program's Python is told in, and its evaluator. -/
namespace Ev
open PySem

/-- what a key of a dict is made of -/
abbrev KA := Int ⊕ List Nat

/-- data: a value with what hangs on it. lst, dk, dt: things that nobody changes any more (kt, kl: a tuple, a list that may stand in the written part); ref n: the n-th cell of the memory -/
inductive DV where
  | non | bl (b : Bool) | int (i : Int) | str (s : List Nat)
  | tup (xs : List DV) | kt (xs : List DV) | lst (xs : List DV) | kl (xs : List DV)
  | dk (ks : List KA) (vs : List DV) | dt (ks : List (List KA)) (vs : List DV)
  | ref (n : Nat)

/-- a cell: c d can be changed, k d is locked (a loop walks it) -/
inductive Cell where
  | c (d : DV) | k (d : DV)
abbrev Mem := List Cell
structure Exn where
  cls : Nat
  args : List DV
inductive Out (α : Type) where
  | ok (a : α) (m : Mem) | exc (x : Exn) (m : Mem) | bad
def Out.bind {α β : Type} (o : Out α) (f : α → Mem → Out β) : Out β := match o with
  | .ok a m => f a m
  | .exc x m => .exc x m
  | .bad => .bad
@[simp] theorem Out.bind_ok {α β : Type} {a : α} {m : Mem} {f : α → Mem → Out β} : (Out.ok a m).bind f = f a m := rfl
@[simp] theorem Out.bind_exc {α β : Type} {x : Exn} {m : Mem} {f : α → Mem → Out β} : (Out.exc x m : Out α).bind f = .exc x m := rfl
@[simp] theorem Out.bind_bad {α β : Type} {f : α → Mem → Out β} : (Out.bad : Out α).bind f = .bad := rfl
/-- a value that is there, or bad -/
def Out.of {α : Type} (o : Option α) (m : Mem) : Out α := match o with
  | some a => .ok a m
  | none => .bad
@[simp] theorem Out.of_some {α : Type} {a : α} {m : Mem} : Out.of (some a) m = .ok a m := rfl
@[simp] theorem Out.of_none {α : Type} {m : Mem} : Out.of (none : Option α) m = .bad := rfl

abbrev Env' := List (Option DV)
inductive SO where
  | nx (env : Env') (m : Mem) | rt (d : DV) (m : Mem) | bk (env : Env') (m : Mem) | ct (env : Env') (m : Mem) | ex (x : Exn) (m : Mem) | bad

inductive Op2 where
  | add | sub | mul | fdiv | mod | pow | shr
inductive Cm where
  | eq | ne | lt | le | gt | ge | is | isnot | in_ | notin
inductive Ty where
  | tInt | tBool | tStr | tList | tTuple
/-- a built-in that is called by its name -/
inductive Pr where
  | len | abs | int1 | str1 | list1 | tuple1 | sorted | sum | all | any | min2 | max2 | dict1 | dictT | cat
/-- a method of a built-in type -/
inductive Mt where
  | append | pop0 | popAt | get1 | get2 | join | extend | index
/-- what is done with one value: xs[::-1], sorted(set(xs)), len(set(xs)) -/
inductive U1 where
  | rev | sset | lset | sitems | lrng
mutual
inductive Ex where
  | var (i : Nat) | int (i : Int) | str (s : List Nat) | bl (b : Bool) | non | con (g : Nat)
  | bin (o : Op2) (a b : Ex) | neg (a : Ex)
  | cmp (c : Cm) (a b : Ex) | chain (c1 c2 : Cm) (a b c : Ex)
  | and (a b : Ex) | or (a b : Ex) | not (a : Ex)
  | ite (c : Ts) (a b : Ex)
  | tup (es : List Ex) | tupK (es : List Ex) | lst (es : List Ex) | lstM (es : List Ex)
  | dnew (tupleKeys : Bool) | dispM (es : List Ex)
  | sub (a i : Ex) | slice (a : Ex) (lo hi : Option Ex)
  | call (f : Nat) (es : List Ex)
  | prim (p : Pr) (es : List Ex) | primM (p : Pr) (es : List Ex) | isi (a : Ex) (t : Ty) (ts : List Ty)
  | meth (p : Mt) (a : Ex) (es : List Ex) | un1 (u : U1) (a : Ex) | step (a : Ex) (k : Nat)
  | comp (lk : Option Nat) (cell : Bool) (own : List Nat) (t : Ta) (it : Itx) (cs : List Ts) (el : Ex)
inductive Ts where
  | val (e : Ex) | not (t : Ts) | and (a b : Ts) | or (a b : Ts)
inductive Ta where
  | v (i : Nat) | sub (o i : Ex) | t (ts : List Ta)
inductive Itx where
  | seq (e : Ex) | rev (e : Ex) | rng1 (e : Ex) | rng2 (a b : Ex) | rngd (a b : Ex) | enum (e : Ex) | zip (a b : Ex) | items (e : Ex) | keys (e : Ex)
end
inductive Sm where
  | asg (t : Ta) (e : Ex) | par (is : List Nat) (es : List Ex)
  | aug (i : Nat) (o : Op2) (e : Ex) | augS (o i : Ex) (op : Op2) (e : Ex)
  | ex (e : Ex) | ite (c : Ts) (a b : List Sm) | whl (c : Ts) (b : List Sm)
  | for (lk : Option Nat) (t : Ta) (it : Itx) (b : List Sm)
  | ret (e : Ex) | retn | brk | cont | pass


/-! ### data -/
/-- no list, tuple, text, dict is longer -/
def SL : Nat := 10000000
mutual
def noRef : DV → Bool
  | .ref _ => false
  | .tup xs => noRefs xs
  | .kt xs => noRefs xs
  | .kl xs => noRefs xs
  | .lst xs => noRefs xs
  | .dk _ vs => noRefs vs
  | .dt _ vs => noRefs vs
  | _ => true
def noRefs : List DV → Bool
  | [] => true
  | x :: xs => noRef x && noRefs xs
end
mutual
/-- every cell that it names lies below b -/
def refsBelow (b : Nat) : DV → Bool
  | .ref n => decide (n < b)
  | .tup xs => refsBelows b xs
  | .kt xs => refsBelows b xs
  | .kl xs => refsBelows b xs
  | .lst xs => refsBelows b xs
  | .dk _ vs => refsBelows b vs
  | .dt _ vs => refsBelows b vs
  | _ => true
def refsBelows (b : Nat) : List DV → Bool
  | [] => true
  | x :: xs => refsBelow b x && refsBelows b xs
end
def Cell.d : Cell → DV
  | .c x => x
  | .k x => x
/-- what a value is, a cell by what it holds -/
def rs (m : Mem) (d : DV) : DV := match d with
  | .ref n => (match m[n]? with
    | some c => c.d
    | none => d)
  | d => d
mutual
/-- data that == can compare: nested less than n deep, with no dict and no cell in it -/
def eqOk : Nat → DV → Bool
  | _, .non => true
  | _, .bl _ => true
  | _, .int _ => true
  | _, .str _ => true
  | n + 1, .tup xs => eqOks n xs
  | n + 1, .kt xs => eqOks n xs
  | n + 1, .kl xs => eqOks n xs
  | n + 1, .lst xs => eqOks n xs
  | 0, .tup _ => false
  | 0, .kt _ => false
  | 0, .lst _ => false
  | 0, .kl _ => false
  | _, .ref _ => false
  | _, .dk _ _ => false
  | _, .dt _ _ => false
def eqOks : Nat → List DV → Bool
  | _, [] => true
  | n, x :: xs => eqOk n x && eqOks n xs
end
mutual
def deq : DV → DV → Bool
  | .non, .non => true
  | .bl a, .bl b => a == b
  | .bl a, .int j => (if a then 1 else 0) == j
  | .int i, .bl b => i == (if b then 1 else 0)
  | .int i, .int j => i == j
  | .str x, .str y => x == y
  | .lst xs, .lst ys => deqs xs ys
  | .lst xs, .kl ys => deqs xs ys
  | .kl xs, .lst ys => deqs xs ys
  | .kl xs, .kl ys => deqs xs ys
  | .tup xs, .tup ys => deqs xs ys
  | .tup xs, .kt ys => deqs xs ys
  | .kt xs, .tup ys => deqs xs ys
  | .kt xs, .kt ys => deqs xs ys
  | _, _ => false
def deqs : List DV → List DV → Bool
  | [], [] => true
  | x :: xs, y :: ys => deq x y && deqs xs ys
  | _, _ => false
end
mutual
/-- a datum as a row of signs, for < -/
def dtoks : DV → List (Int ⊕ List Nat)
  | .bl b => [.inl (if b = true then 1 else 0)]
  | .int n => [.inl n]
  | .str x => [.inr x]
  | .lst xs => dtokss xs
  | .tup xs => dtokss xs
  | .kt xs => dtokss xs
  | .kl xs => dtokss xs
  | _ => []
def dtokss : List DV → List (Int ⊕ List Nat)
  | [] => [.inl 0]
  | x :: xs => .inl 1 :: (dtoks x ++ dtokss xs)
end
mutual
/-- the two can be compared by <, place by place -/
def dalike : DV → DV → Bool
  | .non, .non => true
  | .bl _, .bl _ => true
  | .int _, .int _ => true
  | .str _, .str _ => true
  | .lst xs, .lst ys => dalikes xs ys
  | .tup xs, .tup ys => dalikes xs ys
  | .tup xs, .kt ys => dalikes xs ys
  | .kt xs, .tup ys => dalikes xs ys
  | .kt xs, .kt ys => dalikes xs ys
  | _, _ => false
def dalikes : List DV → List DV → Bool
  | x :: xs, y :: ys => dalike x y && dalikes xs ys
  | _, _ => true
end
def dlt (x y : DV) : Bool := PyProof.Rows.lexLt PyProof.Rows.itemOrd (dtoks x) (dtoks y)
def isTupNE : DV → Bool
  | .tup (_ :: _) => true
  | .kt (_ :: _) => true
  | _ => false
def isFlatS : DV → Bool
  | .int _ => true
  | .bl _ => true
  | .str _ => true
  | .lst _ => true
  | _ => false
/-- sorted(xs) -/
def dsort (xs : List DV) : Option (List DV) :=
  if (xs.all isTupNE || xs.all isFlatS) && xs.all (eqOk 64) && xs.all (fun a => xs.all (dalike a)) then some (xs.mergeSort fun a b => !dlt b a) else none
/-! ### keys, dicts -/
def kaOf : DV → Option KA
  | .int i => some (.inl i)
  | .str s => some (.inr s)
  | _ => none
def ofKa : KA → DV
  | .inl i => .int i
  | .inr s => .str s
def ktOf : DV → Option (List KA)
  | .tup xs => xs.mapM kaOf
  | _ => none
def look {κ : Type} [DecidableEq κ] : List κ → List DV → κ → Option DV
  | k :: ks, v :: vs, j => if k = j then some v else look ks vs j
  | _, _, _ => none
def repV {κ : Type} [DecidableEq κ] : List κ → List DV → κ → DV → List DV
  | k :: ks, v :: vs, j, x => (if k = j then x else v) :: repV ks vs j x
  | _, _, _, _ => []
/-- d[k] = v: in its place, or at the end -/
def putV {κ : Type} [DecidableEq κ] (ks : List κ) (vs : List DV) (j : κ) (x : DV) : List DV := if j ∈ ks then repV ks vs j x else vs ++ [x]
def putK' {κ : Type} [DecidableEq κ] (ks : List κ) (j : κ) : List κ := if j ∈ ks then ks else ks ++ [j]
/-- what a dict holds at a key: none where it can't be asked -/
def dget : DV → DV → Option (Option DV)
  | .dk ks vs, y => (kaOf y).map (look ks vs)
  | .dt ks vs, y => (ktOf y).map (look ks vs)
  | _, _ => none
def dput : DV → DV → DV → Option DV
  | .dk ks vs, y, x => if ks.length < SL then (kaOf y).map fun k => .dk (putK' ks k) (putV ks vs k x) else none
  | .dt ks vs, y, x => if ks.length < SL then (ktOf y).map fun k => .dt (putK' ks k) (putV ks vs k x) else none
  | _, _, _ => none
/-! ### operators -/
def sIx (n d : Nat) (o : Option Int) : Nat := HT.sIx n d o
def cut {α : Type} (xs : List α) (lo hi : Option Int) : List α := (xs.drop (sIx xs.length 0 lo)).take (sIx xs.length xs.length hi - sIx xs.length 0 lo)
instance (i j : Int) : Decidable (L2.CMul i j) := by unfold L2.CMul; infer_instance
instance (i j : Int) : Decidable (L2.CDivN i j) := by unfold L2.CDivN; infer_instance
instance (i j : Int) : Decidable (L2.CPow i j) := by unfold L2.CPow; infer_instance
def op2 (o : Op2) (x y : DV) : Option DV := match o, x, y with
  | .add, .int i, .int j => some (.int (i + j))
  | .add, .str a, .str b => if a.length + b.length ≤ SL then some (.str (a ++ b)) else none
  | .add, .tup a, .tup b => if a.length + b.length ≤ SL then some (.tup (a ++ b)) else none
  | .add, .lst a, .lst b => if a.length + b.length ≤ SL then some (.lst (a ++ b)) else none
  | .add, .tup a, .kt b => if a.length + b.length ≤ SL then some (if a = [] then .kt b else if b = [] then .tup a else .tup (a ++ b)) else none
  | .add, .kt a, .tup b => if a.length + b.length ≤ SL then some (if a = [] then .tup b else if b = [] then .kt a else .tup (a ++ b)) else none
  | .add, .kt a, .kt b => if a.length + b.length ≤ SL then some (if a = [] then .kt b else if b = [] then .kt a else .tup (a ++ b)) else none
  | .sub, .int i, .int j => some (.int (i - j))
  | .mul, .int i, .int j => if L2.CMul i j then some (.int (i * j)) else none
  | .mul, .tup a, .int k => if a ≠ [] ∧ 0 ≤ k ∧ k ≤ 1000 ∧ a.length ≤ 1000 then some (.tup (List.replicate k.toNat a).flatten) else none
  | .fdiv, .int i, .int j => if L2.CDivN i j then some (.int (i.fdiv j)) else none
  | .mod, .int i, .int j => if j ≠ 0 then some (.int (i.fmod j)) else none
  | .pow, .int i, .int j => if L2.CPow i j then some (.int (i ^ j.toNat)) else none
  | .shr, .int i, .int j => if 0 ≤ j then some (.int (i / 2 ^ j.toNat)) else none
  | _, _, _ => none
/-- op= : of numbers and texts -/
def opI (o : Op2) (x y : DV) : Option DV := match o, x, y with
  | .add, .int i, .int j => some (.int (i + j))
  | .add, .str a, .str b => if a.length + b.length ≤ SL then some (.str (a ++ b)) else none
  | .sub, .int i, .int j => some (.int (i - j))
  | _, _, _ => none
def isNonD : DV → Bool
  | .non => true
  | _ => false
/-- x in the rows xs -/
def dIn (x : DV) (xs : List DV) : Bool := xs.any fun y => deq y x
/-- a comparison; the dicts, lists of cells are looked through first -/
def flatEq : DV → DV → Bool
  | .non, .non => true
  | .bl a, .bl b => a == b
  | .int a, .int b => a == b
  | .str a, .str b => a == b
  | _, _ => false
/-- the same keys with the same plain values -/
def dkSame (ks : List KA) (vs : List DV) (js : List KA) (ws : List DV) : Bool := (ks.length == js.length) && ((ks.zip vs).all fun p => match look js ws p.1 with
  | some u => flatEq p.2 u
  | none => false)
/-- dicts that are equal -/
def dkCmp (c : Cm) (x y : DV) : Option Bool := match c, x, y with
  | .eq, .dk ks vs, .dk js ws => if dkSame ks vs js ws = true then some true else none
  | .ne, .dk ks vs, .dk js ws => if dkSame ks vs js ws = true then some false else none
  | _, _, _ => none
def cmp0 (c : Cm) (x y : DV) : Option Bool := match c, x, y with
  | .eq, x, y => if eqOk 64 x && eqOk 64 y then some (deq x y) else none
  | .ne, x, y => if eqOk 64 x && eqOk 64 y then some (!deq x y) else none
  | .lt, .int i, .int j => some (decide (i < j))
  | .le, .int i, .int j => some (decide (i ≤ j))
  | .gt, .int i, .int j => some (decide (j < i))
  | .ge, .int i, .int j => some (decide (j ≤ i))
  | .is, .bl a, .bl b => some (a == b)
  | .isnot, .bl a, .bl b => some (!(a == b))
  | .is, x, .non => some (isNonD x)
  | .isnot, x, .non => some (!isNonD x)
  | .in_, .str [a], .str s => some (decide (a ∈ s))
  | .notin, .str [a], .str s => some (!decide (a ∈ s))
  | .in_, x, .lst ys => if eqOk 64 x && eqOks 64 ys then some (dIn x ys) else none
  | .in_, x, .tup ys => if eqOk 64 x && eqOks 64 ys then some (dIn x ys) else none
  | .in_, x, .kt ys => if eqOk 64 x && eqOks 64 ys then some (dIn x ys) else none
  | .notin, x, .lst ys => if eqOk 64 x && eqOks 64 ys then some (!dIn x ys) else none
  | .notin, x, .tup ys => if eqOk 64 x && eqOks 64 ys then some (!dIn x ys) else none
  | .notin, x, .kt ys => if eqOk 64 x && eqOks 64 ys then some (!dIn x ys) else none
  | .in_, x, .dk ks vs => (dget (.dk ks vs) x).map (·.isSome)
  | .in_, x, .dt ks vs => (dget (.dt ks vs) x).map (·.isSome)
  | .notin, x, .dk ks vs => (dget (.dk ks vs) x).map (!·.isSome)
  | .notin, x, .dt ks vs => (dget (.dt ks vs) x).map (!·.isSome)
  | _, _, _ => none
def cmpD (c : Cm) (x y : DV) : Option Bool := match dkCmp c x y with
  | some k => some k
  | none => cmp0 c x y
def truD : DV → Option Bool
  | .non => some false
  | .bl b => some b
  | .int i => some (i != 0)
  | .str s => some (!s.isEmpty)
  | .lst xs => some (!xs.isEmpty)
  | .tup xs => some (!xs.isEmpty)
  | .kt xs => some (!xs.isEmpty)
  | .kl xs => some (!xs.isEmpty)
  | .dk ks _ => some (!ks.isEmpty)
  | _ => none
def subD : DV → DV → Option DV
  | .lst xs, .int i => L2.atI xs i
  | .tup xs, .int i => L2.atI xs i
  | .kt xs, .int i => L2.atI xs i
  | .kl xs, .int i => L2.atI xs i
  | .str s, .int i => (L2.atI s i).map fun c => .str [c]
  | .dk ks vs, y => (dget (.dk ks vs) y).bind id
  | .dt ks vs, y => (dget (.dt ks vs) y).bind id
  | _, _ => none
/-- o[i] op= : the old item, of a list or a dict -/
def getD2 (d y : DV) : Option DV := match d with
  | .lst _ => subD d y
  | .dk _ _ => subD d y
  | .dt _ _ => subD d y
  | _ => none
/-- every other -/
def ev2 {α : Type} : List α → List α
  | [] => []
  | [x] => [x]
  | x :: _ :: r => x :: ev2 r
/-- d[k::2] -/
def stepD (k : Nat) (d : DV) : Option DV := match d with
  | .tup xs => some (.tup (ev2 (xs.drop k)))
  | .kt xs => some (.tup (ev2 (xs.drop k)))
  | _ => none
def sliceD (d : DV) (lo hi : Option Int) : Option DV := match d with
  | .lst xs => some (.lst (cut xs lo hi))
  | .tup xs => some (.tup (cut xs lo hi))
  | .kt xs => some (if sIx xs.length 0 lo = 0 ∧ sIx xs.length xs.length hi = xs.length then .kt xs else .tup (cut xs lo hi))
  | .str s => some (.str (cut s lo hi))
  | _ => none
def isTy : Ty → DV → Bool
  | .tInt, .int _ => true
  | .tInt, .bl _ => true
  | .tBool, .bl _ => true
  | .tStr, .str _ => true
  | .tList, .lst _ => true
  | .tList, .kl _ => true
  | .tTuple, .tup _ => true
  | .tTuple, .kt _ => true
  | _, _ => false
def isiD (ts : List Ty) (d : DV) : Option Bool := match d with
  | .dt _ _ => none
  | .ref _ => none
  | d => some (ts.any fun t => isTy t d)
def seqD : DV → Option (List DV)
  | .lst xs => some xs
  | .tup xs => some xs
  | .kt xs => some xs
  | .kl xs => some xs
  | _ => none
def lstD : DV → Option (List DV)
  | .lst xs => some xs
  | .kl xs => some xs
  | _ => none
def intsD : List DV → Option (List Int)
  | [] => some []
  | .int i :: r => (intsD r).map (i :: ·)
  | _ => none
def blsD : List DV → Option (List Bool)
  | [] => some []
  | .bl i :: r => (blsD r).map (i :: ·)
  | _ => none
def strsD : List DV → Option (List (List Nat))
  | [] => some []
  | .str i :: r => (strsD r).map (i :: ·)
  | _ => none
/-- the signs of a number -/
def digits (i : Int) : List Nat := (toString i).toList.map Char.toNat
def lenD : DV → Option Nat
  | .lst xs => some xs.length
  | .tup xs => some xs.length
  | .kt xs => some xs.length
  | .kl xs => some xs.length
  | .str s => some s.length
  | .dk ks _ => some ks.length
  | _ => none
def intKs : List KA → Option (List Int)
  | [] => some []
  | .inl i :: r => (intKs r).map (i :: ·)
  | .inr _ :: _ => none
def primD (p : Pr) (xs : List DV) : Option DV := match p, xs with
  | .len, [x] => (lenD x).map fun n => .int n
  | .abs, [.int i] => some (.int (if i < 0 then -i else i))
  | .int1, [.int i] => some (.int i)
  | .int1, [.bl b] => some (.int (if b then 1 else 0))
  | .str1, [.int i] => if i.natAbs.log2 < 1920 ∧ (digits i).length ≤ SL then some (.str (digits i)) else none
  | .tuple1, [.lst xs] => some (.kt xs)
  | .tuple1, [.kl xs] => some (.kt xs)
  | .tuple1, [.tup xs] => some (.tup xs)
  | .tuple1, [.kt xs] => some (.kt xs)
  | .list1, [x] => (seqD x).map .lst
  | .sorted, [.dk ks _] => (intKs ks).bind fun ns => if ns.length < 64 then some (.lst ((ns.mergeSort fun a b => decide (a ≤ b)).map .int)) else none
  | .sorted, [x] => ((lstD x).bind dsort).map .lst
  | .sum, [x] => ((lstD x).bind intsD).map fun ns => .int ns.sum
  | .all, [x] => ((lstD x).bind blsD).map fun bs => .bl (bs.all id)
  | .any, [x] => ((lstD x).bind blsD).map fun bs => .bl (bs.any id)
  | .min2, [.int i, .int j] => some (.int (if j < i then j else i))
  | .max2, [.int i, .int j] => some (.int (if j > i then j else i))
  | .cat, [.lst a, .lst b] => if a.length + b.length ≤ SL then some (.lst (a ++ b)) else none
  | _, _ => none
/-- a pair -/
def pairD : DV → Option (DV × DV)
  | .tup [a, b] => some (a, b)
  | .kt [a, b] => some (a, b)
  | _ => none
/-- dict(rows of pairs) -/
def mkDk : List DV → List KA → List DV → Option DV
  | [], ks, vs => some (.dk ks vs)
  | x :: r, ks, vs => (pairD x).bind fun p => (kaOf p.1).bind fun k => mkDk r (putK' ks k) (putV ks vs k p.2)
def mkDt : List DV → List (List KA) → List DV → Option DV
  | [], ks, vs => some (.dt ks vs)
  | x :: r, ks, vs => (pairD x).bind fun p => (ktOf p.1).bind fun k => mkDt r (putK' ks k) (putV ks vs k p.2)
/-- a list, or a tuple that has no dict -/
def ltD : DV → Option (List DV)
  | .lst xs => some xs
  | .kl xs => some xs
  | .kt xs => some xs
  | _ => none
/-- what becomes a new cell -/
def primND (p : Pr) (xs : List DV) : Option DV := match p, xs with
  | .list1, [x] => (seqD x).map .lst
  | .sorted, [x] => ((lstD x).bind dsort).map .lst
  | .dict1, [.dk ks vs] => some (.dk ks vs)
  | .dict1, [x] => (ltD x).bind fun xs => mkDk xs [] []
  | .dictT, [x] => (ltD x).bind fun xs => mkDt xs [] []
  | .cat, [.lst a, .lst b] => if a.length + b.length ≤ SL then some (.lst (a ++ b)) else none
  | _, _ => none
/-- x.join(ys) -/
def joinD (s : List Nat) : List (List Nat) → List Nat
  | [] => []
  | [x] => x
  | x :: r => x ++ s ++ joinD s r
def isCell : Cell → Bool
  | .c _ => true
  | .k _ => false
/-- what may be put into the cell n -/
def mayPut (base n : Nat) (d : DV) : Bool := decide (base ≤ n) || noRef d
def recvOk (p : Mt) (d : DV) : Bool := match p, d with
  | .append, .lst _ => true
  | .pop0, .lst _ => true
  | .popAt, .lst _ => true
  | .get1, .dk _ _ => true
  | .get1, .dt _ _ => true
  | .get2, .dk _ _ => true
  | .get2, .dt _ _ => true
  | .join, .str _ => true
  | .extend, .lst _ => true
  | .index, .lst _ => true
  | _, _ => false
def pairs (xs ys : List DV) : List DV := (xs.zip ys).map fun p => .tup [p.1, p.2]
/-! ### sets, by their members in order -/
def kaLe : KA → KA → Bool
  | .inl a, .inl b => decide (a ≤ b)
  | .inr a, .inr b => decide (a ≤ b)
  | .inl _, .inr _ => true
  | .inr _, .inl _ => false
def isNum : KA → Bool
  | .inl _ => true
  | .inr _ => false
/-- each once -/
def ddK {κ : Type} [DecidableEq κ] : List κ → List κ
  | [] => []
  | k :: ks => if k ∈ ks then ddK ks else k :: ddK ks
def keysD (xs : List DV) : Option (List KA) := match xs with
  | [] => some []
  | x :: r => (kaOf x).bind fun k => (keysD r).map (k :: ·)
def oneK (ks : List KA) : Bool := (ks.all isNum || ks.all fun k => !isNum k) && decide (ks.length < 4000)
def unD (u : U1) (d : DV) : Option DV := match u with
  | .rev => (lstD d).map fun xs => .lst xs.reverse
  | .sset => (lstD d).bind fun xs => (keysD xs).bind fun ks => if oneK ks = true then some (.lst (((ddK ks).mergeSort kaLe).map ofKa)) else none
  | .sitems => (match d with
    | .dt ks vs => (dsort (pairs (ks.map fun k => .tup (k.map ofKa)) vs)).map .lst
    | _ => none)
  | .lrng => (match d with
    | .int i => if -(2 ^ 62) ≤ i ∧ i ≤ SL then some (.lst ((List.range i.toNat).map fun (k : Nat) => DV.int (0 + (k : Int)))) else none
    | _ => none)
  | .lset => (lstD d).bind fun xs => (keysD xs).bind fun ks => if oneK ks = true then some (.int (ddK ks).length) else none
def methD (p : Mt) (base : Nat) (o : DV) (xs : List DV) (m : Mem) : Out DV := match p, o, xs with
  | .append, .ref n, [x] => (match m[n]? with
    | some (.c (.lst ys)) => if mayPut base n x && decide (ys.length < SL) then .ok .non (m.set n (.c (.lst (ys ++ [x])))) else .bad
    | _ => .bad)
  | .pop0, .ref n, [] => (match m[n]? with
    | some (.c (.lst ys)) => (match ys.getLast? with
      | some y => .ok y (m.set n (.c (.lst ys.dropLast)))
      | none => .bad)
    | _ => .bad)
  | .popAt, .ref n, [.int i] => (match m[n]? with
    | some (.c (.lst ys)) => (match L2.ixN ys.length i with
      | some j => (match ys[j]? with
        | some y => .ok y (m.set n (.c (.lst (ys.eraseIdx j))))
        | none => .bad)
      | none => .bad)
    | _ => .bad)
  | .extend, .ref n, [x] => (match m[n]?, rs m x with
    | some (.c (.lst ys)), .lst zs => if zs.all (mayPut base n) && decide (ys.length + zs.length ≤ SL) then .ok .non (m.set n (.c (.lst (ys ++ zs)))) else .bad
    | _, _ => .bad)
  | .index, o, [.int i] => (match rs m o with
    | .lst ys => .of ((intsD ys).bind fun ns => (ns.idxOf? i).map fun j => .int (j : Nat)) m
    | _ => .bad)
  | .get1, o, [k] => .of ((dget (rs m o) k).map fun r => r.getD .non) m
  | .get2, o, [k, x] => .of ((dget (rs m o) k).map fun r => r.getD x) m
  | .join, .str s, [x] => .of (((seqD (rs m x)).bind strsD).bind fun ys => if (ys.map (·.length)).sum + ys.length * s.length ≤ SL then some (.str (joinD s ys)) else none) m
  | _, _, _ => .bad
/-- o[i] = x -/
def setD (base : Nat) (o i x : DV) (m : Mem) : Out Unit := match o with
  | .ref n => (match m[n]? with
    | some (.c (.lst ys)) => (match i with
      | .int j => (match L2.ixN ys.length j with
        | some j => if mayPut base n x then .ok () (m.set n (.c (.lst (ys.set j x)))) else .bad
        | none => .bad)
      | _ => .bad)
    | some (.c d) => (match dput d i x with
      | some d' => if mayPut base n x then .ok () (m.set n (.c d')) else .bad
      | none => .bad)
    | _ => .bad)
  | _ => .bad
/-- {k: v, ..}, told k, v, .. -/
def dispD : List DV → List KA → List DV → Option DV
  | [], ks, vs => some (.dk ks vs)
  | k :: v :: r, ks, vs => (kaOf k).bind fun k => dispD r (putK' ks k) (putV ks vs k v)
  | _ :: [], _, _ => none
/-! ### walks -/
def wipeE (env : Env') : List Nat → Env'
  | [] => env
  | v :: vs => (wipeE env vs).set v none
def enumD (n : Nat) : List DV → List DV
  | [] => []
  | x :: xs => .tup [.int n, x] :: enumD (n + 1) xs
/-- what is walked: a fixed thing, or a cell that is locked -/
def wk (m : Mem) (d : DV) : Option DV := match d with
  | .ref n => (match m[n]? with
    | some (.k d) => some d
    | _ => none)
  | d => some d
def walkSeq (d : DV) : Option (List DV) := match d with
  | .lst xs => some xs
  | .tup xs => some xs
  | .kt xs => some xs
  | .kl xs => some xs
  | .str s => some (s.map fun c => .str [c])
  | _ => none
def walkKeys (d : DV) : Option (List DV) := match d with
  | .dk ks _ => some (ks.map ofKa)
  | .dt ks _ => some (ks.map fun k => .tup (k.map ofKa))
  | _ => none
def walkItems (d : DV) : Option (List DV) := match d with
  | .dk ks vs => some (pairs (ks.map ofKa) vs)
  | .dt ks vs => some (pairs (ks.map fun k => .tup (k.map ofKa)) vs)
  | _ => none
/-- two lists, or two tuples -/
def zipD (x y : DV) : Option (List DV) := match lstD x, lstD y with
  | some xs, some ys => some (pairs xs ys)
  | none, none => (seqD x).bind fun xs => (seqD y).map fun ys => pairs xs ys
  | _, _ => none
/-- the variable's thing is locked: the cell, the memory then -/
def lockV (env : Env') (lk : Option Nat) (m : Mem) : Option (Option Nat × Mem) := match lk with
  | none => some (none, m)
  | some i => (match env[i]? with
    | some (some (.ref n)) => (match m[n]? with
      | some (.c d) => some (some n, m.set n (.k d))
      | some (.k _) => some (none, m)
      | none => none)
    | some (some _) => some (none, m)
    | _ => none)
def unlockM (o : Option Nat) (m : Mem) : Mem := match o with
  | none => m
  | some n => (match m[n]? with
    | some (.k d) => m.set n (.c d)
    | _ => m)
def compLoop (asg : DV → Mem → Out Env') (test : Env' → Mem → Out Bool) (el : Env' → Mem → Out DV) : List DV → List DV → Mem → Out (List DV)
  | [], acc, m => .ok acc m
  | d :: ds, acc, m => (asg d m).bind fun env m1 => (test env m1).bind fun c m2 =>
    if c = true then (el env m2).bind fun v m3 => compLoop asg test el ds (acc ++ [v]) m3 else compLoop asg test el ds acc m2
/-- a comprehension lets no exception out -/
def Out.noExc {α : Type} (o : Out α) : Out α := match o with
  | .exc _ _ => .bad
  | o => o


/-! ### the evaluator: F calls the defs -/
section
variable (F : Nat → List DV → Nat → Mem → Out DV) (cs : List DV) (base : Nat)
mutual
def evE (env : Env') : Ex → Mem → Out DV
  | .var i, m => (match env[i]? with
    | some (some d) => .ok d m
    | _ => .bad)
  | .int i, m => .ok (.int i) m
  | .str s, m => .ok (.str s) m
  | .bl b, m => .ok (.bl b) m
  | .non, m => .ok .non m
  | .con g, m => .of cs[g]? m
  | .bin o a b, m => (evE env a m).bind fun x m => (evE env b m).bind fun y m => .of (op2 o x y) m
  | .neg a, m => (evE env a m).bind fun x m => (match x with
    | .int i => .ok (.int (-i)) m
    | _ => .bad)
  | .cmp c a b, m => (evE env a m).bind fun x m => (evE env b m).bind fun y m => .of ((cmpD c (rs m x) (rs m y)).map .bl) m
  | .chain c1 c2 a b c, m => (evE env a m).bind fun x m => (evE env b m).bind fun y m => (Out.of (cmpD c1 (rs m x) (rs m y)) m).bind fun k m =>
      if k = true then (evE env c m).bind fun z m => .of ((cmpD c2 (rs m y) (rs m z)).map .bl) m else .ok (.bl false) m
  | .and a b, m => (evE env a m).bind fun x m => (match x with
    | .bl k => if k = true then evE env b m else .ok (.bl false) m
    | _ => .bad)
  | .or a b, m => (evE env a m).bind fun x m => (match x with
    | .bl k => if k = true then .ok (.bl true) m else evE env b m
    | _ => .bad)
  | .not a, m => (evE env a m).bind fun x m => .of ((truD (rs m x)).map fun k => .bl (!k)) m
  | .ite c a b, m => (evT env c m).bind fun k m => if k = true then evE env a m else evE env b m
  | .tup es, m => (evEs env es m).bind fun xs m => .ok (.tup xs) m
  | .tupK es, m => (evEs env es m).bind fun xs m => .ok (.kt xs) m
  | .lst es, m => (evEs env es m).bind fun xs m => .ok (.lst xs) m
  | .lstM es, m => (evEs env es m).bind fun xs m => .ok (.ref m.length) (m ++ [.c (.lst xs)])
  | .dnew t, m => .ok (.ref m.length) (m ++ [.c (if t = true then .dt [] [] else .dk [] [])])
  | .dispM es, m => (evEs env es m).bind fun xs m => (Out.of (dispD xs [] []) m).bind fun d m => .ok (.ref m.length) (m ++ [.c d])
  | .sub a i, m => (evE env a m).bind fun x m => (evE env i m).bind fun y m => .of (subD (rs m x) y) m
  | .slice a lo hi, m => (evE env a m).bind fun x m => (evO env lo m).bind fun l m => (evO env hi m).bind fun h m => .of (sliceD (rs m x) l h) m
  | .call f es, m => (evEs env es m).bind fun xs m => F f xs base m
  | .prim p es, m => (evEs env es m).bind fun xs m => .of (primD p (xs.map (rs m))) m
  | .primM p es, m => (evEs env es m).bind fun xs m => (Out.of (primND p (xs.map (rs m))) m).bind fun d m => .ok (.ref m.length) (m ++ [.c d])
  | .isi a t ts, m => (evE env a m).bind fun x m => .of ((isiD (t :: ts) (rs m x)).map .bl) m
  | .meth p a es, m => (evE env a m).bind fun x m => if recvOk p (rs m x) = true then (evEs env es m).bind fun xs m => methD p base x xs m else .bad
  | .un1 u a, m => (evE env a m).bind fun x m => .of (unD u (rs m x)) m
  | .step a k, m => (evE env a m).bind fun x m => .of (stepD k (rs m x)) m
  | .comp lk cell own t it tests el, m => (match lockV env lk m with
    | some (o, m) => (((evI env it m).bind fun w m => compLoop (fun d m => asgT (wipeE env own) t d m) (fun env m => evTs env tests m) (fun env m => evE env el m) w [] m).noExc.bind fun xs m =>
        if cell = true then .ok (.ref m.length) (m ++ [.c (.lst xs)]) else .ok (.lst xs) m).bind fun d m => .ok d (unlockM o m)
    | none => .bad)
def evEs (env : Env') : List Ex → Mem → Out (List DV)
  | [], m => .ok [] m
  | e :: es, m => (evE env e m).bind fun x m => (evEs env es m).bind fun xs m => .ok (x :: xs) m
def evO (env : Env') : Option Ex → Mem → Out (Option Int)
  | none, m => .ok none m
  | some e, m => (evE env e m).bind fun x m => (match x with
    | .int i => .ok (some i) m
    | _ => .bad)
def evT (env : Env') : Ts → Mem → Out Bool
  | .val e, m => (evE env e m).bind fun x m => .of (truD (rs m x)) m
  | .not t, m => (evT env t m).bind fun k m => .ok (!k) m
  | .and a b, m => (evT env a m).bind fun k m => if k = true then evT env b m else .ok false m
  | .or a b, m => (evT env a m).bind fun k m => if k = true then .ok true m else evT env b m
def evTs (env : Env') : List Ts → Mem → Out Bool
  | [], m => .ok true m
  | t :: ts, m => (evT env t m).bind fun k m => if k = true then evTs env ts m else .ok false m
def evI (env : Env') : Itx → Mem → Out (List DV)
  | .seq e, m => (evE env e m).bind fun x m => .of ((wk m x).bind walkSeq) m
  | .rng1 e, m => (evE env e m).bind fun x m => (match x with
    | .int i => if -(2 ^ 62) ≤ i ∧ i ≤ SL then .ok ((List.range i.toNat).map fun (k : Nat) => DV.int (0 + (k : Int))) m else .bad
    | _ => .bad)
  | .rng2 a b, m => (evE env a m).bind fun x m => (evE env b m).bind fun y m => (match x, y with
    | .int i, .int j => if -(2 ^ 62) ≤ i ∧ i < 2 ^ 62 ∧ -(2 ^ 62) ≤ j ∧ j < 2 ^ 62 ∧ j - i ≤ SL then .ok ((List.range (j - i).toNat).map fun (k : Nat) => DV.int (i + (k : Int))) m else .bad
    | _, _ => .bad)
  | .rngd a b, m => (evE env a m).bind fun x m => (evE env b m).bind fun y m => (match x, y with
    | .int i, .int j => if -(2 ^ 62) ≤ i ∧ i < 2 ^ 62 ∧ -(2 ^ 62) ≤ j ∧ j < 2 ^ 62 ∧ i - j ≤ SL then .ok ((List.range (i - j).toNat).map fun (k : Nat) => DV.int (i - (k : Int))) m else .bad
    | _, _ => .bad)
  | .enum e, m => (evE env e m).bind fun x m => .of (((wk m x).bind seqD).map (enumD 0)) m
  | .zip a b, m => (evE env a m).bind fun x m => (evE env b m).bind fun y m => .of ((wk m x).bind fun x => (wk m y).bind fun y => zipD x y) m
  | .items e, m => (evE env e m).bind fun x m => .of ((wk m x).bind walkItems) m
  | .keys e, m => (evE env e m).bind fun x m => .of ((wk m x).bind walkKeys) m
  | .rev e, m => (evE env e m).bind fun x m => .of (((wk m x).bind seqD).map List.reverse) m
def asgT (env : Env') : Ta → DV → Mem → Out Env'
  | .v i, d, m => if i < env.length then .ok (env.set i (some d)) m else .bad
  | .sub o i, d, m => (evE env o m).bind fun x m => (evE env i m).bind fun y m => (setD base x y d m).bind fun _ m => .ok env m
  | .t ts, d, m => (match d with
    | .tup xs => if xs.length = ts.length then asgTs env ts xs m else .bad
    | .kt xs => if xs.length = ts.length then asgTs env ts xs m else .bad
    | _ => .bad)
def asgTs (env : Env') : List Ta → List DV → Mem → Out Env'
  | [], _, m => .ok env m
  | t :: ts, x :: xs, m => (asgT env t x m).bind fun env m => asgTs env ts xs m
  | _ :: _, [], _ => .bad
end
/-! ### statements -/
def SO.then (o : SO) (f : Env' → Mem → SO) : SO := match o with
  | .nx env m => f env m
  | o => o
def Out.so {α : Type} (o : Out α) (f : α → Mem → SO) : SO := match o with
  | .ok a m => f a m
  | .exc x m => .ex x m
  | .bad => .bad
def forLoop (asg : Env' → DV → Mem → Out Env') (body : Env' → Mem → SO) : List DV → Env' → Mem → SO
  | [], env, m => .nx env m
  | d :: ds, env, m => (asg env d m).so fun env m => (match body env m with
    | .nx env m => forLoop asg body ds env m
    | .ct env m => forLoop asg body ds env m
    | .bk env m => .nx env m
    | o => o)
def SO.mapM (o : SO) (f : Mem → Mem) : SO := match o with
  | .nx env m => .nx env (f m)
  | .rt d m => .rt d (f m)
  | .bk env m => .bk env (f m)
  | .ct env m => .ct env (f m)
  | .ex x m => .ex x (f m)
  | .bad => .bad
def whLoop (test : Env' → Mem → Out Bool) (body : Env' → Mem → SO) : Nat → Env' → Mem → SO
  | 0, _, _ => .bad
  | n + 1, env, m => (test env m).so fun k m => if k = true then (match body env m with
    | .nx env m => whLoop test body n env m
    | .ct env m => whLoop test body n env m
    | .bk env m => .nx env m
    | o => o) else .nx env m
/-- more turns than any while here takes -/
def WF : Nat := 1000000000000
def parSet (env : Env') : List Nat → List DV → Option Env'
  | [], [] => some env
  | i :: is, x :: xs => if i < env.length then parSet (env.set i (some x)) is xs else none
  | _, _ => none
mutual
def evS (env : Env') : Sm → Mem → SO
  | .asg t e, m => (evE F cs base env e m).so fun x m => (asgT F cs base env t x m).so fun env m => .nx env m
  | .par is es, m => (evEs F cs base env es m).so fun xs m => (match parSet env is xs with
    | some env => .nx env m
    | none => .bad)
  | .aug i o e, m => (match env[i]? with
    | some (some x) => (evE F cs base env e m).so fun y m => (match opI o x y with
      | some z => .nx (env.set i (some z)) m
      | none => .bad)
    | _ => .bad)
  | .augS o i op e, m => (evE F cs base env o m).so fun x m => (evE F cs base env i m).so fun y m => (match getD2 (rs m x) y with
    | some v => (evE F cs base env e m).so fun z m => (match opI op v z with
      | some u => (setD base x y u m).so fun _ m => .nx env m
      | none => .bad)
    | none => .bad)
  | .ex e, m => (evE F cs base env e m).so fun _ m => .nx env m
  | .ite c a b, m => (evT F cs base env c m).so fun k m => if k = true then evB env a m else evB env b m
  | .whl c b, m => whLoop (fun env m => evT F cs base env c m) (fun env m => evB env b m) WF env m
  | .for lk t it b, m => (match lockV env lk m with
    | some (o, m) => ((evI F cs base env it m).so fun w m => forLoop (fun env d m => asgT F cs base env t d m) (fun env m => evB env b m) w env m).mapM (unlockM o)
    | none => .bad)
  | .ret e, m => (evE F cs base env e m).so fun x m => .rt x m
  | .retn, m => .rt .non m
  | .brk, m => .bk env m
  | .cont, m => .ct env m
  | .pass, m => .nx env m
def evB (env : Env') : List Sm → Mem → SO
  | [], m => .nx env m
  | s :: ss, m => (evS env s m).then fun env m => evB env ss m
end
end
/-! ### defs -/
structure Fn where
  keep : Bool := false
  np : Nat
  nn : Nat
  body : List Sm
def frz : Nat → Nat → Mem → DV → Option DV
  | 0, _, _, _ => none
  | n + 1, b, m, d => if noRef d = true then some d else match d with
    | .ref k => if k < b then some (.ref k) else (match m[k]? with
      | some (.c x) => frz n b m x
      | _ => none)
    | .tup xs => (xs.mapM (frz n b m)).map .tup
    | .kt xs => (xs.mapM (frz n b m)).map .kt
    | .lst xs => (xs.mapM (frz n b m)).map .lst
    | .dk ks vs => (vs.mapM (frz n b m)).map (.dk ks)
    | .dt ks vs => (vs.mapM (frz n b m)).map (.dt ks)
    | _ => none
/-- behind a def's body: its own cells are gone, what it hands back is fixed -/
def leave (keep : Bool) (b : Nat) (d : DV) (m : Mem) : Out DV :=
  if keep = true then .ok d m else if m.length = b then .ok d m else .of (frz 40 b m d) (m.take b)
def finish (keep : Bool) (b : Nat) : SO → Out DV
  | .nx _ m => leave keep b .non m
  | .rt d m => leave keep b d m
  | _ => .bad
def evCall (cs : List DV) (P : List Fn) : Nat → Nat → List DV → Nat → Mem → Out DV
  | 0, _, _, _, _ => .bad
  | d + 1, f, args, base, m => match P[f]? with
    | none => .bad
    | some fn => if args.length = fn.np then
        finish fn.keep (if fn.keep = true then base else m.length) (evB (evCall cs P d) cs (if fn.keep = true then base else m.length) (args.map some ++ List.replicate (fn.nn - fn.np) none) fn.body m)
      else .bad
end Ev

set_option Elab.async false
set_option linter.all false
set_option maxRecDepth 100000
/-! What the evaluator's data stand for: worlds. -/
namespace Ev
open PySem PySem.Spec PyProof.Rows L2

def toS (s : List Nat) : Str := ⟨s.toArray⟩
theorem toS_inj {a b : List Nat} (h : toS a = toS b) : a = b := by
  have h2 : a.toArray = b.toArray := congrArg Str.cps h
  have h3 := congrArg Array.toList h2
  simpa using h3
def kaK : KA → Key
  | .inl i => .inl i
  | .inr s => .inr (toS s)
theorem kaK_inj : ∀ {a b : KA}, kaK a = kaK b → a = b
  | .inl i, .inl j, h => by rw [Sum.inl.inj h]
  | .inr i, .inr j, h => by rw [toS_inj (Sum.inr.inj h)]
  | .inl i, .inr j, h => nomatch h
  | .inr i, .inl j, h => nomatch h
theorem kaKs_inj : ∀ {a b : List KA}, a.map kaK = b.map kaK → a = b
  | [], [], _ => rfl
  | [], _ :: _, h => nomatch h
  | _ :: _, [], h => nomatch h
  | x :: a, y :: b, h => by
    rw [List.map_cons, List.map_cons] at h
    injection h with h1 h2
    rw [kaK_inj h1, kaKs_inj h2]

def kaZ (k : KA) : Prop := ∀ s, k = .inr s → s.length ≤ SL
/-- not too many keys, none too long -/
def DZ (ks : List KA) : Prop := ks.length ≤ SL ∧ ∀ k ∈ ks, kaZ k
def DZT (ks : List (List KA)) : Prop := ks.length ≤ SL ∧ ∀ k ∈ ks, k.length ≤ SL ∧ ∀ a ∈ k, kaZ a
/-- n: the cells below it are the callers'; L: what is locked -/
structure Bs where
  n : Nat
  L : List (Addr × HO)
  cu : List Nat
  cle : ∀ b ∈ cu, b ≤ n
/-- a tuple that is known to have no dict -/
def NT (K : PySem.W.Frag) (H : Hp) (a : Addr) (xs : List V) : Prop :=
  (∃ o : Obj, H a = some (.frz o (.tup xs)) ∧ o.dict = none) ∨
    ∃ (o : Obj) (its : Array Value) (n : Nat), K.lookup a = some o ∧ o.cls = .type "tuple" ∧ o.dict = none ∧ o.data = .seq its n ∧ its.size ≤ sizeLine ∧ Vals xs its.toList
theorem NT.st {K : PySem.W.Frag} {H : Hp} {a : Addr} {xs : List V} (h : NT K H a xs) : SqT K H a xs := by
  rcases h with ⟨o, e, _⟩ | ⟨o, its, n, hk, hc, _, hs, hz, r⟩
  · exact .inl (.inr ⟨o, e⟩)
  · exact .inr ⟨o, its, n, hk, hc, hs, hz, r⟩
section
variable (K : PySem.W.Frag)
mutual
/-- d stands for v: ρ the cells' addresses, R what is fixed -/
def Rl (ρ : List Addr) (R : Hp) : DV → V → Prop
  | .non, v => v = V.non
  | .bl b, v => v = V.bl b
  | .int i, v => v = V.int i
  | .str s, v => s.length ≤ SL ∧ v = V.str (toS s)
  | .tup ds, v => ds.length ≤ SL ∧ ∃ a vs, v = V.ref a ∧ R a = some (.tup vs) ∧ Rls ρ R ds vs
  | .kt ds, v => ds.length ≤ SL ∧ ∃ a vs, v = V.ref a ∧ NT K R a vs ∧ Rls ρ R ds vs
  | .lst ds, v => ds.length ≤ SL ∧ ∃ a vs, v = V.ref a ∧ Rd R a (.lst vs) ∧ Rls ρ R ds vs
  | .kl ds, v => ds.length ≤ SL ∧ ∃ a vs, v = V.ref a ∧ SqL K R a vs ∧ Rls ρ R ds vs
  | .dk ks ds, v => DZ ks ∧ ∃ a kvs, v = V.ref a ∧ Rd R a (.dK kvs) ∧ kvs.map (·.1) = ks.map kaK ∧ Rls ρ R ds (kvs.map (·.2))
  | .dt ks ds, v => DZT ks ∧ ∃ a kvs, v = V.ref a ∧ Rd R a (.dT kvs) ∧ kvs.map (·.1) = ks.map (List.map kaK) ∧ Rls ρ R ds (kvs.map (·.2))
  | .ref n, v => ∃ a, ρ[n]? = some a ∧ v = V.ref a
def Rls (ρ : List Addr) (R : Hp) : List DV → List V → Prop
  | [], vs => vs = []
  | d :: ds, vs => ∃ v r, vs = v :: r ∧ Rl ρ R d v ∧ Rls ρ R ds r
end
/-- a cell's content d stands in the object o -/
def CoR (ρ : List Addr) (R : Hp) (d : DV) (o : HO) : Prop := match d with
  | .lst ds => ds.length ≤ SL ∧ ∃ vs, o = .lst vs ∧ Rls K ρ R ds vs
  | .dk ks ds => DZ ks ∧ ∃ kvs, o = .dK kvs ∧ kvs.map (·.1) = ks.map kaK ∧ Rls K ρ R ds (kvs.map (·.2))
  | .dt ks ds => DZT ks ∧ ∃ kvs, o = .dT kvs ∧ kvs.map (·.1) = ks.map (List.map kaK) ∧ Rls K ρ R ds (kvs.map (·.2))
  | _ => False
def CR (ρ : List Addr) (R H : Hp) (a : Addr) (c : Cell) : Prop := match c with
  | .c d => ∃ o, H a = some o ∧ CoR K ρ R d o
  | .k d => ∃ ob o, H a = some (.frz ob o) ∧ CoR K ρ R d o
structure WR (base : Bs) (ρ : List Addr) (R : Hp) (m : Mem) (H : Hp) : Prop where
  len : ρ.length = m.length
  nd : ρ.Nodup
  sub : ∀ a o, R a = some o → H a = some o
  own : ∀ a, a ∈ ρ → R a = none
  cel : ∀ (n : Nat) (a : Addr) (c : Cell), ρ[n]? = some a → m[n]? = some c → CR K ρ R H a c
  low : ∀ (b n : Nat) (c : Cell), b ∈ base.cu → n < b → m[n]? = some c → refsBelow b c.d = true
  bas : base.n ≤ m.length
  lk : ∀ p ∈ base.L, H p.1 = some p.2 ∧ ((∃ ob u, p.2 = .frz ob u) ∨ ((∀ xs, p.2 ≠ .tup xs) ∧ p.1 ∉ ρ ∧ R p.1 = none))
  kin : ∀ (n : Nat) (a : Addr) (d : DV), ρ[n]? = some a → m[n]? = some (.k d) → ∃ o, (a, o) ∈ base.L
end
structure Xt (ρ : List Addr) (R : Hp) (ρ' : List Addr) (R' : Hp) : Prop where
  pre : ∃ l, ρ' = ρ ++ l
  sub : ∀ a o, R a = some o → R' a = some o ∨ ((∃ ob, R' a = some (.frz ob o)) ∧ Mut (some o))
theorem Xt.of {ρ : List Addr} {R R' : Hp} (l : List Addr) (h : ∀ a o, R a = some o → R' a = some o) : Xt ρ R (ρ ++ l) R' := ⟨⟨l, rfl⟩, fun a o e => .inl (h a o e)⟩
theorem Xt.refl {ρ : List Addr} {R : Hp} : Xt ρ R ρ R := ⟨⟨[], (List.append_nil _).symm⟩, fun _ _ h => .inl h⟩
theorem Xt.trans {ρ ρ1 ρ2 : List Addr} {R R1 R2 : Hp} (a : Xt ρ R ρ1 R1) (b : Xt ρ1 R1 ρ2 R2) : Xt ρ R ρ2 R2 := by
  obtain ⟨l1, e1⟩ := a.pre
  obtain ⟨l2, e2⟩ := b.pre
  refine ⟨⟨l1 ++ l2, by rw [e2, e1, List.append_assoc]⟩, fun x o h => ?_⟩
  rcases a.sub x o h with h | ⟨⟨ob, h⟩, mu⟩
  · exact b.sub x o h
  · rcases b.sub x _ h with h | ⟨_, mu'⟩
    · exact .inr ⟨⟨ob, h⟩, mu⟩
    · exact (show False from mu').elim
theorem Xt.fast {ρ ρ1 : List Addr} {R R1 : Hp} (x : Xt ρ R ρ1 R1) {a : Addr} {o : HO} (h : R a = some o) (hm : ¬ Mut (some o)) : R1 a = some o := (x.sub a o h).elim id fun z => absurd z.2 hm
theorem Xt.get {ρ ρ1 : List Addr} {R R1 : Hp} (x : Xt ρ R ρ1 R1) {n : Nat} {a : Addr} (h : ρ[n]? = some a) : ρ1[n]? = some a := by
  obtain ⟨l, e⟩ := x.pre
  rw [e, List.getElem?_append_left (List.getElem?_eq_some_iff.mp h).1]
  exact h
theorem Xt.rd {ρ ρ1 : List Addr} {R R1 : Hp} (x : Xt ρ R ρ1 R1) {a : Addr} {u : HO} (h : Rd R a u) : Rd R1 a u := by
  rcases h with h | ⟨o, h⟩
  · rcases x.sub _ _ h with h | ⟨⟨o, h⟩, _⟩
    · exact .inl h
    · exact .inr ⟨o, h⟩
  · exact .inr ⟨o, x.fast h (fun z => z)⟩

section
variable {K : PySem.W.Frag} {ρ ρ' : List Addr} {R R' : Hp}
theorem Xt.sl (x : Xt ρ R ρ' R') {a : Addr} {xs : List V} (h : SqL K R a xs) : SqL K R' a xs := by
  rcases h with h | h
  · exact .inl (x.rd h)
  · exact .inr h
theorem Xt.nt (x : Xt ρ R ρ' R') {a : Addr} {xs : List V} (h : NT K R a xs) : NT K R' a xs := by
  rcases h with ⟨o, e, hd⟩ | h
  · exact .inl ⟨o, x.fast e (fun z => z), hd⟩
  · exact .inr h
theorem Xt.st (x : Xt ρ R ρ' R') {a : Addr} {xs : List V} (h : SqT K R a xs) : SqT K R' a xs := by
  rcases h with h | h
  · exact .inl (x.rd h)
  · exact .inr h
mutual
theorem Rl.mono (x : Xt ρ R ρ' R') : ∀ {d : DV} {v : V}, Rl K ρ R d v → Rl K ρ' R' d v
  | .non, _, h => by rw [Rl] at h ⊢; exact h
  | .bl _, _, h => by rw [Rl] at h ⊢; exact h
  | .int _, _, h => by rw [Rl] at h ⊢; exact h
  | .str _, _, h => by rw [Rl] at h ⊢; exact h
  | .tup ds, _, h => by rw [Rl] at h ⊢; obtain ⟨z, a, vs, e, q, r⟩ := h; exact ⟨z, a, vs, e, x.fast q (fun z => z), Rls.mono x r⟩
  | .kt ds, _, h => by rw [Rl] at h ⊢; obtain ⟨z, a, vs, e, q, r⟩ := h; exact ⟨z, a, vs, e, x.nt q, Rls.mono x r⟩
  | .kl ds, _, h => by rw [Rl] at h ⊢; obtain ⟨z, a, vs, e, q, r⟩ := h; exact ⟨z, a, vs, e, x.sl q, Rls.mono x r⟩
  | .lst ds, _, h => by rw [Rl] at h ⊢; obtain ⟨z, a, vs, e, q, r⟩ := h; exact ⟨z, a, vs, e, x.rd q, Rls.mono x r⟩
  | .dk ks ds, _, h => by rw [Rl] at h ⊢; obtain ⟨z, a, vs, e, q, k, r⟩ := h; exact ⟨z, a, vs, e, x.rd q, k, Rls.mono x r⟩
  | .dt ks ds, _, h => by rw [Rl] at h ⊢; obtain ⟨z, a, vs, e, q, k, r⟩ := h; exact ⟨z, a, vs, e, x.rd q, k, Rls.mono x r⟩
  | .ref n, _, h => by rw [Rl] at h ⊢; obtain ⟨a, q, r⟩ := h; exact ⟨a, x.get q, r⟩
theorem Rls.mono (x : Xt ρ R ρ' R') : ∀ {ds : List DV} {vs : List V}, Rls K ρ R ds vs → Rls K ρ' R' ds vs
  | [], _, h => by rw [Rls] at h ⊢; exact h
  | d :: ds, _, h => by rw [Rls] at h ⊢; obtain ⟨v, r, e, q, t⟩ := h; exact ⟨v, r, e, Rl.mono x q, Rls.mono x t⟩
end
theorem CoR.mono (x : Xt ρ R ρ' R') : ∀ {d : DV} {o : HO}, CoR K ρ R d o → CoR K ρ' R' d o
  | .lst ds, _, ⟨z, vs, e, r⟩ => ⟨z, vs, e, r.mono x⟩
  | .dk ks ds, _, ⟨z, vs, e, k, r⟩ => ⟨z, vs, e, k, r.mono x⟩
  | .dt ks ds, _, ⟨z, vs, e, k, r⟩ => ⟨z, vs, e, k, r.mono x⟩
  | .non, _, h | .bl _, _, h | .int _, _, h | .str _, _, h | .tup _, _, h | .kt _, _, h | .kl _, _, h | .ref _, _, h => h.elim
/-! ### lists of data -/
theorem Rls.nil_iff {vs : List V} : Rls K ρ R [] vs ↔ vs = [] := by rw [Rls]
theorem Rls.cons_iff {d : DV} {ds : List DV} {vs : List V} : Rls K ρ R (d :: ds) vs ↔ ∃ v r, vs = v :: r ∧ Rl K ρ R d v ∧ Rls K ρ R ds r := by rw [Rls]
theorem Rls.cons {d : DV} {ds : List DV} {v : V} {r : List V} (h : Rl K ρ R d v) (t : Rls K ρ R ds r) : Rls K ρ R (d :: ds) (v :: r) := Rls.cons_iff.mpr ⟨v, r, rfl, h, t⟩
theorem Rls.nil : Rls K ρ R [] [] := Rls.nil_iff.mpr rfl
theorem Rls.length : ∀ {ds : List DV} {vs : List V}, Rls K ρ R ds vs → vs.length = ds.length
  | [], _, h => by rw [Rls.nil_iff.mp h]; rfl
  | d :: ds, _, h => by
    obtain ⟨v, r, e, _, t⟩ := Rls.cons_iff.mp h
    rw [e, List.length_cons, List.length_cons, t.length]
theorem Rls.get : ∀ {ds : List DV} {vs : List V} {i : Nat} {d : DV}, Rls K ρ R ds vs → ds[i]? = some d → ∃ v, vs[i]? = some v ∧ Rl K ρ R d v
  | [], _, _, _, _, e => by simp at e
  | d :: ds, _, 0, x, h, e => by
    obtain ⟨v, r, e1, q, _⟩ := Rls.cons_iff.mp h
    simp at e
    subst e e1
    exact ⟨v, rfl, q⟩
  | d :: ds, _, i + 1, x, h, e => by
    obtain ⟨v, r, e1, _, t⟩ := Rls.cons_iff.mp h
    subst e1
    obtain ⟨u, h1, h2⟩ := Rls.get (i := i) t (by simpa using e)
    exact ⟨u, by simpa using h1, h2⟩
theorem Rls.append : ∀ {ds es : List DV} {vs ws : List V}, Rls K ρ R ds vs → Rls K ρ R es ws → Rls K ρ R (ds ++ es) (vs ++ ws)
  | [], _, _, _, h, q => by rw [Rls.nil_iff.mp h]; exact q
  | d :: ds, _, _, _, h, q => by
    obtain ⟨v, r, e, a, t⟩ := Rls.cons_iff.mp h
    subst e
    exact Rls.cons a (Rls.append t q)
theorem Rls.take : ∀ {ds : List DV} {vs : List V} (n : Nat), Rls K ρ R ds vs → Rls K ρ R (ds.take n) (vs.take n)
  | _, _, 0, _ => Rls.nil
  | [], _, n + 1, h => by rw [Rls.nil_iff.mp h]; exact Rls.nil
  | d :: ds, _, n + 1, h => by
    obtain ⟨v, r, e, a, t⟩ := Rls.cons_iff.mp h
    subst e
    exact Rls.cons a (Rls.take n t)
theorem Rls.drop : ∀ {ds : List DV} {vs : List V} (n : Nat), Rls K ρ R ds vs → Rls K ρ R (ds.drop n) (vs.drop n)
  | _, _, 0, h => h
  | [], _, n + 1, h => by rw [Rls.nil_iff.mp h]; exact Rls.nil
  | d :: ds, _, n + 1, h => by
    obtain ⟨v, r, e, a, t⟩ := Rls.cons_iff.mp h
    subst e
    exact Rls.drop n t
theorem Rls.set {x : DV} {u : V} (q : Rl K ρ R x u) : ∀ {ds : List DV} {vs : List V} (i : Nat), Rls K ρ R ds vs → Rls K ρ R (ds.set i x) (vs.set i u)
  | [], _, _, h => by rw [Rls.nil_iff.mp h]; exact Rls.nil
  | d :: ds, _, 0, h => by
    obtain ⟨v, r, e, a, t⟩ := Rls.cons_iff.mp h
    subst e
    exact Rls.cons q t
  | d :: ds, _, i + 1, h => by
    obtain ⟨v, r, e, a, t⟩ := Rls.cons_iff.mp h
    subst e
    exact Rls.cons a (Rls.set q i t)
theorem Rls.eraseIdx : ∀ {ds : List DV} {vs : List V} (i : Nat), Rls K ρ R ds vs → Rls K ρ R (ds.eraseIdx i) (vs.eraseIdx i)
  | [], _, _, h => by rw [Rls.nil_iff.mp h]; exact Rls.nil
  | d :: ds, _, 0, h => by
    obtain ⟨v, r, e, a, t⟩ := Rls.cons_iff.mp h
    subst e
    exact t
  | d :: ds, _, i + 1, h => by
    obtain ⟨v, r, e, a, t⟩ := Rls.cons_iff.mp h
    subst e
    exact Rls.cons a (Rls.eraseIdx i t)
theorem Rls.dropLast {ds : List DV} {vs : List V} (h : Rls K ρ R ds vs) : Rls K ρ R ds.dropLast vs.dropLast := by
  rw [List.dropLast_eq_take, List.dropLast_eq_take, h.length]
  exact h.take _
theorem Rls.reverse : ∀ {ds : List DV} {vs : List V}, Rls K ρ R ds vs → Rls K ρ R ds.reverse vs.reverse
  | [], _, h => by rw [Rls.nil_iff.mp h]; exact Rls.nil
  | d :: ds, _, h => by
    obtain ⟨v, r, e, a, t⟩ := Rls.cons_iff.mp h
    subst e
    rw [List.reverse_cons, List.reverse_cons]
    exact (Rls.reverse t).append (Rls.cons a Rls.nil)
theorem Rls.mem : ∀ {ds : List DV} {vs : List V} {v : V}, Rls K ρ R ds vs → v ∈ vs → ∃ d ∈ ds, Rl K ρ R d v
  | [], _, _, h, e => by rw [Rls.nil_iff.mp h] at e; simp at e
  | d :: ds, _, x, h, e => by
    obtain ⟨v, r, e1, a, t⟩ := Rls.cons_iff.mp h
    subst e1
    rcases List.mem_cons.mp e with rfl | e
    · exact ⟨d, List.mem_cons_self, a⟩
    · obtain ⟨d', h1, h2⟩ := Rls.mem t e
      exact ⟨d', List.mem_cons_of_mem _ h1, h2⟩
/-! ### what names no cell -/
mutual
theorem Rl.below : ∀ {d : DV} {v : V}, Rl K ρ R d v → refsBelow ρ.length d = true
  | .non, _, h => by simp [refsBelow]
  | .bl _, _, h => by simp [refsBelow]
  | .int _, _, h => by simp [refsBelow]
  | .str _, _, h => by simp [refsBelow]
  | .tup ds, _, h => by rw [Rl] at h; obtain ⟨z, a, vs, e, q, r⟩ := h; rw [refsBelow]; exact Rls.below r
  | .kt ds, _, h => by rw [Rl] at h; obtain ⟨z, a, vs, e, q, r⟩ := h; rw [refsBelow]; exact Rls.below r
  | .kl ds, _, h => by rw [Rl] at h; obtain ⟨z, a, vs, e, q, r⟩ := h; rw [refsBelow]; exact Rls.below r
  | .lst ds, _, h => by rw [Rl] at h; obtain ⟨z, a, vs, e, q, r⟩ := h; rw [refsBelow]; exact Rls.below r
  | .dk ks ds, _, h => by rw [Rl] at h; obtain ⟨z, a, vs, e, q, k, r⟩ := h; rw [refsBelow]; exact Rls.below r
  | .dt ks ds, _, h => by rw [Rl] at h; obtain ⟨z, a, vs, e, q, k, r⟩ := h; rw [refsBelow]; exact Rls.below r
  | .ref n, _, h => by rw [Rl] at h; obtain ⟨a, q, r⟩ := h; rw [refsBelow]; exact decide_eq_true (List.getElem?_eq_some_iff.mp q).1
theorem Rls.below : ∀ {ds : List DV} {vs : List V}, Rls K ρ R ds vs → refsBelows ρ.length ds = true
  | [], _, h => by simp [refsBelows]
  | d :: ds, _, h => by rw [Rls] at h; obtain ⟨v, r, e, q, t⟩ := h; rw [refsBelows, Rl.below q, Rls.below t]; rfl
end
theorem CoR.below {d : DV} {o : HO} (h : CoR K ρ R d o) : refsBelow ρ.length d = true := by
  cases d with
  | lst ds => obtain ⟨z, vs, e, r⟩ := h; rw [refsBelow]; exact r.below
  | dk ks ds => obtain ⟨z, vs, e, k, r⟩ := h; rw [refsBelow]; exact r.below
  | dt ks ds => obtain ⟨z, vs, e, k, r⟩ := h; rw [refsBelow]; exact r.below
  | _ => exact (show False from h).elim
mutual
theorem below_of_noRef (b : Nat) : ∀ {d : DV}, noRef d = true → refsBelow b d = true
  | .non, _ => by simp [refsBelow]
  | .bl _, _ => by simp [refsBelow]
  | .int _, _ => by simp [refsBelow]
  | .str _, _ => by simp [refsBelow]
  | .tup ds, h => by rw [noRef] at h; rw [refsBelow]; exact belows_of_noRefs b h
  | .kt ds, h => by rw [noRef] at h; rw [refsBelow]; exact belows_of_noRefs b h
  | .kl ds, h => by rw [noRef] at h; rw [refsBelow]; exact belows_of_noRefs b h
  | .lst ds, h => by rw [noRef] at h; rw [refsBelow]; exact belows_of_noRefs b h
  | .dk ks ds, h => by rw [noRef] at h; rw [refsBelow]; exact belows_of_noRefs b h
  | .dt ks ds, h => by rw [noRef] at h; rw [refsBelow]; exact belows_of_noRefs b h
  | .ref n, h => by simp [noRef] at h
theorem belows_of_noRefs (b : Nat) : ∀ {ds : List DV}, noRefs ds = true → refsBelows b ds = true
  | [], _ => by simp [refsBelows]
  | d :: ds, h => by
    rw [noRefs, Bool.and_eq_true] at h
    rw [refsBelows, below_of_noRef b h.1, belows_of_noRefs b h.2]
    rfl
end
mutual
/-- with fewer cells, where none of these is named -/
theorem Rl.cut {n : Nat} : ∀ {d : DV} {v : V}, Rl K ρ R d v → refsBelow n d = true → Rl K (ρ.take n) R d v
  | .non, _, h, _ => by rw [Rl] at h ⊢; exact h
  | .bl _, _, h, _ => by rw [Rl] at h ⊢; exact h
  | .int _, _, h, _ => by rw [Rl] at h ⊢; exact h
  | .str _, _, h, _ => by rw [Rl] at h ⊢; exact h
  | .tup ds, _, h, b => by rw [refsBelow] at b; rw [Rl] at h ⊢; obtain ⟨z, a, vs, e, q, r⟩ := h; exact ⟨z, a, vs, e, q, Rls.cut r b⟩
  | .kt ds, _, h, b => by rw [refsBelow] at b; rw [Rl] at h ⊢; obtain ⟨z, a, vs, e, q, r⟩ := h; exact ⟨z, a, vs, e, q, Rls.cut r b⟩
  | .kl ds, _, h, b => by rw [refsBelow] at b; rw [Rl] at h ⊢; obtain ⟨z, a, vs, e, q, r⟩ := h; exact ⟨z, a, vs, e, q, Rls.cut r b⟩
  | .lst ds, _, h, b => by rw [refsBelow] at b; rw [Rl] at h ⊢; obtain ⟨z, a, vs, e, q, r⟩ := h; exact ⟨z, a, vs, e, q, Rls.cut r b⟩
  | .dk ks ds, _, h, b => by rw [refsBelow] at b; rw [Rl] at h ⊢; obtain ⟨z, a, vs, e, q, k, r⟩ := h; exact ⟨z, a, vs, e, q, k, Rls.cut r b⟩
  | .dt ks ds, _, h, b => by rw [refsBelow] at b; rw [Rl] at h ⊢; obtain ⟨z, a, vs, e, q, k, r⟩ := h; exact ⟨z, a, vs, e, q, k, Rls.cut r b⟩
  | .ref k, _, h, b => by
    rw [refsBelow] at b; rw [Rl] at h ⊢; obtain ⟨a, q, r⟩ := h
    refine ⟨a, ?_, r⟩
    rw [List.getElem?_take_of_lt (of_decide_eq_true b)]
    exact q
theorem Rls.cut {n : Nat} : ∀ {ds : List DV} {vs : List V}, Rls K ρ R ds vs → refsBelows n ds = true → Rls K (ρ.take n) R ds vs
  | [], _, h, _ => by rw [Rls] at h ⊢; exact h
  | d :: ds, _, h, b => by
    rw [refsBelows, Bool.and_eq_true] at b
    rw [Rls] at h ⊢; obtain ⟨v, r, e, q, t⟩ := h; exact ⟨v, r, e, Rl.cut q b.1, Rls.cut t b.2⟩
end
end
end Ev

set_option Elab.async false
set_option linter.all false
set_option maxRecDepth 100000
/-! Worlds that grow; what a part of the evaluator's answer says of the program; names, constants. -/
namespace Ev
open PySem PySem.Spec PyProof.Rows L2

section
variable {K : PySem.W.Frag} {base : Bs} {ρ ρ' : List Addr} {R R' H : Hp} {m : Mem}
theorem WR.cell_at (w : WR K base ρ R m H) {n : Nat} {a : Addr} (h : ρ[n]? = some a) : ∃ c, m[n]? = some c ∧ CR K ρ R H a c := by
  have hl := (List.getElem?_eq_some_iff.mp h).1
  rw [w.len] at hl
  exact ⟨m[n], List.getElem?_eq_getElem hl, w.cel n a _ h (List.getElem?_eq_getElem hl)⟩
theorem CR.there {a : Addr} {c : Cell} (h : CR K ρ R H a c) : ∃ o, H a = some o := by
  cases c with
  | c d => obtain ⟨o, e, _⟩ := h; exact ⟨o, e⟩
  | k d => obtain ⟨ob, o, e, _⟩ := h; exact ⟨_, e⟩
theorem WR.there (w : WR K base ρ R m H) {a : Addr} (h : a ∈ ρ) : ∃ o, H a = some o := by
  obtain ⟨n, e⟩ := List.mem_iff_getElem?.mp h
  obtain ⟨c, _, hc⟩ := w.cell_at e
  exact hc.there
theorem WR.apart (w : WR K base ρ R m H) {a p : Addr} (h : a ∈ ρ) (hp : H p = none) : a ≠ p := by
  obtain ⟨o, e⟩ := w.there h
  exact ne_of_none e hp
theorem CR.at {H' : Hp} (x : Xt ρ R ρ' R') {a : Addr} {c : Cell} (h : CR K ρ R H a c) (e : H' a = H a) : CR K ρ' R' H' a c := by
  cases c with
  | c d => obtain ⟨o, q, r⟩ := h; exact ⟨o, by rw [e]; exact q, r.mono x⟩
  | k d => obtain ⟨ob, o, q, r⟩ := h; exact ⟨ob, o, by rw [e]; exact q, r.mono x⟩
theorem WR.lk_new (w : WR K base ρ R m H) {p : Addr} (hp : H p = none) {o : HO} (hρ : ∀ x, x ∈ ρ' → x ∈ ρ ∨ x = p) (hR : ∀ x, x ≠ p → R' x = R x) : ∀ q ∈ base.L, (upd H p o) q.1 = some q.2 ∧ ((∃ ob u, q.2 = .frz ob u) ∨ ((∀ xs, q.2 ≠ .tup xs) ∧ q.1 ∉ ρ' ∧ R' q.1 = none)) := fun q hq => by
  obtain ⟨h1, h2⟩ := w.lk q hq
  have hne : q.1 ≠ p := ne_of_none h1 hp
  refine ⟨by rw [upd_ne hne]; exact h1, h2.elim .inl fun ⟨h3, h4, h5⟩ => .inr ⟨h3, fun z => (hρ _ z).elim h4 hne, by rw [hR _ hne]; exact h5⟩⟩
theorem CoR.notFrz {d : DV} {o : HO} (h : CoR K ρ R d o) : ∀ ob u, o ≠ .frz ob u := by
  intro ob u e
  subst e
  cases d with
  | lst ds => obtain ⟨_, _, e, _⟩ := h; cases e
  | dk ks ds => obtain ⟨_, _, e, _⟩ := h; cases e
  | dt ks ds => obtain ⟨_, _, e, _⟩ := h; cases e
  | _ => exact h
/-- what is locked is none of the cells that can be written -/
theorem WR.lk_ne (w : WR K base ρ R m H) {a : Addr} {d : DV} {o : HO} (ha : a ∈ ρ) (hH : H a = some o) (hc : CoR K ρ R d o) : ∀ q ∈ base.L, q.1 ≠ a := fun q hq z => by
  obtain ⟨h1, h2⟩ := w.lk q hq
  rcases h2 with ⟨ob, u, h2⟩ | ⟨_, h3, _⟩
  · rw [z, hH] at h1
    exact hc.notFrz ob u ((Option.some.inj h1).trans h2)
  · exact h3 (z ▸ ha)
/-- a new thing that is fixed at once -/
theorem WR.fix (w : WR K base ρ R m H) {p : Addr} (hp : H p = none) (o : HO) : Xt ρ R ρ (upd R p o) ∧ WR K base ρ (upd R p o) m (upd H p o) := by
  have hR : R p = none := by
    cases e : R p with
    | none => rfl
    | some u => rw [w.sub p u e] at hp; cases hp
  have x : Xt ρ R ρ (upd R p o) := ⟨⟨[], (List.append_nil _).symm⟩, fun a u e => .inl (by rw [upd_ne (ne_of_none e hR)]; exact e)⟩
  refine ⟨x, w.len, w.nd, fun a u e => ?_, fun a ha => ?_, fun n a c h1 h2 => ?_, w.low, w.bas, w.lk_new hp (fun x h => .inl h) (fun x hx => upd_ne hx), w.kin⟩
  · by_cases ha : a = p
    · subst ha; rw [upd_same] at e ⊢; exact e
    · rw [upd_ne ha] at e ⊢; exact w.sub a u e
  · rw [upd_ne (w.apart ha hp)]; exact w.own a ha
  · exact (w.cel n a c h1 h2).at x (upd_ne (w.apart (List.mem_of_getElem? h1) hp))
/-- a new cell -/
theorem WR.new (w : WR K base ρ R m H) {p : Addr} (hp : H p = none) {d : DV} {o : HO} (h : CoR K ρ R d o) : Xt ρ R (ρ ++ [p]) R ∧ WR K base (ρ ++ [p]) R (m ++ [.c d]) (upd H p o) := by
  have x : Xt ρ R (ρ ++ [p]) R := ⟨⟨[p], rfl⟩, fun _ _ e => .inl e⟩
  refine ⟨x, by rw [List.length_append, List.length_append, w.len]; rfl, ?_, fun a u e => ?_, fun a ha => ?_, fun n a c h1 h2 => ?_, fun b n c hb hn h2 => ?_, by rw [List.length_append]; exact Nat.le_add_right_of_le w.bas, w.lk_new hp (fun x h => (List.mem_append.mp h).imp id List.mem_singleton.mp) (fun x hx => rfl), fun n a d h1 h2 => ?_⟩
  · rw [List.nodup_append]
    refine ⟨w.nd, by simp, fun a ha b hb => ?_⟩
    rw [List.mem_singleton.mp hb]
    exact w.apart ha hp
  · have := w.sub a u e
    rw [upd_ne (ne_of_none this hp)]
    exact this
  · rcases List.mem_append.mp ha with ha | ha
    · exact w.own a ha
    · rw [List.mem_singleton.mp ha]
      cases e : R p with
      | none => rfl
      | some u => rw [w.sub p u e] at hp; cases hp
  · by_cases hn : n < ρ.length
    · rw [List.getElem?_append_left hn] at h1
      rw [List.getElem?_append_left (by rw [← w.len]; exact hn)] at h2
      exact (w.cel n a c h1 h2).at x (upd_ne (w.apart (List.mem_of_getElem? h1) hp))
    · rw [List.getElem?_append_right (Nat.le_of_not_lt hn)] at h1
      rw [List.getElem?_append_right (by rw [← w.len]; exact Nat.le_of_not_lt hn), ← w.len] at h2
      have hz : n - ρ.length = 0 := by
        have := (List.getElem?_eq_some_iff.mp h1).1
        simp at this
        omega
      rw [hz] at h1 h2
      simp at h1 h2
      subst h1 h2
      exact ⟨o, upd_same, h.mono x⟩
  · have hl : n < m.length := Nat.lt_of_lt_of_le (Nat.lt_of_lt_of_le hn (base.cle _ hb)) w.bas
    rw [List.getElem?_append_left hl] at h2
    exact w.low b n c hb hn h2
  · by_cases hn : n < ρ.length
    · rw [List.getElem?_append_left hn] at h1
      rw [List.getElem?_append_left (by rw [← w.len]; exact hn)] at h2
      exact w.kin n a d h1 h2
    · rw [List.getElem?_append_right (by rw [← w.len]; exact Nat.le_of_not_lt hn)] at h2
      rw [List.getElem?_singleton] at h2
      split at h2 <;> cases h2
/-- a cell is changed -/
theorem WR.put (w : WR K base ρ R m H) {n : Nat} {a : Addr} {d d' : DV} {o' : HO} (ha : ρ[n]? = some a) (hm : m[n]? = some (.c d)) (h : CoR K ρ R d' o') (hb : mayPut base.n n d' = true ∨ ∀ b, b ∈ base.cu → n < b → refsBelow b d' = true) :
    WR K base ρ R (m.set n (.c d')) (upd H a o') := by
  have hl := (List.getElem?_eq_some_iff.mp hm).1
  have hl' := (List.getElem?_eq_some_iff.mp ha).1
  refine ⟨by rw [List.length_set]; exact w.len, w.nd, fun x u e => ?_, w.own, fun k x c h1 h2 => ?_, fun b k c h1 h2 h3 => ?_, by rw [List.length_set]; exact w.bas, fun q hq => ?_, fun k x y h1 h2 => ?_⟩
  · have hne : x ≠ a := fun z => by rw [z, w.own a (List.mem_of_getElem? ha)] at e; cases e
    rw [upd_ne hne]
    exact w.sub x u e
  · by_cases hk : n = k
    · subst hk
      rw [List.getElem?_set_self hl] at h2
      rw [ha] at h1
      cases h1; cases h2
      exact ⟨o', upd_same, h⟩
    · rw [List.getElem?_set_ne hk] at h2
      have hne : x ≠ a := fun z => by
        subst z
        exact hk ((List.getElem?_inj hl' w.nd).mp (ha.trans h1.symm))
      exact (w.cel k x c h1 h2).at Xt.refl (upd_ne hne)
  · by_cases hk : n = k
    · subst hk
      rw [List.getElem?_set_self hl] at h3
      cases h3
      rcases hb with hb | hb
      · unfold mayPut at hb
        rw [Bool.or_eq_true] at hb
        rcases hb with hb | hb
        · exact absurd (Nat.lt_of_lt_of_le h2 (base.cle _ h1)) (Nat.not_lt.mpr (of_decide_eq_true hb))
        · exact below_of_noRef b hb
      · exact hb b h1 h2
    · rw [List.getElem?_set_ne hk] at h3
      exact w.low b k c h1 h2 h3
  · obtain ⟨h1, h2⟩ := w.lk q hq
    obtain ⟨o, e, hc⟩ := w.cel n a _ ha hm
    refine ⟨?_, h2⟩
    rw [upd_ne (w.lk_ne (List.mem_of_getElem? ha) e hc q hq)]
    exact h1
  · by_cases hk : n = k
    · subst hk
      rw [List.getElem?_set_self hl] at h2
      cases h2
    · rw [List.getElem?_set_ne hk] at h2
      exact w.kin k x y h1 h2
/-! ### what an answer says: T relates the answer with the program's value -/
def Po {α β : Type} (K : PySem.W.Frag) (base : Bs) (T : List Addr → Hp → α → β → Prop) (ρ : List Addr) (R : Hp) (Q : β → Hp → Prop) : Out α → Prop
  | .ok a m => ∀ ρ' R' H' b, Xt ρ R ρ' R' → WR K base ρ' R' m H' → T ρ' R' a b → Q b H'
  | _ => False
theorem Po.up {α β : Type} {T : List Addr → Hp → α → β → Prop} {Q : β → Hp → Prop} (x : Xt ρ R ρ' R') : ∀ {o : Out α}, Po K base T ρ R Q o → Po K base T ρ' R' Q o
  | .ok a m, h => fun ρ1 R1 H1 b y => h ρ1 R1 H1 b (x.trans y)
  | .exc _ _, h => h
  | .bad, h => h
theorem Po.mono {α β : Type} {T : List Addr → Hp → α → β → Prop} {Q Q' : β → Hp → Prop} (q : ∀ b H, Q b H → Q' b H) : ∀ {o : Out α}, Po K base T ρ R Q o → Po K base T ρ R Q' o
  | .ok a m, h => fun ρ1 R1 H1 b y w t => q _ _ (h ρ1 R1 H1 b y w t)
  | .exc _ _, h => h
  | .bad, h => h
/-- behind the first part: the second one's answer, from there -/
def Bh {α α2 β β2 : Type} (K : PySem.W.Frag) (base : Bs) (T : List Addr → Hp → α → β → Prop) (T2 : List Addr → Hp → α2 → β2 → Prop) (ρ : List Addr) (R : Hp) (Q : β2 → Hp → Prop) (f : α → Mem → Out α2) (b : β) (H1 : Hp) : Prop :=
  ∃ a m1 ρ1 R1, Xt ρ R ρ1 R1 ∧ WR K base ρ1 R1 m1 H1 ∧ T ρ1 R1 a b ∧ Po K base T2 ρ1 R1 Q (f a m1)
theorem Po.bind {α α2 β β2 : Type} (T : List Addr → Hp → α → β → Prop) {T2 : List Addr → Hp → α2 → β2 → Prop} {Q : β2 → Hp → Prop} {f : α → Mem → Out α2} : ∀ {o : Out α}, Po K base T2 ρ R Q (o.bind f) → Po K base T ρ R (Bh K base T T2 ρ R Q f) o
  | .ok a m, h => fun ρ1 R1 H1 b y w t => ⟨a, m, ρ1, R1, y, w, t, h.up y⟩
  | .exc _ _, h => h
  | .bad, h => h
theorem Po.ok {α β : Type} {T : List Addr → Hp → α → β → Prop} {Q : β → Hp → Prop} {a : α} {b : β} (h : Po K base T ρ R Q (.ok a m)) (x : Xt ρ R ρ' R') (w : WR K base ρ' R' m H) (t : T ρ' R' a b) : Q b H := h ρ' R' H b x w t
theorem Po.of {α β : Type} {T : List Addr → Hp → α → β → Prop} {Q : β → Hp → Prop} {o : Option α} (h : Po K base T ρ R Q (Out.of o m)) : ∃ a, o = some a ∧ Po K base T ρ R Q (.ok a m) := by
  cases o with
  | none => exact h.elim
  | some a => exact ⟨a, rfl, h⟩
abbrev TB (_ : List Addr) (_ : Hp) (a b : Bool) : Prop := b = a
abbrev TOI (_ : List Addr) (_ : Hp) (a b : Option Int) : Prop := b = a
/-- the slots -/
def ER (K : PySem.W.Frag) (ρ : List Addr) (R : Hp) (env : Env') (σ : L2.St) : Prop := env.length = σ.length ∧ ∀ (i : Nat) (d : DV), env[i]? = some (some d) → ∃ v : V, σ[i]? = some (some v) ∧ Rl K ρ R d v
theorem ER.mono {env : Env'} {σ : L2.St} (e : ER K ρ R env σ) (x : Xt ρ R ρ' R') : ER K ρ' R' env σ := ⟨e.1, fun i d h => let ⟨v, h1, h2⟩ := e.2 i d h; ⟨v, h1, h2.mono x⟩⟩
end

/-! ### the static facts -/
/-- what is known of the text: cs the module's constants, F the defs' answers, N the def's names by slot, bi the built-ins whose names nobody binds, fns the defs' names, cons the constants' names -/
structure TX where
  N : List Str
  bi : List Str
  fns : List Str
  cons : List Str
structure SC extends TX where
  K : PySem.W.Frag
  cs : List DV
  F : Nat → List DV → Nat → Mem → Out DV
/-- the scope that runs, the one that is written -/
structure Sc where
  eff : Scope
  wr : Scope
abbrev TEv (T : Type) := T → Mem → Out DV
section
variable (C : SC)
def tE (e : Ex) : TE := fun σ H Q => ∃ base ρ R m env, WR C.K base ρ R m H ∧ ER C.K ρ R env σ ∧ Po C.K base (Rl C.K) ρ R Q (evE C.F C.cs base.n env e m)
def tT (t : Ts) : TT := fun σ H Q => ∃ base ρ R m env, WR C.K base ρ R m H ∧ ER C.K ρ R env σ ∧ Po C.K base TB ρ R Q (evT C.F C.cs base.n env t m)
def tTsL (ts : List Ts) : TT := fun σ H Q => ∃ base ρ R m env, WR C.K base ρ R m H ∧ ER C.K ρ R env σ ∧ Po C.K base TB ρ R Q (evTs C.F C.cs base.n env ts m)
def tA (es : List Ex) : TA := fun σ H Q => ∃ base ρ R m env, WR C.K base ρ R m H ∧ ER C.K ρ R env σ ∧ Po C.K base (Rls C.K) ρ R Q (evEs C.F C.cs base.n env es m)
def tO (e : Option Ex) : TO := fun σ H Q => ∃ base ρ R m env, WR C.K base ρ R m H ∧ ER C.K ρ R env σ ∧ Po C.K base TOI ρ R Q (evO C.F C.cs base.n env e m)
/-- what a def promises: the answer of G -/
def spOf (K : PySem.W.Frag) (n : Nat) (G : List DV → Nat → Mem → Out DV) : Sp := fun vs H Q _ => vs.length = n ∧ ∃ base ρ R m ds, WR K base ρ R m H ∧ Rls K ρ R ds vs ∧ Po K base (Rl K) ρ R Q (G ds base.n m)
structure FnX (X : Cx) (f : Nat) (x : Str) : Prop where
  ex : ∃ (k : Nat) (a : Addr) (fd : FuncData) (ps : List Str), Room k X.A ∧ X.mg x = some (.ref a) ∧ PySem.W.keepIn X.K (.ref a) = true ∧ Binds X.K fd ps [] ∧
    FnOk X.prog X.w X.K X.mg X.base CX0 k a fd ps (spOf C.K ps.length (C.F f)) ∧ ∀ ds base m, C.F f ds base m ≠ .bad → ds.length = ps.length
structure XO (s : Sc) (X : Cx) : Prop where
  K : X.K = C.K
  N : X.N = C.N
  nd : X.N.Nodup
  calm : X.calm = true
  eff : X.env.scope = s.eff
  loc : ∀ x, s.wr.names.lookup x = some .local → s.eff.names.lookup x = some .local
  cel : ∀ x, s.wr.names.lookup x = some .cell → X.fn x = true ∧ s.eff.names.lookup x = some .cell
  bi : ∀ x, x ∈ C.bi → X.mg x = none
  room : ∃ k, Room k X.A
  fn : ∀ (f : Nat) (x : Str), C.fns[f]? = some x → FnX C X f x
  con : ∀ (g : Nat) (x : Str), C.cons[g]? = some x → ∃ (d : DV) (v : V) (u : Value), C.cs[g]? = some d ∧ X.mg x = some u ∧ RelV v u ∧ ∀ ρ R, Rl C.K ρ R d v
end
section
variable {C : SC} {s : Sc} {X : Cx}
theorem _root_.L2.PE.imp {e : Expr} {t t' : TE} (h : PE X e t) (i : ∀ σ H Q, t' σ H Q → t σ H Q) : PE X e t' := ⟨fun pins s σ H Q I q => h.run pins s σ H Q I (i _ _ _ q)⟩
theorem _root_.L2.PT.imp {e : Expr} {t t' : TT} (h : PT X e t) (i : ∀ σ H Q, t' σ H Q → t σ H Q) : PT X e t' := ⟨fun pins s σ H Q I q => h.run pins s σ H Q I (i _ _ _ q)⟩
theorem _root_.L2.PW.imp {e : Expr} {t t' : TT} (h : PW X e t) (i : ∀ σ H Q, t' σ H Q → t σ H Q) : PW X e t' := ⟨fun wh pins s σ H Q I q => h.run wh pins s σ H Q I (i _ _ _ q)⟩
theorem _root_.L2.PA.imp {e : List Expr} {t t' : TA} (h : PA X e t) (i : ∀ σ H Q, t' σ H Q → t σ H Q) : PA X e t' := ⟨fun pos pins s σ H Q I q => h.run pos pins s σ H Q I (i _ _ _ q)⟩
theorem _root_.L2.PO.imp {e : Option Expr} {t t' : TO} (h : PO X e t) (i : ∀ σ H Q, t' σ H Q → t σ H Q) : PO X e t' := ⟨fun pins s σ H Q I q => h.run pins s σ H Q I (i _ _ _ q)⟩
/-! ### names, constants -/
def visB (sc : Scope) (x : Str) : Bool := match sc.names.lookup x with
  | some .local => true
  | some .cell => true
  | some .free => true
  | _ => false
theorem visB_ok {sc : Scope} {x : Str} (h : visB sc x = true) : Vis sc x := by
  unfold visB at h
  unfold Vis
  split at h
  · exact .inl (by assumption)
  · exact .inr (.inl (by assumption))
  · exact .inr (.inr (by assumption))
  · cases h
def glB (sc : Scope) (x : Str) : Bool := match sc.names.lookup x with
  | some .globalImplicit => true
  | _ => false
theorem glB_ok (hX : XO C s X) {x : Str} (h : glB s.eff x = true) : Gl X x := by
  unfold glB at h
  show X.env.scope.names.lookup x = some .globalImplicit
  rw [hX.eff]
  split at h
  · assumption
  · cases h
def nDbg (x : Str) : Bool := !(x == ("__debug__" : Str)) && !(x == ("__classdict__" : Str)) && !(x == ("__name__" : Str))
theorem nDbg_1 {x : Str} (h : nDbg x = true) : (x == ("__debug__" : Str)) = false := by
  unfold nDbg at h
  simp only [Bool.and_eq_true, Bool.not_eq_true'] at h
  exact h.1.1
theorem nDbg_2 {x : Str} (h : nDbg x = true) : (x == ("__classdict__" : Str)) = false := by
  unfold nDbg at h
  simp only [Bool.and_eq_true, Bool.not_eq_true'] at h
  exact h.1.2
theorem nDbg_3 {x : Str} (h : nDbg x = true) : x ≠ ("__name__" : Str) := by
  unfold nDbg at h
  simp only [Bool.and_eq_true, Bool.not_eq_true'] at h
  intro e
  have := h.2
  rw [e] at this
  simp at this
theorem sd_var (hX : XO C s X) {i : Nat} {x : Str} {pos : Pos} (hN : C.N[i]? = some x) (hv : visB s.eff x = true) (hd : nDbg x = true) : PE X (.Name x pos) (tE C (.var i)) := by
  refine (pe_var (i := i) (by rw [hX.N]; exact hN) (by rw [hX.eff]; exact visB_ok hv) (nDbg_1 hd) (nDbg_2 hd)).imp ?_
  rintro σ H Q ⟨base, ρ, R, m, env, w, er, po⟩
  unfold evE at po
  split at po
  · rename_i d e
    obtain ⟨v, h1, h2⟩ := er.2 i d e
    exact ⟨v, h1, po.ok Xt.refl w h2⟩
  · exact po.elim
theorem sd_int {i j pos} : PE X (.Constant (.int i) j pos) (tE C (.int i)) := pe_int.imp (by
  rintro σ H Q ⟨base, ρ, R, m, env, w, er, po⟩
  unfold evE at po
  exact po.ok Xt.refl w (by rw [Rl]))
theorem sd_bl {b j pos} : PE X (.Constant (.bool b) j pos) (tE C (.bl b)) := pe_bl.imp (by
  rintro σ H Q ⟨base, ρ, R, m, env, w, er, po⟩
  unfold evE at po
  exact po.ok Xt.refl w (by rw [Rl]))
theorem sd_non {j pos} : PE X (.Constant .none j pos) (tE C .non) := pe_non.imp (by
  rintro σ H Q ⟨base, ρ, R, m, env, w, er, po⟩
  unfold evE at po
  exact po.ok Xt.refl w (by rw [Rl]))
theorem sd_str {x : List Nat} {j pos} (hl : x.length ≤ SL) : PE X (.Constant (.str (toS x)) j pos) (tE C (.str x)) := pe_str.imp (by
  rintro σ H Q ⟨base, ρ, R, m, env, w, er, po⟩
  unfold evE at po
  exact po.ok Xt.refl w (by rw [Rl]; exact ⟨hl, rfl⟩))
theorem sd_con (hX : XO C s X) {g : Nat} {x : Str} {pos : Pos} (hN : C.cons[g]? = some x) (hv : glB s.eff x = true) (hd : nDbg x = true) : PE X (.Name x pos) (tE C (.con g)) := by
  obtain ⟨d, v, u, h1, h2, h3, h4⟩ := hX.con g x hN
  refine (pe_glob (glB_ok hX hv) h2 h3 (nDbg_1 hd)).imp ?_
  rintro σ H Q ⟨base, ρ, R, m, env, w, er, po⟩
  unfold evE at po
  rw [h1] at po
  exact po.ok Xt.refl w (h4 ρ R)
end
end Ev

set_option Elab.async false
set_option linter.all false
set_option maxRecDepth 100000
set_option maxHeartbeats 4000000
/-! tuple * 0, tuple * 1 -/
namespace L2
open PySem PySem.Spec PyProof.Rows
theorem tuple_mul0 (l : Addr) (items : Array Value) (n : Nat) (dd : Option Addr) (sl : Array (Option Value)) (u : Tok) (he : items.isEmpty = false) :
    Meets (Builtin.«tuple.__mul__» ⟨[.ref l, .int 0 u], []⟩) (fun _ R s => s.heap.get? l = some { cls := .type "tuple", dict := dd, data := .seq items n, slots := sl } ∧
      R (.ok (.ret (Value.ref s.heap.objs.size))) { s with heap := s.heap.push { cls := Value.type "tuple", data := Data.seq #[] }, toks := s.toks }) :=
  .of_wp fun prog w A R s h => by
    obtain ⟨hp, g, d, tk, os⟩ := s
    obtain ⟨hl, h⟩ := h
    have f1 := AutoSeq1.idx_int
    wp_walk using wpAny_loadPart' hl
    exact ⟨_, rfl, h⟩
theorem tuple_mul1 (l : Addr) (items : Array Value) (n : Nat) (dd : Option Addr) (sl : Array (Option Value)) (u : Tok) :
    Meets (Builtin.«tuple.__mul__» ⟨[.ref l, .int 1 u], []⟩) (fun _ R s => s.heap.get? l = some { cls := .type "tuple", dict := dd, data := .seq items n, slots := sl } ∧
      R (.ok (.ret (Value.ref l))) s) :=
  .of_wp fun prog w A R s h => by
    obtain ⟨hp, g, d, tk, os⟩ := s
    obtain ⟨hl, h⟩ := h
    have f1 := AutoSeq1.idx_int
    wp_walk using wpAny_loadPart' hl
    exact ⟨_, rfl, h⟩
def rRepT01 (K : PySem.W.Frag) : R2 := fun x y H Q => ∃ l k xs, x = .ref l ∧ y = .int k ∧ SqT K H l xs ∧ xs ≠ [] ∧ ((k = 0 ∧ ∀ p, H p = none → Q (.ref p) (upd H p (.tup []))) ∨ (k = 1 ∧ Q (.ref l) H))
section
variable {X : Cx}
theorem op_repT01 : OpR X (binaryOp .Mult) (rRepT01 X.K) := by
  intro pins s σ H x y v u Q I rx ry h
  obtain ⟨l, k, xs, rfl, rfl, hT, hne, hq⟩ := h
  cases rx
  obtain ⟨t, rfl⟩ := ry
  obtain ⟨its, r, ⟨⟨cls, dd, data, sl⟩, ho, hc, n, hd⟩, hs⟩ := I.tuple hT
  simp only at hc hd
  subst hc hd
  have hle : its.length = xs.length := r.length.symm
  have hn : its ≠ [] := fun e => hne (by
    rw [e] at hle
    exact List.eq_nil_of_length_eq_zero hle.symm)
  have hi : its.toArray.isEmpty = false := by
    cases its with
    | nil => exact absurd rfl hn
    | cons a b => rfl
  rcases hq with ⟨rfl, q⟩ | ⟨rfl, q⟩
  · refine wpAny_binaryOp_repeat_ref (T := "tuple") (U := "int") (by decide) ⟨_, ho, rfl⟩ (fun s' => typeIs_int s' 0 t) noFill_tuple_mul F.fills_int_mul F.slot_int_rmul repeat_tuple F.slot_int_index.lookup
      (call_meets F.slot_int_rmul (typeIs_int s 0 t) F.entry_int_rmul (F.args_int_rmul_2 _ _) (int_rmul_tuple 0 t l its.toArray n dd sl)
        ⟨ho, rfl, ⟨_, ho, rfl⟩, call_meets F.slot_tuple_mul ⟨_, ho, rfl⟩ F.entry_tuple_mul (F.args_tuple_mul_2 _ _) (tuple_mul0 l its.toArray n dd sl t hi) ⟨ho, ?_⟩⟩)
    refine ⟨.ref s.heap.objs.size, _, I.laid (t' := s.toks) (o := .tup []) (fun b ob q => Heap.get?_push_of_some _ q) (Nat.le_refl _) ?_, rfl, q _ (I.hok.fresh (Nat.le_refl _))⟩
    exact ⟨Nat.zero_le _, [], .nil, IsTup.new _ _⟩
  · refine wpAny_binaryOp_repeat_ref (T := "tuple") (U := "int") (by decide) ⟨_, ho, rfl⟩ (fun s' => typeIs_int s' 1 t) noFill_tuple_mul F.fills_int_mul F.slot_int_rmul repeat_tuple F.slot_int_index.lookup
      (call_meets F.slot_int_rmul (typeIs_int s 1 t) F.entry_int_rmul (F.args_int_rmul_2 _ _) (int_rmul_tuple 1 t l its.toArray n dd sl)
        ⟨ho, rfl, ⟨_, ho, rfl⟩, call_meets F.slot_tuple_mul ⟨_, ho, rfl⟩ F.entry_tuple_mul (F.args_tuple_mul_2 _ _) (tuple_mul1 l its.toArray n dd sl t) ⟨ho, ?_⟩⟩)
    exact ⟨.ref l, _, I, rfl, q⟩
end
end L2

set_option Elab.async false
set_option linter.all false
set_option maxRecDepth 100000
/-! Operators, comparisons, tests, displays, subscripts: each rule from the evaluator's answer. -/
namespace Ev
open PySem PySem.Spec PyProof.Rows L2

theorem SL_line : SL ≤ sizeLine := by rw [sizeLine_eq]; decide
/-! ### shapes of expressions -/
def noStarE : Expr → Bool
  | .Starred .. => false
  | _ => true
theorem star_ok {e : Expr} {es : List Expr} {env : Env} (h : noStarE e = true) : starEach (e :: es) env = (false, eval e env) :: starEach es env := by
  cases e <;> first | rfl | (simp [noStarE] at h)
theorem star_any {pos : Pos} {env : Env} : ∀ {es : List Expr}, es.all noStarE = true → (backTo pos (starEach es env)).any (·.1) = false
  | [], _ => rfl
  | e :: es, h => by
    rw [List.all_cons, Bool.and_eq_true] at h
    rw [star_ok h.1]
    have ih := star_any (pos := pos) (env := env) h.2
    show ((backTo pos ((false, eval e env) :: starEach es env)).any (·.1)) = false
    simp only [backTo] at ih ⊢
    simpa using ih
section
variable {C : SC} {s : Sc} {X : Cx} {a b c : Ex} {a' b' c' : Expr} {pos : Pos}
/-! ### two operands -/
theorem Bh.run {α α2 β β2 : Type} {K : PySem.W.Frag} {base : Bs} {T : List Addr → Hp → α → β → Prop} {T2 : List Addr → Hp → α2 → β2 → Prop} {ρ : List Addr} {R H : Hp} {Q : β2 → Hp → Prop} {f : α → Mem → Out α2} {b : β} (h : Bh K base T T2 ρ R Q f b H)
    {P : Prop} (k : ∀ a m1 ρ1 R1, Xt ρ R ρ1 R1 → WR K base ρ1 R1 m1 H → T ρ1 R1 a b → Po K base T2 ρ1 R1 Q (f a m1) → P) : P := by
  obtain ⟨a, m1, ρ1, R1, x, w, t, po⟩ := h
  exact k a m1 ρ1 R1 x w t po
theorem two_ops {α2 β2 : Type} {T2 : List Addr → Hp → α2 → β2 → Prop} {Q2 : β2 → Hp → Prop} {r : R2} {f : DV → DV → Mem → Out α2} {σ : L2.St} {H : Hp} {Q : VK} {base : Bs} {ρ : List Addr} {R : Hp} {m : Mem} {env : Env'} (w : WR C.K base ρ R m H) (er : ER C.K ρ R env σ)
    (po : Po C.K base T2 ρ R Q2 ((evE C.F C.cs base.n env a m).bind fun x m => (evE C.F C.cs base.n env b m).bind fun y m => f x y m))
    (hr : ∀ base ρ R m H x y vx vy, WR C.K base ρ R m H → Rl C.K ρ R x vx → Rl C.K ρ R y vy → Po C.K base T2 ρ R Q2 (f x y m) → r vx vy H Q) : tOp r (tE C a) (tE C b) σ H Q := by
  refine ⟨base, ρ, R, m, env, w, er, (Po.bind (Rl C.K) po).mono fun vx H1 h1 => h1.run fun x m1 ρ1 R1 x1 w1 rx po1 => ?_⟩
  refine ⟨base, ρ1, R1, m1, env, w1, er.mono x1, (Po.bind (Rl C.K) po1).mono fun vy H2 h2 => h2.run fun y m2 ρ2 R2 x2 w2 ry po2 => ?_⟩
  exact hr base ρ2 R2 m2 H2 x y vx vy w2 (rx.mono x2) ry po2
theorem Out.bind_assoc {α β γ : Type} {o : Out α} {f : α → Mem → Out β} {g : β → Mem → Out γ} : (o.bind f).bind g = o.bind fun x m => (f x m).bind g := by cases o <;> rfl
theorem sd_bin {op : Operator} {o : Op2} {r : R2} (ho : OpR X (binaryOp op) r) (ha : PE X a' (tE C a)) (hb : PE X b' (tE C b))
    (hr : ∀ base ρ R m H x y vx vy Q, WR C.K base ρ R m H → Rl C.K ρ R x vx → Rl C.K ρ R y vy → Po C.K base (Rl C.K) ρ R Q (Out.of (op2 o x y) m) → r vx vy H Q) : PE X (.BinOp a' op b' pos) (tE C (.bin o a b)) := by
  refine (pe_op ho ha hb).imp ?_
  rintro σ H Q ⟨base, ρ, R, m, env, w, er, po⟩
  unfold evE at po
  exact two_ops w er po fun base ρ R m H x y vx vy => hr base ρ R m H x y vx vy Q
theorem rl_int {K : PySem.W.Frag} {ρ : List Addr} {R : Hp} {i : Int} {v : V} : Rl K ρ R (.int i) v ↔ v = .int i := by rw [Rl]
theorem rl_bl {K : PySem.W.Frag} {ρ : List Addr} {R : Hp} {i : Bool} {v : V} : Rl K ρ R (.bl i) v ↔ v = .bl i := by rw [Rl]
theorem rl_non {K : PySem.W.Frag} {ρ : List Addr} {R : Hp} {v : V} : Rl K ρ R .non v ↔ v = .non := by rw [Rl]
theorem rl_str {K : PySem.W.Frag} {ρ : List Addr} {R : Hp} {i : List Nat} {v : V} : Rl K ρ R (.str i) v ↔ i.length ≤ SL ∧ v = .str (toS i) := by rw [Rl]
theorem rl_tup {K : PySem.W.Frag} {ρ : List Addr} {R : Hp} {ds : List DV} {v : V} : Rl K ρ R (.tup ds) v ↔ ds.length ≤ SL ∧ ∃ a vs, v = V.ref a ∧ R a = some (.tup vs) ∧ Rls K ρ R ds vs := by rw [Rl]
theorem rl_kt {K : PySem.W.Frag} {ρ : List Addr} {R : Hp} {ds : List DV} {v : V} : Rl K ρ R (.kt ds) v ↔ ds.length ≤ SL ∧ ∃ a vs, v = V.ref a ∧ NT K R a vs ∧ Rls K ρ R ds vs := by rw [Rl]
theorem rl_lst {K : PySem.W.Frag} {ρ : List Addr} {R : Hp} {ds : List DV} {v : V} : Rl K ρ R (.lst ds) v ↔ ds.length ≤ SL ∧ ∃ a vs, v = V.ref a ∧ Rd R a (.lst vs) ∧ Rls K ρ R ds vs := by rw [Rl]
theorem rl_kl {K : PySem.W.Frag} {ρ : List Addr} {R : Hp} {ds : List DV} {v : V} : Rl K ρ R (.kl ds) v ↔ ds.length ≤ SL ∧ ∃ a vs, v = V.ref a ∧ SqL K R a vs ∧ Rls K ρ R ds vs := by rw [Rl]
theorem rl_ref {K : PySem.W.Frag} {ρ : List Addr} {R : Hp} {n : Nat} {v : V} : Rl K ρ R (.ref n) v ↔ ∃ a, ρ[n]? = some a ∧ v = V.ref a := by rw [Rl]
theorem rl_dk {K : PySem.W.Frag} {ρ : List Addr} {R : Hp} {ks : List KA} {ds : List DV} {v : V} : Rl K ρ R (.dk ks ds) v ↔ DZ ks ∧ ∃ a kvs, v = V.ref a ∧ Rd R a (.dK kvs) ∧ kvs.map (·.1) = ks.map kaK ∧ Rls K ρ R ds (kvs.map (·.2)) := by rw [Rl]
theorem rl_dt {K : PySem.W.Frag} {ρ : List Addr} {R : Hp} {ks : List (List KA)} {ds : List DV} {v : V} : Rl K ρ R (.dt ks ds) v ↔ DZT ks ∧ ∃ a kvs, v = V.ref a ∧ Rd R a (.dT kvs) ∧ kvs.map (·.1) = ks.map (List.map kaK) ∧ Rls K ρ R ds (kvs.map (·.2)) := by rw [Rl]
theorem WR.rd {K : PySem.W.Frag} {base : Bs} {ρ : List Addr} {R H : Hp} {m : Mem} (w : WR K base ρ R m H) {a : Addr} {u : HO} (h : Rd R a u) : Rd H a u := by
  rcases h with h | ⟨o, h⟩
  · exact .inl (w.sub _ _ h)
  · exact .inr ⟨o, w.sub _ _ h⟩
theorem WR.sl {K : PySem.W.Frag} {base : Bs} {ρ : List Addr} {R H : Hp} {m : Mem} (w : WR K base ρ R m H) {a : Addr} {xs : List V} (h : SqL K R a xs) : SqL K H a xs := h.elim (fun h => .inl (w.rd h)) .inr
theorem WR.st {K : PySem.W.Frag} {base : Bs} {ρ : List Addr} {R H : Hp} {m : Mem} (w : WR K base ρ R m H) {a : Addr} {xs : List V} (h : SqT K R a xs) : SqT K H a xs := h.elim (fun h => .inl (w.rd h)) .inr
theorem WR.nt {K : PySem.W.Frag} {base : Bs} {ρ : List Addr} {R H : Hp} {m : Mem} (w : WR K base ρ R m H) {a : Addr} {xs : List V} (h : NT K R a xs) : NT K H a xs := h.elim (fun ⟨o, e, hd⟩ => .inl ⟨o, w.sub _ _ e, hd⟩) .inr
theorem WR.tupK {K : PySem.W.Frag} {base : Bs} {ρ : List Addr} {R H : Hp} {m : Mem} (w : WR K base ρ R m H) {p : Addr} {o : Obj} (hp : H p = none) (hd : o.dict = none) {ds : List DV} {vs : List V} (r : Rls K ρ R ds vs) (hl : ds.length ≤ SL) {Q : VK} (po : Po K base (Rl K) ρ R Q (.ok (.kt ds) m)) : Q (.ref p) (upd H p (.frz o (.tup vs))) := by
  obtain ⟨x, w'⟩ := w.fix hp (.frz o (.tup vs))
  exact po.ok x w' (rl_kt.mpr ⟨hl, p, vs, rfl, .inl ⟨o, upd_same, hd⟩, r.mono x⟩)
/-- a new tuple, a new list that is not changed -/
theorem WR.tup {K : PySem.W.Frag} {base : Bs} {ρ : List Addr} {R H : Hp} {m : Mem} (w : WR K base ρ R m H) {p : Addr} (hp : H p = none) {ds : List DV} {vs : List V} (r : Rls K ρ R ds vs) (hl : ds.length ≤ SL) {Q : VK} (po : Po K base (Rl K) ρ R Q (.ok (.tup ds) m)) : Q (.ref p) (upd H p (.tup vs)) := by
  obtain ⟨x, w'⟩ := w.fix hp (.tup vs)
  exact po.ok x w' (rl_tup.mpr ⟨hl, p, vs, rfl, upd_same, r.mono x⟩)
theorem WR.lst {K : PySem.W.Frag} {base : Bs} {ρ : List Addr} {R H : Hp} {m : Mem} (w : WR K base ρ R m H) {p : Addr} (hp : H p = none) {ds : List DV} {vs : List V} (r : Rls K ρ R ds vs) (hl : ds.length ≤ SL) {Q : VK} (po : Po K base (Rl K) ρ R Q (.ok (.lst ds) m)) : Q (.ref p) (upd H p (.lst vs)) := by
  obtain ⟨x, w'⟩ := w.fix hp (.lst vs)
  exact po.ok x w' (rl_lst.mpr ⟨hl, p, vs, rfl, .inl upd_same, r.mono x⟩)
theorem WR.lstM {K : PySem.W.Frag} {base : Bs} {ρ : List Addr} {R H : Hp} {m : Mem} (w : WR K base ρ R m H) {p : Addr} (hp : H p = none) {ds : List DV} {vs : List V} (r : Rls K ρ R ds vs) (hl : ds.length ≤ SL) {Q : VK} (po : Po K base (Rl K) ρ R Q (.ok (.ref m.length) (m ++ [.c (.lst ds)]))) : Q (.ref p) (upd H p (.lst vs)) := by
  obtain ⟨x, w'⟩ := w.new hp (d := .lst ds) (o := .lst vs) ⟨hl, vs, rfl, r⟩
  exact po.ok x w' (rl_ref.mpr ⟨p, by rw [← w.len, List.getElem?_append_right (Nat.le_refl _), Nat.sub_self]; rfl, rfl⟩)
theorem toS_app (x y : List Nat) : toS x ++ toS y = toS (x ++ y) := by
  show (⟨x.toArray ++ y.toArray⟩ : Str) = ⟨(x ++ y).toArray⟩
  simp
theorem toS_len (x : List Nat) : (toS x).length = x.length := by
  show x.toArray.size = x.length
  simp
/-- list + list, any that are read -/
def rCatL : R2 := fun x y H Q => ∃ l b xs zs, x = .ref l ∧ y = .ref b ∧ Rd H l (.lst xs) ∧ Rd H b (.lst zs) ∧ xs.length + zs.length ≤ sizeLine ∧ ∀ p, H p = none → Q (.ref p) (upd H p (.lst (xs ++ zs)))
theorem op_catL : OpR X (binaryOp .Add) rCatL := by
  intro pins s σ H x y v u Q I rx ry h
  obtain ⟨l, b, xs, zs, rfl, rfl, hH, hB, hz, q⟩ := h
  cases rx
  cases ry
  obtain ⟨z, its, n, r, e⟩ := hH.ok I.hok
  obtain ⟨z2, its2, n2, r2, e2⟩ := hB.ok I.hok
  have hl := r.length
  have hl2 := r2.length
  refine PySem.P.add_list e e2 ?_ (by rw [List.size_toArray, List.size_toArray]; omega)
  have ea : its.toArray ++ its2.toArray = (its ++ its2).toArray := by simp
  rw [ea]
  exact ⟨.ref _, _, I.lnew (t' := s.toks) (r.append r2) (by rw [List.length_append]; omega), rfl, q _ I.fresh⟩
theorem some_if {α : Type} {P : Prop} [Decidable P] {x z : α} (h : (if P then some x else none) = some z) : P ∧ x = z := by
  by_cases hp : P
  · rw [if_pos hp] at h; exact ⟨hp, Option.some.inj h⟩
  · rw [if_neg hp] at h; cases h
theorem Rls.rep {K : PySem.W.Frag} {ρ : List Addr} {R : Hp} {ds : List DV} {vs : List V} (r : Rls K ρ R ds vs) : ∀ n : Nat, Rls K ρ R (List.replicate n ds).flatten (List.replicate n vs).flatten
  | 0 => Rls.nil
  | n + 1 => by
    rw [List.replicate_succ, List.replicate_succ, List.flatten_cons, List.flatten_cons]
    exact r.append (Rls.rep r n)
theorem catT_run {K : PySem.W.Frag} {base : Bs} {ρ : List Addr} {R H : Hp} {m : Mem} {Q : VK} (w : WR K base ρ R m H) {x y : DV} {vx vy : V} {a b : List DV} {p q : Addr} {xs ys : List V} (rx : Rl K ρ R x vx) (ry : Rl K ρ R y vy) (e1 : vx = .ref p) (e2 : vy = .ref q) (t1 : SqT K H p xs) (t2 : SqT K H q ys) (r1 : Rls K ρ R a xs) (r2 : Rls K ρ R b ys) (hl : a.length + b.length ≤ SL)
    (po : Po K base (Rl K) ρ R Q (.ok (if a = [] then y else if b = [] then x else .tup (a ++ b)) m)) : rCatA K vx vy H Q := by
  have n1 := r1.length
  have n2 := r2.length
  refine ⟨p, q, xs, ys, e1, e2, t1, t2, ?_, fun h0 => ?_, fun hx h0 => ?_, fun hx hy t ht => ?_⟩
  · rw [n1, n2]; exact Nat.le_trans hl SL_line
  · subst h0
    have z0 := List.eq_nil_of_length_eq_zero n1.symm
    rw [if_pos z0] at po
    rw [← e2]
    exact po.ok Xt.refl w ry
  · subst h0
    have z0 := List.eq_nil_of_length_eq_zero n2.symm
    have z1 : a ≠ [] := fun z => hx (by rw [z] at n1; exact List.eq_nil_of_length_eq_zero n1)
    rw [if_neg z1, if_pos z0] at po
    rw [← e1]
    exact po.ok Xt.refl w rx
  · have z1 : a ≠ [] := fun z => hx (by rw [z] at n1; exact List.eq_nil_of_length_eq_zero n1)
    have z2 : b ≠ [] := fun z => hy (by rw [z] at n2; exact List.eq_nil_of_length_eq_zero n2)
    rw [if_neg z1, if_neg z2] at po
    exact w.tup ht (r1.append r2) (by rw [List.length_append]; exact hl) po
theorem sd_add (ha : PE X a' (tE C a)) (hb : PE X b' (tE C b)) (hK : X.K = C.K) : PE X (.BinOp a' .Add b' pos) (tE C (.bin .add a b)) := by
  refine sd_bin ((((op_add (X := X)).or op_add_str).or op_catA).or op_catL) ha hb ?_
  intro base ρ R m H x y vx vy Q w rx ry po
  obtain ⟨z, e, po⟩ := po.of
  unfold op2 at e
  split at e <;> first | (exfalso; exact Op2.noConfusion ‹_›) | skip
  · obtain rfl := Option.some.inj e
    exact .inl (.inl (.inl ⟨_, _, rl_int.mp rx, rl_int.mp ry, po.ok Xt.refl w (rl_int.mpr rfl)⟩))
  · obtain ⟨hl, rfl⟩ := some_if e
    obtain ⟨l1, e1⟩ := rl_str.mp rx
    obtain ⟨l2, e2⟩ := rl_str.mp ry
    refine .inl (.inl (.inr ⟨_, _, e1, e2, ?_, ?_⟩))
    · rw [toS_len, toS_len]; exact Nat.le_trans hl SL_line
    · rw [toS_app]; exact po.ok Xt.refl w (rl_str.mpr ⟨by rw [List.length_append]; exact hl, rfl⟩)
  · obtain ⟨hl, rfl⟩ := some_if e
    obtain ⟨l1, p, xs, e1, q1, r1⟩ := rl_tup.mp rx
    obtain ⟨l2, q, ys, e2, q2, r2⟩ := rl_tup.mp ry
    have n1 := r1.length
    have n2 := r2.length
    refine .inl (.inr ⟨p, q, xs, ys, e1, e2, .of (w.sub _ _ q1), .of (w.sub _ _ q2), ?_, fun h0 => ?_, fun _ h0 => ?_, fun _ _ t ht => ?_⟩)
    · rw [n1, n2]; exact Nat.le_trans hl SL_line
    · subst h0
      have z0 := List.eq_nil_of_length_eq_zero n1.symm
      subst z0
      rw [← e2]
      exact po.ok Xt.refl w ry
    · subst h0
      have z0 := List.eq_nil_of_length_eq_zero n2.symm
      subst z0
      rw [← e1]
      rw [List.append_nil] at po
      exact po.ok Xt.refl w rx
    · exact w.tup ht (r1.append r2) (by rw [List.length_append]; exact hl) po
  · obtain ⟨hl, rfl⟩ := some_if e
    obtain ⟨l1, p, xs, e1, q1, r1⟩ := rl_lst.mp rx
    obtain ⟨l2, q, ys, e2, q2, r2⟩ := rl_lst.mp ry
    have n1 := r1.length
    have n2 := r2.length
    refine .inr ⟨p, q, xs, ys, e1, e2, w.rd q1, w.rd q2, ?_, fun t ht => ?_⟩
    · rw [n1, n2]; exact Nat.le_trans hl SL_line
    · exact w.lst ht (r1.append r2) (by rw [List.length_append]; exact hl) po
  · obtain ⟨hl, rfl⟩ := some_if e
    obtain ⟨l1, p, xs, e1, q1, r1⟩ := rl_tup.mp rx
    obtain ⟨l2, q, ys, e2, q2, r2⟩ := rl_kt.mp ry
    rw [hK]
    exact .inl (.inr (catT_run w rx ry e1 e2 (.of (w.sub _ _ q1)) (w.nt q2).st r1 r2 hl po))
  · obtain ⟨hl, rfl⟩ := some_if e
    obtain ⟨l1, p, xs, e1, q1, r1⟩ := rl_kt.mp rx
    obtain ⟨l2, q, ys, e2, q2, r2⟩ := rl_tup.mp ry
    rw [hK]
    exact .inl (.inr (catT_run w rx ry e1 e2 (w.nt q1).st (.of (w.sub _ _ q2)) r1 r2 hl po))
  · obtain ⟨hl, rfl⟩ := some_if e
    obtain ⟨l1, p, xs, e1, q1, r1⟩ := rl_kt.mp rx
    obtain ⟨l2, q, ys, e2, q2, r2⟩ := rl_kt.mp ry
    rw [hK]
    exact .inl (.inr (catT_run w rx ry e1 e2 (w.nt q1).st (w.nt q2).st r1 r2 hl po))
  all_goals cases e
theorem sd_sub (ha : PE X a' (tE C a)) (hb : PE X b' (tE C b)) : PE X (.BinOp a' .Sub b' pos) (tE C (.bin .sub a b)) := by
  refine sd_bin (op_sub (X := X)) ha hb ?_
  intro base ρ R m H x y vx vy Q w rx ry po
  obtain ⟨z, e, po⟩ := po.of
  unfold op2 at e
  split at e <;> first | (exfalso; exact Op2.noConfusion ‹_›) | skip
  · obtain rfl := Option.some.inj e
    exact ⟨_, _, rl_int.mp rx, rl_int.mp ry, po.ok Xt.refl w (rl_int.mpr rfl)⟩
  all_goals cases e
theorem sd_mul (ha : PE X a' (tE C a)) (hb : PE X b' (tE C b)) : PE X (.BinOp a' .Mult b' pos) (tE C (.bin .mul a b)) := by
  refine sd_bin (((op_mul (X := X)).or op_repT01).or op_repT) ha hb ?_
  intro base ρ R m H x y vx vy Q w rx ry po
  obtain ⟨z, e, po⟩ := po.of
  unfold op2 at e
  split at e <;> first | (exfalso; exact Op2.noConfusion ‹_›) | skip
  · obtain ⟨hl, rfl⟩ := some_if e
    exact .inl (.inl ⟨_, _, rl_int.mp rx, rl_int.mp ry, hl, po.ok Xt.refl w (rl_int.mpr rfl)⟩)
  · rename_i ds k _
    by_cases hc : ds ≠ [] ∧ 0 ≤ k ∧ k ≤ 1000 ∧ ds.length ≤ 1000
    · rw [if_pos hc] at e
      obtain rfl := Option.some.inj e
      obtain ⟨hne, h0, h1, hl⟩ := hc
      obtain ⟨l1, p, xs, e1, q1, r1⟩ := rl_tup.mp rx
      have n1 := r1.length
      have hx : xs ≠ [] := fun e => hne (by rw [e] at n1; exact List.eq_nil_of_length_eq_zero n1.symm)
      by_cases k0 : k = 0
      · subst k0
        refine .inl (.inr ⟨p, 0, xs, e1, rl_int.mp ry, .of (w.sub _ _ q1), hx, .inl ⟨rfl, fun t ht => ?_⟩⟩)
        exact w.tup ht Rls.nil (by decide) po
      · by_cases k1 : k = 1
        · subst k1
          refine .inl (.inr ⟨p, 1, xs, e1, rl_int.mp ry, .of (w.sub _ _ q1), hx, .inr ⟨rfl, ?_⟩⟩)
          rw [← e1]
          have e2 : (List.replicate (1 : Int).toNat ds).flatten = ds := by simp
          rw [e2] at po
          exact po.ok Xt.refl w rx
        · refine .inr ⟨p, k, xs, e1, rl_int.mp ry, .of (w.sub _ _ q1), hx, by omega, h1, by rw [n1]; exact hl, fun t ht => ?_⟩
          exact w.tup ht (r1.rep k.toNat) (by
            rw [PyProof.Rows.lm_len_rep_flat]
            have a1 : k.toNat * ds.length ≤ 1000 * 1000 := Nat.mul_le_mul (by omega) hl
            have : SL = 10000000 := rfl
            omega) po
    · rw [if_neg hc] at e; cases e
  all_goals cases e
theorem sd_fdiv (ha : PE X a' (tE C a)) (hb : PE X b' (tE C b)) : PE X (.BinOp a' .FloorDiv b' pos) (tE C (.bin .fdiv a b)) := by
  refine sd_bin (op_fdivN (X := X)) ha hb ?_
  intro base ρ R m H x y vx vy Q w rx ry po
  obtain ⟨z, e, po⟩ := po.of
  unfold op2 at e
  split at e <;> first | (exfalso; exact Op2.noConfusion ‹_›) | skip
  · obtain ⟨hl, rfl⟩ := some_if e
    exact ⟨_, _, rl_int.mp rx, rl_int.mp ry, hl, po.ok Xt.refl w (rl_int.mpr rfl)⟩
  all_goals cases e
theorem sd_mod (ha : PE X a' (tE C a)) (hb : PE X b' (tE C b)) : PE X (.BinOp a' .Mod b' pos) (tE C (.bin .mod a b)) := by
  refine sd_bin (op_modN (X := X)) ha hb ?_
  intro base ρ R m H x y vx vy Q w rx ry po
  obtain ⟨z, e, po⟩ := po.of
  unfold op2 at e
  split at e <;> first | (exfalso; exact Op2.noConfusion ‹_›) | skip
  · obtain ⟨hl, rfl⟩ := some_if e
    exact ⟨_, _, rl_int.mp rx, rl_int.mp ry, hl, po.ok Xt.refl w (rl_int.mpr rfl)⟩
  all_goals cases e
theorem sd_pow (ha : PE X a' (tE C a)) (hb : PE X b' (tE C b)) : PE X (.BinOp a' .Pow b' pos) (tE C (.bin .pow a b)) := by
  refine sd_bin (op_pow (X := X)) ha hb ?_
  intro base ρ R m H x y vx vy Q w rx ry po
  obtain ⟨z, e, po⟩ := po.of
  unfold op2 at e
  split at e <;> first | (exfalso; exact Op2.noConfusion ‹_›) | skip
  · obtain ⟨hl, rfl⟩ := some_if e
    exact ⟨_, _, rl_int.mp rx, rl_int.mp ry, hl, po.ok Xt.refl w (rl_int.mpr rfl)⟩
  all_goals cases e
theorem sd_shr (ha : PE X a' (tE C a)) (hb : PE X b' (tE C b)) : PE X (.BinOp a' .RShift b' pos) (tE C (.bin .shr a b)) := by
  refine sd_bin (op_shr (X := X)) ha hb ?_
  intro base ρ R m H x y vx vy Q w rx ry po
  obtain ⟨z, e, po⟩ := po.of
  unfold op2 at e
  split at e <;> first | (exfalso; exact Op2.noConfusion ‹_›) | skip
  · obtain ⟨hl, rfl⟩ := some_if e
    exact ⟨_, _, rl_int.mp rx, rl_int.mp ry, hl, po.ok Xt.refl w (rl_int.mpr rfl)⟩
  all_goals cases e
theorem sd_neg (ha : PE X a' (tE C a)) : PE X (.UnaryOp .USub a' pos) (tE C (.neg a)) := by
  refine (pe_un un_neg ha).imp ?_
  rintro σ H Q ⟨base, ρ, R, m, env, w, er, po⟩
  unfold evE at po
  refine ⟨base, ρ, R, m, env, w, er, (Po.bind (Rl C.K) po).mono fun vx H1 h1 => h1.run fun x m1 ρ1 R1 x1 w1 rx po1 => ?_⟩
  cases x with
  | int i => exact ⟨i, rl_int.mp rx, po1.ok Xt.refl w1 (rl_int.mpr rfl)⟩
  | _ => exact po1.elim
end
end Ev

set_option Elab.async false
set_option linter.all false
set_option maxRecDepth 100000
/-! Comparisons, truth, subscripts, slices. -/
namespace Ev
open PySem PySem.Spec PyProof.Rows L2

section
variable (K : PySem.W.Frag) (ρ : List Addr) (R H : Hp)
/-- d, no cell, stands for v in the heap H -/
def Hl (d : DV) (v : V) : Prop := match d with
  | .lst ds => ds.length ≤ SL ∧ ∃ a vs, v = V.ref a ∧ Rd H a (.lst vs) ∧ Rls K ρ R ds vs
  | .kl ds => ds.length ≤ SL ∧ ∃ a vs, v = V.ref a ∧ SqL K H a vs ∧ Rls K ρ R ds vs
  | .tup ds => ds.length ≤ SL ∧ ∃ a vs, v = V.ref a ∧ H a = some (.tup vs) ∧ Rls K ρ R ds vs
  | .kt ds => ds.length ≤ SL ∧ ∃ a vs, v = V.ref a ∧ NT K H a vs ∧ Rls K ρ R ds vs
  | .dk ks ds => DZ ks ∧ ∃ a kvs, v = V.ref a ∧ Rd H a (.dK kvs) ∧ kvs.map (·.1) = ks.map kaK ∧ Rls K ρ R ds (kvs.map (·.2))
  | .dt ks ds => DZT ks ∧ ∃ a kvs, v = V.ref a ∧ Rd H a (.dT kvs) ∧ kvs.map (·.1) = ks.map (List.map kaK) ∧ Rls K ρ R ds (kvs.map (·.2))
  | .ref _ => False
  | .non => v = .non
  | .bl b => v = .bl b
  | .int i => v = .int i
  | .str s => s.length ≤ SL ∧ v = .str (toS s)
end
section
variable {K : PySem.W.Frag} {base : Bs} {ρ : List Addr} {R H : Hp} {m : Mem}
theorem CR.rd {a : Addr} {c : Cell} (h : CR K ρ R H a c) : ∃ o, Rd H a o ∧ CoR K ρ R c.d o := by
  cases c with
  | c d => obtain ⟨o, e, q⟩ := h; exact ⟨o, .inl e, q⟩
  | k d => obtain ⟨ob, o, e, q⟩ := h; exact ⟨o, .inr ⟨ob, e⟩, q⟩
theorem Hl.cell {a : Addr} {d : DV} {o : HO} (h : Rd H a o) (q : CoR K ρ R d o) : Hl K ρ R H d (.ref a) := by
  cases d with
  | lst ds => obtain ⟨z, vs, e, r⟩ := q; subst e; exact ⟨z, a, vs, rfl, h, r⟩
  | dk ks ds => obtain ⟨z, vs, e, k, r⟩ := q; subst e; exact ⟨z, a, vs, rfl, h, k, r⟩
  | dt ks ds => obtain ⟨z, vs, e, k, r⟩ := q; subst e; exact ⟨z, a, vs, rfl, h, k, r⟩
  | _ => exact (show False from q).elim
theorem Hl.of (w : WR K base ρ R m H) : ∀ {d : DV} {v : V}, Rl K ρ R d v → Hl K ρ R H (rs m d) v := by
  intro d v h
  cases d with
  | ref n =>
    obtain ⟨a, e, rfl⟩ := rl_ref.mp h
    obtain ⟨c, e2, hc⟩ := w.cell_at e
    have er : rs m (.ref n) = c.d := by show (match m[n]? with | some c => c.d | none => _) = _; rw [e2]
    rw [er]
    obtain ⟨o, h1, h2⟩ := hc.rd
    exact Hl.cell h1 h2
  | non => exact rl_non.mp h
  | bl b => exact rl_bl.mp h
  | int i => exact rl_int.mp h
  | str s => exact rl_str.mp h
  | tup ds => obtain ⟨z, a, vs, e, q, r⟩ := rl_tup.mp h; exact ⟨z, a, vs, e, w.sub _ _ q, r⟩
  | kt ds => obtain ⟨z, a, vs, e, q, r⟩ := rl_kt.mp h; exact ⟨z, a, vs, e, w.nt q, r⟩
  | lst ds => obtain ⟨z, a, vs, e, q, r⟩ := rl_lst.mp h; exact ⟨z, a, vs, e, w.rd q, r⟩
  | kl ds => obtain ⟨z, a, vs, e, q, r⟩ := rl_kl.mp h; exact ⟨z, a, vs, e, w.sl q, r⟩
  | dk ks ds => obtain ⟨z, a, vs, e, q, k, r⟩ := rl_dk.mp h; exact ⟨z, a, vs, e, w.rd q, k, r⟩
  | dt ks ds => obtain ⟨z, a, vs, e, q, k, r⟩ := rl_dt.mp h; exact ⟨z, a, vs, e, w.rd q, k, r⟩
theorem rs_kt (w : WR K base ρ R m H) {x : DV} {v : V} {ys : List DV} (r : Rl K ρ R x v) (h : rs m x = .kt ys) : x = .kt ys := by
  cases x with
  | ref n =>
    exfalso
    obtain ⟨a0, e0, _⟩ := rl_ref.mp r
    obtain ⟨c0, e2, hc0⟩ := w.cell_at e0
    have er0 : rs m (.ref n) = c0.d := by show (match m[n]? with | some c => c.d | none => _) = _; rw [e2]
    rw [er0] at h
    obtain ⟨o, _, hco⟩ := hc0.rd
    rw [h] at hco
    exact hco
  | _ => exact h
/-! ### data of the library -/
mutual
def toPD : DV → PyData
  | .bl b => .bool b
  | .int i => .int i
  | .str s => .str (toS s)
  | .tup xs => .tuple (toPDs xs)
  | .kt xs => .tuple (toPDs xs)
  | .lst xs => .list (toPDs xs)
  | .kl xs => .list (toPDs xs)
  | .non => .none
  | .ref _ => .none
  | .dk _ _ => .none
  | .dt _ _ => .none
def toPDs : List DV → List PyData
  | [] => []
  | x :: xs => toPD x :: toPDs xs
end
mutual
theorem pd_plain : ∀ d : DV, (toPD d).plain = true
  | .non => by simp [toPD, PyData.plain]
  | .bl _ => by simp [toPD, PyData.plain]
  | .int _ => by simp [toPD, PyData.plain]
  | .str _ => by simp [toPD, PyData.plain]
  | .ref _ => by simp [toPD, PyData.plain]
  | .dk _ _ => by simp [toPD, PyData.plain]
  | .dt _ _ => by simp [toPD, PyData.plain]
  | .tup xs => by rw [toPD, PyData.plain]; exact pds_plain xs
  | .kt xs => by rw [toPD, PyData.plain]; exact pds_plain xs
  | .lst xs => by rw [toPD, PyData.plain]; exact pds_plain xs
  | .kl xs => by rw [toPD, PyData.plain]; exact pds_plain xs
theorem pds_plain : ∀ ds : List DV, PyData.plainAll (toPDs ds) = true
  | [] => by simp [toPDs, PyData.plainAll]
  | x :: xs => by rw [toPDs, PyData.plainAll, pd_plain x, pds_plain xs]; rfl
end
mutual
theorem pd_depth : ∀ (n : Nat) (d : DV), eqOk n d = true → (toPD d).depth ≤ n
  | n, .non, _ => by simp [toPD, PyData.depth]
  | n, .bl _, _ => by simp [toPD, PyData.depth]
  | n, .int _, _ => by simp [toPD, PyData.depth]
  | n, .str _, _ => by simp [toPD, PyData.depth]
  | n, .ref _, h => by simp [eqOk] at h
  | n, .dk _ _, h => by simp [eqOk] at h
  | n, .dt _ _, h => by simp [eqOk] at h
  | 0, .tup xs, h => by simp [eqOk] at h
  | 0, .kt xs, h => by simp [eqOk] at h
  | 0, .lst xs, h => by simp [eqOk] at h
  | 0, .kl xs, h => by simp [eqOk] at h
  | n + 1, .tup xs, h => by rw [eqOk] at h; rw [toPD, PyData.depth]; exact Nat.succ_le_succ (pds_depth n xs h)
  | n + 1, .kt xs, h => by rw [eqOk] at h; rw [toPD, PyData.depth]; exact Nat.succ_le_succ (pds_depth n xs h)
  | n + 1, .lst xs, h => by rw [eqOk] at h; rw [toPD, PyData.depth]; exact Nat.succ_le_succ (pds_depth n xs h)
  | n + 1, .kl xs, h => by rw [eqOk] at h; rw [toPD, PyData.depth]; exact Nat.succ_le_succ (pds_depth n xs h)
theorem pds_depth : ∀ (n : Nat) (ds : List DV), eqOks n ds = true → PyData.depthAll (toPDs ds) ≤ n
  | n, [], _ => by simp [toPDs, PyData.depthAll]
  | n, x :: xs, h => by
    rw [eqOks, Bool.and_eq_true] at h
    rw [toPDs, PyData.depthAll]
    exact Nat.max_le.mpr ⟨pd_depth n x h.1, pds_depth n xs h.2⟩
end
theorem toS_beq (x y : List Nat) : (toS x == toS y) = (x == y) := by
  by_cases h : x = y
  · subst h; simp
  · have h2 : ¬ toS x = toS y := fun e => h (toS_inj e)
    rw [beq_eq_false_iff_ne.mpr h, beq_eq_false_iff_ne.mpr h2]
mutual
theorem pd_eqv : ∀ (n : Nat) (x y : DV), eqOk n x = true → eqOk n y = true → PyData.eqv (toPD x) (toPD y) = deq x y
  | n, x, y, h, q => by
    cases n with
    | zero =>
      cases x <;> first | (simp [eqOk] at h; done) | skip
      all_goals cases y <;> first | (simp [eqOk] at q; done) | skip
      all_goals (simp only [toPD, PyData.eqv, deq, toS_beq])
    | succ n =>
      cases x <;> first | (simp [eqOk] at h; done) | skip
      all_goals cases y <;> first | (simp [eqOk] at q; done) | skip
      all_goals (simp only [toPD, PyData.eqv, deq, toS_beq])
      all_goals first
        | (simp only [eqOk] at h q
           exact pds_eqv n _ _ h q)
        | trace_state
theorem pds_eqv : ∀ (n : Nat) (xs ys : List DV), eqOks n xs = true → eqOks n ys = true → PyData.eqvAll (toPDs xs) (toPDs ys) = deqs xs ys
  | n, [], [], _, _ => by simp [toPDs, PyData.eqvAll, deqs]
  | n, [], y :: ys, _, _ => by simp [toPDs, PyData.eqvAll, deqs]
  | n, x :: xs, [], _, _ => by simp [toPDs, PyData.eqvAll, deqs]
  | n, x :: xs, y :: ys, h, q => by
    rw [eqOks, Bool.and_eq_true] at h q
    rw [toPDs, toPDs, PyData.eqvAll, deqs, pd_eqv n x y h.1 q.1, pds_eqv n xs ys h.2 q.2]
end
mutual
theorem Rl.dp (w : WR K base ρ R m H) : ∀ (n : Nat) (d : DV) (v : V), Rl K ρ R d v → eqOk n d = true → Dp K H v (toPD d)
  | n, .non, v, h, _ => by rw [rl_non.mp h, toPD]; exact .non
  | n, .bl b, v, h, _ => by rw [rl_bl.mp h, toPD]; exact .bl b
  | n, .int b, v, h, _ => by rw [rl_int.mp h, toPD]; exact .int b
  | n, .str b, v, h, _ => by rw [(rl_str.mp h).2, toPD]; exact .str _
  | n, .ref _, v, _, h => by simp [eqOk] at h
  | n, .dk _ _, v, _, h => by simp [eqOk] at h
  | n, .dt _ _, v, _, h => by simp [eqOk] at h
  | 0, .tup xs, v, _, h => by simp [eqOk] at h
  | 0, .kt xs, v, _, h => by simp [eqOk] at h
  | 0, .lst xs, v, _, h => by simp [eqOk] at h
  | 0, .kl xs, v, _, h => by simp [eqOk] at h
  | n + 1, .tup xs, v, h, q => by rw [eqOk] at q; obtain ⟨z, a, vs, e, p, r⟩ := rl_tup.mp h; rw [e, toPD]; exact .tup (.of (w.sub _ _ p)) (Rls.dp w n xs vs r q)
  | n + 1, .kt xs, v, h, q => by rw [eqOk] at q; obtain ⟨z, a, vs, e, p, r⟩ := rl_kt.mp h; rw [e, toPD]; exact .tup (w.nt p).st (Rls.dp w n xs vs r q)
  | n + 1, .lst xs, v, h, q => by rw [eqOk] at q; obtain ⟨z, a, vs, e, p, r⟩ := rl_lst.mp h; rw [e, toPD]; exact .lst (.inl (w.rd p)) (Rls.dp w n xs vs r q)
  | n + 1, .kl xs, v, h, q => by rw [eqOk] at q; obtain ⟨z, a, vs, e, p, r⟩ := rl_kl.mp h; rw [e, toPD]; exact .lst (w.sl p) (Rls.dp w n xs vs r q)
theorem Rls.dp (w : WR K base ρ R m H) : ∀ (n : Nat) (ds : List DV) (vs : List V), Rls K ρ R ds vs → eqOks n ds = true → DpAll K H vs (toPDs ds)
  | n, [], vs, h, _ => by rw [Rls.nil_iff.mp h, toPDs]; exact .nil
  | n, d :: ds, vs, h, q => by
    rw [eqOks, Bool.and_eq_true] at q
    obtain ⟨v, r, e, h1, h2⟩ := Rls.cons_iff.mp h
    rw [e, toPDs]
    exact .cons (Rl.dp w n d v h1 q.1) (Rls.dp w n ds r h2 q.2)
end
theorem Hl.dp (w : WR K base ρ R m H) {n : Nat} {d : DV} {v : V} (h : Hl K ρ R H d v) (q : eqOk n d = true) : Dp K H v (toPD d) := by
  cases d with
  | non => rw [show v = .non from h, toPD]; exact .non
  | bl b => rw [show v = .bl b from h, toPD]; exact .bl b
  | int b => rw [show v = .int b from h, toPD]; exact .int b
  | str b => rw [(show _ ∧ v = .str (toS b) from h).2, toPD]; exact .str _
  | ref _ => simp [eqOk] at q
  | dk _ _ => simp [eqOk] at q
  | dt _ _ => simp [eqOk] at q
  | tup xs =>
    cases n with
    | zero => simp [eqOk] at q
    | succ n => rw [eqOk] at q; obtain ⟨z, a, vs, e, p, r⟩ := h; rw [e, toPD]; exact .tup (.of p) (Rls.dp w n xs vs r q)
  | kt xs =>
    cases n with
    | zero => simp [eqOk] at q
    | succ n => rw [eqOk] at q; obtain ⟨z, a, vs, e, p, r⟩ := h; rw [e, toPD]; exact .tup p.st (Rls.dp w n xs vs r q)
  | lst xs =>
    cases n with
    | zero => simp [eqOk] at q
    | succ n => rw [eqOk] at q; obtain ⟨z, a, vs, e, p, r⟩ := h; rw [e, toPD]; exact .lst (.inl p) (Rls.dp w n xs vs r q)
  | kl xs =>
    cases n with
    | zero => simp [eqOk] at q
    | succ n => rw [eqOk] at q; obtain ⟨z, a, vs, e, p, r⟩ := h; rw [e, toPD]; exact .lst p (Rls.dp w n xs vs r q)
theorem pds_any (n : Nat) (x : DV) (hx : eqOk n x = true) : ∀ ys : List DV, eqOks n ys = true → ((toPDs ys).any fun y => PyData.eqv y (toPD x)) = dIn x ys
  | [], _ => rfl
  | y :: ys, h => by
    rw [eqOks, Bool.and_eq_true] at h
    rw [toPDs, List.any_cons, pd_eqv n y x h.1 hx, pds_any n x hx ys h.2]
    rfl
end
section
variable {X : Cx}
/-- == and != of data, in and not in -/
def rEqP (X : Cx) (ne : Bool) : R2 := fun x y H Q => ∃ d e, Dp X.K H x d ∧ Dp X.K H y e ∧ d.plain = true ∧ e.plain = true ∧ d.depth ≤ 64 ∧ Q (.bl (if ne = true then !PyData.eqv d e else PyData.eqv d e)) H
theorem op_eqP {k : Nat} (hr : Room k X.A) : OpR X (compareOp .Eq) (rEqP X false) := by
  intro pins s σ H x y v u Q I rx ry h
  obtain ⟨d, e, hd, he, p1, p2, hl, q⟩ := h
  obtain ⟨as, r1⟩ := Dp.reads I d x v hd rx
  obtain ⟨bs, r2⟩ := Dp.reads I e y u he ry
  have hu := hr.units
  exact SeqAt.eq_plain r1 r2 p1 p2 (by have := Nat.min_le_left d.depth e.depth; omega) ⟨.bl _, H, I, rfl, q⟩
theorem op_neP {k : Nat} (hr : Room k X.A) : OpR X (compareOp .NotEq) (rEqP X true) := by
  intro pins s σ H x y v u Q I rx ry h
  obtain ⟨d, e, hd, he, p1, p2, hl, q⟩ := h
  obtain ⟨as, r1⟩ := Dp.reads I d x v hd rx
  obtain ⟨bs, r2⟩ := Dp.reads I e y u he ry
  have hu := hr.units
  exact SeqAt.ne_plain r1 r2 p1 p2 (by have := Nat.min_le_left d.depth e.depth; omega) ⟨.bl _, H, I, rfl, q⟩
def rInP (X : Cx) (ne : Bool) : R2 := fun x y H Q => ∃ d es, Dp X.K H x d ∧ (Dp X.K H y (.list es) ∨ Dp X.K H y (.tuple es)) ∧ d.plain = true ∧ PyData.plainAll es = true ∧ d.depth ≤ 64 ∧ Q (.bl (if ne = true then !(es.any fun z => PyData.eqv z d) else es.any fun z => PyData.eqv z d)) H
theorem op_inP {k : Nat} (hr : Room k X.A) : OpR X (compareOp .In) (rInP X false) := by
  intro pins s σ H x y v u Q I rx ry h
  obtain ⟨d, es, hd, he, p1, p2, hl, q⟩ := h
  obtain ⟨as, r1⟩ := Dp.reads I d x v hd rx
  have hu := hr.un
  have hm : X.A.units + 1 + min (PyData.depthAll es) d.depth < cLine := by have := Nat.min_le_right (PyData.depthAll es) d.depth; omega
  rcases he with he | he
  · obtain ⟨bs, r2⟩ := Dp.reads I _ y u he ry
    exact SeqAt.in_list_data r2 r1 p2 p1 hm ⟨.bl _, H, I, rfl, q⟩
  · obtain ⟨bs, r2⟩ := Dp.reads I _ y u he ry
    exact SeqAt.in_tuple_data r2 r1 p2 p1 hm ⟨.bl _, H, I, rfl, q⟩
theorem op_notinP {k : Nat} (hr : Room k X.A) : OpR X (compareOp .NotIn) (rInP X true) := by
  intro pins s σ H x y v u Q I rx ry h
  obtain ⟨d, es, hd, he, p1, p2, hl, q⟩ := h
  obtain ⟨as, r1⟩ := Dp.reads I d x v hd rx
  have hu := hr.un
  have hm : X.A.units + 1 + min (PyData.depthAll es) d.depth < cLine := by have := Nat.min_le_right (PyData.depthAll es) d.depth; omega
  rcases he with he | he
  · obtain ⟨bs, r2⟩ := Dp.reads I _ y u he ry
    exact SeqAt.notIn_list_data r2 r1 p2 p1 hm ⟨.bl _, H, I, rfl, q⟩
  · obtain ⟨bs, r2⟩ := Dp.reads I _ y u he ry
    exact SeqAt.notIn_tuple_data r2 r1 p2 p1 hm ⟨.bl _, H, I, rfl, q⟩
end
end Ev

set_option Elab.async false
set_option linter.all false
set_option maxRecDepth 100000
/-! Comparisons, tests, truth, subscripts, slices, displays: rules. -/
namespace Ev
open PySem PySem.Spec PyProof.Rows L2

section
variable {C : SC} {s : Sc} {X : Cx} {a b c : Ex} {a' b' c' : Expr} {pos : Pos}
def cmOp : Cm → CmpOp
  | .eq => .Eq | .ne => .NotEq | .lt => .Lt | .le => .LtE | .gt => .Gt | .ge => .GtE | .is => .Is | .isnot => .IsNot | .in_ => .In | .notin => .NotIn
def noSetE : Expr → Bool
  | .Set .. => false
  | _ => true
theorem noMarks {op : CmpOp} {e : Expr} (h : noSetE e = true) : behindInMarks op e = false := by
  cases e <;> first | rfl | (simp [noSetE] at h)
/-- a comparison by values -/
def rCmp0 (C : SC) (c : Cm) : R2 := fun x y H Q => ∃ base ρ R m d e k, WR C.K base ρ R m H ∧ Hl C.K ρ R H d x ∧ Hl C.K ρ R H e y ∧ cmp0 c d e = some k ∧ Q (.bl k) H
def rCmp (C : SC) (c : Cm) : R2 := fun x y H Q => ∃ base ρ R m d e k, WR C.K base ρ R m H ∧ Hl C.K ρ R H d x ∧ Hl C.K ρ R H e y ∧ cmpD c d e = some k ∧ Q (.bl k) H
theorem kv_val {κ κ' : Type} [DecidableEq κ] [DecidableEq κ'] {K : PySem.W.Frag} {ρ : List Addr} {R : Hp} {f : κ' → κ} (hf : ∀ a b, f a = f b → a = b) : ∀ {kvs : List (κ × V)} {ks : List κ'} {vs : List DV} (j : κ'),
    kvs.map (·.1) = ks.map f → Rls K ρ R vs (kvs.map (·.2)) → match look ks vs j with
      | some d => ∃ v, valV kvs (f j) = some v ∧ Rl K ρ R d v
      | none => valV kvs (f j) = none
  | [], [], [], j, _, _ => rfl
  | [], [], _ :: _, j, _, h => by simp [Rls] at h
  | [], _ :: _, _, j, h, _ => by simp at h
  | _ :: _, [], _, j, h, _ => by simp at h
  | (k, v) :: kvs, k' :: ks, [], j, _, h => by simp [Rls] at h
  | (k, v) :: kvs, k' :: ks, d :: vs, j, h, q => by
    rw [List.map_cons, List.map_cons] at h
    injection h with h1 h2
    obtain ⟨v', r, e, h3, h4⟩ := Rls.cons_iff.mp q
    injection e with e1 e2
    subst e1
    have ih := kv_val hf j h2 (show Rls K ρ R vs (kvs.map (·.2)) by rw [show kvs.map (·.2) = r from e2]; exact h4)
    have h1' : k = f k' := h1
    by_cases hk : k' = j
    · subst hk
      have : look (k' :: ks) (d :: vs) k' = some d := by rw [look, if_pos rfl]
      rw [this]
      exact ⟨v, valV_pos h1', h3⟩
    · have : look (k' :: ks) (d :: vs) j = look ks vs j := by rw [look, if_neg hk]
      rw [this, valV_neg (show ¬ k = f j from fun z => hk (hf _ _ (h1'.symm.trans z)))]
      exact ih
theorem kaOf_rl {K : PySem.W.Frag} {ρ : List Addr} {R H : Hp} {d : DV} {v : V} {k : KA} (h : Hl K ρ R H d v) (e : kaOf d = some k) : v = kV (kaK k) := by
  cases d <;> first | (simp [kaOf] at e; done) | skip
  · obtain rfl := Option.some.inj e
    exact h
  · obtain rfl := Option.some.inj e
    exact h.2
theorem kaOf_rl' {K : PySem.W.Frag} {ρ : List Addr} {R : Hp} {d : DV} {v : V} {k : KA} (h : Rl K ρ R d v) (e : kaOf d = some k) : v = kV (kaK k) := by
  cases d <;> first | (simp [kaOf] at e; done) | skip
  · obtain rfl := Option.some.inj e
    exact rl_int.mp h
  · obtain rfl := Option.some.inj e
    exact (rl_str.mp h).2
theorem kaOfs_rl {K : PySem.W.Frag} {ρ : List Addr} {R : Hp} : ∀ {ds : List DV} {vs : List V} {ks : List KA}, Rls K ρ R ds vs → ds.mapM kaOf = some ks → vs = (ks.map kaK).map kV
  | [], vs, ks, h, e => by
    rw [List.mapM_nil] at e
    obtain rfl := Option.some.inj e
    rw [Rls.nil_iff.mp h]
    rfl
  | d :: ds, vs, ks, h, e => by
    obtain ⟨v, r, e1, h1, h2⟩ := Rls.cons_iff.mp h
    rw [List.mapM_cons] at e
    cases ek : kaOf d with
    | none => rw [ek] at e; cases e
    | some k =>
      cases er : ds.mapM kaOf with
      | none => rw [ek, er] at e; cases e
      | some kr =>
        rw [ek, er] at e
        obtain rfl := Option.some.inj e
        rw [e1, kaOf_rl' h1 ek, kaOfs_rl h2 er]
        rfl
theorem ktOf_rl {K : PySem.W.Frag} {ρ : List Addr} {R H : Hp} {d : DV} {v : V} {k : List KA} (h : Hl K ρ R H d v) (e : ktOf d = some k) : ∃ t, v = V.ref t ∧ H t = some (.tup ((k.map kaK).map kV)) := by
  cases d <;> first | (simp [ktOf] at e; done) | skip
  obtain ⟨z, t, vs, e1, e2, r⟩ := h
  exact ⟨t, e1, by rw [e2, kaOfs_rl r e]⟩
/-- what a dict holds -/
theorem dget_ok {K : PySem.W.Frag} {base : Bs} {ρ : List Addr} {R H : Hp} {m : Mem} (w : WR K base ρ R m H) {d y : DV} {v u : V} {o : Option DV} (h : Hl K ρ R H d v) (hy : Hl K ρ R H y u) (e : dget d y = some o) :
    ∃ a, v = V.ref a ∧ match o with
      | some x => ∃ z, DGet H a u (some z) ∧ Rl K ρ R x z
      | none => DGet H a u none := by
  cases d <;> first | (simp [dget] at e; done) | skip
  · rename_i ks vs
    obtain ⟨z, a, kvs, e1, e2, e3, r⟩ := h
    simp only [dget, Option.map_eq_some_iff] at e
    obtain ⟨k, ek, eo⟩ := e
    refine ⟨a, e1, ?_⟩
    have hv := kv_val (f := kaK) (fun a b => kaK_inj) k e3 r
    rw [eo] at hv
    have hu := kaOf_rl hy ek
    cases o with
    | none => exact .inl ⟨kvs, kaK k, e2, hu, hv.symm⟩
    | some x => obtain ⟨z, h1, h2⟩ := hv; exact ⟨z, .inl ⟨kvs, kaK k, e2, hu, h1.symm⟩, h2⟩
  · rename_i ks vs
    obtain ⟨z, a, kvs, e1, e2, e3, r⟩ := h
    simp only [dget, Option.map_eq_some_iff] at e
    obtain ⟨k, ek, eo⟩ := e
    refine ⟨a, e1, ?_⟩
    have hv := kv_val (f := List.map kaK) (fun a b => kaKs_inj) k e3 r
    rw [eo] at hv
    obtain ⟨t, hu, ht⟩ := ktOf_rl hy ek
    cases o with
    | none => exact .inr ⟨kvs, k.map kaK, t, e2, hu, ht, hv.symm⟩
    | some x => obtain ⟨z, h1, h2⟩ := hv; exact ⟨z, .inr ⟨kvs, k.map kaK, t, e2, hu, ht, h1.symm⟩, h2⟩

theorem Hl.strV {K : PySem.W.Frag} {ρ : List Addr} {R H : Hp} {x : List Nat} {v : V} (h : Hl K ρ R H (.str x) v) : v = .str (toS x) := (show _ ∧ v = .str (toS x) from h).2
theorem Hl.non_iff {K : PySem.W.Frag} {ρ : List Addr} {R H : Hp} {d : DV} {v : V} (h : Hl K ρ R H d v) : decide (v = .non) = isNonD d := by
  cases d with
  | non => rw [show v = .non from h]; rfl
  | bl b => rw [show v = .bl b from h]; rfl
  | int b => rw [show v = .int b from h]; rfl
  | str b => rw [(show _ ∧ v = .str (toS b) from h).2]; rfl
  | ref _ => exact (show False from h).elim
  | dk _ _ => obtain ⟨z, a, vs, e, p, r⟩ := h; rw [e]; rfl
  | dt _ _ => obtain ⟨z, a, vs, e, p, r⟩ := h; rw [e]; rfl
  | tup xs => obtain ⟨z, a, vs, e, p, r⟩ := h; rw [e]; rfl
  | kt xs => obtain ⟨z, a, vs, e, p, r⟩ := h; rw [e]; rfl
  | lst xs => obtain ⟨z, a, vs, e, p, r⟩ := h; rw [e]; rfl
  | kl xs => obtain ⟨z, a, vs, e, p, r⟩ := h; rw [e]; rfl
theorem oimp {f : Value → Value → Sem Value} {r r' : R2} (h : OpR X f r) (i : ∀ x y H Q, r' x y H Q → r x y H Q) : OpR X f r' := fun pins s σ H x y v u Q I rx ry q => h pins s σ H x y v u Q I rx ry (i _ _ _ _ q)
/-- a key in a dict -/
def rInK (ne : Bool) : R2 := fun x y H Q => ∃ a o, y = V.ref a ∧ DGet H a x o ∧ Q (.bl (if ne = true then !o.isSome else o.isSome)) H
theorem op_inK {k : Nat} (hr : Room k X.A) : OpR X (compareOp .In) (rInK false) := by
  intro pins s σ H x y v u Q I rx ry h
  obtain ⟨a, o, rfl, g, q⟩ := h
  cases ry
  exact d_in (hu_of hr) I g rx fun s' I' => ⟨.bl _, H, I', rfl, q⟩
theorem op_notinK {k : Nat} (hr : Room k X.A) : OpR X (compareOp .NotIn) (rInK true) := by
  intro pins s σ H x y v u Q I rx ry h
  obtain ⟨a, o, rfl, g, q⟩ := h
  cases ry
  exact d_notIn (hu_of hr) I g rx fun s' I' => ⟨.bl _, H, I', rfl, q⟩
theorem and_tt {p q : Bool} (h : (p && q) = true) : p = true ∧ q = true := by
  cases p <;> cases q <;> first | exact ⟨rfl, rfl⟩ | cases h
theorem Hl.seqL {K : PySem.W.Frag} {base : Bs} {ρ : List Addr} {R H : Hp} {m : Mem} (w : WR K base ρ R m H) {n : Nat} {ys : List DV} {v : V} (q : eqOks n ys = true) (h : Hl K ρ R H (.lst ys) v ∨ Hl K ρ R H (.kl ys) v) : Dp K H v (.list (toPDs ys)) := by
  rcases h with h | h
  · have := Hl.dp (n := n + 1) w h (by rw [eqOk]; exact q)
    rw [toPD] at this
    exact this
  · have := Hl.dp (n := n + 1) w h (by rw [eqOk]; exact q)
    rw [toPD] at this
    exact this
theorem Hl.seqT {K : PySem.W.Frag} {base : Bs} {ρ : List Addr} {R H : Hp} {m : Mem} (w : WR K base ρ R m H) {n : Nat} {ys : List DV} {v : V} (q : eqOks n ys = true) (h : Hl K ρ R H (.tup ys) v ∨ Hl K ρ R H (.kt ys) v) : Dp K H v (.tuple (toPDs ys)) := by
  rcases h with h | h
  · have := Hl.dp (n := n + 1) w h (by rw [eqOk]; exact q)
    rw [toPD] at this
    exact this
  · have := Hl.dp (n := n + 1) w h (by rw [eqOk]; exact q)
    rw [toPD] at this
    exact this
theorem inP_of {K : PySem.W.Frag} {base : Bs} {ρ : List Addr} {R H : Hp} {m : Mem} (hK : X.K = K) (w : WR K base ρ R m H) {d : DV} {ys : List DV} {x y : V} {ne : Bool} {Q : VK} (hd : Hl K ρ R H d x) (h1 : eqOk 64 d = true) (h2 : eqOks 64 ys = true)
    (hy : Dp K H y (.list (toPDs ys)) ∨ Dp K H y (.tuple (toPDs ys))) (q : Q (.bl (if ne = true then !dIn d ys else dIn d ys)) H) : rInP X ne x y H Q := by
  subst hK
  refine ⟨_, _, Hl.dp w hd h1, hy, pd_plain _, pds_plain _, pd_depth _ _ h1, ?_⟩
  rw [pds_any 64 d h1 ys h2]
  exact q
theorem inK_of {K : PySem.W.Frag} {base : Bs} {ρ : List Addr} {R H : Hp} {m : Mem} (w : WR K base ρ R m H) {d e : DV} {o : Option DV} {x y : V} {ne : Bool} {Q : VK} (hd : Hl K ρ R H d x) (he : Hl K ρ R H e y) (g : dget e d = some o)
    (q : Q (.bl (if ne = true then !o.isSome else o.isSome)) H) : rInK ne x y H Q := by
  obtain ⟨a, e1, h⟩ := dget_ok w he hd g
  cases o with
  | none => exact ⟨a, none, e1, h, q⟩
  | some d' =>
    obtain ⟨z, h1, h2⟩ := h
    exact ⟨a, some z, e1, h1, q⟩
theorem sign_in {K : PySem.W.Frag} {ρ : List Addr} {R H : Hp} {a : Nat} {t : List Nat} {x y : V} {P : Bool → Prop} (hd : Hl K ρ R H (.str [a]) x) (he : Hl K ρ R H (.str t) y) (q : P (decide (a ∈ t))) : ∃ (c : Nat) (z : Str), x = .str ⟨#[c]⟩ ∧ y = .str z ∧ P (decide (c ∈ z.cps.toList)) :=
  ⟨a, toS t, hd.strV, he.strV, by
    have e : (toS t).cps.toList = t := by simp [toS]
    rw [e]
    exact q⟩
theorem op_cmp0 (hX : XO C s X) : ∀ c : Cm, OpR X (compareOp (cmOp c)) (rCmp0 C c) := by
  obtain ⟨kr, hr⟩ := hX.room
  intro c
  cases c with
  | eq =>
    refine oimp (op_eqP hr) ?_
    rintro x y H Q ⟨base, ρ, R, m, d, e, k, w, hd, he, hc, q⟩
    simp only [cmp0] at hc
    obtain ⟨h1, rfl⟩ := some_if hc
    obtain ⟨h1, h2⟩ := and_tt h1
    refine ⟨_, _, by rw [hX.K]; exact Hl.dp w hd h1, by rw [hX.K]; exact Hl.dp w he h2, pd_plain _, pd_plain _, pd_depth _ _ h1, ?_⟩
    rw [pd_eqv 64 d e h1 h2]
    exact q
  | ne =>
    refine oimp (op_neP hr) ?_
    rintro x y H Q ⟨base, ρ, R, m, d, e, k, w, hd, he, hc, q⟩
    simp only [cmp0] at hc
    obtain ⟨h1, rfl⟩ := some_if hc
    obtain ⟨h1, h2⟩ := and_tt h1
    refine ⟨_, _, by rw [hX.K]; exact Hl.dp w hd h1, by rw [hX.K]; exact Hl.dp w he h2, pd_plain _, pd_plain _, pd_depth _ _ h1, ?_⟩
    rw [pd_eqv 64 d e h1 h2]
    exact q
  | lt =>
    refine oimp (op_lt (X := X)) ?_
    rintro x y H Q ⟨base, ρ, R, m, d, e, k, w, hd, he, hc, q⟩
    cases d <;> cases e <;> first | (simp [cmp0] at hc; done) | skip
    obtain rfl := Option.some.inj hc
    exact ⟨_, _, hd, he, q⟩
  | le =>
    refine oimp (op_le (X := X)) ?_
    rintro x y H Q ⟨base, ρ, R, m, d, e, k, w, hd, he, hc, q⟩
    cases d <;> cases e <;> first | (simp [cmp0] at hc; done) | skip
    obtain rfl := Option.some.inj hc
    exact ⟨_, _, hd, he, q⟩
  | gt =>
    refine oimp (op_gt (X := X)) ?_
    rintro x y H Q ⟨base, ρ, R, m, d, e, k, w, hd, he, hc, q⟩
    cases d <;> cases e <;> first | (simp [cmp0] at hc; done) | skip
    obtain rfl := Option.some.inj hc
    exact ⟨_, _, hd, he, q⟩
  | ge =>
    refine oimp (op_ge (X := X)) ?_
    rintro x y H Q ⟨base, ρ, R, m, d, e, k, w, hd, he, hc, q⟩
    cases d <;> cases e <;> first | (simp [cmp0] at hc; done) | skip
    obtain rfl := Option.some.inj hc
    exact ⟨_, _, hd, he, q⟩
  | is =>
    refine oimp ((op_isN (X := X)).or op_isBl) ?_
    rintro x y H Q ⟨base, ρ, R, m, d, e, k, w, hd, he, hc, q⟩
    cases e <;> first | (simp [cmp0] at hc; done) | skip
    · have hc' : isNonD d = k := by cases d <;> exact Option.some.inj hc
      refine .inl ⟨he, ?_⟩
      rw [hd.non_iff, hc']
      exact q
    · rename_i b
      cases d <;> first | (simp [cmp0] at hc; done) | skip
      rename_i c
      have hc' : (c == b) = k := Option.some.inj hc
      refine .inr ⟨c, b, hd, he, ?_⟩
      rw [show decide (c = b) = k by rw [← hc']; rfl]
      exact q
  | isnot =>
    refine oimp ((op_notN (X := X)).or op_notBl) ?_
    rintro x y H Q ⟨base, ρ, R, m, d, e, k, w, hd, he, hc, q⟩
    cases e <;> first | (simp [cmp0] at hc; done) | skip
    · have hc' : (!isNonD d) = k := by cases d <;> exact Option.some.inj hc
      refine .inl ⟨he, ?_⟩
      rw [hd.non_iff, hc']
      exact q
    · rename_i b
      cases d <;> first | (simp [cmp0] at hc; done) | skip
      rename_i c
      have hc' : (!(c == b)) = k := Option.some.inj hc
      refine .inr ⟨c, b, hd, he, ?_⟩
      rw [show (!decide (c = b)) = k by rw [← hc']; rfl]
      exact q
  | in_ =>
    refine oimp (((op_inP hr).or (op_inK hr)).or (op_in_sign (X := X))) ?_
    rintro x y H Q ⟨base, ρ, R, m, d, e, k, w, hd, he, hc, q⟩
    unfold cmp0 at hc
    split at hc <;> first | (exfalso; exact Cm.noConfusion ‹_›) | skip
    all_goals first
      | (obtain rfl := Option.some.inj hc
         exact .inr (sign_in (P := fun k => Q (.bl k) H) hd he q))
      | (obtain ⟨h1, rfl⟩ := some_if hc
         obtain ⟨h1, h2⟩ := and_tt h1
         first
           | exact .inl (.inl (inP_of (ne := false) hX.K w hd h1 h2 (.inl (Hl.seqL w h2 (.inl he))) q))
           | exact .inl (.inl (inP_of (ne := false) hX.K w hd h1 h2 (.inr (Hl.seqT w h2 (.inl he))) q))
           | exact .inl (.inl (inP_of (ne := false) hX.K w hd h1 h2 (.inr (Hl.seqT w h2 (.inr he))) q)))
      | (obtain ⟨o, h1, rfl⟩ := Option.map_eq_some_iff.mp hc
         exact .inl (.inr (inK_of (ne := false) w hd he h1 q)))
      | cases hc
  | notin =>
    refine oimp (((op_notinP hr).or (op_notinK hr)).or (op_notIn_sign (X := X))) ?_
    rintro x y H Q ⟨base, ρ, R, m, d, e, k, w, hd, he, hc, q⟩
    unfold cmp0 at hc
    split at hc <;> first | (exfalso; exact Cm.noConfusion ‹_›) | skip
    all_goals first
      | (obtain rfl := Option.some.inj hc
         exact .inr (sign_in (P := fun k => Q (.bl (!k)) H) hd he q))
      | (obtain ⟨h1, rfl⟩ := some_if hc
         obtain ⟨h1, h2⟩ := and_tt h1
         first
           | exact .inl (.inl (inP_of (ne := true) hX.K w hd h1 h2 (.inl (Hl.seqL w h2 (.inl he))) q))
           | exact .inl (.inl (inP_of (ne := true) hX.K w hd h1 h2 (.inr (Hl.seqT w h2 (.inl he))) q))
           | exact .inl (.inl (inP_of (ne := true) hX.K w hd h1 h2 (.inr (Hl.seqT w h2 (.inr he))) q)))
      | (obtain ⟨o, h1, rfl⟩ := Option.map_eq_some_iff.mp hc
         exact .inl (.inr (inK_of (ne := true) w hd he h1 q)))
      | cases hc
theorem flat_same {K : PySem.W.Frag} {ρ : List Addr} {R : Hp} {x y : DV} {v u : V} (h : flatEq x y = true) (rx : Rl K ρ R x v) (ry : Rl K ρ R y u) : u = v ∧ flatB v = true := by
  cases x <;> cases y <;> first | (cases h; done) | skip
  · rw [rl_non.mp rx, rl_non.mp ry]; exact ⟨rfl, rfl⟩
  · have := eq_of_beq h
    subst this
    rw [rl_bl.mp rx, rl_bl.mp ry]; exact ⟨rfl, rfl⟩
  · have := eq_of_beq h
    subst this
    rw [rl_int.mp rx, rl_int.mp ry]; exact ⟨rfl, rfl⟩
  · have := eq_of_beq h
    subst this
    rw [(rl_str.mp rx).2, (rl_str.mp ry).2]; exact ⟨rfl, rfl⟩
theorem kvs_len' {κ κ' : Type} {kvs : List (κ × V)} {ks : List κ'} {f : κ' → κ} (h : kvs.map (·.1) = ks.map f) : kvs.length = ks.length := by
  have := congrArg List.length h
  simpa using this
theorem same_vals {K : PySem.W.Frag} {ρ : List Addr} {R : Hp} {js : List KA} {ws : List DV} {jvs : List (Key × V)} (hj : jvs.map (·.1) = js.map kaK) (rj : Rls K ρ R ws (jvs.map (·.2))) : ∀ {ks : List KA} {vs : List DV} {kvs : List (Key × V)}, kvs.map (·.1) = ks.map kaK → Rls K ρ R vs (kvs.map (·.2)) →
    ((ks.zip vs).all fun p => match look js ws p.1 with
      | some u => flatEq p.2 u
      | none => false) = true → ∀ p ∈ kvs, valV jvs p.1 = some p.2 ∧ flatB p.2 = true
  | [], vs, kvs, hk, r, h, p, hp => by
    have := kvs_len' hk
    cases kvs with
    | nil => cases hp
    | cons _ _ => cases this
  | k :: ks, vs, kvs, hk, r, h, p, hp => by
    cases kvs with
    | nil => cases hp
    | cons q kvs =>
      rw [List.map_cons, List.map_cons] at hk
      injection hk with hk1 hk2
      rw [List.map_cons] at r
      cases vs with
      | nil => cases Rls.nil_iff.mp r
      | cons v vs =>
        obtain ⟨u, us, e, r1, r2⟩ := Rls.cons_iff.mp r
        injection e with e1 e2
        subst e1 e2
        rw [List.zip_cons_cons, List.all_cons, Bool.and_eq_true] at h
        rcases List.mem_cons.mp hp with rfl | hp
        · have hv := kv_val (f := kaK) (fun a b => kaK_inj) k hj rj
          have h1 := h.1
          simp only at h1
          cases hl : look js ws k with
          | none => rw [hl] at h1; cases h1
          | some y =>
            rw [hl] at h1 hv
            obtain ⟨z, hz1, hz2⟩ := hv
            obtain ⟨e3, e4⟩ := flat_same h1 r1 hz2
            rw [hk1]
            exact ⟨by rw [← e3]; exact hz1, e4⟩
        · exact same_vals hj rj hk2 r2 h.2 p hp
/-- dicts that stand somewhere, with the same entries -/
def rSame (ans : Bool) : R2 := fun x y H Q => ∃ p q kx ky, x = .ref p ∧ y = .ref q ∧ Rd H p (.dK kx) ∧ Rd H q (.dK ky) ∧ kx.length = ky.length ∧ (∀ e ∈ kx, valV ky e.1 = some e.2 ∧ flatB e.2 = true) ∧ Q (.bl ans) H
theorem op_sameE (hu : X.A.units < cLine) : OpR X (compareOp .Eq) (rSame true) := by
  intro pins sh σ H x y v u Q I rx ry h
  obtain ⟨p, q, kx, ky, rfl, rfl, hp, hq, hn, hv, fin⟩ := h
  cases rx
  cases ry
  obtain ⟨_, np, vp, relp, dp⟩ := dk_rd I.hok hp
  obtain ⟨_, nq, vq, relq, dq⟩ := dk_rd I.hok hq
  have hll : vp.length = vq.length := by rw [← relp.length, ← relq.length]; exact hn
  exact PySem.W.keq_eq (knd := mixKind X.prog X.w) (r := true) np nq dp dq hu (fun _ => hits_all relq relp hv) (fin_bl I fin (by simp [hll]))
theorem op_sameN (hu : X.A.units < cLine) : OpR X (compareOp .NotEq) (rSame false) := by
  intro pins sh σ H x y v u Q I rx ry h
  obtain ⟨p, q, kx, ky, rfl, rfl, hp, hq, hn, hv, fin⟩ := h
  cases rx
  cases ry
  obtain ⟨_, np, vp, relp, dp⟩ := dk_rd I.hok hp
  obtain ⟨_, nq, vq, relq, dq⟩ := dk_rd I.hok hq
  have hll : vp.length = vq.length := by rw [← relp.length, ← relq.length]; exact hn
  exact PySem.W.keq_ne (knd := mixKind X.prog X.w) (r := true) np nq dp dq hu (fun _ => hits_all relq relp hv) (fin_bl I fin (by simp [hll]))
theorem op_cmp (hX : XO C s X) (c : Cm) : OpR X (compareOp (cmOp c)) (rCmp C c) := by
  obtain ⟨kr, hr⟩ := hX.room
  have old : OpR X (compareOp (cmOp c)) (rCmp0 C c) := op_cmp0 hX c
  have same : ∀ (ans : Bool) {x y : V} {H : Hp} {Q : VK} {base : Bs} {ρ : List Addr} {R : Hp} {m : Mem} {ks js : List KA} {vs ws : List DV}, Hl C.K ρ R H (.dk ks vs) x → Hl C.K ρ R H (.dk js ws) y → dkSame ks vs js ws = true → Q (.bl ans) H → rSame ans x y H Q := by
    intro ans x y H Q base ρ R m ks js vs ws hd he hs q
    obtain ⟨z1, p, kx, rfl, hp, e1, r1⟩ := hd
    obtain ⟨z2, p2, ky, rfl, hp2, e2, r2⟩ := he
    unfold dkSame at hs
    rw [Bool.and_eq_true] at hs
    exact ⟨p, p2, kx, ky, rfl, rfl, hp, hp2, by rw [kvs_len' e1, kvs_len' e2]; exact eq_of_beq hs.1, same_vals e2 r2 e1 r1 hs.2, q⟩
  intro pins sh σ H x y v u Q I rx ry ⟨base, ρ, R, m, d, e, k, w, hd, he, hc, q⟩
  cases hk : dkCmp c d e with
  | none =>
    have hc : cmp0 c d e = some k := by
      unfold cmpD at hc
      rw [hk] at hc
      exact hc
    exact old pins sh σ H x y v u Q I rx ry ⟨base, ρ, R, m, d, e, k, w, hd, he, hc, q⟩
  | some k' =>
    have : k' = k := by
      unfold cmpD at hc
      rw [hk] at hc
      exact Option.some.inj hc
    subst this
    unfold dkCmp at hk
    split at hk
    · obtain ⟨hs, rfl⟩ := some_if hk
      exact op_sameE (Nat.lt_of_succ_lt (hu_of hr)) pins sh σ H x y v u Q I rx ry (same true (base := base) (m := m) hd he hs q)
    · obtain ⟨hs, rfl⟩ := some_if hk
      exact op_sameN (Nat.lt_of_succ_lt (hu_of hr)) pins sh σ H x y v u Q I rx ry (same false (base := base) (m := m) hd he hs q)
    · cases hk
theorem cmp_imp {c : Cm} {σ : L2.St} {H : Hp} {Q : VK} (h : tE C (.cmp c a b) σ H Q) : tOp (rCmp C c) (tE C a) (tE C b) σ H Q := by
  obtain ⟨base, ρ, R, m, env, w, er, po⟩ := h
  unfold evE at po
  refine two_ops w er po ?_
  intro base ρ R m H x y vx vy w rx ry po
  obtain ⟨z, e, po⟩ := po.of
  obtain ⟨k, hk, rfl⟩ := Option.map_eq_some_iff.mp e
  exact ⟨base, ρ, R, m, _, _, k, w, Hl.of w rx, Hl.of w ry, hk, po.ok Xt.refl w (rl_bl.mpr rfl)⟩
theorem sd_cmp (hX : XO C s X) {c : Cm} (ha : PE X a' (tE C a)) (hb : PE X b' (tE C b)) (hs : noSetE b' = true) : PE X (.Compare a' [cmOp c] [b'] pos) (tE C (.cmp c a b)) :=
  (pe_cmpR (op_cmp hX c) ha hb (noMarks hs)).imp fun _ _ _ => cmp_imp
/-- .. as a test -/
theorem st_cmp (hX : XO C s X) {c : Cm} (ha : PE X a' (tE C a)) (hb : PE X b' (tE C b)) (hs : noSetE b' = true) : PT X (.Compare a' [cmOp c] [b'] pos) (tT C (.val (.cmp c a b))) := by
  refine (pt_cmpR (op_cmp hX c) ha hb (noMarks hs)).imp ?_
  rintro σ H Q ⟨base, ρ, R, m, env, w, er, po⟩
  unfold evT evE at po
  rw [Out.bind_assoc] at po
  simp only [Out.bind_assoc] at po
  refine two_ops w er po ?_
  intro base ρ R m H x y vx vy w rx ry po
  cases hk : cmpD c (rs m x) (rs m y) with
  | none => rw [hk] at po; exact po.elim
  | some k =>
    rw [hk] at po
    exact ⟨base, ρ, R, m, _, _, k, w, Hl.of w rx, Hl.of w ry, hk, k, rfl, po.ok Xt.refl w rfl⟩
end
end Ev

set_option Elab.async false
set_option linter.all false
set_option maxRecDepth 100000
/-! Chains, and, or, not, truth, displays. -/
namespace Ev
open PySem PySem.Spec PyProof.Rows L2

section
variable {C : SC} {s : Sc} {X : Cx} {a b c : Ex} {a' b' c' : Expr} {pos : Pos} {ta tb : TE}
/-! ### a op b op c -/
theorem chain_core {α2 β2 : Type} {T2 : List Addr → Hp → α2 → β2 → Prop} {Q2 : β2 → Hp → Prop} {c1 c2 : Cm} {f : DV → DV → Bool → Mem → Out α2} {σ : L2.St} {H : Hp} {Q : VK} {base : Bs} {ρ : List Addr} {R : Hp} {m : Mem} {env : Env'}
    (w : WR C.K base ρ R m H) (er : ER C.K ρ R env σ)
    (po : Po C.K base T2 ρ R Q2 ((evE C.F C.cs base.n env a m).bind fun x m => (evE C.F C.cs base.n env b m).bind fun y m => (Out.of (cmpD c1 (rs m x) (rs m y)) m).bind fun k m => f x y k m))
    (hf : ∀ ρ R m H y vy x, WR C.K base ρ R m H → Rl C.K ρ R y vy → ER C.K ρ R env σ → Po C.K base T2 ρ R Q2 (f x y false m) → Q (.bl false) H)
    (ht : ∀ ρ R m H y vy x, WR C.K base ρ R m H → Rl C.K ρ R y vy → ER C.K ρ R env σ → Po C.K base T2 ρ R Q2 (f x y true m) → tE C c σ H fun w' H4 => rCmp C c2 vy w' H4 Q) : tChain (rCmp C c1) (rCmp C c2) (tE C a) (tE C b) (tE C c) σ H Q := by
  refine ⟨base, ρ, R, m, env, w, er, (Po.bind (Rl C.K) po).mono fun vx H1 h1 => h1.run fun x m1 ρ1 R1 x1 w1 rx po1 => ?_⟩
  refine ⟨base, ρ1, R1, m1, env, w1, er.mono x1, (Po.bind (Rl C.K) po1).mono fun vy H2 h2 => h2.run fun y m2 ρ2 R2 x2 w2 ry po2 => ?_⟩
  have er2 := (er.mono x1).mono x2
  cases hk : cmpD c1 (rs m2 x) (rs m2 y) with
  | none => rw [hk] at po2; exact po2.elim
  | some k =>
    rw [hk] at po2
    refine ⟨base, ρ2, R2, m2, _, _, k, w2, Hl.of w2 (rx.mono x2), Hl.of w2 ry, hk, k, rfl, ?_⟩
    cases k with
    | false =>
      rw [if_neg Bool.false_ne_true]
      exact hf ρ2 R2 m2 H2 y vy x w2 ry er2 po2
    | true =>
      rw [if_pos rfl]
      exact ht ρ2 R2 m2 H2 y vy x w2 ry er2 po2
theorem noMarks2 {op op' : CmpOp} {e e' : Expr} (h : noSetE e' = true) : lastMarks [op, op'] [e, e'] = false := by
  show behindInMarks op' e' = false
  exact noMarks h
theorem sd_chain (hX : XO C s X) {c1 c2 : Cm} (ha : PE X a' (tE C a)) (hb : PE X b' (tE C b)) (hc : PE X c' (tE C c)) (hs : noSetE c' = true) : PE X (.Compare a' [cmOp c1, cmOp c2] [b', c'] pos) (tE C (.chain c1 c2 a b c)) := by
  refine (pe_chain (op_cmp hX c1) (op_cmp hX c2) ha hb hc (noMarks2 hs)).imp ?_
  rintro σ H Q ⟨base, ρ, R, m, env, w, er, po⟩
  unfold evE at po
  refine chain_core w er po ?_ ?_
  · intro ρ R m H y vy x w ry er po
    exact po.ok Xt.refl w (rl_bl.mpr rfl)
  · intro ρ R m H y vy x w ry er po
    refine ⟨base, ρ, R, m, env, w, er, (Po.bind (Rl C.K) po).mono fun vz H2 h2 => h2.run fun z m2 ρ2 R2 x2 w2 rz po2 => ?_⟩
    obtain ⟨u, e, po2⟩ := po2.of
    obtain ⟨k, hk, rfl⟩ := Option.map_eq_some_iff.mp e
    exact ⟨base, ρ2, R2, m2, _, _, k, w2, Hl.of w2 (ry.mono x2), Hl.of w2 rz, hk, po2.ok Xt.refl w2 (rl_bl.mpr rfl)⟩
theorem st_chain (hX : XO C s X) {c1 c2 : Cm} (ha : PE X a' (tE C a)) (hb : PE X b' (tE C b)) (hc : PE X c' (tE C c)) (hs : noSetE c' = true) : PT X (.Compare a' [cmOp c1, cmOp c2] [b', c'] pos) (tT C (.val (.chain c1 c2 a b c))) := by
  refine (pt_chain (op_cmp hX c1) (op_cmp hX c2) ha hb hc (noMarks2 hs)).imp ?_
  rintro σ H Q ⟨base, ρ, R, m, env, w, er, po⟩
  unfold evT evE at po
  simp only [Out.bind_assoc] at po
  refine chain_core w er po ?_ ?_
  · intro ρ R m H y vy x w ry er po
    exact ⟨false, rfl, po.ok Xt.refl w rfl⟩
  · intro ρ R m H y vy x w ry er po
    simp only [if_true, Out.bind_assoc] at po
    refine ⟨base, ρ, R, m, env, w, er, (Po.bind (Rl C.K) po).mono fun vz H2 h2 => h2.run fun z m2 ρ2 R2 x2 w2 rz po2 => ?_⟩
    cases hk : cmpD c2 (rs m2 y) (rs m2 z) with
    | none => rw [hk] at po2; exact po2.elim
    | some k =>
      rw [hk] at po2
      exact ⟨base, ρ2, R2, m2, _, _, k, w2, Hl.of w2 (ry.mono x2), Hl.of w2 rz, hk, k, rfl, po2.ok Xt.refl w2 rfl⟩
/-! ### truth -/
def rTru (C : SC) : V → Hp → (Bool → Hp → Prop) → Prop := fun x H Q => ∃ base ρ R m d k, WR C.K base ρ R m H ∧ Hl C.K ρ R H d x ∧ truD d = some k ∧ Q k H
theorem isEmpty_rls {K : PySem.W.Frag} {ρ : List Addr} {R : Hp} {ds : List DV} {vs : List V} (h : Rls K ρ R ds vs) : vs.isEmpty = ds.isEmpty := by
  have := h.length
  cases vs <;> cases ds <;> simp at this ⊢
theorem tru2 (hX : XO C s X) : TruR X (rTru C) := by
  intro pins sh σ H x v Q I rx h
  obtain ⟨base, ρ, R, m, d, k, w, hd, hk, q⟩ := h
  have go : TruV X.K x H k → wpAny (model X.prog X.w) X.A (truthy v) (TP X pins σ Q) X.xe sh := fun z => tru_ok pins sh σ H x v Q I rx ⟨k, z, q⟩
  cases d with
  | non =>
    obtain rfl := Option.some.inj hk
    rw [show x = .non from hd] at go
    exact go rfl
  | bl b =>
    obtain rfl := Option.some.inj hk
    rw [show x = .bl b from hd] at go
    exact go rfl
  | int i =>
    obtain rfl := Option.some.inj hk
    rw [show x = .int i from hd] at go
    exact go rfl
  | str t =>
    obtain rfl := Option.some.inj hk
    rw [hd.strV] at go
    refine go ⟨?_, ?_⟩
    · rw [toS_len]
      exact Nat.le_trans (show t.length ≤ SL ∧ _ from hd).1 SL_line
    · rw [toS_len]
      cases t with
      | nil => rfl
      | cons a r =>
        show true = (((r.length + 1 : Nat) : Int) != 0)
        symm
        simp only [bne_iff_ne, ne_eq]
        omega
  | ref _ => exact (show False from hd).elim
  | lst xs =>
    obtain ⟨z, a, vs, e, p, r⟩ := hd
    obtain rfl := Option.some.inj hk
    subst e
    exact go (.inl ⟨vs, .inl p, by rw [isEmpty_rls r]⟩)
  | kl xs =>
    obtain ⟨z, a, vs, e, p, r⟩ := hd
    obtain rfl := Option.some.inj hk
    subst e
    rw [← hX.K] at p
    exact go (.inl ⟨vs, p, by rw [isEmpty_rls r]⟩)
  | tup xs =>
    obtain ⟨z, a, vs, e, p, r⟩ := hd
    obtain rfl := Option.some.inj hk
    subst e
    exact go (.inr (.inl ⟨vs, .of p, by rw [isEmpty_rls r]⟩))
  | kt xs =>
    obtain ⟨z, a, vs, e, p, r⟩ := hd
    obtain rfl := Option.some.inj hk
    subst e
    rw [← hX.K] at p
    exact go (.inr (.inl ⟨vs, p.st, by rw [isEmpty_rls r]⟩))
  | dk ks vs =>
    obtain ⟨z, a, kvs, e, p, e2, r⟩ := hd
    obtain rfl := Option.some.inj hk
    subst e
    cases rx
    refine d_truth I p fun s' I' => ⟨H, I', ?_⟩
    have : kvs.isEmpty = ks.isEmpty := by
      have := congrArg List.length e2
      rw [List.length_map, List.length_map] at this
      cases kvs <;> cases ks <;> simp at this ⊢
    rw [this]
    exact q
  | dt ks vs => cases hk
/-- the test of an expression is the truth of its value -/
def plainT : Expr → Bool
  | .Name .. => true
  | .Call .. => true
  | .Subscript .. => true
  | .Attribute .. => true
  | .ListComp .. => true
  | _ => false
theorem plainT_ok {e : Expr} {env : Env} (h : plainT e = true) : ∀ whole, isTrue e env whole = (do let v ← whole; standAt e.pos; holding [v] (truthy v)) := by
  intro whole
  cases e <;> first | rfl | (simp [plainT] at h)
theorem tru_imp {σ : L2.St} {H : Hp} {Q : Bool → Hp → Prop} (h : tT C (.val a) σ H Q) : tE C a σ H fun x H' => rTru C x H' Q := by
  obtain ⟨base, ρ, R, m, env, w, er, po⟩ := h
  unfold evT at po
  refine ⟨base, ρ, R, m, env, w, er, (Po.bind (Rl C.K) po).mono fun vx H1 h1 => h1.run fun x m1 ρ1 R1 x1 w1 rx po1 => ?_⟩
  obtain ⟨k, hk, po1⟩ := po1.of
  exact ⟨base, ρ1, R1, m1, _, k, w1, Hl.of w1 rx, hk, po1.ok Xt.refl w1 rfl⟩
theorem st_val (hX : XO C s X) (ha : PE X a' (tE C a)) (hp : plainT a' = true) : PT X a' (tT C (.val a)) := by
  refine ⟨fun pins sh σ H Q I h => ?_⟩
  rw [plainT_ok hp]
  refine wpAny_bind (thn (ha.run pins sh σ H _ I (tru_imp h)) fun v s1 ⟨x, H1, I1, r1, q1⟩ => ?_)
  exact wpAny_bind (wpAny_standAt (wpAny_holding (tru2 hX pins s1 σ H1 x v Q I1 r1 q1)))
theorem sd_not (hX : XO C s X) (ha : PE X a' (tE C a)) : PE X (.UnaryOp .Not a' pos) (tE C (.not a)) := by
  refine ⟨fun pins sh σ H Q I ⟨base, ρ, R, m, env, w, er, po⟩ => ?_⟩
  unfold evE at po
  have ht : tE C a σ H fun x H' => rTru C x H' fun k H2 => Q (.bl (!k)) H2 := by
    refine ⟨base, ρ, R, m, env, w, er, (Po.bind (Rl C.K) po).mono fun vx H1 h1 => h1.run fun x m1 ρ1 R1 x1 w1 rx po1 => ?_⟩
    obtain ⟨u, hu, po1⟩ := po1.of
    obtain ⟨k, hk, rfl⟩ := Option.map_eq_some_iff.mp hu
    exact ⟨base, ρ1, R1, m1, _, k, w1, Hl.of w1 rx, hk, po1.ok Xt.refl w1 (rl_bl.mpr rfl)⟩
  refine UnaryOp_ (thn (ha.run pins sh σ H _ I ht) fun v s1 ⟨x, H1, I1, r1, q1⟩ => ?_)
  exact not_of (thn (tru2 hX pins s1 σ H1 x v _ I1 r1 q1) fun k s2 ⟨H2, I2, q2⟩ => ⟨.bl (!k), H2, I2, rfl, q2⟩)
/-! ### and, or, not as tests -/
variable {t u : Ts} {rest : List Expr}
theorem st_not (ha : PT X a' (tT C t)) : PT X (.UnaryOp .Not a' pos) (tT C (.not t)) := by
  refine (pt_not ha).imp ?_
  rintro σ H Q ⟨base, ρ, R, m, env, w, er, po⟩
  unfold evT at po
  refine ⟨base, ρ, R, m, env, w, er, (Po.bind TB po).mono fun k H1 h1 => h1.run fun k' m1 ρ1 R1 x1 w1 e1 po1 => ?_⟩
  rw [show k = k' from e1]
  exact po1.ok Xt.refl w1 rfl
theorem and_imp {σ : L2.St} {H : Hp} {Q : Bool → Hp → Prop} (h : tT C (.and t u) σ H Q) : tAnd (tT C t) (tT C u) σ H Q := by
  obtain ⟨base, ρ, R, m, env, w, er, po⟩ := h
  unfold evT at po
  refine ⟨base, ρ, R, m, env, w, er, (Po.bind TB po).mono fun k H1 h1 => h1.run fun k' m1 ρ1 R1 x1 w1 e1 po1 => ?_⟩
  obtain rfl : k = k' := e1
  cases k with
  | true => rw [if_pos rfl] at po1 ⊢; exact ⟨base, ρ1, R1, m1, env, w1, er.mono x1, po1⟩
  | false => rw [if_neg Bool.false_ne_true] at po1 ⊢; exact po1.ok Xt.refl w1 rfl
theorem or_imp {σ : L2.St} {H : Hp} {Q : Bool → Hp → Prop} (h : tT C (.or t u) σ H Q) : tOr (tT C t) (tT C u) σ H Q := by
  obtain ⟨base, ρ, R, m, env, w, er, po⟩ := h
  unfold evT at po
  refine ⟨base, ρ, R, m, env, w, er, (Po.bind TB po).mono fun k H1 h1 => h1.run fun k' m1 ρ1 R1 x1 w1 e1 po1 => ?_⟩
  obtain rfl : k = k' := e1
  cases k with
  | true => rw [if_pos rfl] at po1 ⊢; exact po1.ok Xt.refl w1 rfl
  | false => rw [if_neg Bool.false_ne_true] at po1 ⊢; exact ⟨base, ρ1, R1, m1, env, w1, er.mono x1, po1⟩
theorem sw_and (ha : PT X a' (tT C t)) (hb : PW X (.BoolOp .And (b' :: rest) pos) (tT C u)) : PW X (.BoolOp .And (a' :: b' :: rest) pos) (tT C (.and t u)) := (pw_and ha hb).imp fun _ _ _ => and_imp
theorem sw_or (ha : PT X a' (tT C t)) (hb : PW X (.BoolOp .Or (b' :: rest) pos) (tT C u)) : PW X (.BoolOp .Or (a' :: b' :: rest) pos) (tT C (.or t u)) := (pw_or ha hb).imp fun _ _ _ => or_imp
/-! ### .. as values -/
theorem sd_and (ha : PE X a' (tE C a)) (hb : PE X (.BoolOp .And (b' :: rest) pos) (tE C b)) : PE X (.BoolOp .And (a' :: b' :: rest) pos) (tE C (.and a b)) := by
  refine (pe_and ha hb).imp ?_
  rintro σ H Q ⟨base, ρ, R, m, env, w, er, po⟩
  unfold evE at po
  refine ⟨base, ρ, R, m, env, w, er, (Po.bind (Rl C.K) po).mono fun vx H1 h1 => h1.run fun x m1 ρ1 R1 x1 w1 rx po1 => ?_⟩
  cases x with
  | bl k =>
    refine ⟨k, rl_bl.mp rx, ?_⟩
    cases k with
    | true => rw [if_pos rfl]; exact ⟨base, ρ1, R1, m1, env, w1, er.mono x1, po1⟩
    | false => rw [if_neg Bool.false_ne_true]; exact po1.ok Xt.refl w1 (rl_bl.mpr rfl)
  | _ => exact po1.elim
theorem sd_or (ha : PE X a' (tE C a)) (hb : PE X (.BoolOp .Or (b' :: rest) pos) (tE C b)) : PE X (.BoolOp .Or (a' :: b' :: rest) pos) (tE C (.or a b)) := by
  refine (pe_or ha hb).imp ?_
  rintro σ H Q ⟨base, ρ, R, m, env, w, er, po⟩
  unfold evE at po
  refine ⟨base, ρ, R, m, env, w, er, (Po.bind (Rl C.K) po).mono fun vx H1 h1 => h1.run fun x m1 ρ1 R1 x1 w1 rx po1 => ?_⟩
  cases x with
  | bl k =>
    refine ⟨k, rl_bl.mp rx, ?_⟩
    cases k with
    | true => rw [if_pos rfl]; exact po1.ok Xt.refl w1 (rl_bl.mpr rfl)
    | false => rw [if_neg Bool.false_ne_true]; exact ⟨base, ρ1, R1, m1, env, w1, er.mono x1, po1⟩
  | _ => exact po1.elim
theorem sd_ite (hc : PT X c' (tT C t)) (ha : PE X a' (tE C a)) (hb : PE X b' (tE C b)) : PE X (.IfExp c' a' b' pos) (tE C (.ite t a b)) := by
  refine (pe_ifExp hc ha hb).imp ?_
  rintro σ H Q ⟨base, ρ, R, m, env, w, er, po⟩
  unfold evE at po
  refine ⟨base, ρ, R, m, env, w, er, (Po.bind TB po).mono fun k H1 h1 => h1.run fun k' m1 ρ1 R1 x1 w1 e1 po1 => ?_⟩
  obtain rfl : k = k' := e1
  cases k with
  | true => rw [if_pos rfl] at po1 ⊢; exact ⟨base, ρ1, R1, m1, env, w1, er.mono x1, po1⟩
  | false => rw [if_neg Bool.false_ne_true] at po1 ⊢; exact ⟨base, ρ1, R1, m1, env, w1, er.mono x1, po1⟩
/-! ### displays -/
variable {e : Ex} {es : List Ex} {e' : Expr} {es' : List Expr}
theorem sa_nil : PA X [] (tA C []) := pa_nil.imp (by
  rintro σ H Q ⟨base, ρ, R, m, env, w, er, po⟩
  unfold evEs at po
  exact po.ok Xt.refl w Rls.nil)
theorem sa_cons (ha : PE X e' (tE C e)) (hr : PA X es' (tA C es)) (hs : noStarE e' = true) : PA X (e' :: es') (tA C (e :: es)) := by
  refine (pa_cons ha hr (star_ok hs)).imp ?_
  rintro σ H Q ⟨base, ρ, R, m, env, w, er, po⟩
  unfold evEs at po
  refine ⟨base, ρ, R, m, env, w, er, (Po.bind (Rl C.K) po).mono fun vx H1 h1 => h1.run fun x m1 ρ1 R1 x1 w1 rx po1 => ?_⟩
  refine ⟨base, ρ1, R1, m1, env, w1, er.mono x1, (Po.bind (Rls C.K) po1).mono fun vs H2 h2 => h2.run fun xs m2 ρ2 R2 x2 w2 rxs po2 => ?_⟩
  exact po2.ok Xt.refl w2 (Rls.cons (rx.mono x2) rxs)
theorem evEs_len {base : Bs} {env : Env'} : ∀ {es : List Ex} {m : Mem} {xs : List DV} {m' : Mem}, evEs C.F C.cs base.n env es m = .ok xs m' → xs.length = es.length
  | [], m, xs, m', h => by
    unfold evEs at h
    injection h with h1
    rw [← h1]
    rfl
  | e :: es, m, xs, m', h => by
    unfold evEs at h
    cases h1 : evE C.F C.cs base.n env e m with
    | ok x m1 =>
      rw [h1, Out.bind_ok] at h
      cases h2 : evEs C.F C.cs base.n env es m1 with
      | ok ys m2 =>
        rw [h2, Out.bind_ok] at h
        injection h with h3
        rw [← h3, List.length_cons, List.length_cons, evEs_len h2]
      | exc _ _ => rw [h2] at h; cases h
      | bad => rw [h2] at h; cases h
    | exc _ _ => rw [h1] at h; cases h
    | bad => rw [h1] at h; cases h
/-- the evaluator's answer may be used -/
theorem Po.bindE {α α2 β β2 : Type} {K : PySem.W.Frag} {base : Bs} {ρ : List Addr} {R : Hp} (T : List Addr → Hp → α → β → Prop) {T2 : List Addr → Hp → α2 → β2 → Prop} {Q : β2 → Hp → Prop} {f : α → Mem → Out α2} {o : Out α} (h : Po K base T2 ρ R Q (o.bind f)) :
    Po K base T ρ R (fun b H1 => ∃ a m1 ρ1 R1, o = .ok a m1 ∧ Xt ρ R ρ1 R1 ∧ WR K base ρ1 R1 m1 H1 ∧ T ρ1 R1 a b ∧ Po K base T2 ρ1 R1 Q (f a m1)) o := by
  cases o with
  | ok a m => exact fun ρ1 R1 H1 b y w t => ⟨a, m, ρ1, R1, rfl, y, w, t, h.up y⟩
  | exc _ _ => exact h
  | bad => exact h
theorem sd_tup {x1 : Nat} (h : PA X es' (tA C es)) (hl : es.length ≤ SL) : PE X (.Tuple es' x1 pos) (tE C (.tup es)) := by
  refine (pe_tup h).imp ?_
  rintro σ H Q ⟨base, ρ, R, m, env, w, er, po⟩
  unfold evE at po
  refine ⟨base, ρ, R, m, env, w, er, (Po.bindE (Rls C.K) po).mono fun vs H1 ⟨xs, m1, ρ1, R1, ho, x1, w1, rx, po1⟩ => ?_⟩
  have hl2 := evEs_len ho
  exact ⟨by rw [rx.length, hl2]; exact Nat.le_trans hl SL_line, fun p hp => w1.tup hp rx (by rw [hl2]; exact hl) po1⟩
theorem pe_tupZ {X : Cx} {es : List Expr} {t : TA} {pos : Pos} {x1 : Nat} (h : PA X es t) : PE X (.Tuple es x1 pos) (fun σ H Q => t σ H fun xs H1 => xs.length ≤ sizeLine ∧ ∀ p o, H1 p = none → o.dict = none → Q (.ref p) (upd H1 p (.frz o (.tup xs)))) := by
  refine ⟨fun pins s σ H Q I hq => ?_⟩
  refine wpAny_Tuple_spliced (thn (h.run pos pins s σ H _ I hq) fun us s1 ⟨xs, H1, I1, r, z, q⟩ => ⟨by rw [← r.length]; exact z, ?_⟩)
  have hf : H1 s1.heap.objs.size = none := I1.hok.fresh (Nat.le_refl _)
  refine ⟨.ref s1.heap.objs.size, upd H1 s1.heap.objs.size (.frz { cls := .type "tuple", data := .seq us.toArray } (.tup xs)), I1.laid (t' := s1.toks) (fun b u e => Heap.get?_push_of_some _ e) (Nat.le_refl _) ?_, rfl, q _ _ hf rfl⟩
  exact ⟨Heap.get?_push_size _ rfl, z, us, r, ⟨_, Heap.get?_push_size _ rfl, rfl, _, rfl⟩⟩
theorem sd_tupK {x1 : Nat} (h : PA X es' (tA C es)) (hl : es.length ≤ SL) : PE X (.Tuple es' x1 pos) (tE C (.tupK es)) := by
  refine (pe_tupZ h).imp ?_
  rintro σ H Q ⟨base, ρ, R, m, env, w, er, po⟩
  unfold evE at po
  refine ⟨base, ρ, R, m, env, w, er, (Po.bindE (Rls C.K) po).mono fun vs H1 ⟨xs, m1, ρ1, R1, ho, x1, w1, rx, po1⟩ => ?_⟩
  have hl2 := evEs_len ho
  exact ⟨by rw [rx.length, hl2]; exact Nat.le_trans hl SL_line, fun p o hp ho => w1.tupK hp ho rx (by rw [hl2]; exact hl) po1⟩
theorem sd_lst (h : PA X es' (tA C es)) (hl : es.length ≤ SL) : PE X (.List es' pos) (tE C (.lst es)) := by
  refine (pe_lst h).imp ?_
  rintro σ H Q ⟨base, ρ, R, m, env, w, er, po⟩
  unfold evE at po
  refine ⟨base, ρ, R, m, env, w, er, (Po.bindE (Rls C.K) po).mono fun vs H1 ⟨xs, m1, ρ1, R1, ho, x1, w1, rx, po1⟩ => ?_⟩
  have hl2 := evEs_len ho
  exact ⟨by rw [rx.length, hl2]; exact Nat.le_trans hl SL_line, fun p hp => w1.lst hp rx (by rw [hl2]; exact hl) po1⟩
theorem sd_lstM (h : PA X es' (tA C es)) (hl : es.length ≤ SL) : PE X (.List es' pos) (tE C (.lstM es)) := by
  refine (pe_lst h).imp ?_
  rintro σ H Q ⟨base, ρ, R, m, env, w, er, po⟩
  unfold evE at po
  refine ⟨base, ρ, R, m, env, w, er, (Po.bindE (Rls C.K) po).mono fun vs H1 ⟨xs, m1, ρ1, R1, ho, x1, w1, rx, po1⟩ => ?_⟩
  have hl2 := evEs_len ho
  exact ⟨by rw [rx.length, hl2]; exact Nat.le_trans hl SL_line, fun p hp => w1.lstM hp rx (by rw [hl2]; exact hl) po1⟩
theorem sd_dnew {t : Bool} : PE X (.Dict [] [] pos) (tE C (.dnew t)) := by
  cases t with
  | true =>
    refine (pe_dnewT (X := X)).imp ?_
    rintro σ H Q ⟨base, ρ, R, m, env, w, er, po⟩
    unfold evE at po
    intro p hp
    obtain ⟨x, w'⟩ := w.new hp (d := .dt [] []) (o := .dT []) ⟨⟨Nat.zero_le _, fun _ h => nomatch h⟩, [], rfl, rfl, Rls.nil⟩
    exact po.ok x w' (rl_ref.mpr ⟨p, by rw [← w.len, List.getElem?_append_right (Nat.le_refl _), Nat.sub_self]; rfl, rfl⟩)
  | false =>
    refine (pe_dnewK (X := X)).imp ?_
    rintro σ H Q ⟨base, ρ, R, m, env, w, er, po⟩
    unfold evE at po
    intro p hp
    obtain ⟨x, w'⟩ := w.new hp (d := .dk [] []) (o := .dK []) ⟨⟨Nat.zero_le _, fun _ h => nomatch h⟩, [], rfl, rfl, Rls.nil⟩
    exact po.ok x w' (rl_ref.mpr ⟨p, by rw [← w.len, List.getElem?_append_right (Nat.le_refl _), Nat.sub_self]; rfl, rfl⟩)
end
end Ev

set_option Elab.async false
set_option linter.all false
set_option maxRecDepth 100000
/-! Subscripts, slices, calls of defs and built-ins, isinstance, methods. -/
namespace Ev
open PySem PySem.Spec PyProof.Rows L2

section
variable {C : SC} {s : Sc} {X : Cx} {a b c : Ex} {a' b' c' : Expr} {pos : Pos} {ta tb : TE}
theorem two_opsE {α2 β2 : Type} {T2 : List Addr → Hp → α2 → β2 → Prop} {Q2 : β2 → Hp → Prop} {r : R2} {f : DV → DV → Mem → Out α2} {σ : L2.St} {H : Hp} {Q : VK} {base : Bs} {ρ : List Addr} {R : Hp} {m : Mem} {env : Env'} (w : WR C.K base ρ R m H) (er : ER C.K ρ R env σ)
    (po : Po C.K base T2 ρ R Q2 ((evE C.F C.cs base.n env a m).bind fun x m => (evE C.F C.cs base.n env b m).bind fun y m => f x y m))
    (hr : ∀ x m1 y m2 ρ R H vx vy, evE C.F C.cs base.n env a m = .ok x m1 → evE C.F C.cs base.n env b m1 = .ok y m2 → WR C.K base ρ R m2 H → Rl C.K ρ R x vx → Rl C.K ρ R y vy → Po C.K base T2 ρ R Q2 (f x y m2) → r vx vy H Q) : tOp r (tE C a) (tE C b) σ H Q := by
  refine ⟨base, ρ, R, m, env, w, er, (Po.bindE (Rl C.K) po).mono fun vx H1 ⟨x, m1, ρ1, R1, o1, x1, w1, rx, po1⟩ => ?_⟩
  refine ⟨base, ρ1, R1, m1, env, w1, er.mono x1, (Po.bindE (Rl C.K) po1).mono fun vy H2 ⟨y, m2, ρ2, R2, o2, x2, w2, ry, po2⟩ => ?_⟩
  exact hr x m1 y m2 ρ2 R2 H2 vx vy o1 o2 w2 (rx.mono x2) ry po2
def noSliceE : Expr → Bool
  | .Slice .. => false
  | _ => true
theorem noSlice_ok {e : Expr} (h : noSliceE e = true) : ∀ o i, subscripted e false o i = operate [o, i] (getItem o i) := by
  intro o i
  cases e <;> first | rfl | (simp [noSliceE] at h)
theorem atI_rls {K : PySem.W.Frag} {ρ : List Addr} {R : Hp} {ds : List DV} {vs : List V} {i : Int} {d : DV} (h : Rls K ρ R ds vs) (e : L2.atI ds i = some d) : ∃ v, L2.atI vs i = some v ∧ Rl K ρ R d v := by
  unfold L2.atI at e ⊢
  rw [h.length]
  cases hj : L2.ixN ds.length i with
  | none => rw [hj] at e; cases e
  | some j =>
    rw [hj] at e
    exact h.get e
def isDct : DV → Bool
  | .dk _ _ => true
  | .dt _ _ => true
  | _ => false
theorem sub_seq {K : PySem.W.Frag} {base : Bs} {ρ : List Addr} {R H : Hp} {m : Mem} (w : WR K base ρ R m H) {d y z : DV} {v u : V} {Q : VK} (hd : Hl K ρ R H d v) (hy : Rl K ρ R y u) (hn : isDct d = false) (e : subD d y = some z) (q : ∀ vz, Rl K ρ R z vz → Q vz H) : rIx K v u H Q := by
  unfold subD at e
  split at e
  · obtain ⟨l, p, vs, e1, h1, r⟩ := hd
    obtain ⟨vz, h2, h3⟩ := atI_rls r e
    exact .inl ⟨p, vs, _, vz, e1, rl_int.mp hy, .inl h1, h2, q vz h3⟩
  · obtain ⟨l, p, vs, e1, h1, r⟩ := hd
    obtain ⟨vz, h2, h3⟩ := atI_rls r e
    exact .inr (.inl ⟨p, vs, _, vz, e1, rl_int.mp hy, .of h1, h2, q vz h3⟩)
  · obtain ⟨l, p, vs, e1, h1, r⟩ := hd
    obtain ⟨vz, h2, h3⟩ := atI_rls r e
    exact .inr (.inl ⟨p, vs, _, vz, e1, rl_int.mp hy, h1.st, h2, q vz h3⟩)
  · obtain ⟨l, p, vs, e1, h1, r⟩ := hd
    obtain ⟨vz, h2, h3⟩ := atI_rls r e
    exact .inl ⟨p, vs, _, vz, e1, rl_int.mp hy, h1, h2, q vz h3⟩
  · obtain ⟨l, e1⟩ := hd
    obtain ⟨c, h2, rfl⟩ := Option.map_eq_some_iff.mp e
    refine .inr (.inr ⟨_, _, c, e1, rl_int.mp hy, by rw [toS_len]; exact Nat.le_trans l SL_line, ?_, q _ (rl_str.mpr ⟨by simp [SL], rfl⟩)⟩)
    have : (toS ‹List Nat›).cps.toList = ‹List Nat› := by simp [toS]
    rw [this]
    exact h2
  · simp [isDct] at hn
  · simp [isDct] at hn
  · cases e
theorem sub_dct {K : PySem.W.Frag} {base : Bs} {ρ : List Addr} {R H : Hp} {m : Mem} (w : WR K base ρ R m H) {d y z : DV} {v u : V} (hd : Hl K ρ R H d v) (hy : Hl K ρ R H y u) (hn : isDct d = true) (e : subD d y = some z) : ∃ p vz, v = V.ref p ∧ DGet H p u (some vz) ∧ Rl K ρ R z vz := by
  cases d <;> first | (simp [isDct] at hn; done) | skip
  all_goals
    have e' := e
    simp only [subD] at e'
    obtain ⟨o, h1, h2⟩ := Option.bind_eq_some_iff.mp e'
    simp only [id] at h2
    subst h2
    obtain ⟨p, e1, vz, h3, h4⟩ := dget_ok w hd hy h1
    exact ⟨p, vz, e1, h3, h4⟩
/-- a key that is no cell -/
theorem Hl.key {K : PySem.W.Frag} {base : Bs} {ρ : List Addr} {R H : Hp} {m : Mem} (w : WR K base ρ R m H) {d y : DV} {o : Option DV} {u : V} (hy : Rl K ρ R y u) (e : dget d y = some o) : Hl K ρ R H y u := by
  have h := Hl.of w hy
  cases y with
  | ref n =>
    exfalso
    cases d <;> simp [dget, kaOf, ktOf] at e
  | _ => exact h
theorem sd_ix (hX : XO C s X) (ha : PE X a' (tE C a)) (hb : PE X b' (tE C b)) (hs : noSliceE b' = true) : PE X (.Subscript a' b' pos) (tE C (.sub a b)) := by
  obtain ⟨kr, hr⟩ := hX.room
  refine ⟨fun pins sh σ H Q I ⟨base, ρ, R, m, env, w, er, po⟩ => ?_⟩
  unfold evE at po
  by_cases hd : ∃ x m1 y m2, evE C.F C.cs base.n env a m = .ok x m1 ∧ evE C.F C.cs base.n env b m1 = .ok y m2 ∧ isDct (rs m2 x) = true
  · obtain ⟨x0, m10, y0, m20, e10, e20, hdct⟩ := hd
    refine (pe_dget (hu_of hr) ha hb (noSlice_ok hs)).run pins sh σ H Q I ?_
    refine two_opsE (r := fun x y H2 Q => ∃ a v, x = .ref a ∧ DGet H2 a y (some v) ∧ Q v H2) w er po ?_
    intro x m1 y m2 ρ R H vx vy e1 e2 w rx ry po
    rw [e10] at e1
    injection e1 with e1 e1'
    subst e1 e1'
    rw [e20] at e2
    injection e2 with e2 e2'
    subst e2 e2'
    obtain ⟨z, hz, po⟩ := po.of
    have hk : Hl C.K ρ R H y0 vy := by
      cases hc : rs m20 x0 with
      | dk ks vs =>
        rw [hc] at hz
        simp only [subD] at hz
        obtain ⟨o, h1, _⟩ := Option.bind_eq_some_iff.mp hz
        exact Hl.key w ry h1
      | dt ks vs =>
        rw [hc] at hz
        simp only [subD] at hz
        obtain ⟨o, h1, _⟩ := Option.bind_eq_some_iff.mp hz
        exact Hl.key w ry h1
      | _ => rw [hc] at hdct; cases hdct
    obtain ⟨p, vz, h1, h2, h3⟩ := sub_dct w (Hl.of w rx) hk hdct hz
    exact ⟨p, vz, h1, h2, po.ok Xt.refl w h3⟩
  · refine (pe_ix ix_seq ha hb (noSlice_ok hs)).run pins sh σ H Q I ?_
    refine two_opsE w er po ?_
    intro x m1 y m2 ρ R H vx vy e1 e2 w rx ry po
    obtain ⟨z, hz, po⟩ := po.of
    have hn : isDct (rs m2 x) = false := by
      cases h : isDct (rs m2 x) with
      | false => rfl
      | true => exact (hd ⟨x, m1, y, m2, e1, e2, h⟩).elim
    rw [hX.K]
    exact sub_seq w (Hl.of w rx) ry hn hz fun vz h => po.ok Xt.refl w h
/-! ### slices -/
variable {lo hi : Option Ex} {lo' hi' : Option Expr} {p2 : Pos}
theorem so_none : PO X none (tO C none) := po_none.imp (by
  rintro σ H Q ⟨base, ρ, R, m, env, w, er, po⟩
  unfold evO at po
  exact po.ok Xt.refl w rfl)
theorem so_some (h : PE X a' (tE C a)) : PO X (some a') (tO C (some a)) := (po_some h).imp (by
  rintro σ H Q ⟨base, ρ, R, m, env, w, er, po⟩
  unfold evO at po
  refine ⟨base, ρ, R, m, env, w, er, (Po.bind (Rl C.K) po).mono fun vx H1 h1 => h1.run fun x m1 ρ1 R1 x1 w1 rx po1 => ?_⟩
  cases x with
  | int i => exact ⟨i, rl_int.mp rx, po1.ok Xt.refl w1 rfl⟩
  | _ => exact po1.elim)
/-- xs[lo:hi] of a list that is read -/
def rSlRd : V → Option Int → Option Int → Hp → VK → Prop := fun x lo hi H Q => ∃ a xs, x = .ref a ∧ Rd H a (.lst xs) ∧ ∀ p, H p = none → Q (.ref p) (upd H p (.lst (cutV xs lo hi)))
theorem cut_rls {K : PySem.W.Frag} {ρ : List Addr} {R : Hp} {ds : List DV} {vs : List V} (h : Rls K ρ R ds vs) (lo hi : Option Int) : Rls K ρ R (cut ds lo hi) (cutV vs lo hi) := by
  unfold cut cutV sIx
  rw [h.length]
  exact (h.drop _).take _
theorem cut_len {α : Type} (xs : List α) (lo hi : Option Int) : (cut xs lo hi).length ≤ xs.length := by
  unfold cut
  rw [List.length_take, List.length_drop]
  omega
theorem cutS_eq (t : List Nat) (lo hi : Option Int) : cutS (toS t) lo hi = toS (cut t lo hi) := by
  unfold cutS cut sIx
  rw [toS_len]
  simp [toS]
theorem sd_slice (hX : XO C s X) (ha : PE X a' (tE C a)) (hl : PO X lo' (tO C lo)) (hh : PO X hi' (tO C hi)) : PE X (.Subscript a' (.Slice lo' hi' none p2) pos) (tE C (.slice a lo hi)) := by
  refine (pe_slice ((sl_list.or sl_tupA).or sl_str) ha hl hh).imp ?_
  rintro σ H Q ⟨base, ρ, R, m, env, w, er, po⟩
  unfold evE at po
  refine ⟨base, ρ, R, m, env, w, er, (Po.bind (Rl C.K) po).mono fun vx H1 h1 => h1.run fun x m1 ρ1 R1 x1 w1 rx po1 => ?_⟩
  refine ⟨base, ρ1, R1, m1, env, w1, er.mono x1, (Po.bind TOI po1).mono fun l H2 h2 => h2.run fun l' m2 ρ2 R2 x2 w2 el po2 => ?_⟩
  refine ⟨base, ρ2, R2, m2, env, w2, (er.mono x1).mono x2, (Po.bind TOI po2).mono fun u H3 h3 => h3.run fun u' m3 ρ3 R3 x3 w3 eu po3 => ?_⟩
  obtain rfl : l = l' := el
  obtain rfl : u = u' := eu
  have hd := Hl.of w3 ((rx.mono x2).mono x3)
  obtain ⟨z, hz, po4⟩ := po3.of
  unfold sliceD at hz
  split at hz
  · rename_i e
    obtain rfl := Option.some.inj hz
    rw [e] at hd
    obtain ⟨z, p, vs, e1, h1, r⟩ := hd
    refine .inl (.inl ⟨p, vs, e1, .inl h1, fun t ht => ?_⟩)
    exact w3.lst ht (cut_rls r l u) (Nat.le_trans (cut_len _ _ _) z) po4
  · rename_i xs e
    obtain rfl := Option.some.inj hz
    have hd' := hd
    rw [e] at hd
    obtain ⟨z, p, vs, e1, h1, r⟩ := hd
    refine .inl (.inr ⟨p, vs, e1, .of h1, fun hw => ?_, fun _ t ht => ?_⟩)
    · have hc : cut xs l u = xs := by
        have hlen := r.length
        rw [hlen] at hw
        unfold cut sIx
        rw [hw.1, hw.2]
        simp
      rw [hc] at po4
      -- the tuple itself
      have hx : ∃ ρ R, WR C.K base ρ R m3 H3 ∧ Rl C.K ρ3 R3 x vx := ⟨ρ3, R3, w3, (rx.mono x2).mono x3⟩
      cases x with
      | tup ys =>
        have : rs m3 (.tup ys) = .tup ys := rfl
        rw [this] at e
        injection e with e
        subst e
        rw [← e1]
        exact po4.ok Xt.refl w3 ((rx.mono x2).mono x3)
      | ref n =>
        exfalso
        obtain ⟨a0, e0, _⟩ := rl_ref.mp ((rx.mono x2).mono x3)
        obtain ⟨c0, e2, hc0⟩ := w3.cell_at e0
        have er0 : rs m3 (.ref n) = c0.d := by show (match m3[n]? with | some c => c.d | none => _) = _; rw [e2]
        rw [er0] at e
        obtain ⟨o, _, hco⟩ := hc0.rd
        rw [e] at hco
        exact hco
      | _ => exact nomatch e
    · exact w3.tup ht (cut_rls r l u) (Nat.le_trans (cut_len _ _ _) z) po4
  · rename_i xs e
    obtain rfl := Option.some.inj hz
    have hx := rs_kt w3 ((rx.mono x2).mono x3) e
    rw [e] at hd
    obtain ⟨z, p, vs, e1, h1, r⟩ := hd
    have hlen := r.length
    refine .inl (.inr ⟨p, vs, e1, by rw [hX.K]; exact h1.st, fun hw => ?_, fun hw t ht => ?_⟩)
    · rw [hlen] at hw
      rw [if_pos (show sIx xs.length 0 l = 0 ∧ sIx xs.length xs.length u = xs.length from hw)] at po4
      rw [← e1]
      rw [hx] at rx
      exact po4.ok Xt.refl w3 ((rx.mono x2).mono x3)
    · rw [hlen] at hw
      rw [if_neg (show ¬ (sIx xs.length 0 l = 0 ∧ sIx xs.length xs.length u = xs.length) from hw)] at po4
      exact w3.tup ht (cut_rls r l u) (Nat.le_trans (cut_len _ _ _) z) po4
  · rename_i e
    obtain rfl := Option.some.inj hz
    rw [e] at hd
    obtain ⟨z, e1⟩ := hd
    refine .inr ⟨_, e1, by rw [toS_len]; exact Nat.le_trans z SL_line, ?_⟩
    rw [cutS_eq]
    exact po4.ok Xt.refl w3 (rl_str.mpr ⟨Nat.le_trans (cut_len _ _ _) z, rfl⟩)
  · cases hz
/-! ### a def that is called -/
variable {es : List Ex} {es' : List Expr} {x : Str} {p : Pos}
theorem sd_call (hX : XO C s X) {f : Nat} (hN : C.fns[f]? = some x) (hv : glB s.eff x = true) (hd : nDbg x = true) (ha : PA X es' (tA C es)) (hs : es'.all noStarE = true) (hn : es.length = es'.length) : PE X (.Call (.Name x p) es' [] pos) (tE C (.call f es)) := by
  obtain ⟨k, ad, fd, ps, hr, hm, hk, hb, hF, hlen⟩ := (hX.fn f x hN).ex
  have key : ∀ (σ : L2.St) (H : Hp) (Q : VK), tE C (.call f es) σ H Q → tCall (spOf C.K ps.length (C.F f)) [] E0 (tA C es) σ H Q := by
    rintro σ H Q ⟨base, ρ, R, m, env, w, er, po⟩
    unfold evE at po
    refine ⟨base, ρ, R, m, env, w, er, (Po.bind (Rls C.K) po).mono fun vs H1 h1 => h1.run fun xs m1 ρ1 R1 x1 w1 rx po1 => ?_⟩
    rw [List.append_nil]
    refine ⟨?_, base, ρ1, R1, m1, xs, w1, rx, po1⟩
    rw [rx.length]
    refine hlen xs base.n m1 fun hb => ?_
    rw [hb] at po1
    exact po1
  cases es' with
  | nil =>
    refine (pe_call0 hF hr (glB_ok hX hv) hm hk hb .nil pass0 (nDbg_1 hd)).imp fun σ H Q h => ?_
    obtain rfl := List.eq_nil_of_length_eq_zero hn
    obtain ⟨base, ρ, R, m, env, w, er, po⟩ := h
    unfold evE evEs at po
    refine ⟨?_, base, ρ, R, m, [], w, Rls.nil, po⟩
    refine hlen [] base.n m fun hb => ?_
    rw [Out.bind_ok, hb] at po
    exact po
  | cons e' r' =>
    rw [List.all_cons, Bool.and_eq_true] at hs
    exact (pe_call hF hr (glB_ok hX hv) hm hk hb .nil pass0 ha (nDbg_1 hd) (star_ok hs.1) (star_any hs.2)).imp key
end
end Ev

set_option Elab.async false
set_option linter.all false
set_option maxRecDepth 100000
/-! Built-ins called by their names; isinstance. -/
namespace Ev
open PySem PySem.Spec PyProof.Rows L2

section
variable {C : SC} {s : Sc} {X : Cx} {a b c : Ex} {a' b' c' : Expr} {pos p : Pos} {es : List Ex} {es' : List Expr}
/-! ### built-ins -/
def prName : Pr → Str
  | .len => "len" | .abs => "abs" | .int1 => "int" | .str1 => "str" | .list1 => "list" | .tuple1 => "tuple" | .sorted => "sorted" | .sum => "sum" | .all => "all" | .any => "any" | .min2 => "min" | .max2 => "max" | .dict1 => "dict" | .dictT => "dict" | .cat => "len"
inductive Prv where
  | b (id : String) | t (T : String)
def Prv.val : Prv → Value
  | .b id => .builtin id
  | .t T => .type T
def prVal : Pr → Prv
  | .len => .b "len" | .abs => .b "abs" | .int1 => .t "int" | .str1 => .t "str" | .list1 => .t "list" | .tuple1 => .t "tuple" | .sorted => .b "sorted" | .sum => .b "sum" | .all => .b "all" | .any => .b "any" | .min2 => .b "min" | .max2 => .b "max" | .dict1 => .t "dict" | .dictT => .t "dict" | .cat => .b "len"
theorem boot_pr : ∀ q : Pr, bootBuiltins (prName q) = some (prVal q).val := by
  intro q
  cases q <;> decide +kernel
theorem prName_1 : ∀ q : Pr, nDbg (prName q) = true := by
  intro q
  cases q <;> decide +kernel
abbrev RC := List V → Hp → VK → Prop
theorem pr_call (hX : XO C s X) {q : Pr} {r : RC} {t : TA} (hc : CallR X (prVal q).val r) (hv : glB s.eff (prName q) = true) (hb : prName q ∈ C.bi) {e' : Expr} (ha : PA X (e' :: es') t) (hs : (e' :: es').all noStarE = true) : PE X (.Call (.Name (prName q) p) (e' :: es') [] pos) (tCB r t) := by
  rw [List.all_cons, Bool.and_eq_true] at hs
  have hm := hX.bi _ hb
  have hbt := boot_pr q
  have hd := prName_1 q
  cases hq : prVal q with
  | b id => rw [hq] at hc hbt; exact pe_callB hc (glB_ok hX hv) hm hbt ha (nDbg_3 hd) (nDbg_1 hd) (star_ok hs.1) (star_any hs.2)
  | t T => rw [hq] at hc hbt; exact pe_callTy hc (glB_ok hX hv) hm hbt ha (nDbg_3 hd) (nDbg_1 hd) (star_ok hs.1) (star_any hs.2)
theorem CallR.imp {f : Value} {r r' : RC} (h : CallR X f r) (i : ∀ xs H Q, r' xs H Q → r xs H Q) : CallR X f r' := fun pins s σ H xs us Q I rs q => h pins s σ H xs us Q I rs (i _ _ _ q)
/-- by values: the answer of primD -/
def rPr (C : SC) (q : Pr) : RC := fun vs H Q => ∃ base ρ R m xs, WR C.K base ρ R m H ∧ Rls C.K ρ R xs vs ∧ Po C.K base (Rl C.K) ρ R Q (Out.of (primD q (xs.map (rs m))) m)
def rPrN (C : SC) (q : Pr) : RC := fun vs H Q => ∃ base ρ R m xs, WR C.K base ρ R m H ∧ Rls C.K ρ R xs vs ∧ Po C.K base (Rl C.K) ρ R Q ((Out.of (primND q (xs.map (rs m))) m).bind fun d m => .ok (.ref m.length) (m ++ [.c d]))
theorem rls1 {K : PySem.W.Frag} {ρ : List Addr} {R : Hp} {x : DV} {vs : List V} (h : Rls K ρ R [x] vs) : ∃ v, vs = [v] ∧ Rl K ρ R x v := by
  obtain ⟨v, r, e, h1, h2⟩ := Rls.cons_iff.mp h
  rw [Rls.nil_iff.mp h2] at e
  exact ⟨v, e, h1⟩
theorem rls2 {K : PySem.W.Frag} {ρ : List Addr} {R : Hp} {x y : DV} {vs : List V} (h : Rls K ρ R [x, y] vs) : ∃ v u, vs = [v, u] ∧ Rl K ρ R x v ∧ Rl K ρ R y u := by
  obtain ⟨v, r, e, h1, h2⟩ := Rls.cons_iff.mp h
  obtain ⟨u, e2, h3⟩ := rls1 h2
  exact ⟨v, u, by rw [e, e2], h1, h3⟩
theorem call_lenD : CallR X (.builtin "len") (fun xs H Q => ∃ a kvs, xs = [V.ref a] ∧ Rd H a (.dK kvs) ∧ Q (.int kvs.length) H) := by
  intro pins sh σ H xs us Q I r h
  obtain ⟨a, kvs, rfl, e, q⟩ := h
  obtain ⟨u, rfl, r1⟩ := vals1 r
  cases r1
  exact d_len I e fun t s' I' => ⟨.int kvs.length, H, I', ⟨t, rfl⟩, q⟩
theorem kvs_len {κ κ' : Type} {kvs : List (κ × V)} {ks : List κ'} {f : κ' → κ} (h : kvs.map (·.1) = ks.map f) : kvs.length = ks.length := by
  have := congrArg List.length h
  rwa [List.length_map, List.length_map] at this
theorem pr_len (hX : XO C s X) : CallR X (.builtin "len") (rPr C .len) := by
  refine CallR.imp ((call_len_seq.or call_len_str).or call_lenD) ?_
  rintro vs H Q ⟨base, ρ, R, m, xs, w, rx, po⟩
  obtain ⟨z, hz, po⟩ := po.of
  match xs, rx, hz with
  | [], rx, hz => cases hz
  | _ :: _ :: _, rx, hz => simp [primD] at hz
  | [x], rx, hz =>
    obtain ⟨v, rfl, r1⟩ := rls1 rx
    have hd := Hl.of w r1
    have hz' : (lenD (rs m x)).map (fun n => DV.int n) = some z := hz
    obtain ⟨n, hn, rfl⟩ := Option.map_eq_some_iff.mp hz'
    have fin : Q (.int n) H := po.ok Xt.refl w (rl_int.mpr rfl)
    rw [hX.K]
    cases hc : rs m x with
    | lst ys =>
      rw [hc] at hd hn
      obtain rfl := Option.some.inj hn
      obtain ⟨l, q, us, rfl, e2, r2⟩ := hd
      exact .inl (.inl ⟨q, us, rfl, .inl (.inl e2), by rw [r2.length]; exact fin⟩)
    | kl ys =>
      rw [hc] at hd hn
      obtain rfl := Option.some.inj hn
      obtain ⟨l, q, us, rfl, e2, r2⟩ := hd
      exact .inl (.inl ⟨q, us, rfl, .inl e2, by rw [r2.length]; exact fin⟩)
    | tup ys =>
      rw [hc] at hd hn
      obtain rfl := Option.some.inj hn
      obtain ⟨l, q, us, rfl, e2, r2⟩ := hd
      exact .inl (.inl ⟨q, us, rfl, .inr (.of e2), by rw [r2.length]; exact fin⟩)
    | kt ys =>
      rw [hc] at hd hn
      obtain rfl := Option.some.inj hn
      obtain ⟨l, q, us, rfl, e2, r2⟩ := hd
      exact .inl (.inl ⟨q, us, rfl, .inr e2.st, by rw [r2.length]; exact fin⟩)
    | str t =>
      rw [hc] at hd hn
      obtain rfl := Option.some.inj hn
      obtain ⟨l, rfl⟩ := hd
      exact .inl (.inr ⟨_, rfl, by rw [toS_len]; exact Nat.le_trans l SL_line, by rw [toS_len]; exact fin⟩)
    | dk ks ds =>
      rw [hc] at hd hn
      obtain rfl := Option.some.inj hn
      obtain ⟨l, q, kvs, rfl, e2, e3, r2⟩ := hd
      exact .inr ⟨q, kvs, rfl, e2, by rw [kvs_len e3]; exact fin⟩
    | _ => rw [hc] at hn; cases hn
theorem rs_int {m : Mem} {x : DV} {i : Int} {K : PySem.W.Frag} {base : Bs} {ρ : List Addr} {R H : Hp} (w : WR K base ρ R m H) {v : V} (r : Rl K ρ R x v) (h : rs m x = .int i) : v = .int i := by
  have := Hl.of w r
  rw [h] at this
  exact this
theorem rs_bl {m : Mem} {x : DV} {i : Bool} {K : PySem.W.Frag} {base : Bs} {ρ : List Addr} {R H : Hp} (w : WR K base ρ R m H) {v : V} (r : Rl K ρ R x v) (h : rs m x = .bl i) : v = .bl i := by
  have := Hl.of w r
  rw [h] at this
  exact this
theorem one_of {m : Mem} {xs : List DV} {y : DV} (h : xs.map (rs m) = [y]) : ∃ x, xs = [x] ∧ rs m x = y := by
  match xs, h with
  | [x], h => exact ⟨x, rfl, by simpa using h⟩
theorem two_of {m : Mem} {xs : List DV} {y z : DV} (h : xs.map (rs m) = [y, z]) : ∃ x x2, xs = [x, x2] ∧ rs m x = y ∧ rs m x2 = z := by
  match xs, h with
  | [x, x2], h => exact ⟨x, x2, rfl, by simpa using h⟩
theorem pr_abs (hX : XO C s X) : CallR X (.builtin "abs") (rPr C .abs) := by
  refine CallR.imp call_abs ?_
  rintro vs H Q ⟨base, ρ, R, m, xs, w, rx, po⟩
  obtain ⟨z, hz, po⟩ := po.of
  unfold primD at hz
  split at hz <;> first | (exfalso; exact Pr.noConfusion ‹_›) | skip
  all_goals first
    | (rename_i e
       obtain ⟨x, rfl, ex⟩ := one_of e
       obtain ⟨v, rfl, r1⟩ := rls1 rx
       obtain rfl := Option.some.inj hz
       exact ⟨_, by rw [rs_int w r1 ex], po.ok Xt.refl w (rl_int.mpr rfl)⟩)
    | cases hz
theorem pr_int1 (hX : XO C s X) : CallR X (.type "int") (rPr C .int1) := by
  refine CallR.imp call_int1 ?_
  rintro vs H Q ⟨base, ρ, R, m, xs, w, rx, po⟩
  obtain ⟨z, hz, po⟩ := po.of
  unfold primD at hz
  split at hz <;> first | (exfalso; exact Pr.noConfusion ‹_›) | skip
  · rename_i e
    obtain ⟨x, rfl, ex⟩ := one_of e
    obtain ⟨v, rfl, r1⟩ := rls1 rx
    obtain rfl := Option.some.inj hz
    exact .inl ⟨_, by rw [rs_int w r1 ex], po.ok Xt.refl w (rl_int.mpr rfl)⟩
  · rename_i e
    obtain ⟨x, rfl, ex⟩ := one_of e
    obtain ⟨v, rfl, r1⟩ := rls1 rx
    obtain rfl := Option.some.inj hz
    exact .inr ⟨_, by rw [rs_bl w r1 ex], po.ok Xt.refl w (rl_int.mpr rfl)⟩
  · cases hz
theorem toS_digits (i : Int) : ((toString i : String) : Str) = toS (digits i) := by
  show Str.ofString (toString i) = _
  rw [Str.ofString_eq_toList]
  rfl
theorem pr_minmax (hX : XO C s X) : CallR X (.builtin "min") (rPr C .min2) ∧ CallR X (.builtin "max") (rPr C .max2) := by
  refine ⟨CallR.imp (call_min2 hX.calm) ?_, CallR.imp (call_max2 hX.calm) ?_⟩
  all_goals
    rintro vs H Q ⟨base, ρ, R, m, xs, w, rx, po⟩
    obtain ⟨z, hz, po⟩ := po.of
    unfold primD at hz
    split at hz <;> first | (exfalso; exact Pr.noConfusion ‹_›) | skip
  · rename_i e
    obtain ⟨x, x2, rfl, ex, ex2⟩ := two_of e
    obtain ⟨v, u, rfl, r1, r2⟩ := rls2 rx
    obtain rfl := Option.some.inj hz
    exact ⟨_, _, by rw [rs_int w r1 ex, rs_int w r2 ex2], po.ok Xt.refl w (rl_int.mpr rfl)⟩
  · cases hz
  · rename_i e
    obtain ⟨x, x2, rfl, ex, ex2⟩ := two_of e
    obtain ⟨v, u, rfl, r1, r2⟩ := rls2 rx
    obtain rfl := Option.some.inj hz
    exact ⟨_, _, by rw [rs_int w r1 ex, rs_int w r2 ex2], po.ok Xt.refl w (rl_int.mpr rfl)⟩
  · cases hz
/-- rows that are read -/
theorem seq_of {K : PySem.W.Frag} {base : Bs} {ρ : List Addr} {R H : Hp} {m : Mem} (w : WR K base ρ R m H) {x : DV} {v : V} {ds : List DV} (r : Rl K ρ R x v) (h : seqD (rs m x) = some ds) : ds.length ≤ SL ∧ ∃ a vs, v = V.ref a ∧ (SqL K H a vs ∨ SqT K H a vs) ∧ Rls K ρ R ds vs := by
  have hd := Hl.of w r
  cases hc : rs m x with
  | lst ys => rw [hc] at hd h; obtain rfl := Option.some.inj h; obtain ⟨l, q, us, e, e2, r2⟩ := hd; exact ⟨l, q, us, e, .inl (.inl e2), r2⟩
  | kl ys => rw [hc] at hd h; obtain rfl := Option.some.inj h; obtain ⟨l, q, us, e, e2, r2⟩ := hd; exact ⟨l, q, us, e, .inl e2, r2⟩
  | tup ys => rw [hc] at hd h; obtain rfl := Option.some.inj h; obtain ⟨l, q, us, e, e2, r2⟩ := hd; exact ⟨l, q, us, e, .inr (.of e2), r2⟩
  | kt ys => rw [hc] at hd h; obtain rfl := Option.some.inj h; obtain ⟨l, q, us, e, e2, r2⟩ := hd; exact ⟨l, q, us, e, .inr e2.st, r2⟩
  | _ => rw [hc] at h; cases h
theorem pr_list1 (hX : XO C s X) : CallR X (.type "list") (rPr C .list1) := by
  refine CallR.imp call_list_of ?_
  rintro vs H Q ⟨base, ρ, R, m, xs, w, rx, po⟩
  obtain ⟨z, hz, po⟩ := po.of
  unfold primD at hz
  split at hz <;> first | (exfalso; exact Pr.noConfusion ‹_›) | skip
  · rename_i e
    obtain ⟨x, rfl, ex⟩ := one_of e
    obtain ⟨v, rfl, r1⟩ := rls1 rx
    obtain ⟨ds, hs, rfl⟩ := Option.map_eq_some_iff.mp hz
    rw [← ex] at hs
    obtain ⟨l, q, us, rfl, h2, r2⟩ := seq_of w r1 hs
    rw [hX.K]
    exact ⟨q, us, rfl, h2, fun t ht => w.lst ht r2 l po⟩
  · cases hz
theorem pr_list1N (hX : XO C s X) : CallR X (.type "list") (rPrN C .list1) := by
  refine CallR.imp call_list_of ?_
  rintro vs H Q ⟨base, ρ, R, m, xs, w, rx, po⟩
  cases hz : primND .list1 (xs.map (rs m)) with
  | none => rw [hz] at po; exact po.elim
  | some z =>
    rw [hz] at po
    unfold primND at hz
    split at hz <;> first | (exfalso; exact Pr.noConfusion ‹_›) | skip
    · rename_i e
      obtain ⟨x, rfl, ex⟩ := one_of e
      obtain ⟨v, rfl, r1⟩ := rls1 rx
      obtain ⟨ds, hs, rfl⟩ := Option.map_eq_some_iff.mp hz
      rw [← ex] at hs
      obtain ⟨l, q, us, rfl, h2, r2⟩ := seq_of w r1 hs
      rw [hX.K]
      exact ⟨q, us, rfl, h2, fun t ht => w.lstM ht r2 l po⟩
    · cases hz
theorem rs_tup {K : PySem.W.Frag} {base : Bs} {ρ : List Addr} {R H : Hp} {m : Mem} (w : WR K base ρ R m H) {x : DV} {v : V} {ys : List DV} (r : Rl K ρ R x v) (h : rs m x = .tup ys) : x = .tup ys := by
  cases x with
  | ref n =>
    exfalso
    obtain ⟨a0, e0, _⟩ := rl_ref.mp r
    obtain ⟨c0, e2, hc0⟩ := w.cell_at e0
    have er0 : rs m (.ref n) = c0.d := by show (match m[n]? with | some c => c.d | none => _) = _; rw [e2]
    rw [er0] at h
    obtain ⟨o, _, hco⟩ := hc0.rd
    rw [h] at hco
    exact hco
  | _ => exact h
theorem call_tuple_z : CallR X (.type "tuple") (fun xs H Q => ∃ p ys, xs = [.ref p] ∧ SqL X.K H p ys ∧ ∀ l o, H l = none → o.dict = none → Q (.ref l) (upd H l (.frz o (.tup ys)))) := by
  intro pins s σ H xs us Q I r h
  obtain ⟨p, ys, rfl, hq, q⟩ := h
  obtain ⟨u, rfl, rx⟩ := vals1 r
  cases rx
  obtain ⟨its, r', pl, hz⟩ := I.list hq
  have hlen := r'.length
  refine call_tuple_list pl.isList (fun h' kp => ?_) (by simp only [List.size_toArray] <;> omega)
  have I1 : Inv X pins σ H { s with heap := h' } := I.kept (t' := s.toks) kp
  have I2 : Inv X pins σ (upd H h'.objs.size (.frz { cls := .type "tuple", data := .seq its.toArray } (.tup ys))) { s with heap := h'.push { cls := .type "tuple", data := .seq its.toArray } } :=
    I1.laid (t' := s.toks) (fun b o e => Heap.get?_push_of_some _ e) (Nat.le_refl _) (show ObjOk X.prog X.w _ _ _ (.frz _ (.tup ys)) from ⟨Heap.get?_push_size _ rfl, hz, its, r', IsTup.new _ _⟩)
  exact ⟨.ref h'.objs.size, _, I2, rfl, q _ _ (I1.hok.fresh (Nat.le_refl _)) rfl⟩
theorem pr_tuple1 (hX : XO C s X) : CallR X (.type "tuple") (rPr C .tuple1) := by
  refine CallR.imp (call_tuple_z.or call_tuple_of) ?_
  rintro vs H Q ⟨base, ρ, R, m, xs, w, rx, po⟩
  obtain ⟨z, hz, po⟩ := po.of
  unfold primD at hz
  split at hz <;> first | (exfalso; exact Pr.noConfusion ‹_›) | skip
  · rename_i e
    obtain ⟨x, rfl, ex⟩ := one_of e
    obtain ⟨v, rfl, r1⟩ := rls1 rx
    obtain rfl := Option.some.inj hz
    have hd := Hl.of w r1
    rw [ex] at hd
    rw [hX.K]
    obtain ⟨l, q, us, rfl, e2, r2⟩ := hd
    exact .inl ⟨q, us, rfl, .inl e2, fun t o ht ho => w.tupK ht ho r2 l po⟩
  · rename_i e
    obtain ⟨x, rfl, ex⟩ := one_of e
    obtain ⟨v, rfl, r1⟩ := rls1 rx
    obtain rfl := Option.some.inj hz
    have hd := Hl.of w r1
    rw [ex] at hd
    rw [hX.K]
    obtain ⟨l, q, us, rfl, e2, r2⟩ := hd
    exact .inl ⟨q, us, rfl, e2, fun t o ht ho => w.tupK ht ho r2 l po⟩
  · rename_i e
    obtain ⟨x, rfl, ex⟩ := one_of e
    obtain ⟨v, rfl, r1⟩ := rls1 rx
    obtain rfl := Option.some.inj hz
    have hd := Hl.of w r1
    have hx := rs_tup w r1 ex
    rw [ex] at hd
    subst hx
    rw [hX.K]
    obtain ⟨l, q, us, rfl, e2, r2⟩ := hd
    exact .inr ⟨q, us, rfl, .inr ⟨.of e2, po.ok Xt.refl w r1⟩⟩
  · rename_i e
    obtain ⟨x, rfl, ex⟩ := one_of e
    obtain ⟨v, rfl, r1⟩ := rls1 rx
    obtain rfl := Option.some.inj hz
    have hd := Hl.of w r1
    have hx := rs_kt w r1 ex
    rw [ex] at hd
    subst hx
    rw [hX.K]
    obtain ⟨l, q, us, rfl, e2, r2⟩ := hd
    exact .inr ⟨q, us, rfl, .inr ⟨e2.st, po.ok Xt.refl w r1⟩⟩
  · cases hz
theorem ints_of {K : PySem.W.Frag} {ρ : List Addr} {R : Hp} : ∀ {ds : List DV} {vs : List V} {ns : List Int}, Rls K ρ R ds vs → intsD ds = some ns → vs = ns.map V.int
  | [], vs, ns, h, e => by
    obtain rfl := Option.some.inj e
    exact Rls.nil_iff.mp h
  | d :: ds, vs, ns, h, e => by
    obtain ⟨v, r, e1, h1, h2⟩ := Rls.cons_iff.mp h
    cases d with
    | int i =>
      obtain ⟨nr, e2, rfl⟩ := Option.map_eq_some_iff.mp (show (intsD ds).map (i :: ·) = some ns from e)
      rw [e1, ints_of h2 e2, rl_int.mp h1]
      rfl
    | _ => cases e
theorem bls_of {K : PySem.W.Frag} {ρ : List Addr} {R : Hp} : ∀ {ds : List DV} {vs : List V} {ns : List Bool}, Rls K ρ R ds vs → blsD ds = some ns → vs = ns.map V.bl
  | [], vs, ns, h, e => by
    obtain rfl := Option.some.inj e
    exact Rls.nil_iff.mp h
  | d :: ds, vs, ns, h, e => by
    obtain ⟨v, r, e1, h1, h2⟩ := Rls.cons_iff.mp h
    cases d with
    | bl i =>
      obtain ⟨nr, e2, rfl⟩ := Option.map_eq_some_iff.mp (show (blsD ds).map (i :: ·) = some ns from e)
      rw [e1, bls_of h2 e2, rl_bl.mp h1]
      rfl
    | _ => cases e
theorem strs_of {K : PySem.W.Frag} {ρ : List Addr} {R : Hp} : ∀ {ds : List DV} {vs : List V} {ns : List (List Nat)}, Rls K ρ R ds vs → strsD ds = some ns → vs = (ns.map toS).map V.str
  | [], vs, ns, h, e => by
    obtain rfl := Option.some.inj e
    exact Rls.nil_iff.mp h
  | d :: ds, vs, ns, h, e => by
    obtain ⟨v, r, e1, h1, h2⟩ := Rls.cons_iff.mp h
    cases d with
    | str i =>
      obtain ⟨nr, e2, rfl⟩ := Option.map_eq_some_iff.mp (show (strsD ds).map (i :: ·) = some ns from e)
      rw [e1, strs_of h2 e2, (rl_str.mp h1).2]
      rfl
    | _ => cases e
theorem lst_of {K : PySem.W.Frag} {base : Bs} {ρ : List Addr} {R H : Hp} {m : Mem} (w : WR K base ρ R m H) {x : DV} {v : V} {ds : List DV} (r : Rl K ρ R x v) (h : lstD (rs m x) = some ds) : ds.length ≤ SL ∧ ∃ a vs, v = V.ref a ∧ SqL K H a vs ∧ Rls K ρ R ds vs := by
  have hd := Hl.of w r
  cases hc : rs m x with
  | lst ys => rw [hc] at hd h; obtain rfl := Option.some.inj h; obtain ⟨l, q, us, e, e2, r2⟩ := hd; exact ⟨l, q, us, e, .inl e2, r2⟩
  | kl ys => rw [hc] at hd h; obtain rfl := Option.some.inj h; obtain ⟨l, q, us, e, e2, r2⟩ := hd; exact ⟨l, q, us, e, e2, r2⟩
  | _ => rw [hc] at h; cases h
theorem pr_sum (hX : XO C s X) : CallR X (.builtin "sum") (rPr C .sum) := by
  refine CallR.imp (cr_sum hX.calm) ?_
  rintro vs H Q ⟨base, ρ, R, m, xs, w, rx, po⟩
  obtain ⟨z, hz, po⟩ := po.of
  unfold primD at hz
  split at hz <;> first | (exfalso; exact Pr.noConfusion ‹_›) | skip
  · rename_i e
    obtain ⟨x, rfl, ex⟩ := one_of e
    obtain ⟨v, rfl, r1⟩ := rls1 rx
    obtain ⟨ns, h1, rfl⟩ := Option.map_eq_some_iff.mp hz
    obtain ⟨ds, h2, h3⟩ := Option.bind_eq_some_iff.mp h1
    rw [← ex] at h2
    obtain ⟨l, q, us, rfl, e2, r2⟩ := lst_of w r1 h2
    rw [hX.K]
    exact ⟨q, ns, rfl, by rw [← ints_of r2 h3]; exact e2, po.ok Xt.refl w (rl_int.mpr rfl)⟩
  · cases hz
theorem pr_all (hX : XO C s X) : CallR X (.builtin "all") (rPr C .all) := by
  refine CallR.imp (cr_all hX.calm) ?_
  rintro vs H Q ⟨base, ρ, R, m, xs, w, rx, po⟩
  obtain ⟨z, hz, po⟩ := po.of
  unfold primD at hz
  split at hz <;> first | (exfalso; exact Pr.noConfusion ‹_›) | skip
  · rename_i e
    obtain ⟨x, rfl, ex⟩ := one_of e
    obtain ⟨v, rfl, r1⟩ := rls1 rx
    obtain ⟨ns, h1, rfl⟩ := Option.map_eq_some_iff.mp hz
    obtain ⟨ds, h2, h3⟩ := Option.bind_eq_some_iff.mp h1
    rw [← ex] at h2
    obtain ⟨l, q, us, rfl, e2, r2⟩ := lst_of w r1 h2
    rw [hX.K]
    exact ⟨q, ns, rfl, by rw [← bls_of r2 h3]; exact e2, po.ok Xt.refl w (rl_bl.mpr rfl)⟩
  · cases hz
theorem pr_any (hX : XO C s X) : CallR X (.builtin "any") (rPr C .any) := by
  refine CallR.imp (cr_any hX.calm) ?_
  rintro vs H Q ⟨base, ρ, R, m, xs, w, rx, po⟩
  obtain ⟨z, hz, po⟩ := po.of
  unfold primD at hz
  split at hz <;> first | (exfalso; exact Pr.noConfusion ‹_›) | skip
  · rename_i e
    obtain ⟨x, rfl, ex⟩ := one_of e
    obtain ⟨v, rfl, r1⟩ := rls1 rx
    obtain ⟨ns, h1, rfl⟩ := Option.map_eq_some_iff.mp hz
    obtain ⟨ds, h2, h3⟩ := Option.bind_eq_some_iff.mp h1
    rw [← ex] at h2
    obtain ⟨l, q, us, rfl, e2, r2⟩ := lst_of w r1 h2
    rw [hX.K]
    exact ⟨q, ns, rfl, by rw [← bls_of r2 h3]; exact e2, po.ok Xt.refl w (rl_bl.mpr rfl)⟩
  · cases hz
theorem pr_str1 (hX : XO C s X) : CallR X (.type "str") (rPr C .str1) := by
  refine CallR.imp call_str_int ?_
  rintro vs H Q ⟨base, ρ, R, m, xs, w, rx, po⟩
  obtain ⟨z, hz, po⟩ := po.of
  unfold primD at hz
  split at hz <;> first | (exfalso; exact Pr.noConfusion ‹_›) | skip
  · rename_i e
    obtain ⟨x, rfl, ex⟩ := one_of e
    obtain ⟨v, rfl, r1⟩ := rls1 rx
    obtain ⟨hl, rfl⟩ := some_if hz
    refine ⟨_, by rw [rs_int w r1 ex], hl.1, ?_⟩
    rw [toS_digits]
    exact po.ok Xt.refl w (rl_str.mpr ⟨hl.2, rfl⟩)
  · cases hz
/-! ### isinstance -/
def tyStr : Ty → String
  | .tInt => "int" | .tBool => "bool" | .tStr => "str" | .tList => "list" | .tTuple => "tuple"
def tyOfD : DV → String
  | .non => "NoneType" | .bl _ => "bool" | .int _ => "int" | .str _ => "str" | .lst _ => "list" | .kl _ => "list" | .tup _ => "tuple" | .kt _ => "tuple" | .dk _ _ => "dict" | .dt _ _ => "dict" | .ref _ => "ref"
theorem tyx_of {K : PySem.W.Frag} {ρ : List Addr} {R H : Hp} {d : DV} {v : V} (h : Hl K ρ R H d v) (hd : ∀ ks vs, d ≠ .dt ks vs) : TyX K H v (.type (tyOfD d)) := by
  cases d with
  | non => rw [show v = .non from h]; exact .base .non
  | bl b => rw [show v = .bl b from h]; exact .base (.bl b)
  | int b => rw [show v = .int b from h]; exact .base (.int b)
  | str b => rw [h.strV]; exact .base (.str _)
  | ref _ => exact (show False from h).elim
  | dt ks vs => exact (hd ks vs rfl).elim
  | dk ks vs =>
    obtain ⟨z, a, kvs, e, p, r⟩ := h
    rw [e]
    rcases p with p | ⟨o, p⟩
    · exact .base (.dK p)
    · exact .fDict p
  | tup xs => obtain ⟨z, a, vs, e, p, r⟩ := h; rw [e]; exact .base (.tup p)
  | lst xs =>
    obtain ⟨z, a, vs, e, p, r⟩ := h
    rw [e]
    rcases p with p | ⟨o, p⟩
    · exact .base (.lst p)
    · exact .base (.frz p)
  | kl xs =>
    obtain ⟨z, a, vs, e, p, r⟩ := h
    rw [e]
    rcases p with (p | ⟨o, p⟩) | ⟨o, its, n, p, c, _⟩
    · exact .base (.lst p)
    · exact .base (.frz p)
    · exact .kList p c
  | kt xs =>
    obtain ⟨z, a, vs, e, p, r⟩ := h
    replace p := p.st
    rw [e]
    rcases p with (p | ⟨o, p⟩) | ⟨o, its, n, p, c, _⟩
    · exact .base (.tup p)
    · exact .fTuple p
    · exact .kTuple p c
theorem kit_all (t : Ty) : ∀ d : DV, (∀ n, d ≠ .ref n) → kitB (tyOfD d) (tyStr t) = some (isTy t d) := by
  intro d hd
  cases d <;> first | (exact (hd _ rfl).elim) | skip
  all_goals cases t <;> (simp only [tyOfD, tyStr, isTy]; decide +kernel)
theorem boot_ty (t : Ty) : bootBuiltins (tyStr t : Str) = some (.type (tyStr t)) := by
  cases t <;> decide +kernel
theorem tyStr_1 (t : Ty) : nDbg (tyStr t : Str) = true := by
  cases t <;> decide +kernel
theorem sd_ty (hX : XO C s X) {t : Ty} (hv : glB s.eff (tyStr t : Str) = true) (hb : (tyStr t : Str) ∈ C.bi) : PE X (.Name (tyStr t : Str) p) (tC (.ty (tyStr t))) :=
  pe_bltn (glB_ok hX hv) (hX.bi _ hb) (boot_ty t) rfl (nDbg_3 (tyStr_1 t)) (nDbg_1 (tyStr_1 t))
theorem isiD_some {ts : List Ty} {d : DV} {k : Bool} (h : isiD ts d = some k) : (∀ n, d ≠ .ref n) ∧ (∀ ks vs, d ≠ .dt ks vs) ∧ k = ts.any fun t => isTy t d := by
  cases d <;> first | (cases h; done) | skip
  all_goals exact ⟨fun n e => (nomatch e), fun ks vs e => (nomatch e), (Option.some.inj h).symm⟩
theorem sd_isi1 (hX : XO C s X) {t : Ty} (hv : glB s.eff "isinstance" = true) (hb : ("isinstance" : Str) ∈ C.bi) (ha : PE X a' (tE C a)) (hs : noStarE a' = true) {e' : Expr} {x : Str} (he : PE X e' (tC (.ty (tyStr t)))) (hs2 : noStarE e' = true) : PE X (.Call (.Name "isinstance" p) [a', e'] [] pos) (tE C (.isi a t [])) := by
  refine (pe_callB call_isi (glB_ok hX hv) (hX.bi _ hb) (by decide +kernel) (pa_cons ha (pa_cons he pa_nil (star_ok hs2)) (star_ok hs)) (by decide) (by decide) (star_ok hs) (star_any (by simp [hs2]))).imp ?_
  rintro σ H Q ⟨base, ρ, R, m, env, w, er, po⟩
  unfold evE at po
  refine ⟨base, ρ, R, m, env, w, er, (Po.bind (Rl C.K) po).mono fun vx H1 h1 => h1.run fun x m1 ρ1 R1 x1 w1 rx po1 => ?_⟩
  obtain ⟨z, hz, po1⟩ := po1.of
  obtain ⟨k, hk, rfl⟩ := Option.map_eq_some_iff.mp hz
  obtain ⟨n1, n2, rfl⟩ := isiD_some hk
  refine ⟨vx, .ty (tyStr t), .type (tyOfD (rs m1 x)), .type (tyStr t), isTy t (rs m1 x), rfl, .ty _, by rw [hX.K]; exact tyx_of (Hl.of w1 rx) n2, kit_ty (kit_all t _ n1), ?_⟩
  have : (List.any [t] fun t => isTy t (rs m1 x)) = isTy t (rs m1 x) := by simp
  rw [this] at po1
  exact po1.ok Xt.refl w1 (rl_bl.mpr rfl)
theorem pa_tys (hX : XO C s X) : ∀ {ts : List Ty} {es' : List Expr}, (∀ t ∈ ts, glB s.eff (tyStr t : Str) = true ∧ (tyStr t : Str) ∈ C.bi) → es' = ts.map (fun t => Expr.Name (tyStr t : Str) p) → True := fun _ _ => trivial
end
end Ev

set_option Elab.async false
set_option linter.all false
set_option maxRecDepth 100000
/-! isinstance with a tuple of types; methods of built-in types; stores. -/
namespace Ev
open PySem PySem.Spec PyProof.Rows L2

section
variable {C : SC} {s : Sc} {X : Cx} {a b c : Ex} {a' b' c' : Expr} {pos p apos cpos : Pos} {es : List Ex} {es' : List Expr}
/-! ### isinstance(x, (S, T)) -/
def tyOk (C : TX) (s : Sc) (t : Ty) : Bool := glB s.eff (tyStr t : Str) && C.bi.contains (tyStr t : Str)
def tTys (ts : List Ty) : TA := fun _ H Q => Q (ts.map fun t => V.ty (tyStr t)) H
/-- a name that tells a type -/
def isTyE (t : Ty) (e : Expr) : Bool := match e with
  | .Name x _ => x == (tyStr t : Str)
  | _ => false
def areTys : List Ty → List Expr → Bool
  | [], [] => true
  | t :: ts, e :: es => isTyE t e && areTys ts es
  | _, _ => false
theorem isTyE_ok (hX : XO C s X) {t : Ty} {e : Expr} (h : isTyE t e = true) (hv : glB s.eff (tyStr t : Str) = true) (hb : (tyStr t : Str) ∈ C.bi) : PE X e (tC (.ty (tyStr t))) ∧ noStarE e = true := by
  cases e <;> first | (simp [isTyE] at h; done) | skip
  rename_i x q
  have hx : x = (tyStr t : Str) := by simpa [isTyE] using h
  subst hx
  exact ⟨sd_ty hX hv hb, rfl⟩
theorem pa_tysL (hX : XO C s X) : ∀ {ts : List Ty} {es : List Expr}, areTys ts es = true → (∀ t ∈ ts, glB s.eff (tyStr t : Str) = true ∧ (tyStr t : Str) ∈ C.bi) → PA X es (tTys ts)
  | [], [], _, _ => pa_nil
  | t :: ts, e :: es, h, q => by
    simp only [areTys] at h
    obtain ⟨h1, h2⟩ := and_tt h
    obtain ⟨q1, q2⟩ := q t List.mem_cons_self
    obtain ⟨he, hs⟩ := isTyE_ok hX h1 q1 q2
    exact pa_cons he (pa_tysL hX h2 fun t ht => q t (List.mem_cons_of_mem _ ht)) (star_ok hs)
  | [], _ :: _, h, _ => nomatch h
  | _ :: _, [], h, _ => nomatch h
theorem kitAny_tys {K : PySem.W.Frag} (d : DV) (hd : ∀ n, d ≠ .ref n) : ∀ ts : List Ty, PySem.W.kitAny K (.type (tyOfD d)) (ts.map fun t => Value.type (tyStr t)) = some (ts.any fun t => isTy t d)
  | [] => by
    show PySem.W.kitAny K _ [] = some false
    unfold PySem.W.kitAny
    rfl
  | t :: ts => by
    rw [List.map_cons, List.any_cons]
    refine kitAny_cons (kit_ty (kit_all t d hd)) (fun h => ?_) (fun h => ?_)
    · rw [h, Bool.false_or]
      exact kitAny_tys d hd ts
    · rw [h, Bool.true_or]
theorem cls_tys : ∀ ts : List Ty, Paired ClsV (ts.map fun t => V.ty (tyStr t)) (ts.map fun t => Value.type (tyStr t))
  | [] => .nil
  | t :: ts => .cons (.ty _) (cls_tys ts)
theorem sd_isiT (hX : XO C s X) {t : Ty} {ts : List Ty} {k2 : Nat} {pt : Pos} (hv : glB s.eff "isinstance" = true) (hb : ("isinstance" : Str) ∈ C.bi) (ha : PE X a' (tE C a)) (hs : noStarE a' = true) (h : areTys (t :: ts) es' = true)
    (hq : ∀ u ∈ t :: ts, glB s.eff (tyStr u : Str) = true ∧ (tyStr u : Str) ∈ C.bi) (hl : (t :: ts).length ≤ SL) : PE X (.Call (.Name "isinstance" p) [a', .Tuple es' k2 pt] [] pos) (tE C (.isi a t ts)) := by
  refine (pe_callB call_isiT (glB_ok hX hv) (hX.bi _ hb) (by decide +kernel) (pa_cons ha (pa_cons (pe_tup (pa_tysL hX h hq)) pa_nil (star_ok rfl)) (star_ok hs)) (by decide) (by decide) (star_ok hs) (star_any (by simp [noStarE]))).imp ?_
  rintro σ H Q ⟨base, ρ, R, m, env, w, er, po⟩
  unfold evE at po
  refine ⟨base, ρ, R, m, env, w, er, (Po.bind (Rl C.K) po).mono fun vx H1 h1 => h1.run fun x m1 ρ1 R1 x1 w1 rx po1 => ?_⟩
  obtain ⟨z, hz, po1⟩ := po1.of
  obtain ⟨k, hk, rfl⟩ := Option.map_eq_some_iff.mp hz
  obtain ⟨n1, n2, rfl⟩ := isiD_some hk
  refine ⟨by rw [List.length_map]; exact Nat.le_trans hl SL_line, fun tp htp => ?_⟩
  obtain ⟨x2, w2⟩ := w1.fix htp (.tup ((t :: ts).map fun t => V.ty (tyStr t)))
  have rx2 := rx.mono x2
  have hh := Hl.of w2 rx2
  refine ⟨vx, tp, _, .type (tyOfD (rs m1 x)), _, _, rfl, upd_same, cls_tys _, by rw [hX.K]; exact tyx_of hh n2, kitAny_tys _ n1 _, ?_⟩
  exact po1.ok x2 w2 (rl_bl.mpr rfl)
/-! ### methods -/
def plainO : Expr → Bool
  | .Name .. => true
  | .Subscript .. => true
  | .Constant .. => true
  | .Attribute .. => true
  | .Call _ (_ :: _) _ _ => true
  | _ => false
theorem plainO_ok {o : Expr} {n : Str} {env : Env} {t : Sem Value} (h : plainO o = true) : attributeBase o n env t = t := by
  cases o <;> first | rfl | (simp [plainO] at h; done) | skip
  rename_i f as ks p
  cases as with
  | nil => simp [plainO] at h
  | cons a as => cases f <;> rfl
theorem few1 {e : Expr} {env : Env} (h : noStarE e = true) : ((backTo cpos (starEach [e] env)).all (fun x => !x.1) && (backToKw cpos (keywordEach [] env)).all (fun x => x.1.isSome)
    && decide (([e] : List Expr).length + ([] : List Keyword).length + (if ([] : List Keyword).isEmpty then 0 else 1) < 30)) = true := by
  rw [star_ok h]
  rfl
theorem few2 {e f : Expr} {env : Env} (h : noStarE e = true) (h2 : noStarE f = true) : ((backTo cpos (starEach [e, f] env)).all (fun x => !x.1) && (backToKw cpos (keywordEach [] env)).all (fun x => x.1.isSome)
    && decide (([e, f] : List Expr).length + ([] : List Keyword).length + (if ([] : List Keyword).isEmpty then 0 else 1) < 30)) = true := by
  rw [star_ok h, star_ok h2]
  rfl
theorem m1_of {o e : Expr} {n : Str} (ho : plainO o = true) (he : noStarE e = true) (hl : (apos.endLine == cpos.line) = true) : M1 X o n apos e cpos :=
  ⟨plainO_ok ho, few1 he, hl, by rw [star_ok he]; rfl⟩
theorem m2_of {o e f : Expr} {n : Str} (ho : plainO o = true) (he : noStarE e = true) (hf : noStarE f = true) (hl : (apos.endLine == cpos.line) = true) : M2 X o n apos e f cpos :=
  ⟨plainO_ok ho, few2 he hf, hl, by rw [star_ok he, star_ok hf]; rfl⟩
/-- receiver, then one argument -/
theorem cell_lst {K : PySem.W.Frag} {base : Bs} {ρ : List Addr} {R H : Hp} {m : Mem} (w : WR K base ρ R m H) {n : Nat} {v : V} {ys : List DV} (r : Rl K ρ R (.ref n) v) (h : m[n]? = some (.c (.lst ys))) : ∃ l vs, ρ[n]? = some l ∧ v = V.ref l ∧ H l = some (.lst vs) ∧ Rls K ρ R ys vs ∧ ys.length ≤ SL := by
  obtain ⟨l, e, rfl⟩ := rl_ref.mp r
  obtain ⟨o, e2, z, vs, e3, r2⟩ := w.cel n l _ e h
  subst e3
  exact ⟨l, vs, e, rfl, e2, r2, z⟩
theorem recv_list {K : PySem.W.Frag} {base : Bs} {ρ : List Addr} {R H : Hp} {m : Mem} (w : WR K base ρ R m H) {x : DV} {v : V} (hK : X.K = K) (r : Rl K ρ R x v) {q : Mt} (hq : q = .append ∨ q = .pop0 ∨ q = .popAt ∨ q = .extend) (h : recvOk q (rs m x) = true) : tyV X.K "list" v H := by
  have hd := Hl.of w r
  cases hc : rs m x with
  | lst ys =>
    rw [hc] at hd
    obtain ⟨z, l, vs, rfl, e2, r2⟩ := hd
    exact .inl ⟨rfl, vs, .inl e2⟩
  | _ => rw [hc] at h; rcases hq with rfl | rfl | rfl | rfl <;> cases h
/-! ### what a changed cell names -/
theorem belows_app (b : Nat) : ∀ xs ys : List DV, refsBelows b (xs ++ ys) = (refsBelows b xs && refsBelows b ys)
  | [], ys => by simp [refsBelows]
  | x :: xs, ys => by rw [List.cons_append, refsBelows, refsBelows, belows_app b xs ys, Bool.and_assoc]
theorem belows_iff (b : Nat) : ∀ {xs : List DV}, refsBelows b xs = true ↔ ∀ x ∈ xs, refsBelow b x = true
  | [] => by simp [refsBelows]
  | x :: xs => by
    rw [refsBelows, Bool.and_eq_true, belows_iff b]
    simp
theorem mayPut_below {base n b : Nat} {y : DV} (h : mayPut base n y = true) (hb : b ≤ base) (hn : n < b) : refsBelow b y = true := by
  unfold mayPut at h
  rw [Bool.or_eq_true] at h
  rcases h with h | h
  · exact absurd (Nat.lt_of_lt_of_le hn hb) (Nat.not_lt.mpr (of_decide_eq_true h))
  · exact below_of_noRef b h
/-- the cell n, a list, becomes ys' -/
theorem put_lst {K : PySem.W.Frag} {base : Bs} {ρ : List Addr} {R H : Hp} {m : Mem} (w : WR K base ρ R m H) {n : Nat} {l : Addr} {ys ys' : List DV} {vs' : List V} (e1 : ρ[n]? = some l) (hm : m[n]? = some (.c (.lst ys))) (hl : ys'.length ≤ SL) (r : Rls K ρ R ys' vs')
    (hsub : ∀ b, b ∈ base.cu → n < b → ∀ x ∈ ys', x ∈ ys ∨ refsBelow b x = true) : WR K base ρ R (m.set n (.c (.lst ys'))) (upd H l (.lst vs')) := by
  refine w.put e1 hm ⟨hl, vs', rfl, r⟩ (.inr fun b hb hn => ?_)
  have h0 := w.low b n _ hb hn hm
  show refsBelow b (.lst ys') = true
  have h1 : refsBelows b ys = true := by
    have : refsBelow b (.lst ys) = true := h0
    rwa [refsBelow] at this
  rw [refsBelow, belows_iff]
  intro x hx
  rcases hsub b hb hn x hx with h | h
  · exact (belows_iff b).mp h1 x h
  · exact h
/-- a method of a list: receiver, then the arguments -/
theorem meth_run {q : Mt} (hq : q = .append ∨ q = .pop0 ∨ q = .popAt ∨ q = .extend) (hK : X.K = C.K) {r : V → List V → Hp → VK → Prop} {σ : L2.St} {H : Hp} {Q : VK} (h : tE C (.meth q a es) σ H Q)
    (hr : ∀ base ρ R m H x vx xs vs, WR C.K base ρ R m H → Rl C.K ρ R x vx → Rls C.K ρ R xs vs → Po C.K base (Rl C.K) ρ R Q (methD q base.n x xs m) → r vx vs H Q) : tBM X.K "list" r (tE C a) (tA C es) σ H Q := by
  obtain ⟨base, ρ, R, m, env, w, er, po⟩ := h
  unfold evE at po
  refine ⟨base, ρ, R, m, env, w, er, (Po.bind (Rl C.K) po).mono fun vx H1 h1 => h1.run fun x m1 ρ1 R1 x1 w1 rx po1 => ?_⟩
  cases hr' : recvOk q (rs m1 x) with
  | false => rw [hr'] at po1; exact po1.elim
  | true =>
    rw [hr', if_pos rfl] at po1
    refine ⟨recv_list w1 hK rx hq hr', ?_⟩
    refine ⟨base, ρ1, R1, m1, env, w1, er.mono x1, (Po.bind (Rls C.K) po1).mono fun vs H2 h2 => h2.run fun xs m2 ρ2 R2 x2 w2 rxs po2 => ?_⟩
    exact hr base ρ2 R2 m2 H2 x vx xs vs w2 (rx.mono x2) rxs po2
theorem sd_append (hX : XO C s X) (ha : PE X a' (tE C a)) (hb : PA X [b'] (tA C [b])) (hp : plainO a' = true) (hs : noStarE b' = true) (hl : (apos.endLine == cpos.line) = true) : PE X (.Call (.Attribute a' "append" apos) [b'] [] cpos) (tE C (.meth .append a [b])) := by
  refine (pe_bm PySem.F.plainAttrs_list PySem.F.slot_list_append PySem.F.type_list_append mt_append ha hb (plainO_ok hp) (few1 hs) hl (star_ok hs) (star_any rfl)).imp ?_
  intro σ H Q h
  refine meth_run (.inl rfl) hX.K h ?_
  intro base ρ R m H x vx xs vs w rx rxs po
  unfold methD at po
  split at po <;> first | (exfalso; exact Mt.noConfusion ‹_›) | (exact po.elim) | skip
  rename_i n y _
  split at po <;> first | (exact po.elim) | skip
  rename_i ys hm
  by_cases hc : (mayPut base.n n y && decide (ys.length < SL)) = true
  · rw [if_pos hc] at po
    obtain ⟨hc1, hc2⟩ := and_tt hc
    have hlt := of_decide_eq_true hc2
    obtain ⟨vy, rfl, ry⟩ := rls1 rxs
    obtain ⟨l, us, e1, rfl, e2, r2, z2⟩ := cell_lst w rx hm
    refine ⟨l, us, vy, rfl, rfl, e2, by rw [r2.length]; exact Nat.lt_of_lt_of_le hlt SL_line, ?_⟩
    refine po.ok Xt.refl (put_lst w e1 hm (by rw [List.length_append]; exact hlt) (r2.append (Rls.cons ry Rls.nil)) fun b hb hn x hx => ?_) (rl_non.mpr rfl)
    rcases List.mem_append.mp hx with hx | hx
    · exact .inl hx
    · rw [List.mem_singleton.mp hx]
      exact .inr (mayPut_below hc1 (base.cle _ hb) hn)
  · rw [if_neg hc] at po
    exact po.elim
theorem mt_extendR : MtM X "list.extend" (fun x vs H Q => ∃ l b xs zs, x = .ref l ∧ vs = [.ref b] ∧ H l = some (.lst xs) ∧ Rd H b (.lst zs) ∧ xs.length + zs.length ≤ sizeLine ∧ Q .non (upd H l (.lst (xs ++ zs)))) := by
  rintro pins s σ H x vs v us Q I rx rv ⟨l, b, xs, zs, rfl, rfl, hl, hb, hz, q⟩
  cases rx
  obtain ⟨u, rfl, ru⟩ := rv.one
  cases ru
  obtain ⟨_, its, n, r1, _, e1⟩ := I.lstM hl
  obtain ⟨_, more, k, r2, e2⟩ := (show ObjOk X.prog X.w H s.heap b (.lst zs) from rd_of I.hok hb)
  have s1 := r1.length
  have s2 := r2.length
  have both : its.toArray.size + more.toArray.size ≤ sizeLine := by simp; omega
  have short : ¬ (!its.toArray.isEmpty && Builtin.List.listTooLong (its.toArray.size + more.toArray.size)) = true := by
    rw [notLongL both, Bool.and_false]
    exact Bool.false_ne_true
  have run := AutoSeq1.list_extend_list_list_0 l its.toArray n b more.toArray k short (by omega) (by omega)
  refine call_meets F.slot_list_extend ⟨_, e1, rfl⟩ F.entry_list_extend (F.args_list_extend_2 _ _) run ⟨e1, e2, .non, _, I.lset (its' := its ++ more) hl e1 (by simp) (r1.append r2) ?_, rfl, q⟩
  rw [List.length_append]
  exact hz
theorem sd_extend (hX : XO C s X) (ha : PE X a' (tE C a)) (hb : PA X [b'] (tA C [b])) (hp : plainO a' = true) (hs : noStarE b' = true) (hl : (apos.endLine == cpos.line) = true) : PE X (.Call (.Attribute a' "extend" apos) [b'] [] cpos) (tE C (.meth .extend a [b])) := by
  refine (pe_bm PySem.F.plainAttrs_list PySem.F.slot_list_extend PySem.F.type_list_extend mt_extendR ha hb (plainO_ok hp) (few1 hs) hl (star_ok hs) (star_any rfl)).imp ?_
  intro σ H Q h
  refine meth_run (.inr (.inr (.inr rfl))) hX.K h ?_
  intro base ρ R m H x vx xs vs w rx rxs po
  unfold methD at po
  split at po <;> first | (exfalso; exact Mt.noConfusion ‹_›) | (exact po.elim) | skip
  rename_i n y _
  split at po <;> first | (exact po.elim) | skip
  rename_i ys zs hm hy
  by_cases hc : (zs.all (mayPut base.n n) && decide (ys.length + zs.length ≤ SL)) = true
  · rw [if_pos hc] at po
    obtain ⟨hc1, hc2⟩ := and_tt hc
    have hlt := of_decide_eq_true hc2
    obtain ⟨vy, rfl, ry⟩ := rls1 rxs
    have hd := Hl.of w ry
    rw [hy] at hd
    obtain ⟨_, p, us2, rfl, hR, r3⟩ := hd
    obtain ⟨l, us, e1, rfl, e2, r2, z2⟩ := cell_lst w rx hm
    refine ⟨l, p, us, us2, rfl, rfl, e2, hR, by rw [r2.length, r3.length]; exact Nat.le_trans hlt SL_line, ?_⟩
    refine po.ok Xt.refl (put_lst w e1 hm (by rw [List.length_append]; exact hlt) (r2.append r3) fun b hb hn x hx => ?_) (rl_non.mpr rfl)
    rcases List.mem_append.mp hx with hx | hx
    · exact .inl hx
    · exact .inr (mayPut_below (List.all_eq_true.mp hc1 x hx) (base.cle _ hb) hn)
  · rw [if_neg hc] at po
    exact po.elim
theorem sd_pop0 (hX : XO C s X) (ha : PE X a' (tE C a)) (hp : plainO a' = true) (hl : (apos.endLine == cpos.line) = true) : PE X (.Call (.Attribute a' "pop" apos) [] [] cpos) (tE C (.meth .pop0 a [])) := by
  refine (pe_bm0 PySem.F.plainAttrs_list PySem.F.slot_list_pop PySem.F.type_list_pop mt_pop ha (plainO_ok hp) hl).imp ?_
  intro σ H Q h
  have h2 := meth_run (X := X) (r := rPop) (.inr (.inl rfl)) hX.K h ?_
  · obtain ⟨base, ρ, R, m, env, w, er, po⟩ := h2
    refine ⟨base, ρ, R, m, env, w, er, po.mono fun vx H1 ⟨ty, q⟩ => ⟨ty, ?_⟩⟩
    obtain ⟨base, ρ, R, m, env, w, er, po⟩ := q
    unfold evEs at po
    exact po.ok Xt.refl w Rls.nil
  · intro base ρ R m H x vx xs vs w rx rxs po
    unfold methD at po
    split at po <;> first | (exfalso; exact Mt.noConfusion ‹_›) | (exact po.elim) | skip
    rename_i n _
    split at po <;> first | (exact po.elim) | skip
    rename_i ys hm
    split at po <;> first | (exact po.elim) | skip
    rename_i y hy
    obtain rfl := Rls.nil_iff.mp rxs
    obtain ⟨l, us, e1, rfl, e2, r2, z2⟩ := cell_lst w rx hm
    rw [List.getLast?_eq_getElem?] at hy
    obtain ⟨vy, hv, ry⟩ := r2.get hy
    refine ⟨l, us, vy, rfl, rfl, e2, by rw [r2.length]; exact hv, ?_⟩
    exact po.ok Xt.refl (put_lst w e1 hm (by rw [List.length_dropLast]; omega) r2.dropLast fun b hb hn x hx => .inl ((List.dropLast_sublist _).subset hx)) ry
theorem sd_popAt (hX : XO C s X) (ha : PE X a' (tE C a)) (hb : PA X [b'] (tA C [b])) (hp : plainO a' = true) (hs : noStarE b' = true) (hl : (apos.endLine == cpos.line) = true) : PE X (.Call (.Attribute a' "pop" apos) [b'] [] cpos) (tE C (.meth .popAt a [b])) := by
  refine (pe_bm PySem.F.plainAttrs_list PySem.F.slot_list_pop PySem.F.type_list_pop mt_popAt ha hb (plainO_ok hp) (few1 hs) hl (star_ok hs) (star_any rfl)).imp ?_
  intro σ H Q h
  refine meth_run (.inr (.inr (.inl rfl))) hX.K h ?_
  intro base ρ R m H x vx xs vs w rx rxs po
  unfold methD at po
  split at po <;> first | (exfalso; exact Mt.noConfusion ‹_›) | (exact po.elim) | skip
  rename_i n i _
  split at po <;> first | (exact po.elim) | skip
  rename_i ys hm
  split at po <;> first | (exact po.elim) | skip
  rename_i j hj
  split at po <;> first | (exact po.elim) | skip
  rename_i y hy
  obtain ⟨vy, rfl, ry⟩ := rls1 rxs
  obtain ⟨l, us, e1, rfl, e2, r2, z2⟩ := cell_lst w rx hm
  obtain ⟨h1, h2, h3, h4⟩ := ixN_seq hj
  obtain ⟨vz, hv, rz⟩ := r2.get hy
  have hz : ys.length ≤ 10000000 := z2
  refine ⟨l, us, i, j, vz, rfl, by rw [rl_int.mp ry], e2, by omega, by omega, by rw [r2.length]; exact h1, hv, ?_⟩
  refine po.ok Xt.refl (put_lst w e1 hm (Nat.le_trans (len_erase _ _) z2) (r2.eraseIdx j) fun b hb hn x hx => .inl (List.mem_of_mem_eraseIdx hx)) rz
theorem recv_dict {K : PySem.W.Frag} {base : Bs} {ρ : List Addr} {R H : Hp} {m : Mem} (w : WR K base ρ R m H) {x : DV} {v : V} (r : Rl K ρ R x v) {q : Mt} (hq : q = .get1 ∨ q = .get2) (h : recvOk q (rs m x) = true) : ∃ a, v = V.ref a ∧ IsD H a := by
  have hd := Hl.of w r
  cases hc : rs m x with
  | dk ks ys =>
    rw [hc] at hd
    obtain ⟨z, l, vs, rfl, e2, r2⟩ := hd
    exact ⟨l, rfl, .inl ⟨vs, e2⟩⟩
  | dt ks ys =>
    rw [hc] at hd
    obtain ⟨z, l, vs, rfl, e2, r2⟩ := hd
    exact ⟨l, rfl, .inr ⟨vs, e2⟩⟩
  | _ => rw [hc] at h; rcases hq with rfl | rfl <;> cases h
theorem sd_get1 (hX : XO C s X) (ha : PE X a' (tE C a)) (hb : PE X b' (tE C b)) (hp : plainO a' = true) (hs : noStarE b' = true) (hl : (apos.endLine == cpos.line) = true) : PE X (.Call (.Attribute a' "get" apos) [b'] [] cpos) (tE C (.meth .get1 a [b])) := by
  obtain ⟨kr, hr⟩ := hX.room
  refine (pe_dget1 (hu_of hr) ha hb (m1_of hp hs hl)).imp ?_
  rintro σ H Q ⟨base, ρ, R, m, env, w, er, po⟩
  unfold evE at po
  refine ⟨base, ρ, R, m, env, w, er, (Po.bind (Rl C.K) po).mono fun vx H1 h1 => h1.run fun x m1 ρ1 R1 x1 w1 rx po1 => ?_⟩
  cases hr' : recvOk .get1 (rs m1 x) with
  | false => rw [hr'] at po1; exact po1.elim
  | true =>
    rw [hr', if_pos rfl] at po1
    obtain ⟨l, rfl, hd⟩ := recv_dict w1 rx (.inl rfl) hr'
    refine ⟨l, rfl, hd, ?_⟩
    unfold evEs evEs at po1
    simp only [Out.bind_assoc, Out.bind_ok] at po1
    refine ⟨base, ρ1, R1, m1, env, w1, er.mono x1, (Po.bind (Rl C.K) po1).mono fun vy H2 h2 => h2.run fun y m2 ρ2 R2 x2 w2 ry po2 => ?_⟩
    simp only [methD] at po2
    obtain ⟨z, hz, po3⟩ := po2.of
    obtain ⟨o, ho, rfl⟩ := Option.map_eq_some_iff.mp hz
    obtain ⟨l2, e2, h3⟩ := dget_ok w2 (Hl.of w2 (rx.mono x2)) (Hl.key w2 ry ho) ho
    injection e2 with e2
    subst e2
    cases o with
    | none => exact ⟨none, h3, po3.ok Xt.refl w2 (rl_non.mpr rfl)⟩
    | some d =>
      obtain ⟨vz, h4, h5⟩ := h3
      exact ⟨some vz, h4, po3.ok Xt.refl w2 h5⟩
theorem sd_get2 (hX : XO C s X) (ha : PE X a' (tE C a)) (hb : PE X b' (tE C b)) (hc : PE X c' (tE C c)) (hp : plainO a' = true) (hs : noStarE b' = true) (hs2 : noStarE c' = true) (hl : (apos.endLine == cpos.line) = true) : PE X (.Call (.Attribute a' "get" apos) [b', c'] [] cpos) (tE C (.meth .get2 a [b, c])) := by
  obtain ⟨kr, hr⟩ := hX.room
  refine (pe_dget2 (hu_of hr) ha hb hc (m2_of hp hs hs2 hl)).imp ?_
  rintro σ H Q ⟨base, ρ, R, m, env, w, er, po⟩
  unfold evE at po
  refine ⟨base, ρ, R, m, env, w, er, (Po.bind (Rl C.K) po).mono fun vx H1 h1 => h1.run fun x m1 ρ1 R1 x1 w1 rx po1 => ?_⟩
  cases hr' : recvOk .get2 (rs m1 x) with
  | false => rw [hr'] at po1; exact po1.elim
  | true =>
    rw [hr', if_pos rfl] at po1
    obtain ⟨l, rfl, hd⟩ := recv_dict w1 rx (.inr rfl) hr'
    refine ⟨l, rfl, hd, ?_⟩
    unfold evEs evEs evEs at po1
    simp only [Out.bind_assoc, Out.bind_ok] at po1
    refine ⟨base, ρ1, R1, m1, env, w1, er.mono x1, (Po.bind (Rl C.K) po1).mono fun vy H2 h2 => h2.run fun y m2 ρ2 R2 x2 w2 ry po2 => ?_⟩
    refine ⟨base, ρ2, R2, m2, env, w2, (er.mono x1).mono x2, (Po.bind (Rl C.K) po2).mono fun vt H3 h3 => h3.run fun t m3 ρ3 R3 x3 w3 rt po3 => ?_⟩
    simp only [methD] at po3
    obtain ⟨z, hz, po4⟩ := po3.of
    obtain ⟨o, ho, rfl⟩ := Option.map_eq_some_iff.mp hz
    obtain ⟨l2, e2, h3⟩ := dget_ok w3 (Hl.of w3 ((rx.mono x2).mono x3)) (Hl.key w3 (ry.mono x3) ho) ho
    injection e2 with e2
    subst e2
    cases o with
    | none => exact ⟨none, h3, po4.ok Xt.refl w3 rt⟩
    | some d =>
      obtain ⟨vz, h4, h5⟩ := h3
      exact ⟨some vz, h4, po4.ok Xt.refl w3 h5⟩
end
end Ev

set_option Elab.async false
set_option linter.all false
set_option maxRecDepth 100000
/-! Targets, stores, statements but loops. -/
namespace Ev
open PySem PySem.Spec PyProof.Rows L2

section
variable {C : SC} {s : Sc} {X : Cx} {a b c : Ex} {a' b' c' : Expr} {pos p apos cpos : Pos} {es : List Ex} {es' : List Expr}
/-! ### x.join(ys) -/
theorem join_eq (t : List Nat) : ∀ ys : List (List Nat), Str.join (toS t) (ys.map toS) = toS (joinD t ys)
  | [] => rfl
  | [x] => rfl
  | x :: y :: r => by
    have ih := join_eq t (y :: r)
    show toS x ++ toS t ++ Str.join (toS t) ((y :: r).map toS) = toS (joinD t (x :: y :: r))
    rw [ih, toS_app, toS_app]
    rfl
theorem join_len (t : List Nat) : ∀ ys : List (List Nat), (joinD t ys).length ≤ (ys.map (·.length)).sum + ys.length * t.length
  | [] => by simp [joinD]
  | [x] => by simp [joinD]
  | x :: y :: r => by
    have ih := join_len t (y :: r)
    have e : joinD t (x :: y :: r) = x ++ t ++ joinD t (y :: r) := rfl
    rw [e, List.length_append, List.length_append, List.map_cons, List.sum_cons, List.length_cons (as := y :: r), Nat.add_mul]
    omega
theorem sum_lens (ys : List (List Nat)) : ((ys.map toS).map (·.length)).sum = (ys.map (·.length)).sum := by
  rw [List.map_map]
  congr 1
  first | done | exact List.map_congr_left fun y _ => toS_len y
theorem sd_join (hX : XO C s X) (ha : PE X a' (tE C a)) (hb : PE X b' (tE C b)) (hp : plainO a' = true) (hs : noStarE b' = true) (hl : (apos.endLine == cpos.line) = true) : PE X (.Call (.Attribute a' "join" apos) [b'] [] cpos) (tE C (.meth .join a [b])) := by
  refine (pe_join ha hb (by rw [star_ok hs]; rfl) (plainO_ok hp) hl).imp ?_
  rintro σ H Q ⟨base, ρ, R, m, env, w, er, po⟩
  unfold evE at po
  refine ⟨base, ρ, R, m, env, w, er, (Po.bind (Rl C.K) po).mono fun vx H1 h1 => h1.run fun x m1 ρ1 R1 x1 w1 rx po1 => ?_⟩
  cases hr' : recvOk .join (rs m1 x) with
  | false => rw [hr'] at po1; exact po1.elim
  | true =>
    rw [hr', if_pos rfl] at po1
    have hd := Hl.of w1 rx
    cases x with
    | str t =>
      obtain ⟨z, rfl⟩ := rl_str.mp rx
      refine ⟨⟨_, rfl⟩, ?_⟩
      unfold evEs evEs at po1
      simp only [Out.bind_assoc, Out.bind_ok] at po1
      refine ⟨base, ρ1, R1, m1, env, w1, er.mono x1, (Po.bind (Rl C.K) po1).mono fun vy H2 h2 => h2.run fun y m2 ρ2 R2 x2 w2 ry po2 => ?_⟩
      simp only [methD] at po2
      obtain ⟨u, hu, po3⟩ := po2.of
      obtain ⟨ys, h3, h4⟩ := Option.bind_eq_some_iff.mp hu
      obtain ⟨ds, h5, h6⟩ := Option.bind_eq_some_iff.mp h3
      obtain ⟨hlen, rfl⟩ := some_if h4
      obtain ⟨l, q, us, rfl, e2, r2⟩ := seq_of w2 ry h5
      refine ⟨_, q, ys.map toS, rfl, rfl, by rw [hX.K, ← strs_of r2 h6]; exact e2, ?_, ?_⟩
      · rw [sum_lens, List.length_map, toS_len]
        exact Nat.le_trans hlen (by decide)
      · rw [(TL.join_eq (toS t) (ys.map toS)).trans (join_eq t ys)]
        exact po3.ok Xt.refl w2 (rl_str.mpr ⟨Nat.le_trans (join_len t ys) hlen, rfl⟩)
    | ref n =>
      exfalso
      obtain ⟨a0, e0, _⟩ := rl_ref.mp rx
      obtain ⟨c0, e2, hc0⟩ := w1.cell_at e0
      have er0 : rs m1 (.ref n) = c0.d := by show (match m1[n]? with | some c => c.d | none => _) = _; rw [e2]
      rw [er0] at hr'
      obtain ⟨o, _, hco⟩ := hc0.rd
      cases hc : c0.d with
      | str t => rw [hc] at hco; exact hco
      | _ => rw [hc] at hr'; cases hr'
    | _ => cases hr'
/-! ### stores -/
theorem rep_ok {κ κ' : Type} [DecidableEq κ] [DecidableEq κ'] {K : PySem.W.Frag} {ρ : List Addr} {R : Hp} {f : κ' → κ} (hf : ∀ a b, f a = f b → a = b) {x : DV} {v : V} (rx : Rl K ρ R x v) (j : κ') : ∀ {kvs : List (κ × V)} {ks : List κ'} {vs : List DV},
    kvs.map (·.1) = ks.map f → Rls K ρ R vs (kvs.map (·.2)) → (kvs.map fun kv => if kv.1 = f j then (kv.1, v) else kv).map (·.1) = ks.map f ∧ Rls K ρ R (repV ks vs j x) ((kvs.map fun kv => if kv.1 = f j then (kv.1, v) else kv).map (·.2))
  | [], [], [], _, h => ⟨rfl, h⟩
  | [], [], _ :: _, _, h => by simp [Rls] at h
  | [], _ :: _, _, h, _ => by simp at h
  | _ :: _, [], _, h, _ => by simp at h
  | (k, u) :: kvs, k' :: ks, [], _, h => by simp [Rls] at h
  | (k, u) :: kvs, k' :: ks, d :: vs, h, q => by
    rw [List.map_cons, List.map_cons] at h
    injection h with h1 h2
    obtain ⟨v', r, e, h3, h4⟩ := Rls.cons_iff.mp q
    rw [List.map_cons] at e
    injection e with e1 e2
    have e1' : u = v' := e1
    subst e1'
    obtain ⟨i1, i2⟩ := rep_ok hf rx j h2 (show Rls K ρ R vs (kvs.map (·.2)) by rw [e2]; exact h4)
    have h1' : k = f k' := h1
    rw [List.map_cons, List.map_cons, List.map_cons, i1]
    by_cases hk : k' = j
    · subst hk
      rw [if_pos h1', List.map_cons, repV, if_pos rfl]
      exact ⟨by rw [h1'], Rls.cons rx i2⟩
    · rw [if_neg (show ¬ k = f j from fun z => hk (hf _ _ (h1'.symm.trans z))), List.map_cons, repV, if_neg hk]
      exact ⟨by rw [h1'], Rls.cons h3 i2⟩
theorem any_key {κ κ' : Type} [DecidableEq κ] [DecidableEq κ'] {f : κ' → κ} (hf : ∀ a b, f a = f b → a = b) (j : κ') : ∀ {kvs : List (κ × V)} {ks : List κ'}, kvs.map (·.1) = ks.map f → (kvs.any fun kv => decide (kv.1 = f j)) = decide (j ∈ ks)
  | [], [], _ => rfl
  | [], _ :: _, h => by simp at h
  | _ :: _, [], h => by simp at h
  | (k, u) :: kvs, k' :: ks, h => by
    rw [List.map_cons, List.map_cons] at h
    injection h with h1 h2
    have h1' : k = f k' := h1
    rw [List.any_cons, any_key hf j h2]
    by_cases hk : k' = j
    · subst hk
      rw [decide_eq_true h1']
      simp
    · rw [decide_eq_false (show ¬ k = f j from fun z => hk (hf _ _ (h1'.symm.trans z)))]
      have : (j ∈ k' :: ks) ↔ j ∈ ks := by
        rw [List.mem_cons]
        exact ⟨fun h => h.elim (fun e => (hk e.symm).elim) id, .inr⟩
      rw [Bool.false_or, decide_eq_decide]
      exact this.symm
theorem kv_put {κ κ' : Type} [DecidableEq κ] [DecidableEq κ'] {K : PySem.W.Frag} {ρ : List Addr} {R : Hp} {f : κ' → κ} (hf : ∀ a b, f a = f b → a = b) {x : DV} {v : V} (rx : Rl K ρ R x v) (j : κ') {kvs : List (κ × V)} {ks : List κ'} {vs : List DV}
    (h : kvs.map (·.1) = ks.map f) (q : Rls K ρ R vs (kvs.map (·.2))) : (putK kvs (f j) v).map (·.1) = (putK' ks j).map f ∧ Rls K ρ R (putV ks vs j x) ((putK kvs (f j) v).map (·.2)) := by
  unfold putK putK' putV
  rw [any_key hf j h]
  by_cases hj : j ∈ ks
  · rw [if_pos (decide_eq_true hj), if_pos hj, if_pos hj]
    exact rep_ok hf rx j h q
  · rw [if_neg (by rw [decide_eq_false hj]; exact Bool.false_ne_true), if_neg hj, if_neg hj, List.map_append, List.map_append, List.map_append, h]
    exact ⟨rfl, q.append (Rls.cons rx Rls.nil)⟩
theorem putK'_len {κ : Type} [DecidableEq κ] (ks : List κ) (j : κ) : (putK' ks j).length ≤ ks.length + 1 := by
  unfold putK'
  split
  · omega
  · rw [List.length_append]; exact Nat.le_refl _
theorem putK'_mem {κ : Type} [DecidableEq κ] {ks : List κ} {j k : κ} (h : k ∈ putK' ks j) : k = j ∨ k ∈ ks := by
  unfold putK' at h
  split at h
  · exact .inr h
  · rcases List.mem_append.mp h with h | h
    · exact .inr h
    · exact .inl (List.mem_singleton.mp h)
theorem kaZ_of {K : PySem.W.Frag} {ρ : List Addr} {R : Hp} {d : DV} {v : V} {k : KA} (r : Rl K ρ R d v) (h : kaOf d = some k) : kaZ k := by
  cases d with
  | int i => obtain rfl := Option.some.inj h; intro s e; cases e
  | str t =>
    obtain rfl := Option.some.inj h
    intro s e
    cases e
    exact (rl_str.mp r).1
  | _ => cases h
theorem kasZ_of {K : PySem.W.Frag} {ρ : List Addr} {R : Hp} : ∀ {ds : List DV} {vs : List V} {ks : List KA}, Rls K ρ R ds vs → ds.mapM kaOf = some ks → ks.length = ds.length ∧ ∀ k ∈ ks, kaZ k
  | [], _, ks, _, h => by
    obtain rfl := Option.some.inj h
    exact ⟨rfl, fun k hk => nomatch hk⟩
  | d :: ds, vs, ks, r, h => by
    obtain ⟨v, r', rfl, h1, h2⟩ := Rls.cons_iff.mp r
    rw [List.mapM_cons] at h
    obtain ⟨k, hk, h⟩ := Option.bind_eq_some_iff.mp h
    obtain ⟨ks', hks, h⟩ := Option.bind_eq_some_iff.mp h
    obtain rfl := Option.some.inj h
    obtain ⟨i1, i2⟩ := kasZ_of h2 hks
    refine ⟨by rw [List.length_cons, i1, List.length_cons], fun q hq => ?_⟩
    rcases List.mem_cons.mp hq with rfl | hq
    · exact kaZ_of h1 hk
    · exact i2 q hq
theorem ktZ_of {K : PySem.W.Frag} {ρ : List Addr} {R : Hp} {d : DV} {v : V} {k : List KA} (r : Rl K ρ R d v) (h : ktOf d = some k) : k.length ≤ SL ∧ ∀ a ∈ k, kaZ a := by
  cases d with
  | tup ds =>
    obtain ⟨z, a, vs, _, _, r2⟩ := rl_tup.mp r
    obtain ⟨h1, h2⟩ := kasZ_of r2 h
    exact ⟨by rw [h1]; exact z, h2⟩
  | _ => cases h
theorem rep_mem {κ : Type} [DecidableEq κ] {j : κ} {x y : DV} : ∀ {ks : List κ} {vs : List DV}, y ∈ repV ks vs j x → y = x ∨ y ∈ vs
  | [], vs, h => by simp [repV] at h
  | _ :: _, [], h => by simp [repV] at h
  | k :: ks, v :: vs, h => by
    rw [repV, List.mem_cons] at h
    rcases h with h | h
    · by_cases hk : k = j
      · rw [if_pos hk] at h; exact .inl h
      · rw [if_neg hk] at h; exact .inr (by rw [h]; exact List.mem_cons_self)
    · rcases rep_mem h with h | h
      · exact .inl h
      · exact .inr (List.mem_cons_of_mem _ h)
theorem putV_mem {κ : Type} [DecidableEq κ] {j : κ} {x y : DV} {ks : List κ} {vs : List DV} (h : y ∈ putV ks vs j x) : y = x ∨ y ∈ vs := by
  unfold putV at h
  split at h
  · exact rep_mem h
  · rcases List.mem_append.mp h with h | h
    · exact .inr h
    · exact .inl (List.mem_singleton.mp h)
/-- the cell n is changed: what its new content names, the old one named or the item does -/
theorem put_any {K : PySem.W.Frag} {base : Bs} {ρ : List Addr} {R H : Hp} {m : Mem} (w : WR K base ρ R m H) {n : Nat} {l : Addr} {d d' : DV} {o' : HO} {y : DV} (e1 : ρ[n]? = some l) (hm : m[n]? = some (.c d)) (hc : CoR K ρ R d' o') (hy : mayPut base.n n y = true)
    (hsub : ∀ b, refsBelow b d = true → refsBelow b y = true → refsBelow b d' = true) : WR K base ρ R (m.set n (.c d')) (upd H l o') :=
  w.put e1 hm hc (.inr fun b hb hn => hsub b (w.low b n _ hb hn hm) (mayPut_below hy (base.cle _ hb) hn))
def rSet (C : SC) : TSet := fun vo vi vx H Q => ∃ base ρ R m o i x, WR C.K base ρ R m H ∧ Rl C.K ρ R o vo ∧ Rl C.K ρ R i vi ∧ Rl C.K ρ R x vx ∧ ∃ m', setD base.n o i x m = .ok () m' ∧ ∀ H', WR C.K base ρ R m' H' → Q H'
def rSetK : TSet := fun o i v H Q => ∃ a H', o = .ref a ∧ DPut H a i v H' ∧ Q H'
theorem set_dict (hX : XO C s X) : PSet X rSetK := by
  obtain ⟨kr, hr⟩ := hX.room
  intro pins sh σ H o i v ov iv u Q I ro ri rv h
  obtain ⟨a, H', rfl, g, q⟩ := h
  cases ro
  exact d_setItem (hu_of hr) I g ri rv fun s' I' => ⟨H', I', q⟩
theorem set_any (hX : XO C s X) : PSet X (rSet C) := by
  intro pins sh σ H o i v ov iv u Q I ro ri rv h
  obtain ⟨base, ρ, R, m, od, id', xd, w, r1, r2, r3, m', hs, q⟩ := h
  unfold setD at hs
  split at hs <;> first | (cases hs; done) | skip
  rename_i n
  split at hs <;> first | (cases hs; done) | skip
  · rename_i ys hm
    split at hs <;> first | (cases hs; done) | skip
    rename_i k
    split at hs <;> first | (cases hs; done) | skip
    rename_i j hj
    by_cases hc : mayPut base.n n xd = true
    · rw [if_pos hc] at hs
      injection hs with _ hs
      subst hs
      obtain ⟨l, us, e1, rfl, e2, r4, z2⟩ := cell_lst w r1 hm
      refine set_list pins sh σ H _ i v ov iv u Q I ro ri rv ⟨l, us, k, j, rfl, rl_int.mp r2, e2, by rw [r4.length]; exact hj, q _ ?_⟩
      refine put_lst w e1 hm (by rw [List.length_set]; exact z2) (r4.set r3 j) fun b hb hn x hx => ?_
      rcases List.mem_or_eq_of_mem_set hx with h | h
      · exact .inl h
      · rw [h]; exact .inr (mayPut_below hc (base.cle _ hb) hn)
    · rw [if_neg hc] at hs
      cases hs
  · rename_i d hnl hm
    split at hs <;> first | (cases hs; done) | skip
    rename_i d' hd
    by_cases hc : mayPut base.n n xd = true
    · rw [if_pos hc] at hs
      injection hs with _ hs
      subst hs
      obtain ⟨l, e1, rfl⟩ := rl_ref.mp r1
      obtain ⟨ob, e2, hco⟩ := w.cel n l _ e1 hm
      have hk : Hl C.K ρ R H id' i := by
        have hh := Hl.of w r2
        cases id' with
        | ref k => cases d <;> simp [dput, kaOf, ktOf] at hd
        | _ => exact hh
      cases d with
      | dk ks vs =>
        obtain ⟨z, kvs, rfl, e3, r4⟩ := hco
        obtain ⟨hlt, hd⟩ : ks.length < SL ∧ (kaOf id').map (fun k => DV.dk (putK' ks k) (putV ks vs k xd)) = some d' := by
          simp only [dput] at hd
          split at hd
          · exact ⟨by assumption, hd⟩
          · cases hd
        obtain ⟨k, hk1, rfl⟩ := Option.map_eq_some_iff.mp hd
        obtain ⟨p1, p2⟩ := kv_put (fun a b => kaK_inj) r3 k e3 r4
        refine set_dict hX pins sh σ H _ i v ov iv u Q I ro ri rv ⟨l, upd H l (.dK (putK kvs (kaK k) v)), rfl, .inl ⟨kvs, kaK k, e2, kaOf_rl hk hk1, ?_, rfl⟩, q _ ?_⟩
        · rw [kvs_len e3]
          exact Nat.lt_of_lt_of_le hlt SL_line
        · refine put_any w e1 hm ⟨⟨Nat.le_trans (putK'_len ks k) hlt, fun k' hk' => (putK'_mem hk').elim (fun h => h ▸ kaZ_of r2 hk1) (z.2 k')⟩, _, rfl, p1, p2⟩ hc fun b h1 h2 => ?_
          rw [refsBelow] at h1 ⊢
          rw [belows_iff] at h1 ⊢
          intro y hy
          rcases putV_mem hy with h | h
          · rw [h]; exact h2
          · exact h1 y h
      | dt ks vs =>
        obtain ⟨z, kvs, rfl, e3, r4⟩ := hco
        obtain ⟨hlt, hd⟩ : ks.length < SL ∧ (ktOf id').map (fun k => DV.dt (putK' ks k) (putV ks vs k xd)) = some d' := by
          simp only [dput] at hd
          split at hd
          · exact ⟨by assumption, hd⟩
          · cases hd
        obtain ⟨k, hk1, rfl⟩ := Option.map_eq_some_iff.mp hd
        obtain ⟨p1, p2⟩ := kv_put (fun a b => kaKs_inj) r3 k e3 r4
        obtain ⟨t, ht1, ht2⟩ := ktOf_rl hk hk1
        refine set_dict hX pins sh σ H _ i v ov iv u Q I ro ri rv ⟨l, upd H l (.dT (putK kvs (k.map kaK) v)), rfl, .inr ⟨kvs, k.map kaK, t, e2, ht1, ht2, ?_, rfl⟩, q _ ?_⟩
        · rw [kvs_len e3]
          exact Nat.lt_of_lt_of_le hlt SL_line
        · refine put_any w e1 hm ⟨⟨Nat.le_trans (putK'_len ks k) hlt, fun k' hk' => (putK'_mem hk').elim (fun h => h ▸ ktZ_of r2 hk1) (z.2 k')⟩, _, rfl, p1, p2⟩ hc fun b h1 h2 => ?_
          rw [refsBelow] at h1 ⊢
          rw [belows_iff] at h1 ⊢
          intro y hy
          rcases putV_mem hy with h | h
          · rw [h]; exact h2
          · exact h1 y h
      | _ => cases hd
    · rw [if_neg hc] at hs
      cases hs
end
end Ev

set_option Elab.async false
set_option linter.all false
set_option maxRecDepth 100000
/-! Targets; statements but loops. -/
namespace Ev
open PySem PySem.Spec PyProof.Rows L2

section
variable {C : SC} {s : Sc} {X : Cx} {a b c : Ex} {a' b' c' : Expr} {pos p apos cpos : Pos} {es : List Ex} {es' : List Expr}
mutual
/-- the slots that a target stores -/
def tvars : Ta → List Nat
  | .v i => [i]
  | .sub _ _ => []
  | .t ts => tvarss ts
def tvarss : List Ta → List Nat
  | [] => []
  | t :: ts => tvars t ++ tvarss ts
end
/-- only these slots have changed -/
def Only (vs : List Nat) (σ σ' : L2.St) : Prop := σ'.length = σ.length ∧ ∀ i, i ∉ vs → σ'[i]? = σ[i]?
def EO (K : PySem.W.Frag) (vs : List Nat) (σ : L2.St) (ρ : List Addr) (R : Hp) (env : Env') (σ' : L2.St) : Prop := ER K ρ R env σ' ∧ Only vs σ σ'
def tG (C : SC) (t : Ta) : TG := fun v σ H Q => ∃ base ρ R m env d, WR C.K base ρ R m H ∧ ER C.K ρ R env σ ∧ Rl C.K ρ R d v ∧ Po C.K base (EO C.K (tvars t) σ) ρ R Q (asgT C.F C.cs base.n env t d m)
def tGs (C : SC) (ts : List Ta) : TGs := fun vs σ H Q => ∃ base ρ R m env ds, WR C.K base ρ R m H ∧ ER C.K ρ R env σ ∧ Rls C.K ρ R ds vs ∧ ds.length = ts.length ∧ Po C.K base (EO C.K (tvarss ts) σ) ρ R Q (asgTs C.F C.cs base.n env ts ds m)
theorem Po.sub {α β : Type} {K : PySem.W.Frag} {base : Bs} {T T' : List Addr → Hp → α → β → Prop} {ρ : List Addr} {R : Hp} {Q : β → Hp → Prop} (h : ∀ ρ R a b, T' ρ R a b → T ρ R a b) : ∀ {o : Out α}, Po K base T ρ R Q o → Po K base T' ρ R Q o
  | .ok a m, p => fun ρ' R' H' b x w t => p ρ' R' H' b x w (h _ _ _ _ t)
  | .exc _ _, p => p
  | .bad, p => p
theorem Po.er {K : PySem.W.Frag} {base : Bs} {vs : List Nat} {σ : L2.St} {ρ : List Addr} {R : Hp} {Q : L2.St → Hp → Prop} {o : Out Env'} (p : Po K base (ER K) ρ R Q o) : Po K base (EO K vs σ) ρ R Q o := p.sub fun _ _ _ _ t => t.1
theorem Only.refl {vs : List Nat} {σ : L2.St} : Only vs σ σ := ⟨rfl, fun _ _ => rfl⟩
theorem Only.set {σ : L2.St} {i : Nat} {v : Option V} : Only [i] σ (σ.set i v) := ⟨by rw [List.length_set], fun j hj => by rw [List.getElem?_set_ne (fun z => hj (by rw [z]; exact List.mem_cons_self))]⟩
theorem Only.trans {vs ws : List Nat} {σ σ1 σ2 : L2.St} (a : Only vs σ σ1) (b : Only ws σ1 σ2) : Only (vs ++ ws) σ σ2 := ⟨b.1.trans a.1, fun i hi => by
  rw [List.mem_append, not_or] at hi
  exact (b.2 i hi.2).trans (a.2 i hi.1)⟩
theorem _root_.L2.PG.imp {e : Expr} {t t' : TG} (h : PG X e t) (i : ∀ v σ H Q, t' v σ H Q → t v σ H Q) : PG X e t' := ⟨fun pins s σ H v u Q I r q => h.run pins s σ H v u Q I r (i _ _ _ _ q)⟩
theorem _root_.L2.PGs.imp {e : List Expr} {t t' : TGs} (h : PGs X e t) (i : ∀ v σ H Q, t' v σ H Q → t v σ H Q) : PGs X e t' := ⟨fun pins s σ H v u Q I r q => h.run pins s σ H v u Q I r (i _ _ _ _ q)⟩
theorem ER.set {K : PySem.W.Frag} {ρ : List Addr} {R : Hp} {env : Env'} {σ : L2.St} (er : ER K ρ R env σ) {i : Nat} {d : DV} {v : V} (h : Rl K ρ R d v) : ER K ρ R (env.set i (some d)) (σ.set i (some v)) := by
  refine ⟨by rw [List.length_set, List.length_set]; exact er.1, fun j e hj => ?_⟩
  by_cases hij : i = j
  · subst hij
    have hl : i < env.length := by
      have := (List.getElem?_eq_some_iff.mp hj).1
      rwa [List.length_set] at this
    rw [List.getElem?_set_self hl] at hj
    injection hj with hj
    injection hj with hj
    subst hj
    exact ⟨v, by rw [List.getElem?_set_self (by rw [← er.1]; exact hl)], h⟩
  · rw [List.getElem?_set_ne hij] at hj
    obtain ⟨u, h1, h2⟩ := er.2 j e hj
    exact ⟨u, by rw [List.getElem?_set_ne hij]; exact h1, h2⟩
/-- the name may be stored -/
def locB (s : Sc) (x : Str) : Bool := match s.wr.names.lookup x with
  | some .local => true
  | some .cell => true
  | _ => false
theorem locB_ok (hX : XO C s X) {x : Str} (h : locB s x = true) : Loc X.env.scope x ∧ (X.fn x = true ∨ X.env.scope.names.lookup x = some .local) := by
  unfold locB at h
  rw [hX.eff]
  split at h
  · have := hX.loc x (by assumption)
    exact ⟨.inl this, .inr this⟩
  · have := hX.cel x (by assumption)
    exact ⟨.inr this.2, .inl this.1⟩
  · cases h
theorem sg_name (hX : XO C s X) {i : Nat} {x : Str} (hN : C.N[i]? = some x) (hl : locB s x = true) : PG X (.Name x p) (tG C (.v i)) := by
  obtain ⟨h1, h2⟩ := locB_ok hX hl
  refine (pg_name (i := i) hX.nd (by rw [hX.N]; exact hN) h1 h2).imp ?_
  rintro v σ H Q ⟨base, ρ, R, m, env, d, w, er, r, po⟩
  unfold asgT at po
  split at po
  · exact po.ok Xt.refl w ⟨er.set r, Only.set⟩
  · exact po.elim
theorem asg_sub {o i : Expr} {env : Env} (h : noSliceE i = true) : ∀ v, assign (.Subscript o i pos) env v = (do
      let ov ← holding [v] (eval o env)
      let iv ← holding [v, ov] (eval i env)
      standAt pos
      holding [v, ov, iv] (setItem ov iv v)
      release [v, ov, iv] []) := by
  intro v
  cases i <;> first | rfl | (simp [noSliceE] at h)
theorem sg_sub (hX : XO C s X) (ha : PE X a' (tE C a)) (hb : PE X b' (tE C b)) (hs : noSliceE b' = true) : PG X (.Subscript a' b' pos) (tG C (.sub a b)) := by
  refine (pg_sub ha hb (set_any hX) (asg_sub hs)).imp ?_
  rintro v σ H Q ⟨base, ρ, R, m, env, d, w, er, r, po⟩
  unfold asgT at po
  refine ⟨base, ρ, R, m, env, w, er, (Po.bind (Rl C.K) po).mono fun vx H1 h1 => h1.run fun x m1 ρ1 R1 x1 w1 rx po1 => ?_⟩
  refine ⟨base, ρ1, R1, m1, env, w1, er.mono x1, (Po.bind (Rl C.K) po1).mono fun vy H2 h2 => h2.run fun y m2 ρ2 R2 x2 w2 ry po2 => ?_⟩
  cases hs : setD base.n x y d m2 with
  | ok u m3 =>
    rw [hs] at po2
    exact ⟨base, ρ2, R2, m2, x, y, d, w2, rx.mono x2, ry, (r.mono x1).mono x2, m3, hs, fun H' w' => po2.ok Xt.refl w' ⟨(er.mono x1).mono x2, Only.refl⟩⟩
  | exc _ _ => rw [hs] at po2; exact po2.elim
  | bad => rw [hs] at po2; exact po2.elim
def noStarT : Expr → Bool
  | .Starred .. => false
  | _ => true
theorem asgEach {e : Expr} {es : List Expr} {env : Env} (h : noStarT e = true) : assignEach (e :: es) env = (false, assign e env) :: assignEach es env := by
  cases e <;> first | rfl | (simp [noStarT] at h)
theorem asgEach_len {env : Env} : ∀ {es : List Expr}, es.all noStarT = true → (assignEach es env).length = es.length ∧ (assignEach es env).findIdx? (·.1) = none
  | [], _ => ⟨rfl, rfl⟩
  | e :: es, h => by
    rw [List.all_cons, Bool.and_eq_true] at h
    obtain ⟨h1, h2⟩ := asgEach_len (env := env) h.2
    rw [asgEach h.1]
    refine ⟨by rw [List.length_cons, List.length_cons, h1], ?_⟩
    rw [List.findIdx?_cons, h2]
    rfl
theorem sgs_nil : PGs X [] (tGs C []) := pgs_nil.imp (by
  rintro v σ H Q ⟨base, ρ, R, m, env, ds, w, er, r, hl, po⟩
  have : ds = [] := List.eq_nil_of_length_eq_zero hl
  subst this
  unfold asgTs at po
  exact ⟨Rls.nil_iff.mp r, po.ok Xt.refl w ⟨er, Only.refl⟩⟩)
theorem sgs_cons {t : Ta} {ts : List Ta} {e : Expr} {es : List Expr} (h1 : PG X e (tG C t)) (h2 : PGs X es (tGs C ts)) (hs : noStarT e = true) : PGs X (e :: es) (tGs C (t :: ts)) := by
  refine (pgs_cons h1 h2 (by rw [asgEach hs]; rfl)).imp ?_
  rintro v σ H Q ⟨base, ρ, R, m, env, ds, w, er, r, hl, po⟩
  cases ds with
  | nil => cases hl
  | cons d ds =>
    obtain ⟨u, us, e1, r1, r2⟩ := Rls.cons_iff.mp r
    unfold asgTs at po
    refine ⟨u, us, e1, base, ρ, R, m, env, d, w, er, r1, (Po.bind (EO C.K (tvars t) σ) po).mono fun σ1 H1 h1 => h1.run fun env1 m1 ρ1 R1 x1 w1 er1 po1 => ?_⟩
    exact ⟨base, ρ1, R1, m1, env1, ds, w1, er1.1, r2.mono x1, Nat.succ.inj hl, po1.sub fun _ _ _ _ t => ⟨t.1, er1.2.trans t.2⟩⟩
theorem sg_tup (hX : XO C s X) {ts : List Ta} {k : Nat} (h : PGs X es' (tGs C ts)) (hs : es'.all noStarT = true) (hl : ts.length = es'.length) : PG X (.Tuple es' k pos) (tG C (.t ts)) := by
  obtain ⟨h1, h2⟩ := asgEach_len (env := X.env) hs
  refine (pg_tup (n := es'.length) hX.calm h h1 h2).imp ?_
  rintro v σ H Q ⟨base, ρ, R, m, env, d, w, er, r, po⟩
  unfold asgT at po
  cases d with
  | tup xs =>
    obtain ⟨z, ad, vs, e, q, r2⟩ := rl_tup.mp r
    by_cases hx : xs.length = ts.length
    · simp only [if_pos hx] at po
      exact ⟨ad, vs, e, .of (w.sub _ _ q), by rw [r2.length, hx, hl], base, ρ, R, m, env, xs, w, er, r2, hx, po⟩
    · simp only [if_neg hx] at po
      exact po.elim
  | kt xs =>
    obtain ⟨z, ad, vs, e, q, r2⟩ := rl_kt.mp r
    by_cases hx : xs.length = ts.length
    · simp only [if_pos hx] at po
      exact ⟨ad, vs, e, by rw [hX.K]; exact (w.nt q).st, by rw [r2.length, hx, hl], base, ρ, R, m, env, xs, w, er, r2, hx, po⟩
    · simp only [if_neg hx] at po
      exact po.elim
  | _ => exact po.elim
/-! ### statements -/
def PoS (K : PySem.W.Frag) (base : Bs) (ρ : List Addr) (R : Hp) (D : Ends) : SO → Prop
  | .nx env m => ∀ ρ' R' H' σ', Xt ρ R ρ' R' → WR K base ρ' R' m H' → ER K ρ' R' env σ' → D.nx σ' H'
  | .rt d m => ∀ ρ' R' H' v, Xt ρ R ρ' R' → WR K base ρ' R' m H' → Rl K ρ' R' d v → D.rt v H'
  | .bk env m => ∀ ρ' R' H' σ', Xt ρ R ρ' R' → WR K base ρ' R' m H' → ER K ρ' R' env σ' → D.bk σ' H'
  | .ct env m => ∀ ρ' R' H' σ', Xt ρ R ρ' R' → WR K base ρ' R' m H' → ER K ρ' R' env σ' → D.ct σ' H'
  | _ => False
theorem PoS.up {K : PySem.W.Frag} {base : Bs} {ρ ρ' : List Addr} {R R' : Hp} {D : Ends} (x : Xt ρ R ρ' R') : ∀ {o : SO}, PoS K base ρ R D o → PoS K base ρ' R' D o
  | .nx env m, h => fun ρ1 R1 H1 σ1 y => h ρ1 R1 H1 σ1 (x.trans y)
  | .rt d m, h => fun ρ1 R1 H1 σ1 y => h ρ1 R1 H1 σ1 (x.trans y)
  | .bk env m, h => fun ρ1 R1 H1 σ1 y => h ρ1 R1 H1 σ1 (x.trans y)
  | .ct env m, h => fun ρ1 R1 H1 σ1 y => h ρ1 R1 H1 σ1 (x.trans y)
  | .ex _ _, h => h
  | .bad, h => h
def tS (C : SC) (st : Sm) : TS := fun D σ H => ∃ base ρ R m env, WR C.K base ρ R m H ∧ ER C.K ρ R env σ ∧ PoS C.K base ρ R D (evS C.F C.cs base.n env st m)
def tB (C : SC) (st : List Sm) : TS := fun D σ H => ∃ base ρ R m env, WR C.K base ρ R m H ∧ ER C.K ρ R env σ ∧ PoS C.K base ρ R D (evB C.F C.cs base.n env st m)
theorem _root_.L2.PS.imp {e : Stmt} {t t' : TS} (h : PS X e t) (i : ∀ D σ H, t' D σ H → t D σ H) : PS X e t' := ⟨fun pins s σ H D I q => h.run pins s σ H D I (i _ _ _ q)⟩
theorem _root_.L2.PSs.imp {e : List Stmt} {t t' : TS} (h : PSs X e t) (i : ∀ D σ H, t' D σ H → t D σ H) : PSs X e t' := ⟨fun pins s σ H D I q => h.run pins s σ H D I (i _ _ _ q)⟩
/-- behind a part: -/
theorem PoS.so {α β : Type} {K : PySem.W.Frag} {base : Bs} {ρ : List Addr} {R : Hp} {D : Ends} (T : List Addr → Hp → α → β → Prop) {f : α → Mem → SO} : ∀ {o : Out α}, PoS K base ρ R D (o.so f) → Po K base T ρ R (fun b H1 => ∃ a m1 ρ1 R1, Xt ρ R ρ1 R1 ∧ WR K base ρ1 R1 m1 H1 ∧ T ρ1 R1 a b ∧ PoS K base ρ1 R1 D (f a m1)) o
  | .ok a m, h => fun ρ1 R1 H1 b y w t => ⟨a, m, ρ1, R1, y, w, t, h.up y⟩
  | .exc _ _, h => h
  | .bad, h => h
theorem PoS.nx {K : PySem.W.Frag} {base : Bs} {ρ ρ' : List Addr} {R R' H : Hp} {m : Mem} {D : Ends} {env : Env'} {σ : L2.St} (h : PoS K base ρ R D (.nx env m)) (x : Xt ρ R ρ' R') (w : WR K base ρ' R' m H) (er : ER K ρ' R' env σ) : D.nx σ H := h ρ' R' H σ x w er
theorem ss_nil : PSs X [] (tB C []) := pss_nil.imp (by
  rintro D σ H ⟨base, ρ, R, m, env, w, er, po⟩
  unfold evB at po
  exact po.nx Xt.refl w er)
theorem ss_cons {st : Sm} {sts : List Sm} {e : Stmt} {es : List Stmt} (h1 : PS X e (tS C st)) (h2 : PSs X es (tB C sts)) : PSs X (e :: es) (tB C (st :: sts)) := by
  refine (pss_cons h1 h2).imp ?_
  rintro D σ H ⟨base, ρ, R, m, env, w, er, po⟩
  unfold evB at po
  refine ⟨base, ρ, R, m, env, w, er, ?_⟩
  cases ho : evS C.F C.cs base.n env st m with
  | nx env1 m1 =>
    rw [ho] at po
    intro ρ1 R1 H1 σ1 x1 w1 er1
    exact ⟨base, ρ1, R1, m1, env1, w1, er1, PoS.up x1 (show PoS C.K base ρ R D (evB C.F C.cs base.n env1 sts m1) from po)⟩
  | rt d m1 => rw [ho] at po; exact po
  | bk env1 m1 => rw [ho] at po; exact po
  | ct env1 m1 => rw [ho] at po; exact po
  | ex _ _ => rw [ho] at po; exact po
  | bad => rw [ho] at po; exact po
theorem s_asg {t : Ta} {g : Expr} (ha : PE X a' (tE C a)) (hg : PG X g (tG C t)) (hs : swapsWithSole [g] a' pos.line X.env = pure false) (hw : swappedStores [g] a' X.env = pure none) (hn : noStarT g = true) : PS X (.Assign [g] a' pos) (tS C (.asg t a)) := by
  refine (ps_asg ha hg hs hw (by rw [asgEach hn]; rfl)).imp ?_
  rintro D σ H ⟨base, ρ, R, m, env, w, er, po⟩
  unfold evS at po
  refine ⟨base, ρ, R, m, env, w, er, (PoS.so (Rl C.K) po).mono fun vx H1 ⟨x, m1, ρ1, R1, x1, w1, rx, po1⟩ => ?_⟩
  refine ⟨base, ρ1, R1, m1, env, x, w1, er.mono x1, rx, (PoS.so (ER C.K) po1).er.mono fun σ2 H2 ⟨env2, m2, ρ2, R2, x2, w2, er2, po2⟩ => ?_⟩
  exact po2.nx Xt.refl w2 er2
theorem s_expr (ha : PE X a' (tE C a)) (hs : swapsWith a' none pos.line X.env = pure false) : PS X (.Expr a' pos) (tS C (.ex a)) := by
  refine (ps_expr ha hs).imp ?_
  rintro D σ H ⟨base, ρ, R, m, env, w, er, po⟩
  unfold evS at po
  refine ⟨base, ρ, R, m, env, w, er, (PoS.so (Rl C.K) po).mono fun vx H1 ⟨x, m1, ρ1, R1, x1, w1, rx, po1⟩ => ?_⟩
  exact po1.nx Xt.refl w1 (er.mono x1)
theorem s_ret (ha : PE X a' (tE C a)) : PS X (.Return (some a') pos) (tS C (.ret a)) := by
  refine (ps_ret ha).imp ?_
  rintro D σ H ⟨base, ρ, R, m, env, w, er, po⟩
  unfold evS at po
  refine ⟨base, ρ, R, m, env, w, er, (PoS.so (Rl C.K) po).mono fun vx H1 ⟨x, m1, ρ1, R1, x1, w1, rx, po1⟩ => ?_⟩
  exact po1 ρ1 R1 H1 vx Xt.refl w1 rx
theorem s_retn : PS X (.Return none pos) (tS C .retn) := ps_retN.imp (by
  rintro D σ H ⟨base, ρ, R, m, env, w, er, po⟩
  unfold evS at po
  exact po ρ R H _ Xt.refl w (rl_non.mpr rfl))
theorem s_pass : PS X (.Pass pos) (tS C .pass) := ps_pass.imp (by
  rintro D σ H ⟨base, ρ, R, m, env, w, er, po⟩
  unfold evS at po
  exact po.nx Xt.refl w er)
theorem s_brk : PS X (.Break pos) (tS C .brk) := ps_break.imp (by
  rintro D σ H ⟨base, ρ, R, m, env, w, er, po⟩
  unfold evS at po
  exact po ρ R H σ Xt.refl w er)
theorem s_cont : PS X (.Continue pos) (tS C .cont) := ps_continue.imp (by
  rintro D σ H ⟨base, ρ, R, m, env, w, er, po⟩
  unfold evS at po
  exact po ρ R H σ Xt.refl w er)
theorem s_ite {t : Ts} {A B : List Sm} {A' B' : List Stmt} (hc : PT X c' (tT C t)) (hA : PSs X A' (tB C A)) (hB : PSs X B' (tB C B)) : PS X (.If c' A' B' pos) (tS C (.ite t A B)) := by
  refine (ps_if hc hA hB).imp ?_
  rintro D σ H ⟨base, ρ, R, m, env, w, er, po⟩
  unfold evS at po
  refine ⟨base, ρ, R, m, env, w, er, (PoS.so TB po).mono fun k H1 ⟨k', m1, ρ1, R1, x1, w1, e1, po1⟩ => ?_⟩
  obtain rfl : k = k' := e1
  cases k with
  | true => rw [if_pos rfl] at po1 ⊢; exact ⟨base, ρ1, R1, m1, env, w1, er.mono x1, po1⟩
  | false => rw [if_neg Bool.false_ne_true] at po1 ⊢; exact ⟨base, ρ1, R1, m1, env, w1, er.mono x1, po1⟩
end
end Ev

set_option Elab.async false
set_option linter.all false
set_option maxRecDepth 100000
/-! Assignments side by side; op=; while. -/
namespace Ev
open PySem PySem.Spec PyProof.Rows L2

section
variable {C : SC} {s : Sc} {X : Cx} {a b c d : Ex} {a' b' c' d' : Expr} {pos p apos cpos : Pos} {es : List Ex} {es' : List Expr}
/-- the names that a pair or a triple of plain local names stores side by side -/
def lnames (sc : Scope) (line : Nat) : List Expr → List Str
  | [] => []
  | .Name x q :: r => if (sc.names.lookup x == some .local && q.line == line) = true then x :: lnames sc line r else lnames sc line r
  | _ :: r => lnames sc line r
def isStarE : Expr → Bool
  | .Starred .. => true
  | _ => false
def swapN (sc : Scope) (ts vs : List Expr) : Option (Option (List Str)) :=
  if (!(ts.length == 2 || ts.length == 3) || vs.length != ts.length) = true then some none
  else if vs.any isStarE = true then some none
  else
    let names := lnames sc ((ts.head?.map (·.pos.line)).getD 0) ts
    if (names.length != ts.length || names.eraseDups.length != names.length) = true then some none
    else if vs.all (foldedForSure 8) = true then some none
    else if vs.all (constantsAlone 8) = true then none
    else some (some names)
theorem lnames_eq (env : Env) (line : Nat) : ∀ ts : List Expr, (ts.filterMap fun
    | .Name id pos => if env.kindOf id == some .local && pos.line == line then some id else none
    | _ => none) = lnames env.scope line ts
  | [] => rfl
  | e :: r => by
    rw [List.filterMap_cons, lnames_eq env line r]
    cases e with
    | Name x q =>
      rw [lnames]
      have hk : (env.kindOf x == some .local && q.line == line) = (env.scope.names.lookup x == some .local && q.line == line) := rfl
      by_cases h : (env.scope.names.lookup x == some .local && q.line == line) = true
      · have h2 := hk.trans h
        simp only [if_pos h, if_pos h2]
      · have h2 : ¬ (env.kindOf x == some .local && q.line == line) = true := by rw [hk]; exact h
        simp only [if_neg h, if_neg h2]
    | _ => rfl
theorem swap_eq {ts vs : List Expr} {k k2 : Nat} {p1 p2 : Pos} {env : Env} {o : Option (List Str)} (hk : env.blockKind = .function) (h : swapN env.scope ts vs = some o) : swappedStores [.Tuple ts k p1] (.Tuple vs k2 p2) env = pure o := by
  unfold swappedStores
  dsimp only
  generalize hn : List.filterMap _ ts = names
  have e : names = lnames env.scope ((ts.head?.map (·.pos.line)).getD 0) ts := hn.symm.trans (lnames_eq env _ ts)
  subst e
  rw [hk]
  generalize hst : List.any vs _ = st
  have e2 : st = vs.any isStarE := hst.symm.trans (by
    congr 1)
  subst e2
  have hb : (ScopeKind.function != ScopeKind.function) = false := rfl
  rw [hb, Bool.or_false]
  unfold swapN at h
  dsimp only at h
  by_cases h1 : (!(ts.length == 2 || ts.length == 3) || vs.length != ts.length) = true
  · rw [if_pos h1] at h ⊢
    rw [Option.some.inj h]
  · rw [if_neg h1] at h ⊢
    by_cases h2 : vs.any isStarE = true
    · rw [if_pos h2] at h ⊢
      rw [Option.some.inj h]
    · rw [if_neg h2] at h ⊢
      by_cases h3 : ((lnames env.scope ((ts.head?.map (·.pos.line)).getD 0) ts).length != ts.length || (lnames env.scope ((ts.head?.map (·.pos.line)).getD 0) ts).eraseDups.length != (lnames env.scope ((ts.head?.map (·.pos.line)).getD 0) ts).length) = true
      · rw [if_pos h3] at h ⊢
        rw [Option.some.inj h]
      · rw [if_neg h3] at h ⊢
        by_cases h4 : vs.all (foldedForSure 8) = true
        · rw [if_pos h4] at h ⊢
          rw [Option.some.inj h]
        · rw [if_neg h4] at h ⊢
          by_cases h5 : vs.all (constantsAlone 8) = true
          · rw [if_pos h5] at h
            cases h
          · rw [if_neg h5] at h ⊢
            rw [Option.some.inj h]
end
end Ev

set_option Elab.async false
set_option linter.all false
set_option maxRecDepth 100000
/-! Stores side by side, op=, while. -/
namespace Ev
open PySem PySem.Spec PyProof.Rows L2

section
variable {C : SC} {s : Sc} {X : Cx} {a b c d : Ex} {a' b' c' d' : Expr} {pos p apos cpos : Pos} {es : List Ex} {es' : List Expr}
/-- what statements need besides -/
structure XS (C : SC) (s : Sc) (X : Cx) : Prop extends XO C s X where
  po : PassesOwn (model X.prog X.w) X.A X.env X.xe
  blk : s.eff.kind = .function
theorem XS.blk' (h : XS C s X) : X.env.blockKind = .function := by
  unfold Env.blockKind
  rw [h.eff, h.blk]
  rfl
def isLoc (sc : Scope) (x : Str) : Bool := match sc.names.lookup x with
  | some .local => true
  | _ => false
theorem isLoc_ok {sc : Scope} {x : Str} (h : isLoc sc x = true) : sc.names.lookup x = some .local := by
  unfold isLoc at h
  split at h
  · assumption
  · cases h
theorem s_par2 (hX : XS C s X) {i j : Nat} {x y : Str} {kt k2 : Nat} {px py pt pt2 : Pos} (hi : C.N[i]? = some x) (hj : C.N[j]? = some y) (hij : i ≠ j) (hx : isLoc s.eff x = true) (hy : isLoc s.eff y = true)
    (hw : swapN s.eff [.Name x px, .Name y py] [a', b'] = some (some [x, y])) (ha : PA X [a', b'] (tA C [a, b])) :
    PS X (.Assign [.Tuple [.Name x px, .Name y py] kt pt] (.Tuple [a', b'] k2 pt2) pos) (tS C (.par [i, j] [a, b])) := by
  refine (ps_par hX.calm hX.nd (by rw [hX.N]; exact hi) (by rw [hX.N]; exact hj) hij (by rw [hX.eff]; exact isLoc_ok hx) (by rw [hX.eff]; exact isLoc_ok hy) ha (swap_eq hX.blk' (by rw [hX.eff]; exact hw))).imp ?_
  rintro D σ H ⟨base, ρ, R, m, env, w, er, po⟩
  unfold evS at po
  refine ⟨base, ρ, R, m, env, w, er, (PoS.so (Rls C.K) po).mono fun vs H1 ⟨xs, m1, ρ1, R1, x1, w1, rx, po1⟩ => ?_⟩
  cases hp : parSet env [i, j] xs with
  | none => simp only [hp] at po1; exact po1.elim
  | some env2 =>
    simp only [hp] at po1
    unfold parSet at hp
    cases xs with
    | nil => cases hp
    | cons d1 xs =>
      by_cases h1 : i < env.length
      · simp only [if_pos h1] at hp
        unfold parSet at hp
        cases xs with
        | nil => cases hp
        | cons d2 xs =>
          by_cases h2 : j < (env.set i (some d1)).length
          · simp only [if_pos h2] at hp
            cases xs with
            | cons _ _ => simp [parSet] at hp
            | nil =>
              simp only [parSet] at hp
              obtain rfl := Option.some.inj hp
              obtain ⟨v1, v2, rfl, r1, r2⟩ := rls2 rx
              exact ⟨v1, v2, rfl, po1.nx Xt.refl w1 (((er.mono x1).set r1).set r2)⟩
          · simp only [if_neg h2] at hp
            cases hp
      · simp only [if_neg h1] at hp
        cases hp
theorem rls3 {K : PySem.W.Frag} {ρ : List Addr} {R : Hp} {x y z : DV} {vs : List V} (h : Rls K ρ R [x, y, z] vs) : ∃ v u t, vs = [v, u, t] ∧ Rl K ρ R x v ∧ Rl K ρ R y u ∧ Rl K ρ R z t := by
  obtain ⟨v, r, rfl, h1, h2⟩ := Rls.cons_iff.mp h
  obtain ⟨u, t, rfl, h3, h4⟩ := rls2 h2
  exact ⟨v, u, t, rfl, h1, h3, h4⟩
theorem s_par3 (hX : XS C s X) {i j l : Nat} {x y z : Str} {kt k2 : Nat} {px py pz pt pt2 : Pos} (hi : C.N[i]? = some x) (hj : C.N[j]? = some y) (hl : C.N[l]? = some z) (hij : i ≠ j) (hil : i ≠ l) (hjl : j ≠ l) (hx : isLoc s.eff x = true) (hy : isLoc s.eff y = true) (hz : isLoc s.eff z = true)
    (hw : swapN s.eff [.Name x px, .Name y py, .Name z pz] [a', b', c'] = some (some [x, y, z])) (ha : PA X [a', b', c'] (tA C [a, b, c])) :
    PS X (.Assign [.Tuple [.Name x px, .Name y py, .Name z pz] kt pt] (.Tuple [a', b', c'] k2 pt2) pos) (tS C (.par [i, j, l] [a, b, c])) := by
  refine (ps_par3 hX.calm hX.nd (by rw [hX.N]; exact hi) (by rw [hX.N]; exact hj) (by rw [hX.N]; exact hl) hij hil hjl (by rw [hX.eff]; exact isLoc_ok hx) (by rw [hX.eff]; exact isLoc_ok hy) (by rw [hX.eff]; exact isLoc_ok hz) ha (swap_eq hX.blk' (by rw [hX.eff]; exact hw))).imp ?_
  rintro D σ H ⟨base, ρ, R, m, env, w, er, po⟩
  unfold evS at po
  refine ⟨base, ρ, R, m, env, w, er, (PoS.so (Rls C.K) po).mono fun vs H1 ⟨xs, m1, ρ1, R1, x1, w1, rx, po1⟩ => ?_⟩
  cases hp : parSet env [i, j, l] xs with
  | none => simp only [hp] at po1; exact po1.elim
  | some env2 =>
    simp only [hp] at po1
    match xs, rx, hp with
    | [], _, hp => cases hp
    | [d1], _, hp =>
      simp only [parSet] at hp
      split at hp <;> cases hp
    | [d1, d2], _, hp =>
      simp only [parSet] at hp
      split at hp
      · split at hp <;> cases hp
      · cases hp
    | d1 :: d2 :: d3 :: d4 :: xs, _, hp =>
      simp only [parSet] at hp
      split at hp
      · split at hp
        · split at hp <;> cases hp
        · cases hp
      · cases hp
    | [d1, d2, d3], rx, hp =>
      obtain ⟨v1, v2, v3, rfl, r1, r2, r3⟩ := rls3 rx
      simp only [parSet] at hp
      split at hp
      · split at hp
        · split at hp
          · obtain rfl := Option.some.inj hp
            exact ⟨v1, v2, v3, rfl, po1.nx Xt.refl w1 ((((er.mono x1).set r1).set r2).set r3)⟩
          · cases hp
        · cases hp
      · cases hp
/-! ### op= -/
def opO : Op2 → Operator
  | .add => .Add
  | .sub => .Sub
  | .mul => .Mult
  | .fdiv => .FloorDiv
  | .mod => .Mod
  | .pow => .Pow
  | .shr => .RShift
def rIp (C : SC) (o : Op2) : R2 := fun vx vy H Q => ∃ base ρ R m x y z, WR C.K base ρ R m H ∧ Rl C.K ρ R x vx ∧ Rl C.K ρ R y vy ∧ opI o x y = some z ∧ ∀ vz, Rl C.K ρ R z vz → Q vz H
theorem ip_any (o : Op2) : PIp X (opO o) (rIp C o) := by
  intro pins sh σ H vx vy v u Q I r1 r2 h
  obtain ⟨base, ρ, R, m, x, y, z, w, rx, ry, e, q⟩ := h
  unfold opI at e
  split at e
  · obtain rfl := Option.some.inj e
    exact iop_add pins sh σ H _ _ v u Q I r1 r2 ⟨_, _, rl_int.mp rx, rl_int.mp ry, q _ (rl_int.mpr rfl)⟩
  · obtain ⟨hl, rfl⟩ := some_if e
    obtain ⟨l1, e1⟩ := rl_str.mp rx
    obtain ⟨l2, e2⟩ := rl_str.mp ry
    refine iop_add_str pins sh σ H _ _ v u Q I r1 r2 ⟨_, _, e1, e2, ?_, ?_⟩
    · rw [toS_len, toS_len]; exact Nat.le_trans hl SL_line
    · rw [toS_app]; exact q _ (rl_str.mpr ⟨by rw [List.length_append]; exact hl, rfl⟩)
  · obtain rfl := Option.some.inj e
    exact iop_sub pins sh σ H _ _ v u Q I r1 r2 ⟨_, _, rl_int.mp rx, rl_int.mp ry, q _ (rl_int.mpr rfl)⟩
  · cases e
theorem s_aug (hX : XS C s X) {i : Nat} {x : Str} {o : Op2} (hN : C.N[i]? = some x) (hl : locB s x = true) (ha : PE X a' (tE C a)) : PS X (.AugAssign (.Name x p) (opO o) a' pos) (tS C (.aug i o a)) := by
  obtain ⟨h1, h2⟩ := locB_ok hX.toXO hl
  refine (ps_aug hX.nd (by rw [hX.N]; exact hN) h1 ha (ip_any (C := C) o) h2).imp ?_
  rintro D σ H ⟨base, ρ, R, m, env, w, er, po⟩
  unfold evS at po
  cases he : env[i]? with
  | none => simp only [he] at po; exact po.elim
  | some od =>
    cases od with
    | none => simp only [he] at po; exact po.elim
    | some d =>
      simp only [he] at po
      obtain ⟨v, e1, r1⟩ := er.2 i d he
      refine ⟨v, e1, base, ρ, R, m, env, w, er, (PoS.so (Rl C.K) po).mono fun vy H1 ⟨y, m1, ρ1, R1, x1, w1, ry, po1⟩ => ?_⟩
      cases hz : opI o d y with
      | none => simp only [hz] at po1; exact po1.elim
      | some z =>
        simp only [hz] at po1
        exact ⟨base, ρ1, R1, m1, d, y, z, w1, r1.mono x1, ry, hz, fun vz rz => po1.nx Xt.refl w1 ((er.mono x1).set rz)⟩
def rGet (C : SC) : V → V → Hp → VK → Prop := fun vo vi H Q => ∃ base ρ R m o i x, WR C.K base ρ R m H ∧ Rl C.K ρ R o vo ∧ Rl C.K ρ R i vi ∧ getD2 (rs m o) i = some x ∧ ∀ vz, Rl C.K ρ R x vz → Q vz H
theorem get_any (hX : XO C s X) : PGet X (rGet C) := by
  obtain ⟨kr, hr⟩ := hX.room
  intro pins sh σ H vo vi ov iv Q I ro ri h
  obtain ⟨base, ρ, R, m, o, i, x, w, r1, r2, e, q⟩ := h
  have dct : isDct (rs m o) = true → subD (rs m o) i = some x → wpAny (model X.prog X.w) X.A (getItem ov iv) (EP X pins σ Q) X.xe sh := fun hd e => by
    have hk : Hl C.K ρ R H i vi := by
      cases hc : rs m o with
      | dk ks vs =>
        rw [hc] at e
        simp only [subD] at e
        obtain ⟨o, h1, _⟩ := Option.bind_eq_some_iff.mp e
        exact Hl.key w r2 h1
      | dt ks vs =>
        rw [hc] at e
        simp only [subD] at e
        obtain ⟨o, h1, _⟩ := Option.bind_eq_some_iff.mp e
        exact Hl.key w r2 h1
      | _ => rw [hc] at hd; cases hd
    obtain ⟨p, vz, rfl, h2, h3⟩ := sub_dct w (Hl.of w r1) hk hd e
    cases ro
    exact d_getItem (hu_of hr) I h2 ri fun w' s3 I3 rw' => ⟨vz, H, I3, rw', q vz h3⟩
  cases hc : rs m o with
  | dk ks vs => rw [hc] at e dct; exact dct rfl e
  | dt ks vs => rw [hc] at e dct; exact dct rfl e
  | lst xs =>
    rw [hc] at e
    have hh := Hl.of w r1
    rw [hc] at hh
    obtain ⟨l, p, vs, e1, h1, r⟩ := hh
    cases i with
    | int k =>
      obtain ⟨vz, h2, h3⟩ := atI_rls r (show L2.atI xs k = some x from e)
      obtain rfl := rl_int.mp r2
      subst e1
      cases ro
      obtain ⟨t, rfl⟩ := ri
      obtain ⟨its, rv, pl, hz⟩ := I.list (.inl h1 : SqL X.K H p vs)
      obtain ⟨j, g1, g2, g3, g4, g5⟩ := atI_get h2
      obtain ⟨w', ew, rw'⟩ := rv.get g2
      have hl := rv.length
      have hn := line63
      have fin : EP X pins σ Q w' sh := ⟨vz, H, I, rw', q vz h3⟩
      by_cases h0 : 0 ≤ k
      · have hj : k.toNat = j := by
          rw [seqIndex_of h0 g5] at g1
          exact Option.some.inj g1
        exact wpAny_getItem_list pl.isList h0 (by omega) (by rw [hj]; simpa using ew) fin
      · have hj : (k + (its.toArray.size : Int)).toNat = j := by
          rw [seqIndex_neg (by omega) g4] at g1
          rw [List.size_toArray, ← hl]
          exact Option.some.inj g1
        exact wpAny_getItem_list_neg pl.isList (by omega) (by rw [List.size_toArray] <;> omega) (by omega) (by rw [hj]; simpa using ew) fin
    | _ => cases e
  | _ => rw [hc] at e; cases e
theorem aug_st {i : Expr} (h : noSliceE i = true) : ∀ ov iv new, augStore i ov iv new = (do holding [new, ov, iv] (setItem ov iv new); release [new, ov, iv] []; pure .next) := by
  intro ov iv new
  cases i <;> first | rfl | (simp [noSliceE] at h)
theorem s_augS (hX : XS C s X) {o : Op2} {tpos : Pos} (ha : PE X a' (tE C a)) (hb : PE X b' (tE C b)) (hc : PE X c' (tE C c)) (hs : noSliceE b' = true) : PS X (.AugAssign (.Subscript a' b' tpos) (opO o) c' pos) (tS C (.augS a b o c)) := by
  refine (ps_augS ha hb (get_any (C := C) hX.toXO) hc (ip_any (C := C) o) (set_any hX.toXO) (aug_st hs)).imp ?_
  rintro D σ H ⟨base, ρ, R, m, env, w, er, po⟩
  unfold evS at po
  refine ⟨base, ρ, R, m, env, w, er, (PoS.so (Rl C.K) po).mono fun vx H1 ⟨x, m1, ρ1, R1, x1, w1, rx, po1⟩ => ?_⟩
  refine ⟨base, ρ1, R1, m1, env, w1, er.mono x1, (PoS.so (Rl C.K) po1).mono fun vy H2 ⟨y, m2, ρ2, R2, x2, w2, ry, po2⟩ => ?_⟩
  cases hg : getD2 (rs m2 x) y with
  | none => simp only [hg] at po2; exact po2.elim
  | some v =>
    simp only [hg] at po2
    refine ⟨base, ρ2, R2, m2, x, y, v, w2, rx.mono x2, ry, hg, fun vv rv => ?_⟩
    refine ⟨base, ρ2, R2, m2, env, w2, (er.mono x1).mono x2, (PoS.so (Rl C.K) po2).mono fun vz H3 ⟨z, m3, ρ3, R3, x3, w3, rz, po3⟩ => ?_⟩
    cases hu : opI o v z with
    | none => simp only [hu] at po3; exact po3.elim
    | some u =>
      simp only [hu] at po3
      refine ⟨base, ρ3, R3, m3, v, z, u, w3, rv.mono x3, rz, hu, fun vu ru => ?_⟩
      cases hs : setD base.n x y u m3 with
      | ok k m4 =>
        simp only [hs] at po3
        exact ⟨base, ρ3, R3, m3, x, y, u, w3, (rx.mono x2).mono x3, ry.mono x3, ru, m4, hs, fun H' w' => (show PoS C.K base ρ3 R3 D (.nx env m4) from po3).nx Xt.refl w' (((er.mono x1).mono x2).mono x3)⟩
      | exc _ _ => simp only [hs] at po3; exact po3.elim
      | bad => simp only [hs] at po3; exact po3.elim
/-! ### while -/
theorem PoS.loop {K : PySem.W.Frag} {base : Bs} {D : Ends} {N : L2.St → Hp → Prop} {f : Env' → Mem → SO} {ρ : List Addr} {R : Hp} (hN : ∀ env m ρ' R' H' σ', Xt ρ R ρ' R' → WR K base ρ' R' m H' → ER K ρ' R' env σ' → PoS K base ρ' R' D (f env m) → N σ' H') :
    ∀ {o : SO}, PoS K base ρ R D (match o with
      | .nx env m => f env m
      | .ct env m => f env m
      | .bk env m => .nx env m
      | o => o) → PoS K base ρ R { D with nx := N, ct := N, bk := D.nx } o
  | .nx env m, h => fun ρ' R' H' σ' x w er => hN env m ρ' R' H' σ' x w er (PoS.up x h)
  | .ct env m, h => fun ρ' R' H' σ' x w er => hN env m ρ' R' H' σ' x w er (PoS.up x h)
  | .bk env m, h => h
  | .rt d m, h => h
  | .ex _ _, h => h
  | .bad, h => h
theorem s_whl (hX : XS C s X) {t : Ts} {B : List Sm} {B' : List Stmt} (hc : PT X c' (tT C t)) (hB : PSs X B' (tB C B)) : PS X (.While c' B' [] pos) (tS C (.whl t B)) := by
  refine (ps_while hX.po hc hB).imp ?_
  rintro D σ H ⟨base, ρ, R, m, env, w, er, po⟩
  unfold evS at po
  refine ⟨fun n σ H => ∃ ρ R m env, WR C.K base ρ R m H ∧ ER C.K ρ R env σ ∧ PoS C.K base ρ R D (whLoop (fun env m => evT C.F C.cs base.n env t m) (fun env m => evB C.F C.cs base.n env B m) n env m), ⟨WF, ρ, R, m, env, w, er, po⟩, ?_⟩
  rintro n σ H ⟨ρ, R, m, env, w, er, po⟩
  cases n with
  | zero => exact po.elim
  | succ n =>
    unfold whLoop at po
    refine ⟨base, ρ, R, m, env, w, er, (PoS.so TB po).mono fun k H1 ⟨k', m1, ρ1, R1, x1, w1, e1, po1⟩ => ?_⟩
    obtain rfl : k = k' := e1
    cases k with
    | false =>
      rw [if_neg Bool.false_ne_true] at po1 ⊢
      exact po1.nx Xt.refl w1 (er.mono x1)
    | true =>
      rw [if_pos rfl] at po1 ⊢
      refine ⟨fun σ' H' => ∃ ρ R m env, WR C.K base ρ R m H' ∧ ER C.K ρ R env σ' ∧ PoS C.K base ρ R D (whLoop (fun env m => evT C.F C.cs base.n env t m) (fun env m => evB C.F C.cs base.n env B m) n env m), fun σ' H' h => ⟨n, Nat.lt_succ_self n, h⟩, ?_⟩
      exact ⟨base, ρ1, R1, m1, env, w1, er.mono x1, PoS.loop (fun env m ρ' R' H' σ' x w er po => ⟨ρ', R', m, env, w, er, po⟩) po1⟩
end
end Ev

set_option Elab.async false
set_option linter.all false
set_option maxRecDepth 100000
/-! Locks; what a loop walks. -/
namespace Ev
open PySem PySem.Spec PyProof.Rows L2

section
variable {C : SC} {s : Sc} {X : Cx} {a b c d : Ex} {a' b' c' d' : Expr} {pos p apos cpos : Pos} {es : List Ex} {es' : List Expr}
variable {K : PySem.W.Frag} {base : Bs} {ρ ρ' : List Addr} {R R' H H' : Hp} {m m' : Mem}
/-! ### the walked thing is locked while a statement, an expression runs; or it is fixed for good -/
def tFrz (t : TS) : TS := fun D σ H => ∃ d u, H d = some u ∧ Mut (some u) ∧ ∀ od, t D σ (upd H d (.frz od u))
def tFrzE (t : TE) : TE := fun σ H Q => ∃ d u, H d = some u ∧ Mut (some u) ∧ ∀ od, t σ (upd H d (.frz od u)) Q
theorem ps_frz {st : Stmt} {t : TS} (h : PS X st t) : PS X st (tFrz t) := by
  refine ⟨fun pins s σ H D I hw => ?_⟩
  obtain ⟨d, u, hd, mu, hw⟩ := hw
  obtain ⟨od, I1⟩ := I.lock hd mu
  exact h.run pins s σ _ _ I1 (hw od)
theorem pe_frz {e : Expr} {t : TE} (h : PE X e t) : PE X e (tFrzE t) := by
  refine ⟨fun pins s σ H D I hw => ?_⟩
  obtain ⟨d, u, hd, mu, hw⟩ := hw
  obtain ⟨od, I1⟩ := I.lock hd mu
  exact h.run pins s σ _ _ I1 (hw od)
theorem ps_pre {st : Stmt} {t : TS} (h : PS X st t) : PS X st (fun D σ H => t D σ H ∨ tLock t D σ H ∨ tFrz t D σ H) :=
  ⟨fun pins s σ H D I hw => hw.elim (h.run pins s σ H D I) fun hw => hw.elim ((ps_lock h).run pins s σ H D I) ((ps_frz h).run pins s σ H D I)⟩
theorem pe_pre {e : Expr} {t : TE} (h : PE X e t) : PE X e (fun σ H Q => t σ H Q ∨ tLockE t σ H Q ∨ tFrzE t σ H Q) :=
  ⟨fun pins s σ H D I hw => hw.elim (h.run pins s σ H D I) fun hw => hw.elim ((pe_lock h).run pins s σ H D I) ((pe_frz h).run pins s σ H D I)⟩
/-- the variable's thing can be walked -/
def Fz (K : PySem.W.Frag) (ρ : List Addr) (R : Hp) (m : Mem) (d : DV) (v : V) : Prop := match d with
  | .dk _ _ => ∃ a ob kvs, v = .ref a ∧ R a = some (.frz ob (.dK kvs))
  | .dt _ _ => ∃ a ob kvs, v = .ref a ∧ R a = some (.frz ob (.dT kvs))
  | .ref n => ∃ c, m[n]? = some (.k c)
  | _ => True
def Fzd (K : PySem.W.Frag) (lk : Option Nat) (env : Env') (σ : L2.St) (ρ : List Addr) (R : Hp) (m : Mem) : Prop :=
  ∀ i d v, lk = some i → env[i]? = some (some d) → σ[i]? = some (some v) → Fz K ρ R m d v
theorem CoR.mut {d : DV} {o : HO} (h : CoR K ρ R d o) : Mut (some o) := by
  cases d with
  | lst ds => obtain ⟨_, _, rfl, _⟩ := h; trivial
  | dk ks ds => obtain ⟨_, _, rfl, _⟩ := h; trivial
  | dt ks ds => obtain ⟨_, _, rfl, _⟩ := h; trivial
  | _ => exact h.elim
/-- locking a cell -/
theorem WR.lock (w : WR K base ρ R m H) {n : Nat} {a : Addr} {d : DV} {o : HO} (ha : ρ[n]? = some a) (hm : m[n]? = some (.c d)) (hH : H a = some o) (od : Obj) :
    WR K ⟨base.n, (a, .frz od o) :: base.L, base.cu, base.cle⟩ ρ R (m.set n (.k d)) (upd H a (.frz od o)) := by
  obtain ⟨o', e', hc⟩ := w.cel n a _ ha hm
  rw [hH] at e'
  obtain rfl := Option.some.inj e'
  have hl := (List.getElem?_eq_some_iff.mp hm).1
  have hl' := (List.getElem?_eq_some_iff.mp ha).1
  refine ⟨by rw [List.length_set]; exact w.len, w.nd, fun x u e => ?_, w.own, fun k x c h1 h2 => ?_, fun b k c h1 h2 h3 => ?_, by rw [List.length_set]; exact w.bas, fun q hq => ?_, fun k x y h1 h2 => ?_⟩
  · have hne : x ≠ a := fun z => by rw [z, w.own a (List.mem_of_getElem? ha)] at e; cases e
    rw [upd_ne hne]
    exact w.sub x u e
  · by_cases hk : n = k
    · subst hk
      rw [List.getElem?_set_self hl] at h2
      rw [ha] at h1
      cases h1; cases h2
      exact ⟨od, o, upd_same, hc⟩
    · rw [List.getElem?_set_ne hk] at h2
      have hne : x ≠ a := fun z => by
        subst z
        exact hk ((List.getElem?_inj hl' w.nd).mp (ha.trans h1.symm))
      exact (w.cel k x c h1 h2).at Xt.refl (upd_ne hne)
  · by_cases hk : n = k
    · subst hk
      rw [List.getElem?_set_self hl] at h3
      cases h3
      have := w.low b n _ h1 h2 hm
      exact this
    · rw [List.getElem?_set_ne hk] at h3
      exact w.low b k c h1 h2 h3
  · rcases List.mem_cons.mp hq with rfl | hq
    · exact ⟨upd_same, .inl ⟨od, o, rfl⟩⟩
    · obtain ⟨h1, h2⟩ := w.lk q hq
      refine ⟨?_, h2⟩
      rw [upd_ne (w.lk_ne (List.mem_of_getElem? ha) hH hc q hq)]
      exact h1
  · by_cases hk : n = k
    · subst hk
      rw [ha] at h1
      cases h1
      exact ⟨_, List.mem_cons_self⟩
    · rw [List.getElem?_set_ne hk] at h2
      obtain ⟨o2, h3⟩ := w.kin k x y h1 h2
      exact ⟨o2, List.mem_cons_of_mem _ h3⟩
theorem WR.unlock {n : Nat} {a : Addr} {od : Obj} {o : HO} (w : WR K ⟨base.n, (a, .frz od o) :: base.L, base.cu, base.cle⟩ ρ R m H) (ha : ρ[n]? = some a) (hL : ∀ p ∈ base.L, p.1 ≠ a) : H a = some (.frz od o) ∧ WR K base ρ R (unlockM (some n) m) (upd H a o) := by
  obtain ⟨hH, _⟩ := w.lk _ List.mem_cons_self
  refine ⟨hH, ?_⟩
  obtain ⟨c, hm, hc⟩ := w.cell_at ha
  cases c with
  | c d =>
    obtain ⟨o', e', hc⟩ := hc
    rw [hH] at e'
    exact absurd (Option.some.inj e').symm (hc.notFrz od o)
  | k d =>
    obtain ⟨ob, o', e', hc⟩ := hc
    rw [hH] at e'
    injection (Option.some.inj e') with _ e'
    subst e'
    have hl := (List.getElem?_eq_some_iff.mp hm).1
    have hl' := (List.getElem?_eq_some_iff.mp ha).1
    simp only [unlockM, hm]
    refine ⟨by rw [List.length_set]; exact w.len, w.nd, fun x u e => ?_, w.own, fun k x c h1 h2 => ?_, fun b k c h1 h2 h3 => ?_, by rw [List.length_set]; exact w.bas, fun q hq => ?_, fun k x y h1 h2 => ?_⟩
    · have hne : x ≠ a := fun z => by rw [z, w.own a (List.mem_of_getElem? ha)] at e; cases e
      rw [upd_ne hne]
      exact w.sub x u e
    · by_cases hk : n = k
      · subst hk
        rw [List.getElem?_set_self hl] at h2
        rw [ha] at h1
        cases h1; cases h2
        exact ⟨o, upd_same, hc⟩
      · rw [List.getElem?_set_ne hk] at h2
        have hne : x ≠ a := fun z => by
          subst z
          exact hk ((List.getElem?_inj hl' w.nd).mp (ha.trans h1.symm))
        exact (w.cel k x c h1 h2).at Xt.refl (upd_ne hne)
    · by_cases hk : n = k
      · subst hk
        rw [List.getElem?_set_self hl] at h3
        cases h3
        have := w.low b n _ h1 h2 hm
        exact this
      · rw [List.getElem?_set_ne hk] at h3
        exact w.low b k c h1 h2 h3
    · obtain ⟨h1, h2⟩ := w.lk q (List.mem_cons_of_mem _ hq)
      exact ⟨by rw [upd_ne (hL q hq)]; exact h1, h2⟩
    · by_cases hk : n = k
      · subst hk
        rw [List.getElem?_set_self hl] at h2
        cases h2
      · rw [List.getElem?_set_ne hk] at h2
        have hne : x ≠ a := fun z => by
          subst z
          exact hk ((List.getElem?_inj hl' w.nd).mp (ha.trans h1.symm))
        obtain ⟨o2, h3⟩ := w.kin k x y h1 h2
        rcases List.mem_cons.mp h3 with h3 | h3
        · exact absurd (congrArg Prod.fst h3) hne
        · exact ⟨o2, h3⟩
/-- what is fixed already is fixed for good -/
theorem WR.freeze (w : WR K base ρ R m H) {a : Addr} {o : HO} (hR : R a = some o) (mu : Mut (some o)) (od : Obj) : Xt ρ R ρ (upd R a (.frz od o)) ∧ WR K base ρ (upd R a (.frz od o)) m (upd H a (.frz od o)) := by
  have hH := w.sub a o hR
  have hn : ∀ x, x ∈ ρ → x ≠ a := fun x hx z => by
    rw [z] at hx
    rw [w.own a hx] at hR
    cases hR
  have x : Xt ρ R ρ (upd R a (.frz od o)) := ⟨⟨[], (List.append_nil _).symm⟩, fun x u e => by
    by_cases hx : x = a
    · subst hx
      rw [hR] at e
      obtain rfl := Option.some.inj e
      exact .inr ⟨⟨od, upd_same⟩, mu⟩
    · exact .inl (by rw [upd_ne hx]; exact e)⟩
  refine ⟨x, w.len, w.nd, fun y u e => ?_, fun y hy => ?_, fun n y c h1 h2 => ?_, w.low, w.bas, fun q hq => ?_, w.kin⟩
  · by_cases hy : y = a
    · subst hy; rw [upd_same] at e ⊢; exact e
    · rw [upd_ne hy] at e ⊢; exact w.sub y u e
  · rw [upd_ne (hn y hy)]; exact w.own y hy
  · exact (w.cel n y c h1 h2).at x (upd_ne (hn y (List.mem_of_getElem? h1)))
  · obtain ⟨h1, h2⟩ := w.lk q hq
    have hne : q.1 ≠ a := fun z => by
      rcases h2 with ⟨ob, u, h2⟩ | ⟨_, _, h5⟩
      · rw [z, hH] at h1
        rw [Option.some.inj h1, h2] at mu
        exact mu
      · rw [z, hR] at h5
        cases h5
    refine ⟨by rw [upd_ne hne]; exact h1, h2.imp id fun ⟨h3, h4, h5⟩ => ⟨h3, h4, by rw [upd_ne hne]; exact h5⟩⟩
theorem mapM_id : ∀ so : SO, so.mapM (unlockM none) = so
  | .nx _ _ => rfl
  | .rt _ _ => rfl
  | .bk _ _ => rfl
  | .ct _ _ => rfl
  | .ex _ _ => rfl
  | .bad => rfl
theorem unl_id (oc : Out DV) : (oc.bind fun d m => .ok d (unlockM none m)) = oc := by cases oc <;> rfl
/-- the three ways -/
theorem lock_in {env : Env'} {σ : L2.St} {lk : Option Nat} {o : Option Nat} {m1 : Mem} (w : WR K base ρ R m H) (er : ER K ρ R env σ) (hl : lockV env lk m = some (o, m1)) :
    (o = none ∧ m1 = m ∧ Fzd K lk env σ ρ R m) ∨
    (∃ n a u, o = some n ∧ ρ[n]? = some a ∧ H a = some u ∧ Mut (some u) ∧ (∀ p ∈ base.L, p.1 ≠ a) ∧ ∀ od, WR K ⟨base.n, (a, .frz od u) :: base.L, base.cu, base.cle⟩ ρ R m1 (upd H a (.frz od u)) ∧ Fzd K lk env σ ρ R m1) ∨
    (o = none ∧ m1 = m ∧ ∃ a u, H a = some u ∧ Mut (some u) ∧ ∀ od, Xt ρ R ρ (upd R a (.frz od u)) ∧ WR K base ρ (upd R a (.frz od u)) m (upd H a (.frz od u)) ∧ Fzd K lk env σ ρ (upd R a (.frz od u)) m) := by
  unfold lockV at hl
  split at hl
  · injection hl with hl
    injection hl with h1 h2
    exact .inl ⟨h1.symm, h2.symm, fun i d v e => by cases e⟩
  · rename_i i
    split at hl
    · rename_i n he
      obtain ⟨v, hs, hr⟩ := er.2 i _ he
      obtain ⟨a, ha, rfl⟩ := rl_ref.mp hr
      split at hl
      · rename_i d hm
        injection hl with hl
        injection hl with h1 h2
        subst h1 h2
        obtain ⟨u, hu, hc⟩ := w.cel n a _ ha hm
        refine .inr (.inl ⟨n, a, u, rfl, ha, hu, hc.mut, w.lk_ne (List.mem_of_getElem? ha) hu hc, fun od => ⟨w.lock ha hm hu od, fun j d' v' e1 e2 e3 => ?_⟩⟩)
        · obtain rfl := Option.some.inj e1
          rw [he] at e2
          obtain rfl := Option.some.inj (Option.some.inj e2)
          exact ⟨d, by rw [List.getElem?_set_self (List.getElem?_eq_some_iff.mp hm).1]⟩
      · rename_i d hm
        injection hl with hl
        injection hl with h1 h2
        refine .inl ⟨h1.symm, h2.symm, fun j d' v' e1 e2 e3 => ?_⟩
        obtain rfl := Option.some.inj e1
        rw [he] at e2
        obtain rfl := Option.some.inj (Option.some.inj e2)
        exact ⟨d, hm⟩
      · cases hl
    · rename_i d hne he
      injection hl with hl
      injection hl with h1 h2
      obtain ⟨v, hs, hr⟩ := er.2 i _ he
      have fin : ∀ R, Fz K ρ R m d v → Fzd K (some i) env σ ρ R m := fun R hf j d' v' e1 e2 e3 => by
        obtain rfl := Option.some.inj e1
        rw [he] at e2
        obtain rfl := Option.some.inj (Option.some.inj e2)
        rw [hs] at e3
        obtain rfl := Option.some.inj (Option.some.inj e3)
        exact hf
      cases d with
      | ref n => exact absurd rfl (hne n)
      | dk ks vs =>
        obtain ⟨z, a, kvs, rfl, hR, _⟩ := rl_dk.mp hr
        rcases hR with hR | ⟨ob, hR⟩
        · refine .inr (.inr ⟨h1.symm, h2.symm, a, _, w.sub _ _ hR, trivial, fun od => ?_⟩)
          obtain ⟨x, w'⟩ := w.freeze hR trivial od
          exact ⟨x, w', fin _ ⟨a, od, kvs, rfl, upd_same⟩⟩
        · exact .inl ⟨h1.symm, h2.symm, fin _ ⟨a, ob, kvs, rfl, hR⟩⟩
      | dt ks vs =>
        obtain ⟨z, a, kvs, rfl, hR, _⟩ := rl_dt.mp hr
        rcases hR with hR | ⟨ob, hR⟩
        · refine .inr (.inr ⟨h1.symm, h2.symm, a, _, w.sub _ _ hR, trivial, fun od => ?_⟩)
          obtain ⟨x, w'⟩ := w.freeze hR trivial od
          exact ⟨x, w', fin _ ⟨a, od, kvs, rfl, upd_same⟩⟩
        · exact .inl ⟨h1.symm, h2.symm, fin _ ⟨a, ob, kvs, rfl, hR⟩⟩
      | _ => exact .inl ⟨h1.symm, h2.symm, fin _ trivial⟩
    · cases hl
theorem lock_st {t : TS} {D : Ends} {env : Env'} {σ : L2.St} {lk : Option Nat} {o : Option Nat} {m1 : Mem} {so : SO} (w : WR K base ρ R m H) (er : ER K ρ R env σ) (hl : lockV env lk m = some (o, m1)) (po : PoS K base ρ R D (so.mapM (unlockM o)))
    (k : ∀ base' R' H1 D', base'.n = base.n → Xt ρ R ρ R' → WR K base' ρ R' m1 H1 → ER K ρ R' env σ → Fzd K lk env σ ρ R' m1 → PoS K base' ρ R' D' so → t D' σ H1) : t D σ H ∨ tLock t D σ H ∨ tFrz t D σ H := by
  rcases lock_in w er hl with ⟨rfl, rfl, hf⟩ | ⟨n, a, u, rfl, ha, hu, mu, hL, h⟩ | ⟨rfl, rfl, a, u, hu, mu, h⟩
  · rw [mapM_id] at po
    exact .inl (k base R H D rfl Xt.refl w er hf po)
  · refine .inr (.inl ⟨a, u, hu, mu, fun od => ?_⟩)
    obtain ⟨w1, hf⟩ := h od
    refine k ⟨base.n, (a, .frz od u) :: base.L, base.cu, base.cle⟩ R _ _ rfl Xt.refl w1 er hf ?_
    have un : ∀ {ρ' : List Addr} {R' H' : Hp} {m' : Mem}, Xt ρ R ρ' R' → WR K ⟨base.n, (a, .frz od u) :: base.L, base.cu, base.cle⟩ ρ' R' m' H' → H' a = some (.frz od u) ∧ WR K base ρ' R' (unlockM (some n) m') (upd H' a u) := fun x w' => w'.unlock (x.get ha) hL
    cases so with
    | nx env2 m2 => exact fun ρ' R' H' σ' x w' er' => ⟨(un x w').1, po ρ' R' _ σ' x (un x w').2 er'⟩
    | rt d m2 => exact fun ρ' R' H' v x w' r => ⟨(un x w').1, po ρ' R' _ v x (un x w').2 r⟩
    | bk env2 m2 => exact fun ρ' R' H' σ' x w' er' => ⟨(un x w').1, po ρ' R' _ σ' x (un x w').2 er'⟩
    | ct env2 m2 => exact fun ρ' R' H' σ' x w' er' => ⟨(un x w').1, po ρ' R' _ σ' x (un x w').2 er'⟩
    | ex _ _ => exact po
    | bad => exact po
  · rw [mapM_id] at po
    refine .inr (.inr ⟨a, u, hu, mu, fun od => ?_⟩)
    obtain ⟨x, w1, hf⟩ := h od
    exact k base _ _ D rfl x w1 (er.mono x) hf (po.up x)
theorem lock_ex {t : TE} {Q : VK} {env : Env'} {σ : L2.St} {lk : Option Nat} {o : Option Nat} {m1 : Mem} {oc : Out DV} (w : WR K base ρ R m H) (er : ER K ρ R env σ) (hl : lockV env lk m = some (o, m1)) (po : Po K base (Rl K) ρ R Q (oc.bind fun d m => .ok d (unlockM o m)))
    (k : ∀ base' R' H1 Q', base'.n = base.n → Xt ρ R ρ R' → WR K base' ρ R' m1 H1 → ER K ρ R' env σ → Fzd K lk env σ ρ R' m1 → Po K base' (Rl K) ρ R' Q' oc → t σ H1 Q') : t σ H Q ∨ tLockE t σ H Q ∨ tFrzE t σ H Q := by
  rcases lock_in w er hl with ⟨rfl, rfl, hf⟩ | ⟨n, a, u, rfl, ha, hu, mu, hL, h⟩ | ⟨rfl, rfl, a, u, hu, mu, h⟩
  · rw [unl_id] at po
    exact .inl (k base R H Q rfl Xt.refl w er hf po)
  · refine .inr (.inl ⟨a, u, hu, mu, fun od => ?_⟩)
    obtain ⟨w1, hf⟩ := h od
    refine k ⟨base.n, (a, .frz od u) :: base.L, base.cu, base.cle⟩ R _ _ rfl Xt.refl w1 er hf ?_
    have un : ∀ {ρ' : List Addr} {R' H' : Hp} {m' : Mem}, Xt ρ R ρ' R' → WR K ⟨base.n, (a, .frz od u) :: base.L, base.cu, base.cle⟩ ρ' R' m' H' → H' a = some (.frz od u) ∧ WR K base ρ' R' (unlockM (some n) m') (upd H' a u) := fun x w' => w'.unlock (x.get ha) hL
    cases oc with
    | ok d m2 => exact fun ρ' R' H' v x w' r => ⟨(un x w').1, po ρ' R' _ v x (un x w').2 r⟩
    | exc _ _ => exact po
    | bad => exact po
  · rw [unl_id] at po
    refine .inr (.inr ⟨a, u, hu, mu, fun od => ?_⟩)
    obtain ⟨x, w1, hf⟩ := h od
    exact k base _ _ Q rfl x w1 (er.mono x) hf (po.up x)
/-! ### what is walked -/
/-- the same with more that is locked -/
def Lx (b b' : Bs) : Prop := b'.n = b.n ∧ ∀ p ∈ b.L, p ∈ b'.L
theorem Lx.refl {b : Bs} : Lx b b := ⟨rfl, fun _ h => h⟩
structure WkJ (K : PySem.W.Frag) (base : Bs) (ρ : List Addr) (R : Hp) (ds : List DV) (J : It) : Prop where
  len : ds.length ≤ SL
  go : ∀ i base' ρ' R' m H, Lx base base' → Xt ρ R ρ' R' → WR K base' ρ' R' m H → i < ds.length → J.go i H
  stop : ∀ base' ρ' R' m H, Lx base base' → Xt ρ R ρ' R' → WR K base' ρ' R' m H → J.stop ds.length H
  yld : ∀ i base' ρ' R' m H x H' d, Lx base base' → Xt ρ R ρ' R' → WR K base' ρ' R' m H → ds[i]? = some d → J.yld i H x H' → ∃ R'', Xt ρ' R' ρ' R'' ∧ WR K base' ρ' R'' m H' ∧ Rl K ρ' R'' d x
def tI (C : SC) (lk : Option Nat) (it : Itx) : TI := fun σ H Q => ∃ base ρ R m env, WR C.K base ρ R m H ∧ ER C.K ρ R env σ ∧ Fzd C.K lk env σ ρ R m ∧ Po C.K base (WkJ C.K base) ρ R Q (evI C.F C.cs base.n env it m)
theorem s_for (hX : XS C s X) {lk : Option Nat} {t : Ta} {g : Expr} {it : Itx} {it' : Expr} {B : List Sm} {B' : List Stmt} (hi : PI X g it' (tI C lk it)) (hg : PG X g (tG C t)) (hB : PSs X B' (tB C B)) (hs : ∀ x, foldedSetIterable it' X.env x = pure x) :
    PS X (.For g it' B' [] pos) (tS C (.for lk t it B)) := by
  refine (ps_pre (ps_for hX.po hX.calm hi hg hB hs)).imp ?_
  rintro D σ H ⟨base, ρ, R, m, env, w, er, po⟩
  unfold evS at po
  cases hl : lockV env lk m with
  | none => simp only [hl] at po; exact po.elim
  | some q =>
    obtain ⟨o, m1⟩ := q
    simp only [hl] at po
    refine lock_st w er hl po fun base' R' H1 D' hb x1 w1 er1 hf po1 => ?_
    rw [← hb] at po1
    refine ⟨base', ρ, R', m1, env, w1, er1, hf, (PoS.so (WkJ C.K base') po1).mono fun J H2 ⟨ds, m2, ρ2, R2, x2, w2, wj, po2⟩ => ?_⟩
    refine ⟨fun i n σ' H' => n + i = ds.length ∧ ∃ ρ' R' m' env', Xt ρ2 R2 ρ' R' ∧ WR C.K base' ρ' R' m' H' ∧ ER C.K ρ' R' env' σ' ∧ PoS C.K base' ρ' R' D' (forLoop (fun env d m => asgT C.F C.cs base'.n env t d m) (fun env m => evB C.F C.cs base'.n env B m) (ds.drop i) env' m'),
      ⟨ds.length, rfl, ρ2, R2, m2, env, Xt.refl, w2, er1.mono x2, po2⟩, ?_⟩
    rintro i n σ' H' ⟨hn, ρ', R', m', env', x', w', er', po'⟩
    cases n with
    | zero =>
      obtain rfl : i = ds.length := by omega
      rw [List.drop_length] at po'
      exact .inl ⟨wj.stop base' ρ' R' m' H' Lx.refl x' w', po'.nx Xt.refl w' er'⟩
    | succ n =>
      have hi : i < ds.length := by omega
      refine .inr ⟨wj.go i base' ρ' R' m' H' Lx.refl x' w' hi, fun σ' H' => ∃ ρ' R' m' env', Xt ρ2 R2 ρ' R' ∧ WR C.K base' ρ' R' m' H' ∧ ER C.K ρ' R' env' σ' ∧ PoS C.K base' ρ' R' D' (forLoop (fun env d m => asgT C.F C.cs base'.n env t d m) (fun env m => evB C.F C.cs base'.n env B m) (ds.drop (i + 1)) env' m'),
        fun σ' H' h => ⟨n, Nat.lt_succ_self n, by omega, h⟩, fun v H3 hy => ?_⟩
      obtain ⟨R3, x3, w3, r3⟩ := wj.yld i base' ρ' R' m' H' v H3 ds[i] Lx.refl x' w' (List.getElem?_eq_getElem hi) hy
      rw [List.drop_eq_getElem_cons hi] at po'
      unfold forLoop at po'
      refine ⟨base', ρ', R3, m', env', ds[i], w3, er'.mono x3, r3, (PoS.so (ER C.K) (po'.up x3)).er.mono fun σ4 H4 ⟨env4, m4, ρ4, R4, x4, w4, er4, po4⟩ => ?_⟩
      exact ⟨base', ρ4, R4, m4, env4, w4, er4, PoS.loop (fun env m ρ5 R5 H5 σ5 x5 w5 er5 po5 => ⟨ρ5, R5, m, env, ((x'.trans x3).trans x4).trans x5, w5, er5, po5⟩) po4⟩
end
end Ev

set_option Elab.async false
set_option linter.all false
set_option maxRecDepth 100000
set_option maxHeartbeats 4000000
/-! enumerate over a tuple -/
namespace PySem
open Sem (wp)
open AutoSeq1 (wpAny_loadPart')
theorem EnT.meets_new (l : Addr) (items : Array Value) (n : Nat) (dct : Option Addr) (sl : Array (Option Value)) :
    Meets (Builtin.«enumerate.__new__» ⟨[.type "enumerate", .ref l], []⟩) (fun _ R s => s.heap.get? l = some { cls := .type "tuple", dict := dct, data := .seq items n, slots := sl } ∧
      R (.ok (.ret (.ref (s.heap.push { cls := .type "tuple_iterator", data := .fields #[.ref l, .int 0 0] }).objs.size)))
        { s with heap := (s.heap.push { cls := .type "tuple_iterator", data := .fields #[.ref l, .int 0 0] }).push { cls := .type "enumerate", data := .fields #[.none, .bool false, .ref s.heap.objs.size, rawInt 0, .none, .none] } }) :=
  .of_wp fun prog w A R s h => by
    obtain ⟨hp, g, d, tk, os⟩ := s; obtain ⟨hl, h⟩ := h
    have hsub := sub_enumerate
    have hL : Heap.IsTuple (Shared.heap ⟨hp, g, d, tk, os⟩) l items := ⟨_, hl, rfl, n, rfl⟩
    wp_walk using wpAny_loadPart' hl
    refine wpAny_stack_any fun st => wpAny_pure ?_
    split
    · rename_i c _ _ _ _ _
      cases (c == Value.type "enumerate")
      · wp_walk using wpAny_loadPart' hl, wpAny_pyIter_tuple hL
        exact ⟨_, rfl, h⟩
      · wp_walk using wpAny_loadPart' hl, wpAny_pyIter_tuple hL
        exact ⟨_, rfl, h⟩
    · wp_walk using wpAny_loadPart' hl, wpAny_pyIter_tuple hL
      exact ⟨_, rfl, h⟩
section
variable {prog : Program} {w : World} {A : Around} {E : Value → Shared → Prop} {s : Shared}
theorem EnT.call {l : Addr} {items : Array Value} {Q : Value → Shared → Prop} (hL : s.heap.IsTuple l items)
    (h : ∀ h', IsEnum h' (s.heap.objs.size + 1) s.heap.objs.size 0 .none → h'.IsTupleIter s.heap.objs.size l 0 → h'.objs.size = s.heap.objs.size + 2 →
      (∀ b o, s.heap.get? b = some o → h'.get? b = some o) → Q (.ref (s.heap.objs.size + 1)) { s with heap := h' }) :
    wpAny (model prog w) A (call (.type "enumerate") [.ref l]) Q E s := by
  obtain ⟨⟨c, dct, dt, sl⟩, hl, hc, n, hd⟩ := hL
  replace hc : c = .type "tuple" := hc
  replace hd : dt = .seq items n := hd
  subst hc hd
  refine callType_new F.called_enumerate (by decide) (F.typeCall_enumerate_1 _) (F.newCall_enumerate_1 _) (fun obj => F.args_object_init_2 obj _) F.entry_enumerate_new
    (EnT.meets_new l items n dct sl) ⟨hl, ?_⟩
  have hz : (s.heap.push { cls := .type "tuple_iterator", data := .fields #[.ref l, .int 0 0] }).objs.size = s.heap.objs.size + 1 := Heap.size_push ..
  show _ ∧ _
  rw [hz]
  have he : IsEnum ((s.heap.push { cls := .type "tuple_iterator", data := .fields #[.ref l, .int 0 0] }).push
      { cls := .type "enumerate", data := .fields #[.none, .bool false, .ref s.heap.objs.size, rawInt 0, .none, .none] }) (s.heap.objs.size + 1) s.heap.objs.size 0 .none := by
    have := Heap.get?_push_size (s.heap.push { cls := .type "tuple_iterator", data := .fields #[.ref l, .int 0 0] })
      (o := { cls := .type "enumerate", data := .fields #[.none, .bool false, .ref s.heap.objs.size, rawInt 0, .none, .none] }) rfl
    rw [hz] at this; exact this
  refine ⟨⟨_, he, rfl⟩, h _ he ⟨_, Heap.get?_push_of_some _ (Heap.get?_push_size _ rfl), rfl, rfl⟩ (by rw [Heap.size_push, hz]) fun b o x => Heap.get?_push_of_some _ (Heap.get?_push_of_some _ x)⟩
theorem EnT.next_item {e it l : Addr} {i : Nat} {items : Array Value} {x old : Value} {Q : Value → Shared → Prop}
    (he : IsEnum s.heap e it i old) (hit : s.heap.IsTupleIter it l i) (hl : s.heap.IsTuple l items) (hx : items[i]? = some x) (hne : e ≠ it)
    (hQ : ∀ h', IsEnumOut h' e it ((i : Int) + 1) x s.heap.objs.size → h'.IsTupleIter it l (i + 1) →
      h'.get? s.heap.objs.size = some { cls := .type "tuple", data := .seq #[.int i s.toks, x] } → h'.objs.size = s.heap.objs.size + 1 →
      (∀ b o, b ≠ e → b ≠ it → s.heap.get? b = some o → h'.get? b = some o) → Q (.ref s.heap.objs.size) { s with heap := h', toks := s.toks + 1 }) :
    wpAny (model prog w) A (Builtin.«enumerate.__next__» ⟨[.ref e], []⟩) (fun fin s' => ∃ v, fin = .done (.ret v) ∧ Q v s') E s := by
  obtain ⟨hp, g, d, tk, os⟩ := s
  show wpAny _ _ (field (.ref e) 2 >>= _) _ _ _
  refine wpAny_bind (wpAny_field he rfl (x := .ref it) rfl ?_)
  refine wpAny_bind (RZ.nextOf_tuple_item hit hl hx fun h₁ hit₁ hs₁ => ?_)
  replace hs₁ : Heap.SameBut it hp h₁ := hs₁
  have he₁ : IsEnum h₁ e it i old := (hs₁.2 e hne).trans he
  show wpAny _ _ (field (.ref e) 3 >>= _) _ _ ⟨h₁, g, d, tk, os⟩
  refine wpAny_bind (wpAny_field he₁ rfl (x := rawInt i) rfl ?_)
  show wpAny _ _ (field (.ref e) 4 >>= _) _ _ ⟨h₁, g, d, tk, os⟩
  refine wpAny_bind (wpAny_field he₁ rfl (x := .none) rfl ?_)
  show wpAny _ _ (mkInt i >>= _) _ _ ⟨h₁, g, d, tk, os⟩
  refine wpAny_bind (wpAny_mkInt ?_)
  show wpAny _ _ (setField (.ref e) 3 (rawInt ((i : Int) + 1)) >>= _) _ _ ⟨h₁, g, d, tk + 1, os⟩
  refine wpAny_bind (wpAny_setField_rec he₁ (by simp) fun h₂ he₂ hs₂ => ?_)
  replace hs₂ : Heap.SameBut e h₁ h₂ := hs₂
  replace he₂ : IsEnum h₂ e it ((i : Int) + 1) old := he₂
  show wpAny _ _ (setField (.ref e) 4 .none >>= _) _ _ ⟨h₂, g, d, tk + 1, os⟩
  refine wpAny_bind (wpAny_setField_rec he₂ (by simp) fun h₃ he₃ hs₃ => ?_)
  replace hs₃ : Heap.SameBut e h₂ h₃ := hs₃
  replace he₃ : IsEnum h₃ e it ((i : Int) + 1) old := he₃
  show wpAny _ _ (newTuple [.int i tk, x] >>= _) _ _ ⟨h₃, g, d, tk + 1, os⟩
  refine wpAny_bind (wpAny_newTuple ?_)
  have he₄ : IsEnum (h₃.push { cls := .type "tuple", data := .seq #[.int i tk, x] }) e it ((i : Int) + 1) old := Heap.get?_push_of_some _ he₃
  generalize hh₄ : h₃.push { cls := .type "tuple", data := .seq #[.int i tk, x] } = h₄ at he₄
  have hsz : h₃.objs.size = hp.objs.size := by rw [hs₃.1, hs₂.1, hs₁.1]
  have hel : e < hp.objs.size := Heap.lt_size he
  have ht₄ : h₄.get? hp.objs.size = some { cls := .type "tuple", data := .seq #[.int i tk, x] } := by rw [← hh₄, ← hsz]; exact Heap.get?_push_size _ rfl
  have hz₄ : h₄.objs.size = hp.objs.size + 1 := by rw [← hh₄, Heap.size_push, hsz]
  have hk₄ : ∀ b o, b ≠ e → b ≠ it → hp.get? b = some o → h₄.get? b = some o := fun b o hbe hbi hb => by
    rw [← hh₄]; exact Heap.get?_push_of_some _ (hs₃.extBut b o hbe (hs₂.extBut b o hbe (hs₁.extBut b o hbi hb)))
  have hit₄ : h₄.IsTupleIter it l (i + 1) := by
    rw [← hh₄]; obtain ⟨o, ho, r⟩ := (hit₁.extBut hs₂.extBut (Ne.symm hne)).extBut hs₃.extBut (Ne.symm hne); exact ⟨o, Heap.get?_push_of_some _ ho, r⟩
  show wpAny _ _ (Builtin.SmallTypes.ownedTupleIsFree (.ref e) >>= _) _ _ ⟨h₄, g, d, tk + 1, os⟩
  rw [hsz]
  clear hh₄ he₃ hs₃ he₂ hs₂ he₁ hs₁ hit₁ hsz h₃ h₂ h₁
  refine wpAny_bind ?_
  · unfold Builtin.SmallTypes.ownedTupleIsFree
    refine wpAny_bind (wpAny_field he₄ rfl (x := .none) rfl (wpAny_pure ?_))
    simp only [if_true]
    refine wpAny_bind (wpAny_rule ?_)
    refine wpAny_bind (wpAny_field he₄ rfl (x := old) rfl ?_)
    refine wpAny_bind (wpAny_setField_rec he₄ (by simp) fun h₅ he₅ hs₅ => ?_)
    replace hs₅ : Heap.SameBut e h₄ h₅ := hs₅
    replace he₅ : IsEnum h₅ e it ((i : Int) + 1) x := he₅
    show wpAny _ _ (Builtin.SmallTypes.ownedTupleHandOut (.ref e) (.ref hp.objs.size) >>= _) _ _ ⟨h₅, g, d, tk + 1, os⟩
    refine wpAny_bind ?_
    · unfold Builtin.SmallTypes.ownedTupleHandOut
      refine wpAny_bind (wpAny_setField_rec he₅ (by simp) fun h₆ he₆ hs₆ => ?_)
      replace hs₆ : Heap.SameBut e h₅ h₆ := hs₆
      replace he₆ : IsEnumOut h₆ e it ((i : Int) + 1) x hp.objs.size := he₆
      refine wpAny_setField_rec he₆ (by simp) fun h₇ he₇ hs₇ => ?_
      replace hs₇ : Heap.SameBut e h₆ h₇ := hs₇
      replace he₇ : IsEnumOut h₇ e it ((i : Int) + 1) x hp.objs.size := he₇
      refine wpAny_bind (wpAny_letGo (wpAny_pure ⟨_, rfl, hQ h₇ he₇ ?_ ?_ ?_ ?_⟩))
      · exact ((hit₄.extBut hs₅.extBut (Ne.symm hne)).extBut hs₆.extBut (Ne.symm hne)).extBut hs₇.extBut (Ne.symm hne)
      · exact hs₇.extBut _ _ (Nat.ne_of_gt hel) (hs₆.extBut _ _ (Nat.ne_of_gt hel) (hs₅.extBut _ _ (Nat.ne_of_gt hel) ht₄))
      · rw [hs₇.1, hs₆.1, hs₅.1, hz₄]
      · exact fun b o hbe hbi hb => hs₇.extBut b o hbe (hs₆.extBut b o hbe (hs₅.extBut b o hbe (hk₄ b o hbe hbi hb)))
theorem EnT.pyNext_item {e it l : Addr} {i : Nat} {items : Array Value} {x old : Value} {Q : Option Value → Shared → Prop}
    (he : IsEnum s.heap e it i old) (hit : s.heap.IsTupleIter it l i) (hl : s.heap.IsTuple l items) (hx : items[i]? = some x) (hne : e ≠ it)
    (hQ : ∀ h', IsEnumOut h' e it ((i : Int) + 1) x s.heap.objs.size → h'.IsTupleIter it l (i + 1) →
      h'.get? s.heap.objs.size = some { cls := .type "tuple", data := .seq #[.int i s.toks, x] } → h'.objs.size = s.heap.objs.size + 1 →
      (∀ b o, b ≠ e → b ≠ it → s.heap.get? b = some o → h'.get? b = some o) → Q (some (.ref s.heap.objs.size)) { s with heap := h', toks := s.toks + 1 }) :
    wpAny (model prog w) A (pyNext (.ref e)) Q E s := by
  have hT : s.TypeIs (.ref e) "enumerate" := ⟨_, he, rfl⟩
  unfold pyNext
  exact wpAny_bind (wpAny_attempt (wpAny_callSpecial?_slot (name := Str.ofString "__next__") hT F.slot_enumerate_next
    (wpAny_call_entry F.slot_enumerate_next hT F.entry_enumerate_next
      (EnT.next_item he hit hl hx hne fun h' a b c d k => wpAny_pure (hQ h' a b c d k)) (F.args_enumerate_next_1 _))))
theorem EnT.pyNext_end {e it l : Addr} {i : Nat} {items : Array Value} {old : Value} {Q : Option Value → Shared → Prop} (hh : A.handled = none)
    (he : IsEnum s.heap e it i old) (hit : s.heap.IsTupleIter it l i) (hl : s.heap.IsTuple l items) (hx : items[i]? = none)
    (hQ : ∀ h', Heap.ExtBut it s.heap h' → Q none { s with heap := h' }) : wpAny (model prog w) A (pyNext (.ref e)) Q E s := by
  have hT : s.TypeIs (.ref e) "enumerate" := ⟨_, he, rfl⟩
  unfold pyNext
  refine wpAny_bind (wpAny_attempt (wpAny_callSpecial?_slot (name := Str.ofString "__next__") hT F.slot_enumerate_next
    (wpAny_call_entry F.slot_enumerate_next hT F.entry_enumerate_next ?_ (F.args_enumerate_next_1 _))))
  show wpAny _ _ (field (.ref e) 2 >>= _) _ _ _
  refine wpAny_bind (wpAny_field he rfl (x := .ref it) rfl ?_)
  refine wpAny_bind (RZ.nextOf_tuple_end hh hit hl hx fun h' x he' hx' => ?_)
  obtain ⟨o, ho, hc⟩ := hx'
  refine wpAny_bind (wpAny_isInstance (T := "StopIteration") (b := true) ⟨o, ho, hc⟩ isSubtype_stop ?_)
  exact wpAny_pure (hQ _ he')
end
end PySem
namespace L2
open PySem PySem.Spec PyProof.Rows
/-- the tuple at a, each item in a new pair -/
def IteT (K : PySem.W.Frag) (a : Addr) : It :=
  ⟨fun i H => ∃ (xs : List V) (x : V), SqT K H a xs ∧ xs[i]? = some x, fun i H v H' => ∃ T x, v = .ref T ∧ H T = none ∧ H' = upd H T (.tup [.int (i : Nat), x]) ∧ ∀ xs, SqT K H a xs → xs[i]? = some x, fun i H => ∃ xs : List V, SqT K H a xs ∧ xs.length ≤ i⟩
theorem turn_enumT {P : Program} {w : World} {K : PySem.W.Frag} {elts : List Expr} {kk : Nat} {tpos : Pos} (a e it : Addr) :
    Turn P w K (.Tuple elts kk tpos) (IteT K a) [e, it] e (fun i h => (∃ old, IsEnum h e it ((i : Nat) : Int) old) ∧ h.IsTupleIter it a i ∧ e ≠ it) where
  mem := by simp
  obj := fun i h st b hb => by
    obtain ⟨⟨old, he⟩, ⟨o, ho, hc, hd⟩, _⟩ := st
    have e' : b = e ∨ b = it := by simpa using hb
    rcases e' with z | z
    · rw [z]; exact ⟨_, he, fun v q => nomatch q⟩
    · rw [z]; exact ⟨o, ho, fun v q => by rw [hd] at q; cases q⟩
  keep := fun i h h' st k => let ⟨⟨old, he⟩, hi, hne⟩ := st; ⟨⟨old, k e (by simp) _ he⟩, hi.at fun o q => k it (by simp) o q, hne⟩
  item := by
    intro X hP hw hK hc i pins s σ H E I hf st hg
    subst hP hw hK
    obtain ⟨⟨old, he⟩, hit, hne⟩ := st
    obtain ⟨xs, x, hq, hx⟩ := hg
    obtain ⟨its, rv, p, hz⟩ := I.tuple hq
    obtain ⟨u, hu, ru⟩ := rv.get hx
    have hel : e < s.heap.objs.size := Heap.lt_size he
    have hil : it < s.heap.objs.size := by obtain ⟨_, q, _⟩ := hit; exact Heap.lt_size q
    refine EnT.pyNext_item he hit (show s.heap.IsTuple a its.toArray from p) (x := u) (by simpa using hu) hne fun h' ho hit' hT hsz hk => ?_
    refine ⟨_, rfl, wpAny_letOwnedTupleGo_enum (s := { s with heap := h', toks := s.toks + 1 }) ho fun h'' he' sb => ?_⟩
    have hT2 : h''.get? s.heap.objs.size = some { cls := .type "tuple", data := .seq #[.int i s.toks, u] } := (sb.2 _ (Nat.ne_of_gt hel)).trans hT
    have new : ObjOk X.prog X.w (upd H s.heap.objs.size (.tup [.int (i : Nat), x])) h'' s.heap.objs.size (.tup [.int (i : Nat), x]) :=
      ⟨by show 2 ≤ sizeLine; decide, [.int i s.toks, u], .cons ⟨_, rfl⟩ (.cons ru .nil), ⟨_, hT2, rfl, _, rfl⟩⟩
    have I1 : Inv X pins σ (upd H s.heap.objs.size (.tup [.int (i : Nat), x])) { s with heap := h'', toks := s.toks + 1 } :=
      I.turnedNew (ch := [e, it]) (fun b ob hb q => (sb.2 b (fun z => hb (by simp [z]))).trans (hk b ob (fun z => hb (by simp [z])) (fun z => hb (by simp [z])) q)) hf (Nat.le_refl _) new
    refine ⟨.ref s.heap.objs.size, _, I1, rfl, ⟨_, x, rfl, I.hok.fresh (Nat.le_refl _), rfl, fun ys hy => by rw [I.tuple_inj hy hq]; exact hx⟩, ⟨⟨u, ?_⟩, hit'.at fun o q => (sb.2 it (Ne.symm hne)).trans q, hne⟩, fun b hb => ?_⟩
    · have e1 : ((i + 1 : Nat) : Int) = (i : Int) + 1 := by omega
      rw [e1]; exact he'
    · have hb' : b < s.heap.objs.size := by
        have e' : b = e ∨ b = it := by simpa using hb
        rcases e' with z | z
        · rw [z]; exact hel
        · rw [z]; exact hil
      rw [upd_ne (Nat.ne_of_lt hb')]
      exact (hf b hb).1
  done := by
    intro X hP hw hK hc i pins s σ H E I hf st hg
    subst hP hw hK
    obtain ⟨⟨old, he⟩, hit, hne⟩ := st
    obtain ⟨xs, hq, hx⟩ := hg
    obtain ⟨its, rv, p, hz⟩ := I.tuple hq
    obtain ⟨f0, f1, f2, f3, f4, f5⟩ := hf it (by simp)
    have hl := rv.length
    exact EnT.pyNext_end (I.ok.hd hc) he hit (show s.heap.IsTuple a its.toArray from p) (by simp; omega) fun h' eb => ⟨rfl, I.turned (t' := s.toks) (fun b o hb q => eb b o hb q) f0 f1 f3 f4 f5⟩
  self := fun A i s Q E st h => let ⟨⟨_, he⟩, _⟩ := st; wpAny_pyIter_enum he h
def iEnumA (K : PySem.W.Frag) (ta : TA) : TI := fun σ H R => ta σ H fun vs H1 => ∃ a xs, vs = [.ref a] ∧ ((SqL K H1 a xs ∧ R (Ite K a) H1) ∨ (SqT K H1 a xs ∧ R (IteT K a) H1))
theorem pi_enumA {X : Cx} {e : Expr} {ta : TA} {p pos tpos : Pos} {elts : List Expr} {kk : Nat} (hg : Gl X "enumerate") (hm : X.mg "enumerate" = none) (ha : PA X [e] ta) (hs : starEach [e] X.env = [(false, eval e X.env)] := by rfl) :
    PI X (.Tuple elts kk tpos) (.Call (.Name "enumerate" p) [e] [] pos) (iEnumA X.K ta) := by
  refine ⟨fun pins s σ H R I h => ?_⟩
  refine Call_ (ld_blt I hg hm boot_enumerate (PyProof.Rows.callWith_type1 (thn (ha.run pos pins s σ H _ I h) fun us s1 ⟨vs, H1, I1, r1, q1⟩ => ?_) hs rfl))
  obtain ⟨a, xs, ex, hq⟩ := q1
  subst ex
  cases r1 with
  | cons r rr =>
    cases rr
    cases r
    have fp : ∀ {h' : Heap}, ∀ b ∈ [s1.heap.objs.size + 1, s1.heap.objs.size], s1.heap.objs.size ≤ b := fun b hb => by
      have e' : b = s1.heap.objs.size + 1 ∨ b = s1.heap.objs.size := by simpa using hb
      rcases e' with z | z
      · rw [z]; exact Nat.le_add_right _ _
      · rw [z]; exact Nat.le_refl _
    rcases hq with ⟨hq, q⟩ | ⟨hq, q⟩
    · obtain ⟨its, rv, p', hz⟩ := I1.list hq
      refine call_enumerate_list p'.isList fun h' he hit hsz hk => wpAny_pyIter_enum he ?_
      have I2 : Inv X pins σ H1 { s1 with heap := h' } := I1.kept (t' := s1.toks) hk
      refine ⟨s1.heap.objs.size + 1, [s1.heap.objs.size + 1, s1.heap.objs.size], _, _, H1, rfl, I2, turn_enum a (s1.heap.objs.size + 1) s1.heap.objs.size, ⟨⟨.none, he⟩, hit, Nat.succ_ne_self _⟩, fun b hb => ?_, q⟩
      exact I1.fpOk (fp (h' := h') b hb) (I1.hok.fresh (fp (h' := h') b hb))
    · obtain ⟨its, rv, p', hz⟩ := I1.tuple hq
      refine EnT.call (show s1.heap.IsTuple a its.toArray from p') fun h' he hit hsz hk => wpAny_pyIter_enum he ?_
      have I2 : Inv X pins σ H1 { s1 with heap := h' } := I1.kept (t' := s1.toks) hk
      refine ⟨s1.heap.objs.size + 1, [s1.heap.objs.size + 1, s1.heap.objs.size], _, _, H1, rfl, I2, turn_enumT a (s1.heap.objs.size + 1) s1.heap.objs.size, ⟨⟨.none, he⟩, hit, Nat.succ_ne_self _⟩, fun b hb => ?_, q⟩
      exact I1.fpOk (fp (h' := h') b hb) (I1.hok.fresh (fp (h' := h') b hb))
end L2

set_option Elab.async false
set_option linter.all false
set_option maxRecDepth 100000
set_option maxHeartbeats 1000000
/-! Dicts with tuple keys: their items as a walk; dict(..) of pairs. -/
namespace Ev
open PySem PySem.Spec PyProof.Rows L2

/-- a frozen dict of tuple keys, entry by entry -/
theorem frzT2 {X : Cx} {pins : List (Addr × Obj)} {σ : L2.St} {H : Hp} {s : Shared} {d : Addr} {o : Obj} {kvs : List (List Key × V)} (I : Inv X pins σ H s) (h : H d = some (.frz o (.dT kvs))) :
    (d == sysModules) = false ∧ ∃ (es : Array DictEntry) (ep : Nat), DT.Raw s.heap d es ep ∧ o.data = .dict es ep ∧ es.size = kvs.length ∧
      ∀ (i : Nat) (k : List Key) (v : V), kvs[i]? = some (k, v) → ∃ (en : DictEntry) (q : Addr), es[i]? = some en ∧ en.key = .ref q ∧ H q = some (.tup (k.map kV)) ∧ RelV v en.val := by
  obtain ⟨hd, z, hs, xs, pr, o', es, ep, ho, hx, hdt, he, _⟩ := I.hok d _ h
  have hoo : o = o' := Option.some.inj (hd.symm.trans ho)
  subst hoo
  have l1 : es.size = xs.length := size_of_entries he
  have l2 : kvs.length = xs.length := Paired.length pr
  refine ⟨hs, es, ep, ⟨o, hd, hx, hdt⟩, hdt, by omega, fun i k v e => ?_⟩
  obtain ⟨b, hb, e1, e2, e3⟩ := paired_get pr e
  have q := entry_at he i
  rw [hb] at q
  exact ⟨_, b.2.1, q, rfl, e2, e3⟩
/-- the pairs of a dict whose keys are tuples: new tuples (key, value) -/
def Itit (d : Addr) (o : Obj) (kvs : List (List Key × V)) : It where
  go i H := H d = some (.frz o (.dT kvs)) ∧ i < kvs.length
  yld i H x H' := ∃ T k v q, kvs[i]? = some (k, v) ∧ x = .ref T ∧ H q = some (.tup (k.map kV)) ∧ H T = none ∧ H' = upd H T (.tup [.ref q, v])
  stop i H := H d = some (.frz o (.dT kvs)) ∧ kvs.length ≤ i
theorem turn_itemsT {P : Program} {w : World} {K : PySem.W.Frag} {d : Addr} {o : Obj} {es : Array DictEntry} {ep : Nat} {kvs : List (List Key × V)} {elts : List Expr} {kk : Nat} {tpos : Pos} (it : Addr) (hod : o.data = .dict es ep) :
    Turn P w K (.Tuple elts kk tpos) (Itit d o kvs) [it] it (fun i h => ∃ ok ov, IsItemIter h it d i kvs.length ep ok ov) where
  mem := List.mem_singleton.mpr rfl
  obj i h st b hb := by
    obtain rfl := List.mem_singleton.mp hb
    obtain ⟨ok, ov, e⟩ := st
    exact ⟨_, e, fun v z => nomatch z⟩
  keep i h h' st k := by
    obtain ⟨ok, ov, e⟩ := st
    exact ⟨ok, ov, k it (List.mem_singleton.mpr rfl) _ e⟩
  item := by
    rintro X rfl rfl rfl hc i pins s σ H E I hf ⟨ok, ov, he⟩ ⟨hd, hi⟩
    obtain ⟨hs, es', ep', raw, hdt, hsz, ent⟩ := frzT2 I hd
    obtain ⟨rfl, rfl⟩ := dict_ep hod hdt
    rw [← hsz] at he
    have hlt := Heap.lt_size he
    have hi' : i < es'.size := by rw [hsz]; exact hi
    obtain ⟨en, q, h1, h2, h3, h4⟩ := ent i kvs[i].1 kvs[i].2 (List.getElem?_eq_getElem hi)
    obtain rfl : es'[i] = en := Option.some.inj ((Array.getElem?_eq_getElem hi').symm.trans h1)
    refine DT.nextI he raw hi' fun h' out hT hz hk => ⟨_, rfl, ?_⟩
    refine wpAny_letOwnedTupleGo_items (s := { s with heap := h' }) out fun h'' he' sb => ?_
    have hT2 := (sb.2 s.heap.objs.size (Nat.ne_of_gt hlt)).trans hT
    have ok2 : ObjOk X.prog X.w (upd H s.heap.objs.size (.tup [.ref q, kvs[i].2])) h'' s.heap.objs.size (.tup [.ref q, kvs[i].2]) := by
      refine ⟨by show 2 ≤ sizeLine; decide, [es'[i].key, es'[i].val], .cons h2 (.cons h4 .nil), _, hT2, rfl, _, rfl⟩
    have I2 := I.turnedNew (t' := s.toks) (ch := [it]) (fun b ob hb e => (sb.2 b fun z => hb (List.mem_singleton.mpr z)).trans (hk b ob (fun z => hb (List.mem_singleton.mpr z)) e)) hf (Nat.le_refl _) ok2
    refine ⟨.ref s.heap.objs.size, _, I2, rfl, ⟨_, kvs[i].1, kvs[i].2, q, List.getElem?_eq_getElem hi, rfl, h3, I.hok.fresh (Nat.le_refl _), rfl⟩, ⟨_, _, hsz ▸ he'⟩, fun b hb => ?_⟩
    obtain rfl := List.mem_singleton.mp hb
    rw [upd_ne (Nat.ne_of_lt hlt)]
    exact (hf b hb).1
  done := by
    rintro X rfl rfl rfl hc i pins s σ H E I hf ⟨ok, ov, he⟩ ⟨hd, hi⟩
    obtain ⟨f0, f1, _, f3, f4, f5⟩ := hf it (List.mem_singleton.mpr rfl)
    obtain ⟨hs, es', ep', raw, hdt, hsz, ent⟩ := frzT2 I hd
    obtain ⟨rfl, rfl⟩ := dict_ep hod hdt
    rw [← hsz] at he
    exact DT.endI (I.ok.hd hc) he raw (by omega) fun h' eb => ⟨rfl, I.turned (t' := s.toks) (fun b ob hb e => eb b ob hb e) f0 f1 f3 f4 f5⟩
  self A i s Q E st h := by
    obtain ⟨_, _, e⟩ := st
    exact PySem.W.kcp_self e h
/-- for (k), v in d.items() -/
def iItemsA (td : TE) : TI := fun σ H R => td σ H fun x H1 => ∃ d o, x = .ref d ∧ ((∃ kvs, H1 d = some (.frz o (.dK kvs)) ∧ R (Iti d o kvs) H1) ∨ ∃ kvs, H1 d = some (.frz o (.dT kvs)) ∧ R (Itit d o kvs) H1)
theorem pi_itemsA {X : Cx} {e : Expr} {td : TE} {apos cpos : Pos} {elts : List Expr} {kk : Nat} {tpos : Pos} (he : PE X e td) (hbase : attributeBase e "items" X.env (eval e X.env) = eval e X.env) (hline : (apos.endLine == cpos.line) = true) :
    PI X (.Tuple elts kk tpos) (.Call (.Attribute e "items" apos) [] [] cpos) (iItemsA td) := by
  refine ⟨fun pins s σ H R I h => ?_⟩
  refine wpAny_Call_method (T := "dict") (id := "dict.items") hbase rfl hline F.plainAttrs_dict F.slot_dict_items F.type_dict_items (thn (he.run pins s σ H _ I h) fun u s1 h1 => ?_)
  obtain ⟨x, H1, I1, rx, d, o, rfl, q⟩ := h1
  obtain rfl : u = Value.ref d := rx
  have I2 : Inv X pins σ H1 { s1 with heap := s1.heap.push { cls := .type "dict_items", data := .fields #[.ref d] } } := I1.kept (t' := s1.toks) fun b ob q => Heap.get?_push_of_some _ q
  have go : ∀ (es : Array DictEntry) (ep n : Nat) (J : It), (d == sysModules) = false → DT.Raw s1.heap d es ep → es.size = n → (∀ it, Turn X.prog X.w X.K (.Tuple elts kk tpos) J [it] it (fun i h => ∃ ok ov, IsItemIter h it d i n ep ok ov)) → R J H1 →
      s1.TypeIs (.ref d) "dict" ∧ (∀ a, Value.ref d = .ref a → ∃ ob, s1.heap.get? a = some ob ∧ ob.dict = none) ∧ wpAny (model X.prog X.w) X.A (callWith cpos (.builtin "dict.items") [.ref d] [] []) (fun v s1 => wpAny (model X.prog X.w) X.A (pyIter v) (PIE X pins σ (.Tuple elts kk tpos) R) X.xe s1) X.xe s1 := by
    rintro es ep n J hs raw rfl turn q
    refine ⟨raw.typeIs, ?_, ?_⟩
    · intro a e
      obtain rfl : d = a := by injection e
      obtain ⟨ob, h1, h2, h3⟩ := raw
      exact ⟨ob, h1, h2.2.1⟩
    · refine Calls.callWith_builtin rfl (PySem.evalArgs_none ?_)
      refine DT.callItems hs raw ?_
      refine DT.iterI ⟨_, Heap.get?_push_size _ rfl, rfl, rfl⟩ (raw.push _) ?_
      exact pi_one (tk := s1.toks) I2 _ (turn _) ⟨.none, .none, Heap.get?_push_size _ rfl⟩ q
  rcases q with ⟨kvs, hd, q⟩ | ⟨kvs, hd, q⟩
  · obtain ⟨hs, hgd, hx, es, ep, vs, hdt, hsz, kv, hm⟩ := I1.frzK hd
    exact go es ep kvs.length _ hs ⟨o, hgd, hx, hdt⟩ hsz (fun it => turn_items it hdt) q
  · obtain ⟨hs, es, ep, raw, hdt, hsz, _⟩ := frzT2 I1 hd
    exact go es ep kvs.length _ hs raw hsz (fun it => turn_itemsT it hdt) q
end Ev

set_option Elab.async false
set_option linter.all false
set_option maxRecDepth 100000
/-! What is walked: lists, tuples, texts, ranges, pairs, dicts. -/
namespace Ev
open PySem PySem.Spec PyProof.Rows L2

section
variable {C : SC} {s : Sc} {X : Cx} {a b c d : Ex} {a' b' c' d' g : Expr} {pos p apos cpos : Pos} {es : List Ex} {es' : List Expr} {lk : Option Nat}
variable {K : PySem.W.Frag} {base : Bs} {ρ ρ' : List Addr} {R R' H H' : Hp} {m m' : Mem}
/-- a list, a tuple that stays -/
def WvL (K : PySem.W.Frag) (base : Bs) (ρ : List Addr) (R : Hp) (ds : List DV) (v : V) (l : Bool) : Prop :=
  ds.length ≤ SL ∧ ∃ a vs, v = .ref a ∧ Rls K ρ R ds vs ∧ ∀ base' ρ' R' m' H', Lx base base' → Xt ρ R ρ' R' → WR K base' ρ' R' m' H' → if l = true then SqL K H' a vs else SqT K H' a vs
theorem WR.locked (w : WR K base ρ R m H) {n : Nat} {a : Addr} {d : DV} (ha : ρ[n]? = some a) (hm : m[n]? = some (.k d)) : ∃ ob o, CoR K ρ R d o ∧ ∀ base' ρ' R' m' H', Lx base base' → WR K base' ρ' R' m' H' → H' a = some (.frz ob o) := by
  obtain ⟨ob, o, h1, h2⟩ := w.cel n a _ ha hm
  obtain ⟨o', h3⟩ := w.kin n a d ha hm
  have h4 := (w.lk _ h3).1
  rw [h1] at h4
  obtain rfl := Option.some.inj h4
  exact ⟨ob, o, h2, fun base' ρ' R' m' H' l w' => (w'.lk _ (l.2 _ h3)).1⟩
theorem wv_lst (w : WR K base ρ R m H) {x d : DV} {ds : List DV} {v : V} (r : Rl K ρ R x v) (hk : wk m x = some d) (hd : lstD d = some ds) : WvL K base ρ R ds v true := by
  unfold wk at hk
  split at hk
  · rename_i n
    split at hk
    · rename_i d' hm
      obtain rfl := Option.some.inj hk
      obtain ⟨a, ha, rfl⟩ := rl_ref.mp r
      obtain ⟨ob, o, hc, hp⟩ := w.locked ha hm
      cases d' with
      | lst xs =>
        obtain rfl := Option.some.inj hd
        obtain ⟨z, vs, rfl, hr⟩ := hc
        exact ⟨z, a, vs, rfl, hr, fun base' ρ' R' m' H' l x w' => .inl (.inr ⟨ob, hp base' ρ' R' m' H' l w'⟩)⟩
      | _ => first | exact (show False from hc).elim | cases hd
    · cases hk
  · obtain rfl := Option.some.inj hk
    cases x with
    | lst xs =>
      obtain rfl := Option.some.inj hd
      obtain ⟨z, a, vs, rfl, h, hr⟩ := rl_lst.mp r
      exact ⟨z, a, vs, rfl, hr, fun base' ρ' R' m' H' _ x w' => .inl (w'.rd (x.rd h))⟩
    | kl xs =>
      obtain rfl := Option.some.inj hd
      obtain ⟨z, a, vs, rfl, h, hr⟩ := rl_kl.mp r
      exact ⟨z, a, vs, rfl, hr, fun base' ρ' R' m' H' _ x w' => w'.sl (x.sl h)⟩
    | _ => cases hd
theorem wv_tup (w : WR K base ρ R m H) {x d : DV} {ds : List DV} {v : V} (r : Rl K ρ R x v) (hk : wk m x = some d) (hn : lstD d = none) (hd : seqD d = some ds) : WvL K base ρ R ds v false := by
  unfold wk at hk
  split at hk
  · rename_i n
    split at hk
    · rename_i d' hm
      obtain rfl := Option.some.inj hk
      obtain ⟨a, ha, rfl⟩ := rl_ref.mp r
      obtain ⟨ob, o, hc, hp⟩ := w.locked ha hm
      cases d' with
      | lst xs => cases hn
      | _ => first | exact (show False from hc).elim | cases hd
    · cases hk
  · obtain rfl := Option.some.inj hk
    cases x with
    | tup xs =>
      obtain rfl := Option.some.inj hd
      obtain ⟨z, a, vs, rfl, h, hr⟩ := rl_tup.mp r
      exact ⟨z, a, vs, rfl, hr, fun base' ρ' R' m' H' _ x w' => .of (w'.sub _ _ (x.fast h (fun z => z)))⟩
    | kt xs =>
      obtain rfl := Option.some.inj hd
      obtain ⟨z, a, vs, rfl, h, hr⟩ := rl_kt.mp r
      exact ⟨z, a, vs, rfl, hr, fun base' ρ' R' m' H' _ x w' => (w'.nt (x.nt h)).st⟩
    | lst xs => cases hn
    | kl xs => cases hn
    | _ => cases hd
theorem WvL.up (x : Xt ρ R ρ' R') {ds : List DV} {v : V} {l : Bool} (h : WvL K base ρ R ds v l) : WvL K base ρ' R' ds v l := by
  obtain ⟨z, a, vs, e, r, q⟩ := h
  exact ⟨z, a, vs, e, r.mono x, fun base' ρ1 R1 m1 H1 l y w => q base' ρ1 R1 m1 H1 l (x.trans y) w⟩
theorem Rls.at (h : Rls K ρ R ds vs) {i : Nat} {d : DV} {x : V} (hd : ds[i]? = some d) (hx : vs[i]? = some x) : Rl K ρ R d x := by
  obtain ⟨v, e, r⟩ := h.get hd
  rw [hx] at e
  obtain rfl := Option.some.inj e
  exact r
theorem Rls.has (h : Rls K ρ R ds vs) {i : Nat} (hi : i < ds.length) : ∃ v, vs[i]? = some v := by
  rw [← h.length] at hi
  exact ⟨vs[i], List.getElem?_eq_getElem hi⟩
theorem wj_lst {a : Addr} {ds : List DV} {vs : List V} (hz : ds.length ≤ SL) (r : Rls K ρ R ds vs) (h : ∀ base' ρ' R' m' H', Lx base base' → Xt ρ R ρ' R' → WR K base' ρ' R' m' H' → SqL K H' a vs) : WkJ K base ρ R ds (Itl K a) where
  len := hz
  go := fun i base' ρ' R' m H l x w hi => by
    obtain ⟨v, e⟩ := r.has hi
    exact ⟨vs, v, h _ _ _ _ _ l x w, e⟩
  stop := fun base' ρ' R' m H l x w => ⟨vs, h _ _ _ _ _ l x w, Nat.le_of_eq r.length⟩
  yld := fun i base' ρ' R' m H v H' d l x w hd hy => by
    obtain ⟨rfl, hy⟩ := hy
    exact ⟨R', Xt.refl, w, (r.mono x).at hd (hy vs (h _ _ _ _ _ l x w))⟩
theorem wj_tup {a : Addr} {ds : List DV} {vs : List V} (hz : ds.length ≤ SL) (r : Rls K ρ R ds vs) (h : ∀ base' ρ' R' m' H', Lx base base' → Xt ρ R ρ' R' → WR K base' ρ' R' m' H' → SqT K H' a vs) : WkJ K base ρ R ds (Itt K a) where
  len := hz
  go := fun i base' ρ' R' m H l x w hi => by
    obtain ⟨v, e⟩ := r.has hi
    exact ⟨vs, v, h _ _ _ _ _ l x w, e⟩
  stop := fun base' ρ' R' m H l x w => ⟨vs, h _ _ _ _ _ l x w, Nat.le_of_eq r.length⟩
  yld := fun i base' ρ' R' m H v H' d l x w hd hy => by
    obtain ⟨rfl, hy⟩ := hy
    exact ⟨R', Xt.refl, w, (r.mono x).at hd (hy vs (h _ _ _ _ _ l x w))⟩
theorem wj_str {t : List Nat} (hz : t.length ≤ SL) : WkJ K base ρ R (t.map fun c => DV.str [c]) (Its (toS t)) where
  len := by rw [List.length_map]; exact hz
  go := fun i base' ρ' R' m H l x w hi => by
    show i < (toS t).cps.size
    rw [List.length_map] at hi
    simpa [toS] using hi
  stop := fun base' ρ' R' m H l x w => by
    show (toS t).cps.size ≤ _
    simp [toS]
  yld := fun i base' ρ' R' m H v H' d l x w hd hy => by
    obtain ⟨rfl, c, hc, rfl⟩ := hy
    refine ⟨R', Xt.refl, w, ?_⟩
    have hc' : t[i]? = some c := by simpa [toS] using hc
    rw [List.getElem?_map, hc'] at hd
    obtain rfl := Option.some.inj hd
    exact rl_str.mpr ⟨by simp [SL], rfl⟩
theorem wj_rng {lo : Int} {n : Nat} (hz : n ≤ SL) : WkJ K base ρ R ((List.range n).map fun (k : Nat) => DV.int (lo + (k : Int))) (Itr lo n) where
  len := by simpa using hz
  go := fun i base' ρ' R' m H l x w hi => by
    show i < n
    simpa using hi
  stop := fun base' ρ' R' m H l x w => by
    show n ≤ _
    simp
  yld := fun i base' ρ' R' m H v H' d l x w hd hy => by
    obtain ⟨rfl, rfl⟩ := hy
    refine ⟨R', Xt.refl, w, ?_⟩
    rw [List.getElem?_map] at hd
    obtain ⟨k, hk, rfl⟩ := Option.map_eq_some_iff.mp hd
    obtain ⟨hk1, hk2⟩ := List.getElem?_eq_some_iff.mp hk
    rw [List.getElem_range] at hk2
    subst hk2
    exact rl_int.mpr rfl
theorem wj_rngd {lo : Int} {n : Nat} (hz : n ≤ SL) : WkJ K base ρ R ((List.range n).map fun (k : Nat) => DV.int (lo - (k : Int))) (Itc lo (-1) n) where
  len := by simpa using hz
  go := fun i base' ρ' R' m H l x w hi => by
    show i < n
    simpa using hi
  stop := fun base' ρ' R' m H l x w => by
    show n ≤ _
    simp
  yld := fun i base' ρ' R' m H v H' d l x w hd hy => by
    obtain ⟨rfl, rfl⟩ := hy
    refine ⟨R', Xt.refl, w, ?_⟩
    rw [List.getElem?_map] at hd
    obtain ⟨k, hk, rfl⟩ := Option.map_eq_some_iff.mp hd
    obtain ⟨hk1, hk2⟩ := List.getElem?_eq_some_iff.mp hk
    rw [List.getElem_range] at hk2
    subst hk2
    exact rl_int.mpr (by rw [Int.mul_neg_one]; rfl)
theorem wj_revL {a : Addr} {ds : List DV} {vs : List V} (hz : ds.length ≤ SL) (r : Rls K ρ R ds vs) (h : ∀ base' ρ' R' m' H', Lx base base' → Xt ρ R ρ' R' → WR K base' ρ' R' m' H' → SqL K H' a vs) : WkJ K base ρ R ds.reverse (Itv K a vs.length) where
  len := by rw [List.length_reverse]; exact hz
  go := fun i base' ρ' R' m H l x w hi => by
    rw [List.length_reverse, ← r.length] at hi
    exact ⟨hi, vs, vs[vs.length - 1 - i], h _ _ _ _ _ l x w, List.getElem?_eq_getElem (by omega)⟩
  stop := fun base' ρ' R' m H l x w => by
    show vs.length ≤ ds.reverse.length
    rw [List.length_reverse, r.length]
    exact Nat.le_refl _
  yld := fun i base' ρ' R' m H v H' d l x w hd hy => by
    obtain ⟨rfl, hy⟩ := hy
    have hi := (List.getElem?_eq_some_iff.mp hd).1
    rw [List.length_reverse] at hi
    rw [List.getElem?_reverse hi, ← r.length] at hd
    exact ⟨R', Xt.refl, w, (r.mono x).at hd (hy vs (h _ _ _ _ _ l x w))⟩
theorem wj_revT {a : Addr} {ds : List DV} {vs : List V} (hz : ds.length ≤ SL) (r : Rls K ρ R ds vs) (h : ∀ base' ρ' R' m' H', Lx base base' → Xt ρ R ρ' R' → WR K base' ρ' R' m' H' → SqT K H' a vs) : WkJ K base ρ R ds.reverse (RT.ItvT K a vs.length) where
  len := by rw [List.length_reverse]; exact hz
  go := fun i base' ρ' R' m H l x w hi => by
    rw [List.length_reverse, ← r.length] at hi
    exact ⟨hi, vs, vs[vs.length - 1 - i], h _ _ _ _ _ l x w, List.getElem?_eq_getElem (by omega)⟩
  stop := fun base' ρ' R' m H l x w => by
    show vs.length ≤ ds.reverse.length
    rw [List.length_reverse, r.length]
    exact Nat.le_refl _
  yld := fun i base' ρ' R' m H v H' d l x w hd hy => by
    obtain ⟨rfl, hy⟩ := hy
    have hi := (List.getElem?_eq_some_iff.mp hd).1
    rw [List.length_reverse] at hi
    rw [List.getElem?_reverse hi, ← r.length] at hd
    exact ⟨R', Xt.refl, w, (r.mono x).at hd (hy vs (h _ _ _ _ _ l x w))⟩
/-- a new pair -/
theorem new_pair (w : WR K base ρ R m H) {T : Addr} (hT : H T = none) {x y : DV} {vx vy : V} (rx : Rl K ρ R x vx) (ry : Rl K ρ R y vy) : ∃ R'', Xt ρ R ρ R'' ∧ WR K base ρ R'' m (upd H T (.tup [vx, vy])) ∧ Rl K ρ R'' (.tup [x, y]) (.ref T) := by
  obtain ⟨x1, w1⟩ := w.fix hT (.tup [vx, vy])
  exact ⟨_, x1, w1, rl_tup.mpr ⟨by show 2 ≤ SL; decide, T, _, rfl, upd_same, Rls.cons (rx.mono x1) (Rls.cons (ry.mono x1) Rls.nil)⟩⟩
theorem enum_get : ∀ (n : Nat) (xs : List DV) (i : Nat), (enumD n xs)[i]? = (xs[i]?).map fun x => DV.tup [.int ((n + i : Nat) : Int), x]
  | _, [], _ => rfl
  | n, x :: xs, 0 => by simp [enumD]
  | n, x :: xs, i + 1 => by
    rw [enumD, List.getElem?_cons_succ, enum_get (n + 1) xs i, List.getElem?_cons_succ, Nat.add_right_comm]
    rfl
theorem enum_len : ∀ (n : Nat) (xs : List DV), (enumD n xs).length = xs.length
  | _, [] => rfl
  | n, x :: xs => by rw [enumD, List.length_cons, enum_len (n + 1) xs, List.length_cons]
theorem wj_enum {a : Addr} {ds : List DV} {vs : List V} (hz : ds.length ≤ SL) (r : Rls K ρ R ds vs) (h : ∀ base' ρ' R' m' H', Lx base base' → Xt ρ R ρ' R' → WR K base' ρ' R' m' H' → SqL K H' a vs) : WkJ K base ρ R (enumD 0 ds) (Ite K a) where
  len := by rw [enum_len]; exact hz
  go := fun i base' ρ' R' m H l x w hi => by
    rw [enum_len] at hi
    obtain ⟨v, e⟩ := r.has hi
    exact ⟨vs, v, h _ _ _ _ _ l x w, e⟩
  stop := fun base' ρ' R' m H l x w => ⟨vs, h _ _ _ _ _ l x w, by rw [enum_len, r.length]; exact Nat.le_refl _⟩
  yld := fun i base' ρ' R' m H v H' d l x w hd hy => by
    obtain ⟨T, u, rfl, hT, rfl, hy⟩ := hy
    rw [enum_get] at hd
    obtain ⟨y, hd1, rfl⟩ := Option.map_eq_some_iff.mp hd
    have ry := (r.mono x).at hd1 (hy vs (h _ _ _ _ _ l x w))
    rw [Nat.zero_add]
    exact new_pair w hT (rl_int.mpr rfl) ry
theorem wj_enumT {a : Addr} {ds : List DV} {vs : List V} (hz : ds.length ≤ SL) (r : Rls K ρ R ds vs) (h : ∀ base' ρ' R' m' H', Lx base base' → Xt ρ R ρ' R' → WR K base' ρ' R' m' H' → SqT K H' a vs) : WkJ K base ρ R (enumD 0 ds) (IteT K a) where
  len := by rw [enum_len]; exact hz
  go := fun i base' ρ' R' m H l x w hi => by
    rw [enum_len] at hi
    obtain ⟨v, e⟩ := r.has hi
    exact ⟨vs, v, h _ _ _ _ _ l x w, e⟩
  stop := fun base' ρ' R' m H l x w => ⟨vs, h _ _ _ _ _ l x w, by rw [enum_len, r.length]; exact Nat.le_refl _⟩
  yld := fun i base' ρ' R' m H v H' d l x w hd hy => by
    obtain ⟨T, u, rfl, hT, rfl, hy⟩ := hy
    rw [enum_get] at hd
    obtain ⟨y, hd1, rfl⟩ := Option.map_eq_some_iff.mp hd
    have ry := (r.mono x).at hd1 (hy vs (h _ _ _ _ _ l x w))
    rw [Nat.zero_add]
    exact new_pair w hT (rl_int.mpr rfl) ry
theorem pairs_get {xs ys : List DV} {i : Nat} {d : DV} (h : (pairs xs ys)[i]? = some d) : ∃ x y, xs[i]? = some x ∧ ys[i]? = some y ∧ d = .tup [x, y] := by
  unfold pairs at h
  rw [List.getElem?_map] at h
  obtain ⟨⟨x, y⟩, hz, rfl⟩ := Option.map_eq_some_iff.mp h
  rw [List.getElem?_zip_eq_some] at hz
  exact ⟨x, y, hz.1, hz.2, rfl⟩
theorem pairs_len (xs ys : List DV) : (pairs xs ys).length = min xs.length ys.length := by simp [pairs]
theorem wj_zipL {a b : Addr} {ds es : List DV} {vs ws : List V} (hz : ds.length ≤ SL) (r : Rls K ρ R ds vs) (r2 : Rls K ρ R es ws) (h : ∀ base' ρ' R' m' H', Lx base base' → Xt ρ R ρ' R' → WR K base' ρ' R' m' H' → SqL K H' a vs) (h2 : ∀ base' ρ' R' m' H', Lx base base' → Xt ρ R ρ' R' → WR K base' ρ' R' m' H' → SqL K H' b ws) : WkJ K base ρ R (pairs ds es) (Itz K a b) where
  len := by rw [pairs_len]; omega
  go := fun i base' ρ' R' m H l x w hi => by
    rw [pairs_len] at hi
    obtain ⟨v, e⟩ := r.has (i := i) (by omega)
    obtain ⟨v2, e2⟩ := r2.has (i := i) (by omega)
    exact ⟨vs, ws, v, v2, h _ _ _ _ _ l x w, h2 _ _ _ _ _ l x w, e, e2⟩
  stop := fun base' ρ' R' m H l x w => ⟨vs, ws, h _ _ _ _ _ l x w, h2 _ _ _ _ _ l x w, by rw [pairs_len, r.length, r2.length]; omega⟩
  yld := fun i base' ρ' R' m H v H' d l x w hd hy => by
    obtain ⟨T, u1, u2, rfl, hT, rfl, hy, hy2⟩ := hy
    obtain ⟨y1, y2, hd1, hd2, rfl⟩ := pairs_get hd
    exact new_pair w hT ((r.mono x).at hd1 (hy vs (h _ _ _ _ _ l x w))) ((r2.mono x).at hd2 (hy2 ws (h2 _ _ _ _ _ l x w)))
theorem wj_zipT {a b : Addr} {ds es : List DV} {vs ws : List V} (hz : ds.length ≤ SL) (r : Rls K ρ R ds vs) (r2 : Rls K ρ R es ws) (h : ∀ base' ρ' R' m' H', Lx base base' → Xt ρ R ρ' R' → WR K base' ρ' R' m' H' → SqT K H' a vs) (h2 : ∀ base' ρ' R' m' H', Lx base base' → Xt ρ R ρ' R' → WR K base' ρ' R' m' H' → SqT K H' b ws) : WkJ K base ρ R (pairs ds es) (RZ.ItzT K a b) where
  len := by rw [pairs_len]; omega
  go := fun i base' ρ' R' m H l x w hi => by
    rw [pairs_len] at hi
    obtain ⟨v, e⟩ := r.has (i := i) (by omega)
    obtain ⟨v2, e2⟩ := r2.has (i := i) (by omega)
    exact ⟨vs, ws, v, v2, h _ _ _ _ _ l x w, h2 _ _ _ _ _ l x w, e, e2⟩
  stop := fun base' ρ' R' m H l x w => ⟨vs, ws, h _ _ _ _ _ l x w, h2 _ _ _ _ _ l x w, by rw [pairs_len, r.length, r2.length]; omega⟩
  yld := fun i base' ρ' R' m H v H' d l x w hd hy => by
    obtain ⟨T, u1, u2, rfl, hT, rfl, hy, hy2⟩ := hy
    obtain ⟨y1, y2, hd1, hd2, rfl⟩ := pairs_get hd
    exact new_pair w hT ((r.mono x).at hd1 (hy vs (h _ _ _ _ _ l x w))) ((r2.mono x).at hd2 (hy2 ws (h2 _ _ _ _ _ l x w)))
theorem ofKa_rl {K : PySem.W.Frag} {ρ : List Addr} {R : Hp} {k : KA} (hz : kaZ k) : Rl K ρ R (ofKa k) (kV (kaK k)) := by
  cases k with
  | inl i => exact rl_int.mpr rfl
  | inr s => exact rl_str.mpr ⟨hz s rfl, rfl⟩
theorem ofKas_rl {K : PySem.W.Frag} {ρ : List Addr} {R : Hp} : ∀ {ks : List KA}, (∀ k ∈ ks, kaZ k) → Rls K ρ R (ks.map ofKa) ((ks.map kaK).map kV)
  | [], _ => Rls.nil
  | k :: ks, h => Rls.cons (ofKa_rl (h k List.mem_cons_self)) (ofKas_rl fun k hk => h k (List.mem_cons_of_mem _ hk))
/-- a thing that stands in the heap becomes one that is fixed -/
theorem WR.adopt (w : WR K base ρ R m H) {q : Addr} {xs : List V} (hq : H q = some (.tup xs)) : ∃ R'', Xt ρ R ρ R'' ∧ WR K base ρ R'' m H ∧ R'' q = some (.tup xs) := by
  have same : ∀ u, R q = some u → u = .tup xs := fun u e => by
    have := w.sub q u e
    rw [hq] at this
    exact (Option.some.inj this).symm
  have hn : ∀ x, x ∈ ρ → x ≠ q := fun x hx z => by
    subst z
    obtain ⟨n, e⟩ := List.mem_iff_getElem?.mp hx
    obtain ⟨c, _, hc⟩ := w.cell_at e
    cases c with
    | c d =>
      obtain ⟨o, e1, h1⟩ := hc
      rw [hq] at e1
      obtain rfl := Option.some.inj e1
      exact h1.mut
    | k d =>
      obtain ⟨ob, o, e1, h1⟩ := hc
      rw [hq] at e1
      cases e1
  have x : Xt ρ R ρ (upd R q (.tup xs)) := ⟨⟨[], (List.append_nil _).symm⟩, fun y u e => .inl (by
    by_cases hy : y = q
    · subst hy; rw [upd_same, same u e]
    · rw [upd_ne hy]; exact e)⟩
  refine ⟨_, x, ⟨w.len, w.nd, fun y u e => ?_, fun y hy => ?_, fun n y c h1 h2 => (w.cel n y c h1 h2).at x rfl, w.low, w.bas, fun p hp => ?_, w.kin⟩, upd_same⟩
  · by_cases hy : y = q
    · subst hy; rw [upd_same] at e; rw [← e]; exact hq
    · rw [upd_ne hy] at e; exact w.sub y u e
  · rw [upd_ne (hn y hy)]; exact w.own y hy
  · obtain ⟨h1, h2⟩ := w.lk p hp
    refine ⟨h1, h2.imp id fun ⟨h3, h4, h5⟩ => ⟨h3, h4, ?_⟩⟩
    have hne : p.1 ≠ q := fun z => by
      rw [z, hq] at h1
      exact h3 xs (Option.some.inj h1).symm
    rw [upd_ne hne]
    exact h5
theorem wj_keysK {a : Addr} {ob : Obj} {kvs : List (Key × V)} {ks : List KA} (hz : DZ ks) (e : kvs.map (·.1) = ks.map kaK) (h : ∀ base' ρ' R' m' H', Lx base base' → Xt ρ R ρ' R' → WR K base' ρ' R' m' H' → H' a = some (.frz ob (.dK kvs))) : WkJ K base ρ R (ks.map ofKa) (Itk a ob kvs) where
  len := by rw [List.length_map]; exact hz.1
  go := fun i base' ρ' R' m H l x w hi => ⟨h _ _ _ _ _ l x w, by rw [kvs_len e]; rwa [List.length_map] at hi⟩
  stop := fun base' ρ' R' m H l x w => ⟨h _ _ _ _ _ l x w, by rw [kvs_len e, List.length_map]; exact Nat.le_refl _⟩
  yld := fun i base' ρ' R' m H v H' d l x w hd hy => by
    obtain ⟨rfl, k, u, hk, rfl⟩ := hy
    refine ⟨R', Xt.refl, w, ?_⟩
    rw [List.getElem?_map] at hd
    obtain ⟨k', hk', rfl⟩ := Option.map_eq_some_iff.mp hd
    have h1 : (kvs.map (·.1))[i]? = some k := by rw [List.getElem?_map, hk]; rfl
    rw [e, List.getElem?_map, hk'] at h1
    obtain rfl := Option.some.inj h1
    exact ofKa_rl (hz.2 k' (List.mem_of_getElem? hk'))
theorem wj_keysT {a : Addr} {ob : Obj} {kvs : List (List Key × V)} {ks : List (List KA)} (hz : DZT ks) (e : kvs.map (·.1) = ks.map (List.map kaK)) (h : ∀ base' ρ' R' m' H', Lx base base' → Xt ρ R ρ' R' → WR K base' ρ' R' m' H' → H' a = some (.frz ob (.dT kvs))) : WkJ K base ρ R (ks.map fun k => DV.tup (k.map ofKa)) (Itkt a ob kvs) where
  len := by rw [List.length_map]; exact hz.1
  go := fun i base' ρ' R' m H l x w hi => ⟨h _ _ _ _ _ l x w, by rw [kvs_len e]; rwa [List.length_map] at hi⟩
  stop := fun base' ρ' R' m H l x w => ⟨h _ _ _ _ _ l x w, by rw [kvs_len e, List.length_map]; exact Nat.le_refl _⟩
  yld := fun i base' ρ' R' m H v H' d l x w hd hy => by
    obtain ⟨rfl, k, u, q, hk, rfl, hq⟩ := hy
    obtain ⟨R'', x1, w1, hR⟩ := w.adopt hq
    refine ⟨R'', x1, w1, ?_⟩
    rw [List.getElem?_map] at hd
    obtain ⟨k', hk', rfl⟩ := Option.map_eq_some_iff.mp hd
    have h1 : (kvs.map (·.1))[i]? = some k := by rw [List.getElem?_map, hk]; rfl
    rw [e, List.getElem?_map, hk'] at h1
    obtain rfl := Option.some.inj h1
    obtain ⟨z1, z2⟩ := hz.2 k' (List.mem_of_getElem? hk')
    exact rl_tup.mpr ⟨by rw [List.length_map]; exact z1, q, _, rfl, hR, ofKas_rl z2⟩
theorem wj_items {a : Addr} {ob : Obj} {kvs : List (Key × V)} {ks : List KA} {ds : List DV} (hz : DZ ks) (e : kvs.map (·.1) = ks.map kaK) (r : Rls K ρ R ds (kvs.map (·.2))) (h : ∀ base' ρ' R' m' H', Lx base base' → Xt ρ R ρ' R' → WR K base' ρ' R' m' H' → H' a = some (.frz ob (.dK kvs))) : WkJ K base ρ R (pairs (ks.map ofKa) ds) (Iti a ob kvs) where
  len := by rw [pairs_len, List.length_map]; exact Nat.le_trans (Nat.min_le_left _ _) hz.1
  go := fun i base' ρ' R' m H l x w hi => ⟨h _ _ _ _ _ l x w, by
    rw [pairs_len, List.length_map] at hi
    rw [kvs_len e]; omega⟩
  stop := fun base' ρ' R' m H l x w => ⟨h _ _ _ _ _ l x w, by
    have h1 := kvs_len e
    have h2 := r.length
    rw [List.length_map] at h2
    rw [pairs_len, List.length_map]; omega⟩
  yld := fun i base' ρ' R' m H v H' d l x w hd hy => by
    obtain ⟨T, k, u, hk, rfl, hT, rfl⟩ := hy
    obtain ⟨y1, y2, hd1, hd2, rfl⟩ := pairs_get hd
    rw [List.getElem?_map] at hd1
    obtain ⟨k', hk', rfl⟩ := Option.map_eq_some_iff.mp hd1
    have h1 : (kvs.map (·.1))[i]? = some k := by rw [List.getElem?_map, hk]; rfl
    rw [e, List.getElem?_map, hk'] at h1
    obtain rfl := Option.some.inj h1
    exact new_pair w hT (ofKa_rl (hz.2 k' (List.mem_of_getElem? hk'))) ((r.mono x).at hd2 (by rw [List.getElem?_map, hk]; rfl))
theorem wj_itemsT {a : Addr} {ob : Obj} {kvs : List (List Key × V)} {ks : List (List KA)} {ds : List DV} (hz : DZT ks) (e : kvs.map (·.1) = ks.map (List.map kaK)) (r : Rls K ρ R ds (kvs.map (·.2))) (h : ∀ base' ρ' R' m' H', Lx base base' → Xt ρ R ρ' R' → WR K base' ρ' R' m' H' → H' a = some (.frz ob (.dT kvs))) : WkJ K base ρ R (pairs (ks.map fun k => DV.tup (k.map ofKa)) ds) (Itit a ob kvs) where
  len := by rw [pairs_len, List.length_map]; exact Nat.le_trans (Nat.min_le_left _ _) hz.1
  go := fun i base' ρ' R' m H l x w hi => ⟨h _ _ _ _ _ l x w, by
    rw [pairs_len, List.length_map] at hi
    rw [kvs_len e]; omega⟩
  stop := fun base' ρ' R' m H l x w => ⟨h _ _ _ _ _ l x w, by
    have h1 := kvs_len e
    have h2 := r.length
    rw [List.length_map] at h2
    rw [pairs_len, List.length_map]; omega⟩
  yld := fun i base' ρ' R' m H v H' d l x w hd hy => by
    obtain ⟨T, k, u, q, hk, rfl, hq, hT, rfl⟩ := hy
    obtain ⟨R'', x1, w1, hR⟩ := w.adopt hq
    obtain ⟨y1, y2, hd1, hd2, rfl⟩ := pairs_get hd
    rw [List.getElem?_map] at hd1
    obtain ⟨k', hk', rfl⟩ := Option.map_eq_some_iff.mp hd1
    have h1 : (kvs.map (·.1))[i]? = some k := by rw [List.getElem?_map, hk]; rfl
    rw [e, List.getElem?_map, hk'] at h1
    obtain rfl := Option.some.inj h1
    obtain ⟨z1, z2⟩ := hz.2 k' (List.mem_of_getElem? hk')
    obtain ⟨R3, x3, w3, r3⟩ := new_pair w1 hT (rl_tup.mpr ⟨by rw [List.length_map]; exact z1, q, _, rfl, hR, ofKas_rl z2⟩) (((r.mono x).mono x1).at hd2 (by rw [List.getElem?_map, hk]; rfl))
    exact ⟨R3, x1.trans x3, w3, r3⟩
end
end Ev

set_option Elab.async false
set_option linter.all false
set_option maxRecDepth 100000
/-! What is walked: the rules. -/
namespace Ev
open PySem PySem.Spec PyProof.Rows L2

section
variable {C : SC} {s : Sc} {X : Cx} {a b c d : Ex} {a' b' c' d' g : Expr} {pos p apos cpos tpos : Pos} {es : List Ex} {es' elts : List Expr} {lk : Option Nat} {kk : Nat}
variable {base : Bs} {ρ ρ' : List Addr} {R R' H H' : Hp} {m m' m1 : Mem} {env : Env'} {σ : L2.St}
theorem tE_of (w : WR C.K base ρ R m H) (er : ER C.K ρ R env σ) {x : DV} {Q : VK} (h : evE C.F C.cs base.n env a m = .ok x m1) (q : ∀ ρ' R' H' v, Xt ρ R ρ' R' → WR C.K base ρ' R' m1 H' → Rl C.K ρ' R' x v → Q v H') : tE C a σ H Q := ⟨base, ρ, R, m, env, w, er, by rw [h]; exact q⟩
theorem wk_str {m : Mem} {x : DV} {t : List Nat} {K : PySem.W.Frag} {base : Bs} {ρ : List Addr} {R H : Hp} {v : V} (w : WR K base ρ R m H) (r : Rl K ρ R x v) (h : wk m x = some (.str t)) : t.length ≤ SL ∧ v = .str (toS t) := by
  unfold wk at h
  split at h
  · split at h
    · rename_i n d hm
      obtain rfl := Option.some.inj h
      obtain ⟨a, ha, rfl⟩ := rl_ref.mp r
      obtain ⟨ob, o, hc, _⟩ := w.locked ha hm
      exact hc.elim
    · cases h
  · obtain rfl := Option.some.inj h
    exact rl_str.mp r
theorem si_seq (hX : XO C s X) (he : PE X a' (tE C a)) : PI X g a' (tI C lk (.seq a)) := by
  refine ⟨fun pins sh σ H RJ I ⟨base, ρ, R, m, env, w, er, hf, po⟩ => ?_⟩
  unfold evI at po
  cases h0 : evE C.F C.cs base.n env a m with
  | exc _ _ => rw [h0] at po; exact po.elim
  | bad => rw [h0] at po; exact po.elim
  | ok x m1 =>
    rw [h0] at po
    obtain ⟨ds, hd, po⟩ := Po.of (show Po C.K base (WkJ C.K base) ρ R RJ (Out.of ((wk m1 x).bind walkSeq) m1) from po)
    obtain ⟨d, hk, hw⟩ := Option.bind_eq_some_iff.mp hd
    have lst : lstD d = some ds → wpAny (model X.prog X.w) X.A (eval a' X.env) (fun v s1 => wpAny (model X.prog X.w) X.A (pyIter v) (PIE X pins σ g RJ) X.xe s1) X.xe sh := fun hl =>
      (pi_list he).run pins sh σ H RJ I (tE_of w er h0 fun ρ' R' H' v x1 w1 r => by
        obtain ⟨z, p, vs, rfl, rr, hh⟩ := wv_lst w1 r hk hl
        refine ⟨p, rfl, ⟨vs, by rw [hX.K]; exact hh _ _ _ _ _ Lx.refl Xt.refl w1⟩, ?_⟩
        rw [hX.K]
        exact po.ok x1 w1 (wj_lst z rr hh))
    have tup : lstD d = none → seqD d = some ds → wpAny (model X.prog X.w) X.A (eval a' X.env) (fun v s1 => wpAny (model X.prog X.w) X.A (pyIter v) (PIE X pins σ g RJ) X.xe s1) X.xe sh := fun hl hq =>
      (pi_tup he).run pins sh σ H RJ I (tE_of w er h0 fun ρ' R' H' v x1 w1 r => by
        obtain ⟨z, p, vs, rfl, rr, hh⟩ := wv_tup w1 r hk hl hq
        refine ⟨p, rfl, ⟨vs, by rw [hX.K]; exact hh _ _ _ _ _ Lx.refl Xt.refl w1⟩, ?_⟩
        rw [hX.K]
        exact po.ok x1 w1 (wj_tup z rr hh))
    cases d with
    | lst xs => exact lst hw
    | kl xs => exact lst hw
    | tup xs => exact tup rfl hw
    | kt xs => exact tup rfl hw
    | str t =>
      obtain rfl := Option.some.inj hw
      exact (pi_str he).run pins sh σ H RJ I (tE_of w er h0 fun ρ' R' H' v x1 w1 r => by
        obtain ⟨z, rfl⟩ := wk_str w1 r hk
        exact ⟨_, rfl, po.ok x1 w1 (wj_str z)⟩)
    | _ => cases hw
theorem si_rev (hX : XO C s X) (hv : glB s.eff "reversed" = true) (hb : ("reversed" : Str) ∈ C.bi) (he : PE X a' (tE C a)) (hs : noStarE a' = true) : PI X g (.Call (.Name "reversed" p) [a'] [] pos) (tI C lk (.rev a)) := by
  refine ⟨fun pins sh σ H RJ I ⟨base, ρ, R, m, env, w, er, hf, po⟩ => ?_⟩
  refine (RT.pi_revA (tg := g) (glB_ok hX hv) (hX.bi _ hb) he (star_ok hs)).run pins sh σ H RJ I ?_
  unfold evI at po
  cases h0 : evE C.F C.cs base.n env a m with
  | exc _ _ => rw [h0] at po; exact po.elim
  | bad => rw [h0] at po; exact po.elim
  | ok x m1 =>
    rw [h0] at po
    obtain ⟨ds', hd, po⟩ := Po.of (show Po C.K base (WkJ C.K base) ρ R RJ (Out.of (((wk m1 x).bind seqD).map List.reverse) m1) from po)
    obtain ⟨ds, hd1, rfl⟩ := Option.map_eq_some_iff.mp hd
    obtain ⟨d, hk, hw⟩ := Option.bind_eq_some_iff.mp hd1
    refine tE_of w er h0 fun ρ' R' H' v x1 w1 r => ?_
    cases hl : lstD d with
    | some es =>
      have : es = ds := by
        cases d <;> first | (cases hl; done) | exact (Option.some.inj hl).symm.trans (Option.some.inj hw)
      subst this
      obtain ⟨z, p, vs, rfl, rr, hh⟩ := wv_lst w1 r hk hl
      refine ⟨p, vs, rfl, .inl ⟨by rw [hX.K]; exact hh _ _ _ _ _ Lx.refl Xt.refl w1, ?_⟩⟩
      rw [hX.K]
      exact po.ok x1 w1 (wj_revL z rr hh)
    | none =>
      obtain ⟨z, p, vs, rfl, rr, hh⟩ := wv_tup w1 r hk hl hw
      refine ⟨p, vs, rfl, .inr ⟨by rw [hX.K]; exact hh _ _ _ _ _ Lx.refl Xt.refl w1, ?_⟩⟩
      rw [hX.K]
      exact po.ok x1 w1 (wj_revT z rr hh)
theorem SL_62 : (SL : Int) < 2 ^ 62 := by decide
theorem si_rng1 (hX : XO C s X) (hv : glB s.eff "range" = true) (hb : ("range" : Str) ∈ C.bi) (he : PE X a' (tE C a)) (hs : noStarE a' = true) : PI X g (.Call (.Name "range" p) [a'] [] pos) (tI C lk (.rng1 a)) := by
  refine ⟨fun pins sh σ H RJ I ⟨base, ρ, R, m, env, w, er, hf, po⟩ => ?_⟩
  refine (pi_range1 (tg := g) (glB_ok hX hv) (hX.bi _ hb) (sa_cons he sa_nil hs) (star_ok hs)).run pins sh σ H RJ I ?_
  unfold evI at po
  refine ⟨base, ρ, R, m, env, w, er, ?_⟩
  unfold evEs
  cases h0 : evE C.F C.cs base.n env a m with
  | exc _ _ => rw [h0] at po; exact po.elim
  | bad => rw [h0] at po; exact po.elim
  | ok x m1 =>
    rw [h0] at po
    unfold evEs
    intro ρ' R' H' vs x1 w1 r
    obtain ⟨v, rfl, rv⟩ := rls1 r
    cases x with
    | int i =>
      have SL62 := SL_62
      simp only [Out.bind_ok] at po
      by_cases hc : -(2 ^ 62) ≤ i ∧ i ≤ SL
      · rw [if_pos hc] at po
        refine ⟨i, by rw [rl_int.mp rv], hc.1, by omega, ?_⟩
        exact po.ok x1 w1 (wj_rng (lo := 0) (n := i.toNat) (by omega))
      · rw [if_neg hc] at po
        exact po.elim
    | _ => exact po.elim
theorem si_rng2 (hX : XO C s X) (hv : glB s.eff "range" = true) (hb : ("range" : Str) ∈ C.bi) (he : PE X a' (tE C a)) (hs : noStarE a' = true) (he2 : PE X b' (tE C b)) (hs2 : noStarE b' = true) : PI X g (.Call (.Name "range" p) [a', b'] [] pos) (tI C lk (.rng2 a b)) := by
  refine ⟨fun pins sh σ H RJ I ⟨base, ρ, R, m, env, w, er, hf, po⟩ => ?_⟩
  refine (pi_range2 (tg := g) (glB_ok hX hv) (hX.bi _ hb) (sa_cons he (sa_cons he2 sa_nil hs2) hs) (by rw [star_ok hs, star_ok hs2]; rfl) (star_ok hs2)).run pins sh σ H RJ I ?_
  unfold evI at po
  refine ⟨base, ρ, R, m, env, w, er, ?_⟩
  unfold evEs
  cases h0 : evE C.F C.cs base.n env a m with
  | exc _ _ => rw [h0] at po; exact po.elim
  | bad => rw [h0] at po; exact po.elim
  | ok x m1 =>
    rw [h0] at po
    simp only [Out.bind_ok] at po ⊢
    unfold evEs
    cases h1 : evE C.F C.cs base.n env b m1 with
    | exc _ _ => rw [h1] at po; exact po.elim
    | bad => rw [h1] at po; exact po.elim
    | ok y m2 =>
      rw [h1] at po
      simp only [Out.bind_ok] at po ⊢
      unfold evEs
      intro ρ' R' H' vs x1 w1 r
      obtain ⟨v, u, rfl, rv, ru⟩ := rls2 r
      cases x with
      | int i =>
        cases y with
        | int j =>
          simp only at po
          by_cases hc : -(2 ^ 62) ≤ i ∧ i < 2 ^ 62 ∧ -(2 ^ 62) ≤ j ∧ j < 2 ^ 62 ∧ j - i ≤ SL
          · rw [if_pos hc] at po
            refine ⟨i, j, by rw [rl_int.mp rv, rl_int.mp ru], ⟨hc.1, hc.2.1, hc.2.2.1, hc.2.2.2.1⟩, ?_⟩
            exact po.ok x1 w1 (wj_rng (lo := i) (n := (j - i).toNat) (by omega))
          · rw [if_neg hc] at po
            exact po.elim
        | _ => exact po.elim
      | _ => exact po.elim
theorem si_rngd (hX : XO C s X) (hv : glB s.eff "range" = true) (hb : ("range" : Str) ∈ C.bi) (he : PE X a' (tE C a)) (hs : noStarE a' = true) (he2 : PE X b' (tE C b)) (hs2 : noStarE b' = true) {k1 : Nat} {p1 p2 : Pos} (he3 : PE X (.UnaryOp .USub (.Constant (.int 1) k1 p1) p2) (tE C (.neg (.int 1)))) : PI X g (.Call (.Name "range" p) [a', b', .UnaryOp .USub (.Constant (.int 1) k1 p1) p2] [] pos) (tI C lk (.rngd a b)) := by
  refine ⟨fun pins sh σ H RJ I ⟨base, ρ, R, m, env, w, er, hf, po⟩ => ?_⟩
  refine (pi_range3 (tg := g) (glB_ok hX hv) (hX.bi _ hb) (sa_cons he (sa_cons he2 (sa_cons he3 sa_nil rfl) hs2) hs) (by rw [star_ok hs]) (star_any (es := [b', _]) (by rw [List.all_cons, hs2]; rfl))).run pins sh σ H RJ I ?_
  unfold evI at po
  refine ⟨base, ρ, R, m, env, w, er, ?_⟩
  unfold evEs
  cases h0 : evE C.F C.cs base.n env a m with
  | exc _ _ => rw [h0] at po; exact po.elim
  | bad => rw [h0] at po; exact po.elim
  | ok x m1 =>
    rw [h0] at po
    simp only [Out.bind_ok] at po ⊢
    unfold evEs
    cases h1 : evE C.F C.cs base.n env b m1 with
    | exc _ _ => rw [h1] at po; exact po.elim
    | bad => rw [h1] at po; exact po.elim
    | ok y m2 =>
      rw [h1] at po
      simp only [Out.bind_ok] at po ⊢
      unfold evEs
      have h2 : evE C.F C.cs base.n env (.neg (.int 1)) m2 = .ok (.int (-1)) m2 := by rw [evE, evE]; rfl
      rw [h2]
      simp only [Out.bind_ok]
      unfold evEs
      intro ρ' R' H' vs x1 w1 r
      obtain ⟨v, r1, rfl, rv, r2⟩ := Rls.cons_iff.mp r
      obtain ⟨u, z, rfl, ru, rz⟩ := rls2 r2
      cases x with
      | int i =>
        cases y with
        | int j =>
          simp only at po
          by_cases hc : -(2 ^ 62) ≤ i ∧ i < 2 ^ 62 ∧ -(2 ^ 62) ≤ j ∧ j < 2 ^ 62 ∧ i - j ≤ SL
          · rw [if_pos hc] at po
            refine ⟨i, j, -1, (i - j).toNat, by rw [rl_int.mp rv, rl_int.mp ru, rl_int.mp rz], RgC.neg hc.1 hc.2.1 hc.2.2.1 hc.2.2.2.1, ?_⟩
            exact po.ok x1 w1 (wj_rngd (lo := i) (n := (i - j).toNat) (by omega))
          · rw [if_neg hc] at po
            exact po.elim
        | _ => exact po.elim
      | _ => exact po.elim
theorem si_enum (hX : XO C s X) (hv : glB s.eff "enumerate" = true) (hb : ("enumerate" : Str) ∈ C.bi) (he : PE X a' (tE C a)) (hs : noStarE a' = true) : PI X (.Tuple elts kk tpos) (.Call (.Name "enumerate" p) [a'] [] pos) (tI C lk (.enum a)) := by
  refine ⟨fun pins sh σ H RJ I ⟨base, ρ, R, m, env, w, er, hf, po⟩ => ?_⟩
  refine (pi_enumA (elts := elts) (kk := kk) (tpos := tpos) (glB_ok hX hv) (hX.bi _ hb) (sa_cons he sa_nil hs) (star_ok hs)).run pins sh σ H RJ I ?_
  unfold evI at po
  refine ⟨base, ρ, R, m, env, w, er, ?_⟩
  unfold evEs
  cases h0 : evE C.F C.cs base.n env a m with
  | exc _ _ => rw [h0] at po; exact po.elim
  | bad => rw [h0] at po; exact po.elim
  | ok x m1 =>
    rw [h0] at po
    unfold evEs
    intro ρ' R' H' vs x1 w1 r
    obtain ⟨v, rfl, rv⟩ := rls1 r
    obtain ⟨ds', hd, po⟩ := Po.of (show Po C.K base (WkJ C.K base) ρ R RJ (Out.of (((wk m1 x).bind seqD).map (enumD 0)) m1) from po)
    obtain ⟨ds, hd1, rfl⟩ := Option.map_eq_some_iff.mp hd
    obtain ⟨d, hk, hw⟩ := Option.bind_eq_some_iff.mp hd1
    cases hl : lstD d with
    | some es =>
      have : es = ds := by
        cases d <;> first | (cases hl; done) | exact (Option.some.inj hl).symm.trans (Option.some.inj hw)
      subst this
      obtain ⟨z, p, us, rfl, rr, hh⟩ := wv_lst w1 rv hk hl
      refine ⟨p, us, rfl, .inl ⟨by rw [hX.K]; exact hh _ _ _ _ _ Lx.refl Xt.refl w1, ?_⟩⟩
      rw [hX.K]
      exact po.ok x1 w1 (wj_enum z rr hh)
    | none =>
      obtain ⟨z, p, us, rfl, rr, hh⟩ := wv_tup w1 rv hk hl hw
      refine ⟨p, us, rfl, .inr ⟨by rw [hX.K]; exact hh _ _ _ _ _ Lx.refl Xt.refl w1, ?_⟩⟩
      rw [hX.K]
      exact po.ok x1 w1 (wj_enumT z rr hh)
theorem si_zip (hX : XO C s X) (hv : glB s.eff "zip" = true) (hb : ("zip" : Str) ∈ C.bi) (he : PE X a' (tE C a)) (hs : noStarE a' = true) (he2 : PE X b' (tE C b)) (hs2 : noStarE b' = true) : PI X (.Tuple elts kk tpos) (.Call (.Name "zip" p) [a', b'] [] pos) (tI C lk (.zip a b)) := by
  refine ⟨fun pins sh σ H RJ I ⟨base, ρ, R, m, env, w, er, hf, po⟩ => ?_⟩
  refine (RZ.pi_zipA (elts := elts) (kk := kk) (tpos := tpos) (glB_ok hX hv) (hX.bi _ hb) (sa_cons he (sa_cons he2 sa_nil hs2) hs) (star_ok hs) (star_any (es := [b']) (by rw [List.all_cons, hs2]; rfl))).run pins sh σ H RJ I ?_
  unfold evI at po
  refine ⟨base, ρ, R, m, env, w, er, ?_⟩
  unfold evEs
  cases h0 : evE C.F C.cs base.n env a m with
  | exc _ _ => rw [h0] at po; exact po.elim
  | bad => rw [h0] at po; exact po.elim
  | ok x m1 =>
    rw [h0] at po
    simp only [Out.bind_ok] at po ⊢
    unfold evEs
    cases h1 : evE C.F C.cs base.n env b m1 with
    | exc _ _ => rw [h1] at po; exact po.elim
    | bad => rw [h1] at po; exact po.elim
    | ok y m2 =>
      rw [h1] at po
      simp only [Out.bind_ok] at po ⊢
      unfold evEs
      intro ρ' R' H' vs x1 w1 r
      obtain ⟨v, u, rfl, rv, ru⟩ := rls2 r
      obtain ⟨ds', hd, po⟩ := po.of
      obtain ⟨d1, hk1, hd⟩ := Option.bind_eq_some_iff.mp hd
      obtain ⟨d2, hk2, hd⟩ := Option.bind_eq_some_iff.mp hd
      unfold zipD at hd
      split at hd
      · rename_i xs ys e1 e2
        obtain rfl := Option.some.inj hd
        obtain ⟨z, p, us, rfl, rr, hh⟩ := wv_lst w1 rv hk1 e1
        obtain ⟨z2, p2, us2, rfl, rr2, hh2⟩ := wv_lst w1 ru hk2 e2
        refine ⟨p, p2, us, us2, rfl, .inl ⟨by rw [hX.K]; exact hh _ _ _ _ _ Lx.refl Xt.refl w1, by rw [hX.K]; exact hh2 _ _ _ _ _ Lx.refl Xt.refl w1, ?_⟩⟩
        rw [hX.K]
        exact po.ok x1 w1 (wj_zipL z rr rr2 hh hh2)
      · rename_i e1 e2
        obtain ⟨xs, q1, hd⟩ := Option.bind_eq_some_iff.mp hd
        obtain ⟨ys, q2, rfl⟩ := Option.map_eq_some_iff.mp hd
        obtain ⟨z, p, us, rfl, rr, hh⟩ := wv_tup w1 rv hk1 e1 q1
        obtain ⟨z2, p2, us2, rfl, rr2, hh2⟩ := wv_tup w1 ru hk2 e2 q2
        refine ⟨p, p2, us, us2, rfl, .inr ⟨by rw [hX.K]; exact hh _ _ _ _ _ Lx.refl Xt.refl w1, by rw [hX.K]; exact hh2 _ _ _ _ _ Lx.refl Xt.refl w1, ?_⟩⟩
        rw [hX.K]
        exact po.ok x1 w1 (wj_zipT z rr rr2 hh hh2)
      · cases hd
/-! ### dicts: the variable's -/
/-- a name's value: the slot's own -/
theorem var_ans (w : WR C.K base ρ R m H) (er : ER C.K ρ R env σ) {i : Nat} {Q : VK} (q : ∀ d v, env[i]? = some (some d) → σ[i]? = some (some v) → Rl C.K ρ R d v → Q v H) (h : ∃ d, env[i]? = some (some d)) : tVar i σ H Q := by
  obtain ⟨d, h⟩ := h
  obtain ⟨v, h1, h2⟩ := er.2 i d h
  exact ⟨v, h1, q d v h h1 h2⟩
/-- the walked dict, fixed for good -/
theorem wv_dk (w : WR C.K base ρ R m H) {x : DV} {v : V} {ks : List KA} {vs : List DV} (r : Rl C.K ρ R x v) (hf : Fz C.K ρ R m x v) (hk : wk m x = some (.dk ks vs)) : DZ ks ∧ ∃ a ob kvs, v = .ref a ∧ kvs.map (·.1) = ks.map kaK ∧ Rls C.K ρ R vs (kvs.map (·.2)) ∧ ∀ base' ρ' R' m' H', Lx base base' → Xt ρ R ρ' R' → WR C.K base' ρ' R' m' H' → H' a = some (.frz ob (.dK kvs)) := by
  unfold wk at hk
  split at hk
  · split at hk
    · rename_i n d' hm
      obtain rfl := Option.some.inj hk
      obtain ⟨a, ha, rfl⟩ := rl_ref.mp r
      obtain ⟨ob, o, hc, hp⟩ := w.locked ha hm
      obtain ⟨z, kvs, rfl, h1, h2⟩ := hc
      exact ⟨z, a, ob, kvs, rfl, h1, h2, fun base' ρ' R' m' H' l x w' => hp base' ρ' R' m' H' l w'⟩
    · cases hk
  · obtain rfl := Option.some.inj hk
    obtain ⟨z, a, kvs, rfl, hR, h1, h2⟩ := rl_dk.mp r
    obtain ⟨a', ob, kvs', e, hR'⟩ := hf
    obtain rfl : a = a' := by injection e
    rcases hR with hR | ⟨ob', hR⟩
    · rw [hR'] at hR
      cases hR
    · rw [hR'] at hR
      cases hR
      exact ⟨z, a, ob, kvs, rfl, h1, h2, fun base' ρ' R' m' H' l x w' => w'.sub _ _ (x.fast hR' (fun z => z))⟩
theorem wv_dt (w : WR C.K base ρ R m H) {x : DV} {v : V} {ks : List (List KA)} {vs : List DV} (r : Rl C.K ρ R x v) (hf : Fz C.K ρ R m x v) (hk : wk m x = some (.dt ks vs)) : DZT ks ∧ ∃ a ob kvs, v = .ref a ∧ kvs.map (·.1) = ks.map (List.map kaK) ∧ Rls C.K ρ R vs (kvs.map (·.2)) ∧ ∀ base' ρ' R' m' H', Lx base base' → Xt ρ R ρ' R' → WR C.K base' ρ' R' m' H' → H' a = some (.frz ob (.dT kvs)) := by
  unfold wk at hk
  split at hk
  · split at hk
    · rename_i n d' hm
      obtain rfl := Option.some.inj hk
      obtain ⟨a, ha, rfl⟩ := rl_ref.mp r
      obtain ⟨ob, o, hc, hp⟩ := w.locked ha hm
      obtain ⟨z, kvs, rfl, h1, h2⟩ := hc
      exact ⟨z, a, ob, kvs, rfl, h1, h2, fun base' ρ' R' m' H' l x w' => hp base' ρ' R' m' H' l w'⟩
    · cases hk
  · obtain rfl := Option.some.inj hk
    obtain ⟨z, a, kvs, rfl, hR, h1, h2⟩ := rl_dt.mp r
    obtain ⟨a', ob, kvs', e, hR'⟩ := hf
    obtain rfl : a = a' := by injection e
    rcases hR with hR | ⟨ob', hR⟩
    · rw [hR'] at hR
      cases hR
    · rw [hR'] at hR
      cases hR
      exact ⟨z, a, ob, kvs, rfl, h1, h2, fun base' ρ' R' m' H' l x w' => w'.sub _ _ (x.fast hR' (fun z => z))⟩
theorem si_keys (hX : XO C s X) {i : Nat} {x : Str} (hN : C.N[i]? = some x) (hv : visB s.eff x = true) (hd : nDbg x = true) : PI X g (.Name x p) (tI C (some i) (.keys (.var i))) := by
  refine ⟨fun pins sh σ H RJ I ⟨base, ρ, R, m, env, w, er, hf, po⟩ => ?_⟩
  refine (pi_keys (tg := g) (pe_var (i := i) (pos := p) (by rw [hX.N]; exact hN) (by rw [hX.eff]; exact visB_ok hv) (nDbg_1 hd) (nDbg_2 hd))).run pins sh σ H RJ I ?_
  unfold evI evE at po
  cases he : env[i]? with
  | none => simp only [he] at po; exact po.elim
  | some od =>
    cases od with
    | none => simp only [he] at po; exact po.elim
    | some d =>
      simp only [he, Out.bind_ok] at po
      refine var_ans w er (fun d' v h1 h2 r => ?_) ⟨d, he⟩
      rw [he] at h1
      obtain rfl := Option.some.inj (Option.some.inj h1)
      obtain ⟨ds, hw, po⟩ := po.of
      obtain ⟨d2, hk, hw⟩ := Option.bind_eq_some_iff.mp hw
      have fz := hf i d v rfl he h2
      cases d2 with
      | dk ks vs =>
        obtain rfl := Option.some.inj hw
        obtain ⟨z, a, ob, kvs, rfl, e1, e2, hh⟩ := wv_dk w r fz hk
        exact ⟨a, ob, rfl, .inl ⟨kvs, hh _ _ _ _ _ Lx.refl Xt.refl w, po.ok Xt.refl w (wj_keysK z e1 hh)⟩⟩
      | dt ks vs =>
        obtain rfl := Option.some.inj hw
        obtain ⟨z, a, ob, kvs, rfl, e1, e2, hh⟩ := wv_dt w r fz hk
        exact ⟨a, ob, rfl, .inr ⟨kvs, hh _ _ _ _ _ Lx.refl Xt.refl w, po.ok Xt.refl w (wj_keysT z e1 hh)⟩⟩
      | _ => cases hw
theorem si_items (hX : XO C s X) {i : Nat} {x : Str} (hN : C.N[i]? = some x) (hv : visB s.eff x = true) (hd : nDbg x = true) (hl : (apos.endLine == cpos.line) = true) : PI X (.Tuple elts kk tpos) (.Call (.Attribute (.Name x p) "items" apos) [] [] cpos) (tI C (some i) (.items (.var i))) := by
  refine ⟨fun pins sh σ H RJ I ⟨base, ρ, R, m, env, w, er, hf, po⟩ => ?_⟩
  refine (pi_itemsA (elts := elts) (kk := kk) (tpos := tpos) (pe_var (i := i) (pos := p) (by rw [hX.N]; exact hN) (by rw [hX.eff]; exact visB_ok hv) (nDbg_1 hd) (nDbg_2 hd)) rfl hl).run pins sh σ H RJ I ?_
  unfold evI evE at po
  cases he : env[i]? with
  | none => simp only [he] at po; exact po.elim
  | some od =>
    cases od with
    | none => simp only [he] at po; exact po.elim
    | some d =>
      simp only [he, Out.bind_ok] at po
      refine var_ans w er (fun d' v h1 h2 r => ?_) ⟨d, he⟩
      rw [he] at h1
      obtain rfl := Option.some.inj (Option.some.inj h1)
      obtain ⟨ds, hw, po⟩ := po.of
      obtain ⟨d2, hk, hw⟩ := Option.bind_eq_some_iff.mp hw
      have fz := hf i d v rfl he h2
      cases d2 with
      | dk ks vs =>
        obtain rfl := Option.some.inj hw
        obtain ⟨z, a, ob, kvs, rfl, e1, e2, hh⟩ := wv_dk w r fz hk
        exact ⟨a, ob, rfl, .inl ⟨kvs, hh _ _ _ _ _ Lx.refl Xt.refl w, po.ok Xt.refl w (wj_items z e1 e2 hh)⟩⟩
      | dt ks vs =>
        obtain rfl := Option.some.inj hw
        obtain ⟨z, a, ob, kvs, rfl, e1, e2, hh⟩ := wv_dt w r fz hk
        exact ⟨a, ob, rfl, .inr ⟨kvs, hh _ _ _ _ _ Lx.refl Xt.refl w, po.ok Xt.refl w (wj_itemsT z e1 e2 hh)⟩⟩
      | _ => cases hw
end
end Ev

set_option Elab.async false
set_option linter.all false
set_option maxRecDepth 100000
/-! Comprehensions. -/
namespace Ev
open PySem PySem.Spec PyProof.Rows L2

section
variable {K : PySem.W.Frag} {base : Bs} {ρ ρ' : List Addr} {R R' H H' : Hp} {m m' m1 : Mem} {env : Env'} {σ : L2.St}
/-- a new thing: nobody's yet -/
def Bs.hidO (b : Bs) (D : Addr) (o : HO) : Bs := ⟨b.n, (D, o) :: b.L, b.cu, b.cle⟩
abbrev Bs.hid (b : Bs) (D : Addr) (acc : List V) : Bs := b.hidO D (.lst acc)
theorem Bs.hid_lx {b : Bs} {D : Addr} {o : HO} : Lx b (b.hidO D o) := ⟨rfl, fun _ h => List.mem_cons_of_mem _ h⟩
theorem WR.none_of (w : WR K base ρ R m H) {p : Addr} (hp : H p = none) : p ∉ ρ ∧ R p = none := by
  refine ⟨fun h => w.apart h hp rfl, ?_⟩
  cases e : R p with
  | none => rfl
  | some u => rw [w.sub p u e] at hp; cases hp
theorem WR.hideO (w : WR K base ρ R m H) {D : Addr} (hD : H D = none) (o : HO) (ho : ∀ xs, o ≠ .tup xs) : WR K (base.hidO D o) ρ R m (upd H D o) := by
  obtain ⟨n1, n2⟩ := w.none_of hD
  refine ⟨w.len, w.nd, fun a u e => ?_, w.own, fun n a c h1 h2 => (w.cel n a c h1 h2).at Xt.refl (upd_ne fun z => n1 (z ▸ List.mem_of_getElem? h1)), w.low, w.bas, fun q hq => ?_, fun n a d h1 h2 => ?_⟩
  · rw [upd_ne (fun z => by rw [z, n2] at e; cases e)]
    exact w.sub a u e
  · rcases List.mem_cons.mp hq with rfl | hq
    · exact ⟨upd_same, .inr ⟨ho, n1, n2⟩⟩
    · obtain ⟨h1, h2⟩ := w.lk q hq
      exact ⟨by rw [upd_ne (ne_of_none h1 hD)]; exact h1, h2⟩
  · obtain ⟨o, h3⟩ := w.kin n a d h1 h2
    exact ⟨o, List.mem_cons_of_mem _ h3⟩
theorem WR.hide (w : WR K base ρ R m H) {D : Addr} (hD : H D = none) : WR K (base.hid D []) ρ R m (upd H D (.lst [])) := w.hideO hD _ fun _ z => nomatch z
/-- the hidden thing becomes another one -/
theorem WR.growO {D : Addr} {o : HO} (w : WR K (base.hidO D o) ρ R m H) (o' : HO) (hf : ∀ ob u, o ≠ .frz ob u) (ho : ∀ xs, o' ≠ .tup xs) (hL : ∀ p ∈ base.L, p.1 ≠ D) : H D = some o ∧ WR K (base.hidO D o') ρ R m (upd H D o') := by
  obtain ⟨hD, h2⟩ := w.lk _ List.mem_cons_self
  obtain ⟨n1, n2⟩ : D ∉ ρ ∧ R D = none := by
    rcases h2 with ⟨ob, u, h2⟩ | ⟨_, h3, h4⟩
    · exact absurd h2 (hf ob u)
    · exact ⟨h3, h4⟩
  refine ⟨hD, w.len, w.nd, fun a u e => ?_, w.own, fun n a c h1 h2 => (w.cel n a c h1 h2).at Xt.refl (upd_ne fun z => n1 (z ▸ List.mem_of_getElem? h1)), w.low, w.bas, fun q hq => ?_, fun n a d h1 h2 => ?_⟩
  · rw [upd_ne (fun z => by rw [z, n2] at e; cases e)]
    exact w.sub a u e
  · rcases List.mem_cons.mp hq with rfl | hq
    · exact ⟨upd_same, .inr ⟨ho, n1, n2⟩⟩
    · obtain ⟨h1, h2⟩ := w.lk q (List.mem_cons_of_mem _ hq)
      exact ⟨by rw [upd_ne (hL q hq)]; exact h1, h2⟩
  · obtain ⟨o, h3⟩ := w.kin n a d h1 h2
    rcases List.mem_cons.mp h3 with h3 | h3
    · exact absurd (congrArg Prod.fst h3) (fun z => n1 ((show a = D from z) ▸ List.mem_of_getElem? h1))
    · exact ⟨o, List.mem_cons_of_mem _ h3⟩
/-- another item -/
theorem WR.grow {D : Addr} {acc : List V} (w : WR K (base.hid D acc) ρ R m H) (v : V) (hL : ∀ p ∈ base.L, p.1 ≠ D) : H D = some (.lst acc) ∧ WR K (base.hid D (acc ++ [v])) ρ R m (upd H D (.lst (acc ++ [v]))) :=
  w.growO _ (fun _ _ z => nomatch z) (fun _ z => nomatch z) hL
theorem WR.show_ {D : Addr} {o : HO} (w : WR K (base.hidO D o) ρ R m H) (hf : ∀ ob u, o ≠ .frz ob u := by intro _ _ z; cases z) : H D = some o ∧ D ∉ ρ ∧ R D = none ∧ WR K base ρ R m H := by
  obtain ⟨hD, h2⟩ := w.lk _ List.mem_cons_self
  obtain ⟨n1, n2⟩ : D ∉ ρ ∧ R D = none := by
    rcases h2 with ⟨ob, u, h2⟩ | ⟨_, h3, h4⟩
    · exact absurd h2 (hf ob u)
    · exact ⟨h3, h4⟩
  refine ⟨hD, n1, n2, w.len, w.nd, w.sub, w.own, w.cel, w.low, w.bas, fun q hq => w.lk q (List.mem_cons_of_mem _ hq), fun n a d h1 h2 => ?_⟩
  obtain ⟨o, h3⟩ := w.kin n a d h1 h2
  rcases List.mem_cons.mp h3 with h3 | h3
  · exact absurd (congrArg Prod.fst h3) (fun z => n1 ((show a = D from z) ▸ List.mem_of_getElem? h1))
  · exact ⟨o, h3⟩
/-- the list becomes a cell -/
theorem WR.asCell (w : WR K base ρ R m H) {D : Addr} {d : DV} {o : HO} (hD : H D = some o) (h1 : D ∉ ρ) (h2 : R D = none) (hc : CoR K ρ R d o) (hL : ∀ p ∈ base.L, p.1 ≠ D) : Xt ρ R (ρ ++ [D]) R ∧ WR K base (ρ ++ [D]) R (m ++ [.c d]) H := by
  have x : Xt ρ R (ρ ++ [D]) R := ⟨⟨[D], rfl⟩, fun _ _ e => .inl e⟩
  refine ⟨x, by rw [List.length_append, List.length_append, w.len]; rfl, ?_, w.sub, fun a ha => ?_, fun n a c g1 g2 => ?_, fun b n c hb hn g2 => ?_, by rw [List.length_append]; exact Nat.le_add_right_of_le w.bas, fun q hq => ?_, fun n a d' g1 g2 => ?_⟩
  · rw [List.nodup_append]
    refine ⟨w.nd, by simp, fun a ha b hb => ?_⟩
    rw [List.mem_singleton.mp hb]
    exact fun z => h1 (z ▸ ha)
  · rcases List.mem_append.mp ha with ha | ha
    · exact w.own a ha
    · rw [List.mem_singleton.mp ha]; exact h2
  · by_cases hn : n < ρ.length
    · rw [List.getElem?_append_left hn] at g1
      rw [List.getElem?_append_left (by rw [← w.len]; exact hn)] at g2
      exact (w.cel n a c g1 g2).at x rfl
    · rw [List.getElem?_append_right (Nat.le_of_not_lt hn)] at g1
      rw [List.getElem?_append_right (by rw [← w.len]; exact Nat.le_of_not_lt hn), ← w.len] at g2
      have hz : n - ρ.length = 0 := by
        have := (List.getElem?_eq_some_iff.mp g1).1
        simp at this
        omega
      rw [hz] at g1 g2
      simp at g1 g2
      subst g1 g2
      exact ⟨o, hD, hc.mono x⟩
  · have hl : n < m.length := Nat.lt_of_lt_of_le (Nat.lt_of_lt_of_le hn (base.cle _ hb)) w.bas
    rw [List.getElem?_append_left hl] at g2
    exact w.low b n c hb hn g2
  · obtain ⟨g1, g2⟩ := w.lk q hq
    refine ⟨g1, g2.imp id fun ⟨g3, g4, g5⟩ => ⟨g3, fun z => ?_, g5⟩⟩
    rcases List.mem_append.mp z with z | z
    · exact g4 z
    · exact hL q hq (List.mem_singleton.mp z)
  · by_cases hn : n < ρ.length
    · rw [List.getElem?_append_left hn] at g1
      rw [List.getElem?_append_left (by rw [← w.len]; exact hn)] at g2
      exact w.kin n a d' g1 g2
    · rw [List.getElem?_append_right (by rw [← w.len]; exact Nat.le_of_not_lt hn)] at g2
      rw [List.getElem?_singleton] at g2
      split at g2 <;> cases g2
/-- the list is fixed -/
theorem WR.asFix (w : WR K base ρ R m H) {D : Addr} {o : HO} (hD : H D = some o) (h1 : D ∉ ρ) (h2 : R D = none) (hL : ∀ p ∈ base.L, p.1 ≠ D) : Xt ρ R ρ (upd R D o) ∧ WR K base ρ (upd R D o) m H := by
  have x : Xt ρ R ρ (upd R D o) := ⟨⟨[], (List.append_nil _).symm⟩, fun a u e => .inl (by rw [upd_ne (fun z => by rw [z, h2] at e; cases e)]; exact e)⟩
  refine ⟨x, w.len, w.nd, fun a u e => ?_, fun a ha => ?_, fun n a c g1 g2 => (w.cel n a c g1 g2).at x rfl, w.low, w.bas, fun q hq => ?_, w.kin⟩
  · by_cases ha : a = D
    · subst ha; rw [upd_same] at e; rw [← e]; exact hD
    · rw [upd_ne ha] at e; exact w.sub a u e
  · rw [upd_ne (show a ≠ D from fun z => h1 (z ▸ ha))]; exact w.own a ha
  · obtain ⟨g1, g2⟩ := w.lk q hq
    exact ⟨g1, g2.imp id fun ⟨g3, g4, g5⟩ => ⟨g3, g4, by rw [upd_ne (hL q hq)]; exact g5⟩⟩
theorem Po.bindB {α α2 β β2 : Type} {base' : Bs} (T : List Addr → Hp → α → β → Prop) {T2 : List Addr → Hp → α2 → β2 → Prop} {Q : β2 → Hp → Prop} {Q' : β → Hp → Prop} {f : α → Mem → Out α2} : ∀ {o : Out α}, Po K base T2 ρ R Q (o.bind f) →
    (∀ a m1 ρ1 R1 H1 b, Xt ρ R ρ1 R1 → WR K base' ρ1 R1 m1 H1 → T ρ1 R1 a b → Po K base T2 ρ1 R1 Q (f a m1) → Q' b H1) → Po K base' T ρ R Q' o
  | .ok a m, h, k => fun ρ1 R1 H1 b y w t => k a m ρ1 R1 H1 b y w t (h.up y)
  | .exc _ _, h, _ => h
  | .bad, h, _ => h
theorem Po.noExc {α α2 β2 : Type} {T2 : List Addr → Hp → α2 → β2 → Prop} {Q : β2 → Hp → Prop} {f : α → Mem → Out α2} : ∀ {o : Out α}, Po K base T2 ρ R Q (o.noExc.bind f) → Po K base T2 ρ R Q (o.bind f)
  | .ok _ _, h => h
  | .exc _ _, h => h
  | .bad, h => h
/-! ### wiped slots -/
theorem wipe_get (vs : List Nat) (i : Nat) : (wipe σ vs)[i]? = if i ∈ vs then (if i < σ.length then some none else none) else σ[i]? := by
  induction vs with
  | nil => simp [wipe]
  | cons v vs ih =>
    unfold wipe
    by_cases hv : v = i
    · subst hv
      rw [if_pos List.mem_cons_self]
      by_cases hl : v < σ.length
      · rw [if_pos hl, List.getElem?_set_self (by rw [wipe_length]; exact hl)]
      · rw [if_neg hl, List.getElem?_eq_none (by rw [List.length_set, wipe_length]; omega)]
    · rw [List.getElem?_set_ne hv, ih]
      by_cases hi : i ∈ vs
      · rw [if_pos hi, if_pos (List.mem_cons_of_mem _ hi)]
      · rw [if_neg hi, if_neg (by rw [List.mem_cons, not_or]; exact ⟨fun z => hv z.symm, hi⟩)]
theorem wipeE_length (env : Env') : ∀ vs : List Nat, (wipeE env vs).length = env.length
  | [] => rfl
  | v :: vs => by unfold wipeE; rw [List.length_set, wipeE_length env vs]
theorem wipeE_some {d : DV} {i : Nat} : ∀ {vs : List Nat}, (wipeE env vs)[i]? = some (some d) → env[i]? = some (some d) ∧ i ∉ vs
  | [], h => ⟨h, by simp⟩
  | v :: vs, h => by
    unfold wipeE at h
    by_cases hi : v = i
    · subst hi
      by_cases hv : v < (wipeE env vs).length
      · rw [List.getElem?_set_self hv] at h; cases h
      · rw [List.getElem?_eq_none (by simpa using hv)] at h; cases h
    · rw [List.getElem?_set_ne hi] at h
      obtain ⟨h1, h2⟩ := wipeE_some h
      exact ⟨h1, by simp only [List.mem_cons, not_or]; exact ⟨fun e => hi e.symm, h2⟩⟩
theorem ER.wipe (er : ER K ρ R env σ) (vs : List Nat) : ER K ρ R (wipeE env vs) (L2.wipe σ vs) := by
  refine ⟨by rw [wipeE_length, wipe_length]; exact er.1, fun i d h => ?_⟩
  obtain ⟨h1, h2⟩ := wipeE_some h
  obtain ⟨v, h3, h4⟩ := er.2 i d h1
  exact ⟨v, by rw [wipe_get, if_neg h2]; exact h3, h4⟩
theorem wipe_only {vs ws : List Nat} {σ2 : L2.St} (h : Only ws (wipe σ vs) σ2) (hs : ∀ i ∈ ws, i ∈ vs) : wipe σ2 vs = wipe σ vs := by
  apply List.ext_getElem?
  intro i
  have hl : σ2.length = σ.length := by rw [h.1, wipe_length]
  rw [wipe_get, wipe_get, hl]
  by_cases hi : i ∈ vs
  · rw [if_pos hi, if_pos hi]
  · rw [if_neg hi, if_neg hi, h.2 i (fun z => hi (hs i z)), wipe_get, if_neg hi]
end
section
variable {C : SC} {s : Sc} {X : Cx} {base : Bs} {ρ ρ' : List Addr} {R R' H H' : Hp} {m m' m1 : Mem} {env : Env'} {σ : L2.St}
/-- a comprehension's answer, behind the lock -/
def compIn (C : SC) (n : Nat) (env : Env') (cell : Bool) (own : List Nat) (t : Ta) (it : Itx) (tests : List Ts) (el : Ex) (m : Mem) : Out DV :=
  ((evI C.F C.cs n env it m).bind fun w m => compLoop (fun d m => asgT C.F C.cs n (wipeE env own) t d m) (fun env m => evTs C.F C.cs n env tests m) (fun env m => evE C.F C.cs n env el m) w [] m).noExc.bind fun xs m =>
        if cell = true then .ok (.ref m.length) (m ++ [.c (.lst xs)]) else .ok (.lst xs) m
theorem comp_core {lk : Option Nat} {cell : Bool} {own : List Nat} {t : Ta} {it : Itx} {tests : List Ts} {el : Ex} {Q : VK} (w : WR C.K base ρ R m H) (er : ER C.K ρ R env σ) (hf : Fzd C.K lk env σ ρ R m) (hv : ∀ i ∈ tvars t, i ∈ own)
    (po : Po C.K base (Rl C.K) ρ R Q (compIn C base.n env cell own t it tests el m)) : tLc (tI C lk it) (tG C t) (tTsL C tests) (tE C el) own σ H Q := by
  unfold compIn at po
  have po := po.noExc
  rw [Out.bind_assoc] at po
  refine ⟨base, ρ, R, m, env, w, er, hf, (Po.bind (WkJ C.K base) po).mono fun J H1 h1 => h1.run fun ds m1 ρ1 R1 x1 w1 wj po1 => ?_⟩
  intro D hD
  have hL : ∀ p ∈ base.L, p.1 ≠ D := fun p hp => ne_of_none (w1.lk p hp).1 hD
  have er1 := er.mono x1
  refine ⟨fun i n H' => n + i = ds.length ∧ ∃ acc vs ρ' R' m', acc.length ≤ i ∧ Xt ρ1 R1 ρ' R' ∧ WR C.K (base.hid D vs) ρ' R' m' H' ∧ Rls C.K ρ' R' acc vs ∧
    Po C.K base (Rl C.K) ρ' R' Q ((compLoop (fun d m => asgT C.F C.cs base.n (wipeE env own) t d m) (fun env m => evTs C.F C.cs base.n env tests m) (fun env m => evE C.F C.cs base.n env el m) (ds.drop i) acc m').bind fun xs m =>
        if cell = true then .ok (.ref m.length) (m ++ [Cell.c (DV.lst xs)]) else .ok (.lst xs) m), ⟨ds.length, rfl, [], [], ρ1, R1, m1, Nat.le_refl 0, Xt.refl, w1.hide hD, Rls.nil, po1⟩, ?_⟩
  rintro i n H' ⟨hn, acc, vs, ρ', R', m', ha, x', w', ra, po'⟩
  cases n with
  | zero =>
    obtain rfl : i = ds.length := by omega
    refine .inl ⟨wj.stop _ ρ' R' m' H' Bs.hid_lx x' w', ?_⟩
    rw [List.drop_length] at po'
    unfold compLoop at po'
    simp only [Out.bind_ok] at po'
    obtain ⟨g1, g2, g3, w2⟩ := w'.show_
    have hz : acc.length ≤ SL := Nat.le_trans ha wj.len
    cases cell with
    | true =>
      simp only [if_true] at po'
      obtain ⟨x3, w3⟩ := w2.asCell (d := .lst acc) g1 g2 g3 ⟨hz, vs, rfl, ra⟩ hL
      exact po'.ok x3 w3 (rl_ref.mpr ⟨D, by rw [← w2.len, List.getElem?_append_right (Nat.le_refl _), Nat.sub_self]; rfl, rfl⟩)
    | false =>
      simp only [Bool.false_eq_true, if_false] at po'
      obtain ⟨x3, w3⟩ := w2.asFix g1 g2 g3 hL
      exact po'.ok x3 w3 (rl_lst.mpr ⟨hz, D, vs, rfl, .inl upd_same, ra.mono x3⟩)
  | succ n =>
    have hi : i < ds.length := by omega
    refine .inr ⟨wj.go i _ ρ' R' m' H' Bs.hid_lx x' w' hi, fun H' => ∃ acc vs ρ' R' m', acc.length ≤ i + 1 ∧ Xt ρ1 R1 ρ' R' ∧ WR C.K (base.hid D vs) ρ' R' m' H' ∧ Rls C.K ρ' R' acc vs ∧
      Po C.K base (Rl C.K) ρ' R' Q ((compLoop (fun d m => asgT C.F C.cs base.n (wipeE env own) t d m) (fun env m => evTs C.F C.cs base.n env tests m) (fun env m => evE C.F C.cs base.n env el m) (ds.drop (i + 1)) acc m').bind fun xs m =>
        if cell = true then .ok (.ref m.length) (m ++ [Cell.c (DV.lst xs)]) else .ok (.lst xs) m),
      fun H' h => ⟨n, Nat.lt_succ_self n, by omega, h⟩, fun v H3 hy => ?_⟩
    obtain ⟨R3, x3, w3, r3⟩ := wj.yld i _ ρ' R' m' H' v H3 ds[i] Bs.hid_lx x' w' (List.getElem?_eq_getElem hi) hy
    rw [List.drop_eq_getElem_cons hi] at po'
    unfold compLoop at po'
    rw [Out.bind_assoc] at po'
    refine ⟨base.hid D vs, ρ', R3, m', wipeE env own, ds[i], w3, ((er1.mono x').mono x3).wipe own, r3, Po.bindB (EO C.K (tvars t) (wipe σ own)) (po'.up x3) fun env4 m4 ρ4 R4 H4 σ4 x4 w4 er4 po4 => ?_⟩
    refine ⟨wipe_only er4.2 hv, base.hid D vs, ρ4, R4, m4, env4, w4, er4.1, ?_⟩
    rw [Out.bind_assoc] at po4
    refine Po.bindB TB po4 fun k m5 ρ5 R5 H5 k' x5 w5 e5 po5 => ?_
    obtain rfl : k' = k := e5
    have xx := ((x'.trans x3).trans x4).trans x5
    have ra5 := ((ra.mono x3).mono x4).mono x5
    cases k' with
    | false =>
      simp only [Bool.false_eq_true, if_false] at po5 ⊢
      exact ⟨acc, vs, ρ5, R5, m5, Nat.le_succ_of_le ha, xx, w5, ra5, po5⟩
    | true =>
      simp only [if_true] at po5 ⊢
      rw [Out.bind_assoc] at po5
      refine ⟨base.hid D vs, ρ5, R5, m5, env4, w5, er4.1.mono x5, Po.bindB (Rl C.K) po5 fun y m6 ρ6 R6 H6 vy x6 w6 ry po6 => ?_⟩
      obtain ⟨hD6, w7⟩ := w6.grow vy hL
      have ra6 := ra5.mono x6
      refine ⟨vs, hD6, ?_, acc ++ [y], vs ++ [vy], ρ6, R6, m6, by rw [List.length_append]; exact Nat.succ_le_succ ha, xx.trans x6, w7, ra6.append (Rls.cons ry Rls.nil), po6⟩
      rw [ra6.length]
      exact Nat.lt_of_lt_of_le (Nat.lt_of_le_of_lt ha hi) (Nat.le_trans wj.len SL_line)
end
end Ev

set_option Elab.async false
set_option linter.all false
set_option maxRecDepth 100000
/-! Comprehensions: the rules. -/
namespace Ev
open PySem PySem.Spec PyProof.Rows L2

section
variable {C : SC} {s : Sc} {X : Cx} {a b c d : Ex} {a' b' c' d' g : Expr} {pos p apos cpos tpos : Pos} {es : List Ex} {es' elts : List Expr} {lk : Option Nat} {kk : Nat}
theorem sts_nil : PTs X [] (tTsL C []) := ⟨fun pins sh σ H Q I ⟨base, ρ, R, m, env, w, er, po⟩ => by
  unfold evTs at po
  exact pts_nil.run pins sh σ H Q I (po.ok Xt.refl w rfl)⟩
theorem sts_one {t : Ts} (h : PT X c' (tT C t)) : PTs X [c'] (tTsL C [t]) := ⟨fun pins sh σ H Q I ⟨base, ρ, R, m, env, w, er, po⟩ => by
  refine (pts_one h).run pins sh σ H Q I ⟨base, ρ, R, m, env, w, er, ?_⟩
  unfold evTs at po
  cases ho : evT C.F C.cs base.n env t m with
  | ok k m1 =>
    rw [ho] at po
    intro ρ' R' H' b x w' e
    obtain rfl : b = k := e
    simp only [Out.bind_ok] at po
    cases b with
    | true =>
      simp only [if_true] at po
      unfold evTs at po
      exact po.ok x w' rfl
    | false => exact po.ok x w' rfl
  | exc _ _ => rw [ho] at po; exact po
  | bad => rw [ho] at po; exact po⟩
/-- a comprehension's block -/
def Sc.blk (s : Sc) (scope : Scope) : Sc := ⟨relS scope s.eff, scope⟩
theorem XO.blk (hX : XO C s X) {scope : Scope} (sh : Shared) (H : Hp) (cl : List (Str × Addr)) (A : Addr) (fp : List Addr) : XO C (s.blk scope) (X.blk sh H scope (compEnvC scope cl A X.env) fp) where
  K := hX.K
  N := hX.N
  nd := hX.nd
  calm := hX.calm
  eff := by
    show relS scope X.env.scope = relS scope s.eff
    rw [hX.eff]
  loc := fun x h => lookup_relS_keep (by decide) h
  cel := fun x h => ⟨by
    show (scope.names.lookup x == some NameKind.cell) = true
    rw [show scope.names.lookup x = some .cell from h]
    rfl, lookup_relS_keep (by decide) h⟩
  bi := hX.bi
  room := hX.room
  fn := fun f x h => ⟨(hX.fn f x h).ex⟩
  con := hX.con
def ownP (N : List Str) (own : List Nat) : List (Str × Nat) := own.filterMap fun i => (N[i]?).map fun x => (x, i)
theorem sd_comp (hX : XO C s X) {cell : Bool} {own : List Nat} {t : Ta} {it : Itx} {tests : List Ts} {el : Ex} {elt tg iter : Expr} {ifs : List Expr} {scope : Scope} (hi : PI X tg iter (tI C lk it)) (ok : blkC C.N s.eff scope (ownP C.N own) = true) (hn : (ownP C.N own).map (·.2) = own) (hv : ∀ i ∈ tvars t, i ∈ own)
    (hg : ∀ X', XO C (s.blk scope) X' → PG X' tg (tG C t)) (ht : ∀ X', XO C (s.blk scope) X' → PTs X' ifs (tTsL C tests)) (he : ∀ X', XO C (s.blk scope) X' → PE X' elt (tE C el)) (hs : ∀ x, foldedSetIterable iter X.env x = pure x) :
    PE X (.ListComp elt [⟨tg, iter, ifs, 0⟩] scope pos) (tE C (.comp lk cell own t it tests el)) := by
  have bo : BlkOk X.N X.env.scope scope (ownP C.N own) := by rw [hX.N, hX.eff]; exact blkOk_by ok
  refine (pe_pre (pe_lc (own := ownP C.N own) hX.calm hX.nd hi bo (fun sh H A cl fp => hg _ (hX.blk sh H cl A fp)) (fun sh H A cl fp => ht _ (hX.blk sh H cl A fp)) (fun sh H A cl fp => he _ (hX.blk sh H cl A fp)) hs)).imp ?_
  rintro σ H Q ⟨base, ρ, R, m, env, w, er, po⟩
  unfold evE at po
  cases hl : lockV env lk m with
  | none => simp only [hl] at po; exact po.elim
  | some q =>
    obtain ⟨o, m1⟩ := q
    simp only [hl] at po
    refine lock_ex w er hl po fun base' R' H1 Q' hb x1 w1 er1 hf po1 => ?_
    rw [hn]
    rw [← hb] at po1
    exact comp_core (cell := cell) w1 er1 hf hv po1
/-- x = [..] on one line: the name is stored as the frame goes -/
theorem s_asgLc (hX : XS C s X) {i : Nat} {y : Str} {py spos : Pos} {cell : Bool} {own : List Nat} {t : Ta} {it : Itx} {tests : List Ts} {el : Ex} {elt tg iter : Expr} {ifs : List Expr} {scope : Scope} (hN : C.N[i]? = some y) (hl : isLoc s.eff y = true)
    (hsw : swapsWith (.ListComp elt [⟨tg, iter, ifs, 0⟩] scope pos) (some (.Name y py)) spos.line X.env = pure true)
    (hi : PI X tg iter (tI C lk it)) (ok : blkC C.N s.eff scope (ownP C.N own) = true) (hn : (ownP C.N own).map (·.2) = own) (hv : ∀ i ∈ tvars t, i ∈ own)
    (hg : ∀ X', XO C (s.blk scope) X' → PG X' tg (tG C t)) (ht : ∀ X', XO C (s.blk scope) X' → PTs X' ifs (tTsL C tests)) (he : ∀ X', XO C (s.blk scope) X' → PE X' elt (tE C el)) (hs : ∀ x, foldedSetIterable iter X.env x = pure x) :
    PS X (.Assign [.Name y py] (.ListComp elt [⟨tg, iter, ifs, 0⟩] scope pos) spos) (tS C (.asg (.v i) (.comp lk cell own t it tests el))) := by
  have bo : BlkOk X.N X.env.scope scope (ownP C.N own) := by rw [hX.N, hX.eff]; exact blkOk_by ok
  refine (ps_pre (ps_setLc (own := ownP C.N own) hX.calm hX.nd (by rw [hX.N]; exact hN) (by rw [hX.eff]; exact isLoc_ok hl) hsw hi bo (fun sh H A cl fp => hg _ (hX.toXO.blk sh H cl A fp)) (fun sh H A cl fp => ht _ (hX.toXO.blk sh H cl A fp)) (fun sh H A cl fp => he _ (hX.toXO.blk sh H cl A fp)) hs)).imp ?_
  rintro D σ H ⟨base, ρ, R, m, env, w, er, po⟩
  unfold evS evE at po
  cases hl : lockV env lk m with
  | none => simp only [hl] at po; exact po.elim
  | some q =>
    obtain ⟨o, m1⟩ := q
    simp only [hl] at po
    have po2 := (PoS.so (Rl C.K) po).mono (Q' := fun v H1 => gName i v σ H1 D.nx) fun v H1 ⟨d, m2, ρ2, R2, x2, w2, r2, po2⟩ => by
      unfold asgT at po2
      by_cases hc : i < env.length
      · rw [if_pos hc] at po2
        exact (show PoS C.K base ρ2 R2 D (.nx (env.set i (some d)) m2) from po2).nx Xt.refl w2 ((er.mono x2).set r2)
      · rw [if_neg hc] at po2
        exact po2.elim
    have fin := lock_ex (t := tLc (tI C lk it) (tG C t) (tTsL C tests) (tE C el) own) w er hl po2 fun base' R' H1 Q' hb x1 w1 er1 hf po1 => by
      rw [← hb] at po1
      exact comp_core (cell := cell) w1 er1 hf hv po1
    rw [hn]
    rcases fin with h | ⟨d, u, h1, h2, h3⟩ | ⟨d, u, h1, h2, h3⟩
    · exact .inl h
    · exact .inr (.inl ⟨d, u, h1, h2, fun od => h3 od⟩)
    · exact .inr (.inr ⟨d, u, h1, h2, fun od => h3 od⟩)
end
end Ev

set_option Elab.async false
set_option linter.all false
set_option maxRecDepth 100000
set_option maxHeartbeats 1000000
/-! dict(d), sorted(..), {k: v, ..}. -/
namespace Ev
open PySem PySem.Spec PyProof.Rows L2

section
variable {C : SC} {s : Sc} {X : Cx}
theorem WR.newCell {base : Bs} {ρ : List Addr} {R H : Hp} {m : Mem} {Q : VK} {p : Addr} {d : DV} {o : HO} (w : WR C.K base ρ R m H) (hp : H p = none) (hc : CoR C.K ρ R d o) (po : Po C.K base (Rl C.K) ρ R Q (.ok (.ref m.length) (m ++ [.c d]))) : Q (.ref p) (upd H p o) := by
  obtain ⟨x, w'⟩ := w.new hp hc
  exact po.ok x w' (rl_ref.mpr ⟨p, by rw [← w.len, List.getElem?_append_right (Nat.le_refl _), Nat.sub_self]; rfl, rfl⟩)
theorem WR.newFix {base : Bs} {ρ : List Addr} {R H : Hp} {m : Mem} {Q : VK} {p : Addr} {ds : List DV} {vs : List V} (w : WR C.K base ρ R m H) (hp : H p = none) (hz : ds.length ≤ SL) (hc : Rls C.K ρ R ds vs) (po : Po C.K base (Rl C.K) ρ R Q (.ok (.lst ds) m)) : Q (.ref p) (upd H p (.lst vs)) := by
  obtain ⟨x, w'⟩ := w.fix hp (.lst vs)
  exact po.ok x w' (rl_lst.mpr ⟨hz, p, vs, rfl, .inl upd_same, hc.mono x⟩)
/-! ### sorted -/
mutual
theorem toks_eq : ∀ d : DV, dtoks d = PySem.W.keyToks (toPD d)
  | .non => by simp [dtoks, toPD, PySem.W.keyToks]
  | .bl b => by simp [dtoks, toPD, PySem.W.keyToks]
  | .int i => by simp [dtoks, toPD, PySem.W.keyToks]
  | .str t => by simp [dtoks, toPD, PySem.W.keyToks, toS]
  | .tup xs => by rw [dtoks, toPD, PySem.W.keyToks]; exact tokss_eq xs
  | .kt xs => by rw [dtoks, toPD, PySem.W.keyToks]; exact tokss_eq xs
  | .lst xs => by rw [dtoks, toPD, PySem.W.keyToks]; exact tokss_eq xs
  | .kl xs => by rw [dtoks, toPD, PySem.W.keyToks]; exact tokss_eq xs
  | .ref _ => by simp [dtoks, toPD, PySem.W.keyToks]
  | .dk _ _ => by simp [dtoks, toPD, PySem.W.keyToks]
  | .dt _ _ => by simp [dtoks, toPD, PySem.W.keyToks]
theorem tokss_eq : ∀ ds : List DV, dtokss ds = PySem.W.keyToksAll (toPDs ds)
  | [] => by simp [dtokss, toPDs, PySem.W.keyToksAll]
  | d :: ds => by rw [dtokss, toPDs, PySem.W.keyToksAll, toks_eq d, tokss_eq ds]
end
mutual
theorem alike_eq : ∀ d e : DV, dalike d e = true → PySem.W.alike (toPD d) (toPD e) = true
  | .tup xs, e, h => by
    cases e <;> first | (simp [dalike] at h; done) | skip
    all_goals (rw [dalike] at h; rw [toPD, toPD, PySem.W.alike]; exact alikes_eq xs _ h)
  | .kt xs, e, h => by
    cases e <;> first | (simp [dalike] at h; done) | skip
    all_goals (rw [dalike] at h; rw [toPD, toPD, PySem.W.alike]; exact alikes_eq xs _ h)
  | .lst xs, e, h => by
    cases e <;> first | (simp [dalike] at h; done) | skip
    all_goals (rw [dalike] at h; rw [toPD, toPD, PySem.W.alike]; exact alikes_eq xs _ h)
  | .non, e, h => by cases e <;> first | (simp [dalike] at h; done) | simp [toPD, PySem.W.alike]
  | .bl _, e, h => by cases e <;> first | (simp [dalike] at h; done) | simp [toPD, PySem.W.alike]
  | .int _, e, h => by cases e <;> first | (simp [dalike] at h; done) | simp [toPD, PySem.W.alike]
  | .str _, e, h => by cases e <;> first | (simp [dalike] at h; done) | simp [toPD, PySem.W.alike]
  | .kl _, e, h => by cases e <;> (simp [dalike] at h)
  | .ref _, e, h => by cases e <;> (simp [dalike] at h)
  | .dk _ _, e, h => by cases e <;> (simp [dalike] at h)
  | .dt _ _, e, h => by cases e <;> (simp [dalike] at h)
theorem alikes_eq : ∀ ds es : List DV, dalikes ds es = true → PySem.W.alikeAll (toPDs ds) (toPDs es) = true
  | [], es, h => by cases es <;> simp [toPDs, PySem.W.alikeAll]
  | d :: ds, [], h => by simp [toPDs, PySem.W.alikeAll]
  | d :: ds, e :: es, h => by
    rw [dalikes, Bool.and_eq_true] at h
    rw [toPDs, toPDs, PySem.W.alikeAll, alike_eq d e h.1, alikes_eq ds es h.2]
    rfl
end
theorem le_eq : (fun a b : DV => !dlt b a) = PySem.W.dataLe false toPD := by
  rw [PySem.W.dataLe_eq]
  funext a b
  show (!dlt b a) = !PySem.W.dataLt (toPD b) (toPD a)
  unfold dlt PySem.W.dataLt
  rw [toks_eq, toks_eq]
/-- a value that stands for d -/
def St2 (K : PySem.W.Frag) (ρ : List Addr) (R : Hp) (u : Value) (d : DV) : Prop := ∃ v, RelV v u ∧ Rl K ρ R d v
theorem each_of {K : PySem.W.Frag} {ρ : List Addr} {R : Hp} : ∀ {ds : List DV} {vs : List V} {us : List Value}, Rls K ρ R ds vs → Vals vs us → PySem.W.EachIs (St2 K ρ R) us ds
  | [], vs, us, r, q => by
    obtain rfl := Rls.nil_iff.mp r
    cases q
    exact .nil
  | d :: ds, vs, us, r, q => by
    obtain ⟨v, r', rfl, h1, h2⟩ := Rls.cons_iff.mp r
    cases q with
    | cons q1 q2 => exact .cons ⟨v, q1, h1⟩ (each_of h2 q2)
theorem of_each {K : PySem.W.Frag} {ρ : List Addr} {R : Hp} : ∀ {ds : List DV} {us : List Value}, PySem.W.EachIs (St2 K ρ R) us ds → ∃ vs, Rls K ρ R ds vs ∧ Vals vs us
  | _, _, .nil => ⟨[], Rls.nil, .nil⟩
  | _, _, .cons ⟨v, h1, h2⟩ t => by
    obtain ⟨vs, h3, h4⟩ := of_each t
    exact ⟨v :: vs, Rls.cons h2 h3, .cons h1 h4⟩
theorem each_mono {α β : Type} {P Q : α → β → Prop} : ∀ {as : List α} {bs : List β}, PySem.W.EachIs P as bs → (∀ a b, b ∈ bs → P a b → Q a b) → PySem.W.EachIs Q as bs
  | _, _, .nil, _ => .nil
  | _, _, .cons h t, k => .cons (k _ _ List.mem_cons_self h) (each_mono t fun a b m => k a b (List.mem_cons_of_mem _ m))
theorem pr_sortL (hX : XO C s X) : CallR X (.builtin "sorted") (fun vs H Q => ∃ base ρ R m v ds, WR C.K base ρ R m H ∧ vs = [v] ∧ ds.length ≤ SL ∧ (∃ a us, v = .ref a ∧ SqL C.K H a us ∧ Rls C.K ρ R ds us) ∧ ∃ es, dsort ds = some es ∧ ∀ p us, H p = none → es.length ≤ SL → Rls C.K ρ R es us → Q (.ref p) (upd H p (.lst us))) := by
  obtain ⟨kr, hr⟩ := hX.room
  intro pins sh σ H xs us Q I rs ⟨base, ρ, R, m, v, ds, w, e, hz, ⟨a, vs, e2, hS, r⟩, es, hs, q⟩
  subst e e2
  obtain ⟨u, rfl, ru⟩ := vals1 rs
  obtain rfl : u = Value.ref a := ru
  rw [← hX.K] at hS
  obtain ⟨its, rv, pl, hz2⟩ := I.list hS
  unfold dsort at hs
  obtain ⟨hcond, rfl⟩ := some_if hs
  simp only [Bool.and_eq_true, Bool.or_eq_true, List.all_eq_true] at hcond
  obtain ⟨⟨hk, hq⟩, hal⟩ := hcond
  have e := each_of r rv
  have hun := hr.un
  refine PySem.W.sorted_data (enc := toPD) (R := St2 C.K ρ R) pl.isList e (each_mono e fun u d hd ⟨v, h1, h2⟩ => ?_) ?_ ?_ (Nat.le_trans hz SL_line) (fun d hd => ?_) fun out hlen hout => ?_
  · have hp : Dp X.K H v (toPD d) := by rw [hX.K]; exact Rl.dp w 64 d v h2 (hq d hd)
    exact Dp.reads I _ v u hp h1
  · intro x hx y hy
    obtain ⟨d1, m1, rfl⟩ := List.mem_map.mp hx
    obtain ⟨d2, m2, rfl⟩ := List.mem_map.mp hy
    exact alike_eq _ _ (hal d1 m1 d2 m2)
  · rcases hk with hk | hk
    · refine .inl fun x hx => ?_
      obtain ⟨d1, m1, rfl⟩ := List.mem_map.mp hx
      have := hk d1 m1
      cases d1 <;> first | (cases this; done) | skip
      all_goals
        rename_i ys
        cases ys with
        | nil => cases this
        | cons y ys => exact ⟨_, _, by rw [toPD, toPDs]⟩
    · refine .inr fun x hx => ?_
      obtain ⟨d1, m1, rfl⟩ := List.mem_map.mp hx
      have := hk d1 m1
      cases d1 <;> first | (cases this; done) | skip
      all_goals
        refine ⟨fun z => ?_, fun ys z => ?_⟩
        · rw [toPD] at z
          cases z
        · rw [toPD] at z
          cases z
  · have := pd_depth 64 d (hq d hd)
    omega
  · rw [← le_eq] at hout
    obtain ⟨vs2, h1, h2⟩ := of_each hout
    obtain ⟨ep, he'⟩ := PyProof.Rows.sortedAll_at sh.heap its out.toArray
    have hzl : (ds.mergeSort fun a b => !dlt b a).length ≤ SL := by rw [List.length_mergeSort]; exact hz
    have hl2 : vs2.length ≤ sizeLine := by rw [h1.length]; exact Nat.le_trans hzl SL_line
    exact ⟨.ref _, upd H (sh.heap.objs.size + 1) (.lst vs2), I.laid (t' := sh.toks) (fun _ _ => PyProof.Rows.sortedAll_old) (Nat.le_succ _) ⟨hl2, out, ep, h2, he'⟩, rfl, q _ _ (I.hok.fresh (Nat.le_succ _)) hzl h1⟩
theorem intKs_ok : ∀ {ks : List KA} {ns : List Int}, intKs ks = some ns → ks.map kaK = ns.map Sum.inl
  | [], ns, h => by obtain rfl := Option.some.inj h; rfl
  | .inl i :: r, ns, h => by
    obtain ⟨ms, h1, rfl⟩ := Option.map_eq_some_iff.mp h
    rw [List.map_cons, List.map_cons, intKs_ok h1]
    rfl
  | .inr _ :: _, ns, h => nomatch h
theorem ints_rls {K : PySem.W.Frag} {ρ : List Addr} {R : Hp} : ∀ ns : List Int, Rls K ρ R (ns.map DV.int) (ns.map V.int)
  | [] => Rls.nil
  | n :: ns => Rls.cons (rl_int.mpr rfl) (ints_rls ns)
theorem sorted_uniq {ys ks : List Int} (hp : ys.Perm ks) (hs : ys.Pairwise (· ≤ ·)) : ys = ks.mergeSort fun a b => decide (a ≤ b) := by
  refine List.Perm.eq_of_pairwise (le := fun a b : Int => a ≤ b) (fun a b _ _ h1 h2 => Int.le_antisymm h1 h2) hs ?_ (hp.trans (List.mergeSort_perm ks _).symm)
  have := List.pairwise_mergeSort (le := fun a b : Int => decide (a ≤ b)) (fun a b c h1 h2 => by simp only [decide_eq_true_eq] at *; omega) (fun a b => by simp only [Bool.or_eq_true, decide_eq_true_eq]; omega) ks
  exact this.imp fun h => of_decide_eq_true h
theorem pr_sorted (hX : XO C s X) : CallR X (.builtin "sorted") (rPr C .sorted) := by
  intro pins sh σ H vs us Q I rvs ⟨base, ρ, R, m, xs, w, rx, po⟩
  obtain ⟨z, hz, po⟩ := po.of
  unfold primD at hz
  split at hz <;> first | (exfalso; exact Pr.noConfusion ‹_›) | skip
  · rename_i ks js e
    obtain ⟨x, rfl, ex⟩ := one_of e
    obtain ⟨v, rfl, r1⟩ := rls1 rx
    have hd := Hl.of w r1
    rw [ex] at hd
    obtain ⟨dz, a, kvs, rfl, hR, e1, r2⟩ := hd
    obtain ⟨ns, hn, hz⟩ := Option.bind_eq_some_iff.mp hz
    obtain ⟨h64, rfl⟩ := some_if hz
    have hk := intKs_ok hn
    refine call_sortedDI hX.calm pins sh σ H _ us Q I rvs ⟨a, kvs, ns, rfl, hR, by rw [e1, hk], h64, fun ys p hp hs hn => ?_⟩
    rw [sorted_uniq hp hs]
    refine w.newFix hn ?_ (ints_rls _) po
    rw [List.length_map, List.length_mergeSort]
    exact Nat.le_trans (Nat.le_of_lt h64) (by decide)
  · rename_i x0 hne e
    obtain ⟨x, rfl, ex⟩ := one_of e
    obtain ⟨v, rfl, r1⟩ := rls1 rx
    obtain ⟨es, hs, rfl⟩ := Option.map_eq_some_iff.mp hz
    obtain ⟨ds, hd, hs⟩ := Option.bind_eq_some_iff.mp hs
    rw [← ex] at hd
    obtain ⟨l, q, us2, rfl, h2, r2⟩ := lst_of w r1 hd
    exact pr_sortL hX pins sh σ H _ us Q I rvs ⟨base, ρ, R, m, _, ds, w, rfl, l, ⟨q, us2, rfl, h2, r2⟩, es, hs, fun p us3 hp hl h3 => w.newFix hp hl h3 po⟩
  · cases hz
/-! ### {k: v, ..} -/
def trsOf (C : SC) : List Ex → List (TE × TE)
  | k :: v :: r => (tE C k, tE C v) :: trsOf C r
  | _ => []
def PRel (K : PySem.W.Frag) (ρ : List Addr) (R : Hp) : List DV → List (V × V) → Prop
  | k :: v :: r, p :: ps => Rl K ρ R k p.1 ∧ Rl K ρ R v p.2 ∧ PRel K ρ R r ps
  | [], [] => True
  | _, _ => False
theorem PRel.mono {K : PySem.W.Frag} {ρ ρ' : List Addr} {R R' : Hp} (x : Xt ρ R ρ' R') : ∀ {xs : List DV} {ps : List (V × V)}, PRel K ρ R xs ps → PRel K ρ' R' xs ps
  | k :: v :: r, p :: ps, h => ⟨h.1.mono x, h.2.1.mono x, PRel.mono x h.2.2⟩
  | [], [], _ => True.intro
  | [], _ :: _, h => h
  | [_], [], h => h
  | [_], _ :: _, h => h
  | _ :: _ :: _, [], h => h
theorem pairs_run {base base' : Bs} (hb : base'.n = base.n) {α2 β2 : Type} {T2 : List Addr → Hp → α2 → β2 → Prop} {Q2 : β2 → Hp → Prop} {env : Env'} {σ : L2.St} :
    ∀ (es : List Ex) (f : List DV → Mem → Out α2) {ρ : List Addr} {R H : Hp} {m : Mem} {Q' : List (V × V) → Hp → Prop}, es.length % 2 = 0 → WR C.K base' ρ R m H → ER C.K ρ R env σ → Po C.K base T2 ρ R Q2 ((evEs C.F C.cs base.n env es m).bind f) →
    (∀ xs m1 ρ1 R1 H1 ps, Xt ρ R ρ1 R1 → WR C.K base' ρ1 R1 m1 H1 → PRel C.K ρ1 R1 xs ps → 2 * ps.length = es.length → Po C.K base T2 ρ1 R1 Q2 (f xs m1) → Q' ps H1) → tPairs (trsOf C es) σ H Q'
  | [], f, ρ, R, H, m, Q', _, w, er, po, k => by
    unfold evEs at po
    exact k [] m ρ R H [] Xt.refl w True.intro rfl po
  | [_], f, ρ, R, H, m, Q', he, w, er, po, k => by simp at he
  | a :: b :: r, f, ρ, R, H, m, Q', he, w, er, po, k => by
    unfold evEs at po
    rw [Out.bind_assoc] at po
    refine ⟨base', ρ, R, m, env, w, er, ?_⟩
    rw [hb]
    refine Po.bindB (Rl C.K) po fun x m1 ρ1 R1 H1 vx x1 w1 rx po1 => ?_
    unfold evEs at po1
    rw [Out.bind_assoc, Out.bind_assoc] at po1
    refine ⟨base', ρ1, R1, m1, env, w1, er.mono x1, ?_⟩
    rw [hb]
    refine Po.bindB (Rl C.K) po1 fun y m2 ρ2 R2 H2 vy x2 w2 ry po2 => ?_
    rw [Out.bind_assoc] at po2
    refine pairs_run hb r (fun xs m => f (x :: y :: xs) m) (by simp only [List.length_cons] at he; omega) w2 ((er.mono x1).mono x2) po2 fun xs m3 ρ3 R3 H3 ps x3 w3 rp hlen po3 => ?_
    exact k (x :: y :: xs) m3 ρ3 R3 H3 ((vx, vy) :: ps) ((x1.trans x2).trans x3) w3 ⟨(rx.mono x2).mono x3, ry.mono x3, rp⟩ (by simp only [List.length_cons]; omega) po3
theorem disp_ok {K : PySem.W.Frag} {base : Bs} {ρ : List Addr} {R H : Hp} {m : Mem} (w : WR K base ρ R m H) : ∀ {xs : List DV} {ps : List (V × V)} {ks : List KA} {vs : List DV} {kvs : List (Key × V)} {d : DV}, PRel K ρ R xs ps → dispD xs ks vs = some d → kvs.map (·.1) = ks.map kaK → Rls K ρ R vs (kvs.map (·.2)) → (∀ k ∈ ks, kaZ k) →
    ∃ more ks' vs', ps = more.map (fun kv => (kV kv.1, kv.2)) ∧ d = .dk ks' vs' ∧ (mergeK kvs more).map (·.1) = ks'.map kaK ∧ Rls K ρ R vs' ((mergeK kvs more).map (·.2)) ∧ (∀ k ∈ ks', kaZ k) ∧ ks'.length ≤ ks.length + ps.length
  | [], [], ks, vs, kvs, d, _, h, e, r, hz => by
    obtain rfl := Option.some.inj h
    exact ⟨[], ks, vs, rfl, rfl, e, r, hz, Nat.le_refl _⟩
  | k :: v :: xs, p :: ps, ks, vs, kvs, d, hp, h, e, r, hz => by
    obtain ⟨r1, r2, r3⟩ := hp
    obtain ⟨j, hj, h⟩ := Option.bind_eq_some_iff.mp h
    obtain ⟨p1, p2⟩ := kv_put (fun a b => kaK_inj) r2 j e r
    obtain ⟨more, ks', vs', e1, e2, e3, e4, e5, e6⟩ := disp_ok w r3 h p1 p2 (fun q hq => (putK'_mem hq).elim (fun z => z ▸ kaZ_of r1 hj) (hz q))
    have hk : p.1 = kV (kaK j) := kaOf_rl' r1 hj
    refine ⟨(kaK j, p.2) :: more, ks', vs', ?_, e2, e3, e4, e5, ?_⟩
    · rw [List.map_cons, ← e1, ← hk]
    · have := putK'_len ks j
      rw [List.length_cons]
      omega
  | [], _ :: _, _, _, _, _, hp, _, _, _, _ => hp.elim
  | [_], [], _, _, _, _, hp, _, _, _, _ => hp.elim
  | [_], _ :: _, _, _, _, _, hp, _, _, _, _ => hp.elim
  | _ :: _ :: _, [], _, _, _, _, hp, _, _, _, _ => hp.elim
theorem sd_disp {es : List Ex} {keys : List (Option Expr)} {values : List Expr} {pos : Pos} (h : PPs X pos keys values (trsOf C es)) (h2 : es.length % 2 = 0) (h30 : es.length ≤ 30) (hall : keys.all (·.isSome) = true) (hl : keys.length = values.length) (h0 : keys ≠ []) (h15 : keys.length ≤ 15) : PE X (.Dict keys values pos) (tE C (.dispM es)) := by
  refine (pe_disp h hall hl h0 h15).imp ?_
  rintro σ H Q ⟨base, ρ, R, m, env, w, er, po⟩
  unfold evE at po
  intro p hp
  have hL : ∀ q ∈ base.L, q.1 ≠ p := fun q hq => ne_of_none (w.lk q hq).1 hp
  refine pairs_run (base := base) (base' := base.hidO p (.dK [])) rfl es _ h2 (w.hideO hp (.dK []) (fun _ z => nomatch z)) er po fun xs m1 ρ1 R1 H1 ps x1 w1 rp hlen po1 => ?_
  obtain ⟨g1, g2, g3, w2⟩ := w1.show_
  cases hd : dispD xs [] [] with
  | none => rw [hd] at po1; exact po1.elim
  | some d =>
    rw [hd] at po1
    obtain ⟨more, ks', vs', e1, rfl, e3, e4, e5, e6⟩ := disp_ok (kvs := []) w2 rp hd rfl Rls.nil (fun k hk => nomatch hk)
    have hz : more.length ≤ 15 := by
      have := congrArg List.length e1
      rw [List.length_map] at this
      omega
    refine ⟨g1, more, e1, hz, ?_⟩
    have hks : ks'.length ≤ SL := Nat.le_trans e6 (by simp only [List.length_nil, SL]; omega)
    obtain ⟨_, w3⟩ := w1.growO (.dK (mergeK [] more)) (fun _ _ z => nomatch z) (fun _ z => nomatch z) hL
    obtain ⟨k1, k2, k3, w4⟩ := w3.show_
    obtain ⟨x5, w5⟩ := w4.asCell (d := .dk ks' vs') k1 k2 k3 ⟨⟨hks, e5⟩, _, rfl, e3, e4⟩ hL
    exact po1.ok x5 w5 (rl_ref.mpr ⟨p, by rw [← w4.len, List.getElem?_append_right (Nat.le_refl _), Nat.sub_self]; rfl, rfl⟩)
end
end Ev

set_option Elab.async false
set_option linter.all false
set_option maxRecDepth 100000
set_option maxHeartbeats 1000000
/-! Tuples that are known to have no dict; dict(..) of rows of pairs. -/
namespace Ev
open PySem PySem.Spec PyProof.Rows L2

section
variable {X : Cx} {pins : List (Addr × Obj)} {σ : L2.St} {H : Hp} {s : Shared}
theorem plainT_of {a : Addr} {xs : List V} (I : Inv X pins σ H s) (h : NT X.K H a xs) : ∃ its : List Value, Vals xs its ∧ PySem.PlainSeq "tuple" s.heap a its.toArray ∧ xs.length ≤ sizeLine := by
  rcases h with ⟨o, e, hd⟩ | ⟨o, its, n, hk, hc, hd, hs, hz, r⟩
  · obtain ⟨e1, z, its, rv, o', e2, hc, n, hs⟩ := I.hok a _ e
    obtain rfl := Option.some.inj (e1.symm.trans e2)
    exact ⟨its, rv, ⟨o, n, e1, hc, hd, hs⟩, z⟩
  · refine ⟨its.toList, r, ⟨o, n, I.kIn a o hk, hc, hd, by simpa using hs⟩, ?_⟩
    have e := r.length
    simp only [Array.length_toList] at e
    omega
theorem plainL_of {a : Addr} {xs : List V} (I : Inv X pins σ H s) (h : SqL X.K H a xs) : ∃ its : List Value, Vals xs its ∧ PySem.PlainSeq "list" s.heap a its.toArray ∧ xs.length ≤ sizeLine := by
  obtain ⟨its, r, ⟨o, n, e⟩, z⟩ := I.list h
  exact ⟨its, r, ⟨o, n, e⟩, z⟩
/-- the values of pairs -/
theorem pairs_of2 (I : Inv X pins σ H s) : ∀ {ps : List Addr} {kvs : List (Key × V)}, Paired (fun p kv => SqT X.K H p [kV kv.1, kv.2]) ps kvs →
    ∃ (prs : List (Key × Value)) (vv : List (Value × Value)), KV kvs prs ∧ prs.length = ps.length ∧ vv.length = ps.length ∧ ∀ (j : Nat) (k v : Value), vv[j]? = some (k, v) → ∃ (b : Addr) (q : Key), ps[j]? = some b ∧ prs[j]? = some (q, v) ∧ keyIs q k = true ∧ PairAt s.heap b k v
  | _, _, .nil => ⟨[], [], .nil, rfl, rfl, fun j k v e => by simp at e⟩
  | _, _, .cons (a := p) (b := kv) h t => by
    obtain ⟨prs, vv, r, hl, hl2, hp⟩ := pairs_of2 I t
    obtain ⟨its, rv, ht, _⟩ := I.tuple h
    obtain ⟨u, y, ei, ru, ry⟩ := vals2 rv
    subst ei
    refine ⟨(kv.1, y) :: prs, (u, y) :: vv, .cons ⟨rfl, ry⟩ r, by rw [List.length_cons, List.length_cons, hl], by rw [List.length_cons, List.length_cons, hl2], fun j k v e => ?_⟩
    cases j with
    | zero =>
      have e' : (u, y) = (k, v) := Option.some.inj e
      injection e' with e1 e2
      subst e1 e2
      obtain ⟨o, ho, hc, n, hd⟩ := ht
      exact ⟨p, kv.1, rfl, rfl, kV_is (P := X.prog) (w := X.w) ru, .inl ⟨o, ho, hc, n, hd⟩⟩
    | succ j =>
      obtain ⟨b, q, e1, e2, e3, e4⟩ := hp j k v (by simpa using e)
      exact ⟨b, q, by simpa using e1, by simpa using e2, e3, e4⟩
theorem pairs_of3 (I : Inv X pins σ H s) : ∀ {ps : List Addr} {kvs : List (List Key × V)}, Paired (fun p kv => ∃ b, SqT X.K H p [.ref b, kv.2] ∧ H b = some (.tup (kv.1.map kV))) ps kvs →
    ∃ (xs : List (List Key × Addr × Value)) (vv : List (Value × Value)), KT H kvs xs ∧ xs.length = ps.length ∧ vv.length = ps.length ∧ ∀ (j : Nat) (k v : Value), vv[j]? = some (k, v) → ∃ (b c : Addr) (q : List Key), ps[j]? = some b ∧ xs[j]? = some (q, c, v) ∧ k = .ref c ∧ PairAt s.heap b k v
  | _, _, .nil => ⟨[], [], .nil, rfl, rfl, fun j k v e => by simp at e⟩
  | _, _, .cons (a := p) (b := kv) h t => by
    obtain ⟨prs, vv, r, hl, hl2, hp⟩ := pairs_of3 I t
    obtain ⟨c, h, hc0⟩ := h
    obtain ⟨its, rv, ht, _⟩ := I.tuple h
    obtain ⟨u, y, ei, ru, ry⟩ := vals2 rv
    subst ei
    obtain rfl : u = Value.ref c := ru
    refine ⟨(kv.1, c, y) :: prs, (.ref c, y) :: vv, .cons ⟨rfl, hc0, ry⟩ r, by rw [List.length_cons, List.length_cons, hl], by rw [List.length_cons, List.length_cons, hl2], fun j k v e => ?_⟩
    cases j with
    | zero =>
      have e' : (Value.ref c, y) = (k, v) := Option.some.inj e
      injection e' with e1 e2
      subst e1 e2
      obtain ⟨o, ho, hc, n, hd⟩ := ht
      exact ⟨p, c, kv.1, rfl, rfl, rfl, .inl ⟨o, ho, hc, n, hd⟩⟩
    | succ j =>
      obtain ⟨b, c', q, e1, e2, e3, e4⟩ := hp j k v (by simpa using e)
      exact ⟨b, c', q, by simpa using e1, by simpa using e2, e3, e4⟩
/-- the rows as they stand -/
theorem items_of {ps : List Addr} {vv : List (Value × Value)} {F : Nat → Value → Value → Addr → Prop} (hl : vv.length = ps.length) (h : ∀ (j : Nat) (k v : Value), vv[j]? = some (k, v) → ∃ b, ps[j]? = some b ∧ PairAt s.heap b k v) : PairItems s.heap (ps.map Value.ref).toArray (fun j => ps.getD j 0) vv := by
  refine ⟨by simp [hl], fun j k v e => ?_⟩
  obtain ⟨b, e1, e2⟩ := h j k v e
  have : ps.getD j 0 = b := by rw [List.getD_eq_getElem?_getD, e1]; rfl
  show (List.map Value.ref ps).toArray[j]? = some (Value.ref (ps.getD j 0)) ∧ PairAt s.heap (ps.getD j 0) k v
  rw [this]
  exact ⟨by simp [e1], e2⟩
end
/-- kvs with more put in -/
def mergeG {κ : Type} [DecidableEq κ] (kvs more : List (κ × V)) : List (κ × V) := more.foldl (fun acc kv => putK acc kv.1 kv.2) kvs
theorem mergeG_len {κ : Type} [DecidableEq κ] : ∀ (more kvs : List (κ × V)), (mergeG kvs more).length ≤ kvs.length + more.length
  | [], kvs => Nat.le_refl _
  | x :: more, kvs => by
    have h := mergeG_len more (putK kvs x.1 x.2)
    have h2 : (putK kvs x.1 x.2).length ≤ kvs.length + 1 := by
      unfold putK
      split
      · rw [List.length_map]; omega
      · rw [List.length_append]; exact Nat.le_refl _
    show (mergeG (putK kvs x.1 x.2) more).length ≤ _
    rw [List.length_cons]; omega
theorem KT.merge {H : Hp} : ∀ {more : List (List Key × V)} {rs : List (List Key × Addr × Value)} {kvs : List (List Key × V)} {vs : List (List Key × Addr × Value)}, KT H more rs → KT H kvs vs → KT H (mergeG kvs more) (storedAllH vs rs)
  | _, _, _, _, .nil, q => q
  | _, _, kvs, vs, .cons (a := p) (b := r) (l₁ := ps) (l₂ := rs) h t, q => by
    obtain ⟨h1, h2, h3⟩ := h
    obtain ⟨r1, r2, r3⟩ := r
    obtain rfl : p.1 = r1 := h1
    exact show KT H (mergeG (putK kvs p.1 p.2) ps) (storedAllH (storedH vs p.1 r2 r3) rs) from KT.merge (more := ps) (rs := rs) t (q.put p.1 h2 h3)
section
variable {X : Cx}
/-- dict(rows): of a list, or of a tuple that has no dict -/
theorem call_dictPK (hcalm : X.calm = true) : CallR X (.type "dict") (fun xs H Q => ∃ (a : Addr) (ps : List Addr) (kvs : List (Key × V)), xs = [.ref a] ∧ (SqL X.K H a (ps.map V.ref) ∨ NT X.K H a (ps.map V.ref)) ∧ Paired (fun p kv => SqT X.K H p [kV kv.1, kv.2]) ps kvs ∧
    ∀ p, H p = none → Q (.ref p) (upd H p (.dK (mergeK [] kvs)))) := by
  intro pins s σ H xs us Q I r ⟨a, ps, kvs, ex, hq, hp, q⟩
  subst ex
  obtain ⟨u, eu, rx⟩ := vals1 r
  subst eu
  cases rx
  obtain ⟨prs, vv, rel, hl, hl2, hv⟩ := pairs_of2 I hp
  have hm : (s.heap.objs.size == sysModules) = false := beq_eq_false_iff_ne.mpr (Nat.ne_of_gt I.big)
  have fin : ∀ h' tk, ps.length ≤ sizeLine → h'.DictOf (mixKind X.prog X.w) s.heap.objs.size (merged [] prs) → (∀ b o, b ∉ ([] : List Addr) → s.heap.get? b = some o → h'.get? b = some o) → EP X pins σ Q (.ref s.heap.objs.size) { s with heap := h', toks := tk } := fun h' tk hz hd' k => by
    have hlen : (mergeK [] kvs).length ≤ sizeLine := by
      refine Nat.le_trans (length_mergeK kvs []) ?_
      rw [List.length_nil, Nat.zero_add, rel.length, hl]
      exact hz
    exact ⟨.ref s.heap.objs.size, upd H s.heap.objs.size (.dK (mergeK [] kvs)), I.laid (t' := tk) (fun b o e => k b o (fun z => nomatch z) e) (Nat.le_refl _) (show ObjOk X.prog X.w _ _ _ (.dK (mergeK [] kvs)) from ⟨hlen, hm, merged [] prs, KV.merge rel .nil, hd'⟩), rfl, q _ (I.hok.fresh (Nat.le_refl _))⟩
  have have_ : PairsHave (mixKind X.prog X.w) vv.length (PairRel vv) prs := by
    refine ⟨by rw [hl, hl2], fun i key v e => ?_⟩
    obtain ⟨b, q, _, e2, e3, _⟩ := hv i key v e
    exact ⟨q, e2, e3⟩
  have its_ : PairItems s.heap (ps.map Value.ref).toArray (fun j => ps.getD j 0) vv := items_of (F := fun _ _ _ _ => True) hl2 fun j k v e => let ⟨b, _, e1, _, _, e4⟩ := hv j k v e; ⟨b, e1, e4⟩
  rcases hq with hq | hq
  · obtain ⟨its, rv, pl, hz⟩ := plainL_of I hq
    have ei := refs_at rv
    subst ei
    rw [List.length_map] at hz
    exact PySem.call_dict_pairs (PairArg.list (prog := X.prog) (w := X.w) a _ _ vv) (I.ok.hd hcalm) ⟨pl, its_⟩ have_ (by rw [hl2]; exact hz) fun h' tk hd' k => fin h' tk hz hd' k
  · obtain ⟨its, rv, pl, hz⟩ := plainT_of I hq
    have ei := refs_at rv
    subst ei
    rw [List.length_map] at hz
    exact PySem.call_dict_pairs (PairArg.tuple (prog := X.prog) (w := X.w) a _ _ vv) (I.ok.hd hcalm) ⟨pl, its_⟩ have_ (by rw [hl2]; exact hz) fun h' tk hd' k => fin h' tk hz hd' k
theorem call_dictPT (hcalm : X.calm = true) (hu : X.A.units + 64 < cLine) : CallR X (.type "dict") (fun xs H Q => ∃ (a : Addr) (ps : List Addr) (kvs : List (List Key × V)), xs = [.ref a] ∧ (SqL X.K H a (ps.map V.ref) ∨ NT X.K H a (ps.map V.ref)) ∧ Paired (fun p kv => ∃ b, SqT X.K H p [.ref b, kv.2] ∧ H b = some (.tup (kv.1.map kV))) ps kvs ∧
    ∀ p, H p = none → Q (.ref p) (upd H p (.dT (mergeG [] kvs)))) := by
  intro pins s σ H xs us Q I r ⟨a, ps, kvs, ex, hq, hp, q⟩
  subst ex
  obtain ⟨u, eu, rx⟩ := vals1 r
  subst eu
  cases rx
  obtain ⟨prs, vv, rel, hl, hl2, hv⟩ := pairs_of3 I hp
  have hm : (s.heap.objs.size == sysModules) = false := beq_eq_false_iff_ne.mpr (Nat.ne_of_gt I.big)
  have hf : H s.heap.objs.size = none := I.hok.fresh (Nat.le_refl _)
  have fin : ∀ h' tk, ps.length ≤ sizeLine → h'.DictOfH (tupleKind (mixKind X.prog X.w)) s.heap.objs.size (storedAllH [] prs) → (∀ b o, b ∉ ([] : List Addr) → s.heap.get? b = some o → h'.get? b = some o) → EP X pins σ Q (.ref s.heap.objs.size) { s with heap := h', toks := tk } := fun h' tk hz hd' k => by
    have hlen : (mergeG [] kvs).length ≤ sizeLine := by
      refine Nat.le_trans (mergeG_len kvs []) ?_
      rw [List.length_nil, Nat.zero_add, Paired.length rel, hl]
      exact hz
    have kt : KT (upd H s.heap.objs.size (.dT (mergeG [] kvs))) (mergeG [] kvs) (storedAllH [] prs) := (KT.merge rel .nil).keeps fun b ys e => by rw [upd_ne (ne_of_none e hf)]; exact e
    obtain ⟨o, es, ep, h1, h2, h3, h4, h5, h6⟩ := hd'
    exact ⟨.ref s.heap.objs.size, upd H s.heap.objs.size (.dT (mergeG [] kvs)), I.laid (t' := tk) (fun b o e => k b o (fun z => nomatch z) e) (Nat.le_refl _) (show ObjOk X.prog X.w _ _ _ (.dT (mergeG [] kvs)) from ⟨hlen, hm, storedAllH [] prs, kt, o, es, ep, h1, h2, h3, h4, h6⟩), rfl, q _ hf⟩
  have have_ : PairsHaveH (tupleKind (mixKind X.prog X.w)) vv.length (PairRel vv) prs := by
    refine ⟨by rw [hl, hl2], fun i key v e => ?_⟩
    obtain ⟨b, c, q, _, e2, e3, _⟩ := hv i key v e
    exact ⟨q, c, e2, e3⟩
  have stay : KeysStay (tupleKind (mixKind X.prog X.w)) s.heap s.heap.objs.size [] prs := fun h' hk x hx => by
    have all : ∀ {l : List (List Key × V)} {m : List (List Key × Addr × Value)}, KT H l m → ∀ x ∈ m, (tupleKind (mixKind X.prog X.w)).is s.heap x.1 x.2.1 := by
      intro l m q
      induction q with
      | nil => intro x hx; exact nomatch hx
      | @cons p q ps qs hq t ih =>
        intro x hx
        rcases List.mem_cons.mp hx with e | hx
        · subst e
          exact key_of I.hok (by rw [← hq.1]; exact hq.2.1)
        · exact ih x hx
    obtain ⟨o, items, n, e1, e2, e3, e4⟩ := all rel x hx
    exact ⟨o, items, n, hk _ _ (Nat.ne_of_lt (Heap.lt_size e1)) (fun z => nomatch z) e1, e2, e3, e4⟩
  have its_ : PairItems s.heap (ps.map Value.ref).toArray (fun j => ps.getD j 0) vv := items_of (F := fun _ _ _ _ => True) hl2 fun j k v e => let ⟨b, _, _, e1, _, _, e4⟩ := hv j k v e; ⟨b, e1, e4⟩
  have hu2 : (tupleKind (mixKind X.prog X.w)).room X.A.in1.in1 := by
    show X.A.units + 1 + 1 < cLine
    omega
  rcases hq with hq | hq
  · obtain ⟨its, rv, pl, hz⟩ := plainL_of I hq
    have ei := refs_at rv
    subst ei
    rw [List.length_map] at hz
    exact PySem.call_dict_pairsH (PairArg.list (prog := X.prog) (w := X.w) a _ _ vv) (I.ok.hd hcalm) hu2 ⟨pl, its_⟩ have_ stay (by rw [hl2]; exact hz) fun h' tk hd' k => fin h' tk hz hd' k
  · obtain ⟨its, rv, pl, hz⟩ := plainT_of I hq
    have ei := refs_at rv
    subst ei
    rw [List.length_map] at hz
    exact PySem.call_dict_pairsH (PairArg.tuple (prog := X.prog) (w := X.w) a _ _ vv) (I.ok.hd hcalm) hu2 ⟨pl, its_⟩ have_ stay (by rw [hl2]; exact hz) fun h' tk hd' k => fin h' tk hz hd' k
end
section
variable {C : SC} {s : Sc} {X : Cx}
theorem pair_of {base : Bs} {ρ : List Addr} {R H : Hp} {m : Mem} (w : WR C.K base ρ R m H) {x : DV} {v : V} {p : DV × DV} (r : Rl C.K ρ R x v) (h : pairD x = some p) : ∃ (a : Addr) (va vb : V), v = .ref a ∧ SqT C.K H a [va, vb] ∧ Rl C.K ρ R p.1 va ∧ Rl C.K ρ R p.2 vb := by
  unfold pairD at h
  split at h
  · obtain rfl := Option.some.inj h
    obtain ⟨_, a, vs, rfl, q, r2⟩ := rl_tup.mp r
    obtain ⟨va, vb, rfl, r3, r4⟩ := rls2 r2
    exact ⟨a, va, vb, rfl, .of (w.sub _ _ q), r3, r4⟩
  · obtain rfl := Option.some.inj h
    obtain ⟨_, a, vs, rfl, q, r2⟩ := rl_kt.mp r
    obtain ⟨va, vb, rfl, r3, r4⟩ := rls2 r2
    exact ⟨a, va, vb, rfl, (w.nt q).st, r3, r4⟩
  · cases h
theorem rows_K {base : Bs} {ρ : List Addr} {R H : Hp} {m : Mem} (w : WR C.K base ρ R m H) : ∀ {ds : List DV} {vs : List V} {ks0 : List KA} {us0 : List DV} {d : DV} {kvs0 : List (Key × V)}, Rls C.K ρ R ds vs → mkDk ds ks0 us0 = some d → (∀ k ∈ ks0, kaZ k) → kvs0.map (·.1) = ks0.map kaK → Rls C.K ρ R us0 (kvs0.map (·.2)) →
    ∃ (ps : List Addr) (kvs : List (Key × V)) (ks : List KA) (us : List DV), vs = ps.map V.ref ∧ Paired (fun p kv => SqT C.K H p [kV kv.1, kv.2]) ps kvs ∧ d = .dk ks us ∧ (∀ k ∈ ks, kaZ k) ∧ ks.length ≤ ks0.length + ds.length ∧ (mergeK kvs0 kvs).map (·.1) = ks.map kaK ∧ Rls C.K ρ R us ((mergeK kvs0 kvs).map (·.2))
  | [], vs, ks0, us0, d, kvs0, r, h, hz, e1, e2 => by
    obtain rfl := Rls.nil_iff.mp r
    unfold mkDk at h
    obtain rfl := Option.some.inj h
    exact ⟨[], [], ks0, us0, rfl, .nil, rfl, hz, Nat.le_refl _, e1, e2⟩
  | x :: ds, vs, ks0, us0, d, kvs0, r, h, hz, e1, e2 => by
    obtain ⟨v, vs', rfl, r1, r2⟩ := Rls.cons_iff.mp r
    unfold mkDk at h
    obtain ⟨p, hp, h⟩ := Option.bind_eq_some_iff.mp h
    obtain ⟨k, hk, h⟩ := Option.bind_eq_some_iff.mp h
    obtain ⟨a, va, vb, rfl, q, r3, r4⟩ := pair_of w r1 hp
    have ek := kaOf_rl' r3 hk
    obtain ⟨p1, p2⟩ := kv_put (f := kaK) (fun _ _ => kaK_inj) r4 k e1 e2
    obtain ⟨ps, kvs, ks, us, g1, g2, g3, g4, g5, g6, g7⟩ := rows_K w r2 h (fun k' hk' => (putK'_mem hk').elim (fun z => z ▸ kaZ_of r3 hk) (hz k')) p1 p2
    refine ⟨a :: ps, (kaK k, vb) :: kvs, ks, us, by rw [List.map_cons, ← g1], .cons (by rw [← ek]; exact q) g2, g3, g4, ?_, g6, g7⟩
    have := putK'_len ks0 k
    rw [List.length_cons]; omega
theorem ksInj {a b : List KA} (h : a.map kaK = b.map kaK) : a = b := kaKs_inj h
theorem rows_T {base : Bs} {ρ : List Addr} {R H : Hp} {m : Mem} (w : WR C.K base ρ R m H) : ∀ {ds : List DV} {vs : List V} {ks0 : List (List KA)} {us0 : List DV} {d : DV} {kvs0 : List (List Key × V)}, Rls C.K ρ R ds vs → mkDt ds ks0 us0 = some d → (∀ k ∈ ks0, k.length ≤ SL ∧ ∀ a ∈ k, kaZ a) → kvs0.map (·.1) = ks0.map (List.map kaK) → Rls C.K ρ R us0 (kvs0.map (·.2)) →
    ∃ (ps : List Addr) (kvs : List (List Key × V)) (ks : List (List KA)) (us : List DV), vs = ps.map V.ref ∧ Paired (fun p kv => ∃ b, SqT C.K H p [.ref b, kv.2] ∧ H b = some (.tup (kv.1.map kV))) ps kvs ∧ d = .dt ks us ∧ (∀ k ∈ ks, k.length ≤ SL ∧ ∀ a ∈ k, kaZ a) ∧ ks.length ≤ ks0.length + ds.length ∧ (mergeG kvs0 kvs).map (·.1) = ks.map (List.map kaK) ∧ Rls C.K ρ R us ((mergeG kvs0 kvs).map (·.2))
  | [], vs, ks0, us0, d, kvs0, r, h, hz, e1, e2 => by
    obtain rfl := Rls.nil_iff.mp r
    unfold mkDt at h
    obtain rfl := Option.some.inj h
    exact ⟨[], [], ks0, us0, rfl, .nil, rfl, hz, Nat.le_refl _, e1, e2⟩
  | x :: ds, vs, ks0, us0, d, kvs0, r, h, hz, e1, e2 => by
    obtain ⟨v, vs', rfl, r1, r2⟩ := Rls.cons_iff.mp r
    unfold mkDt at h
    obtain ⟨p, hp, h⟩ := Option.bind_eq_some_iff.mp h
    obtain ⟨k, hk, h⟩ := Option.bind_eq_some_iff.mp h
    obtain ⟨a, va, vb, rfl, q, r3, r4⟩ := pair_of w r1 hp
    have hl : Hl C.K ρ R H p.1 va := by
      have := Hl.of w r3
      cases hp1 : p.1 with
      | ref n => rw [hp1] at hk; cases hk
      | _ => rw [hp1] at this; exact this
    obtain ⟨b, ek, eb⟩ := ktOf_rl hl hk
    subst ek
    obtain ⟨p1, p2⟩ := kv_put (f := List.map kaK) (fun _ _ => kaKs_inj) r4 k e1 e2
    obtain ⟨ps, kvs, ks, us, g1, g2, g3, g4, g5, g6, g7⟩ := rows_T w r2 h (fun k' hk' => (putK'_mem hk').elim (fun z => z ▸ ktZ_of r3 hk) (hz k')) p1 p2
    refine ⟨a :: ps, (k.map kaK, vb) :: kvs, ks, us, by rw [List.map_cons, ← g1], .cons ⟨b, q, eb⟩ g2, g3, g4, ?_, g6, g7⟩
    have := putK'_len ks0 k
    rw [List.length_cons]; omega
theorem lt_of {base : Bs} {ρ : List Addr} {R H : Hp} {m : Mem} (w : WR C.K base ρ R m H) {x : DV} {v : V} {ds : List DV} (r : Rl C.K ρ R x v) (h : ltD (rs m x) = some ds) : ds.length ≤ SL ∧ ∃ a vs, v = V.ref a ∧ (SqL C.K H a vs ∨ NT C.K H a vs) ∧ Rls C.K ρ R ds vs := by
  have hd := Hl.of w r
  cases hc : rs m x with
  | lst ys => rw [hc] at hd h; obtain rfl := Option.some.inj h; obtain ⟨l, q, us, e, e2, r2⟩ := hd; exact ⟨l, q, us, e, .inl (.inl e2), r2⟩
  | kl ys => rw [hc] at hd h; obtain rfl := Option.some.inj h; obtain ⟨l, q, us, e, e2, r2⟩ := hd; exact ⟨l, q, us, e, .inl e2, r2⟩
  | kt ys => rw [hc] at hd h; obtain rfl := Option.some.inj h; obtain ⟨l, q, us, e, e2, r2⟩ := hd; exact ⟨l, q, us, e, .inr e2, r2⟩
  | _ => rw [hc] at h; cases h
theorem pr_dict1N (hX : XO C s X) : CallR X (.type "dict") (rPrN C .dict1) := by
  intro pins sh σ H xs us Q I rvs ⟨base, ρ, R, m, ds, w, rx, po⟩
  cases hz : primND .dict1 (ds.map (rs m)) with
  | none => rw [hz] at po; exact po.elim
  | some z =>
    rw [hz] at po
    unfold primND at hz
    split at hz <;> first | (exfalso; exact Pr.noConfusion ‹_›) | skip
    · rename_i ks vs _ e
      obtain ⟨x, rfl, ex⟩ := one_of e
      obtain ⟨v, rfl, r1⟩ := rls1 rx
      obtain rfl := Option.some.inj hz
      have hd := Hl.of w r1
      rw [ex] at hd
      obtain ⟨dz, a, kvs, rfl, hR, e1, r2⟩ := hd
      obtain ⟨u, rfl, ru⟩ := vals1 rvs
      obtain rfl : u = Value.ref a := ru
      refine d_copyOf I hR fun p s' hp I' => ⟨.ref p, _, I', rfl, ?_⟩
      exact w.newCell (d := .dk ks vs) (o := .dK kvs) hp ⟨dz, kvs, rfl, e1, r2⟩ po
    · rename_i e
      obtain ⟨x, rfl, ex⟩ := one_of e
      obtain ⟨v, rfl, r1⟩ := rls1 rx
      obtain ⟨ys, hs, hz⟩ := Option.bind_eq_some_iff.mp hz
      rw [← ex] at hs
      obtain ⟨l, q, vs, rfl, h2, r2⟩ := lt_of w r1 hs
      obtain ⟨ps, kvs, ks, us', rfl, g2, rfl, g4, g5, g6, g7⟩ := rows_K w (kvs0 := []) r2 hz (fun _ z => nomatch z) rfl Rls.nil
      refine call_dictPK hX.calm pins sh σ H _ us Q I rvs ⟨q, ps, kvs, rfl, by rw [hX.K]; exact h2, by rw [hX.K]; exact g2, fun p hp => ?_⟩
      exact w.newCell (d := .dk ks us') (o := .dK (mergeK [] kvs)) hp ⟨⟨by rw [List.length_nil, Nat.zero_add] at g5; exact Nat.le_trans g5 l, g4⟩, _, rfl, g6, g7⟩ po
    · cases hz
theorem pr_dictTN (hX : XO C s X) : CallR X (.type "dict") (rPrN C .dictT) := by
  intro pins sh σ H xs us Q I rvs ⟨base, ρ, R, m, ds, w, rx, po⟩
  obtain ⟨kr, hr⟩ := hX.room
  cases hz : primND .dictT (ds.map (rs m)) with
  | none => rw [hz] at po; exact po.elim
  | some z =>
    rw [hz] at po
    unfold primND at hz
    split at hz <;> first | (exfalso; exact Pr.noConfusion ‹_›) | skip
    · rename_i e
      obtain ⟨x, rfl, ex⟩ := one_of e
      obtain ⟨v, rfl, r1⟩ := rls1 rx
      obtain ⟨ys, hs, hz⟩ := Option.bind_eq_some_iff.mp hz
      rw [← ex] at hs
      obtain ⟨l, q, vs, rfl, h2, r2⟩ := lt_of w r1 hs
      obtain ⟨ps, kvs, ks, us', rfl, g2, rfl, g4, g5, g6, g7⟩ := rows_T w (kvs0 := []) r2 hz (fun _ z => nomatch z) rfl Rls.nil
      refine call_dictPT hX.calm hr.units pins sh σ H _ us Q I rvs ⟨q, ps, kvs, rfl, by rw [hX.K]; exact h2, by rw [hX.K]; exact g2, fun p hp => ?_⟩
      exact w.newCell (d := .dt ks us') (o := .dT (mergeG [] kvs)) hp ⟨⟨by rw [List.length_nil, Nat.zero_add] at g5; exact Nat.le_trans g5 l, g4⟩, _, rfl, g6, g7⟩ po
    · cases hz
end
end Ev

set_option Elab.async false
set_option linter.all false
set_option maxRecDepth 100000
set_option maxHeartbeats 1000000
/-! t[k::2] of a tuple. -/
namespace Ev
open PySem PySem.Spec PyProof.Rows L2
theorem ev2_pick {α : Type} : ∀ (n : Nat) (ys : List α), ys.length ≤ n → (List.range ((ys.length + 1) / 2)).filterMap (fun m => ys[2 * m]?) = ev2 ys
  | 0, ys, h => by
    obtain rfl := List.eq_nil_of_length_eq_zero (Nat.le_zero.mp h)
    simp [ev2]
  | n + 1, [], _ => by simp [ev2]
  | n + 1, [x], _ => by simp [ev2, List.range_succ]
  | n + 1, x :: y :: r, h => by
    have ih := ev2_pick n r (by simp at h; omega)
    have e : ((x :: y :: r).length + 1) / 2 = (r.length + 1) / 2 + 1 := by simp only [List.length_cons]; omega
    rw [e, List.range_succ_eq_map, List.filterMap_cons]
    have e0 : (x :: y :: r)[2 * 0]? = some x := rfl
    rw [e0, List.filterMap_map]
    show x :: _ = x :: ev2 r
    have e1 : ((fun m => (x :: y :: r)[2 * m]?) ∘ Nat.succ) = fun m => r[2 * m]? := by
      funext m
      show (x :: y :: r)[2 * (m + 1)]? = _
      rw [show 2 * (m + 1) = 2 * m + 1 + 1 by omega, List.getElem?_cons_succ, List.getElem?_cons_succ]
    rw [e1, ih]
theorem ev2_len {α : Type} : ∀ (n : Nat) (ys : List α), ys.length ≤ n → (ev2 ys).length ≤ ys.length
  | 0, ys, h => by
    obtain rfl := List.eq_nil_of_length_eq_zero (Nat.le_zero.mp h)
    exact Nat.le_refl _
  | n + 1, [], _ => Nat.le_refl _
  | n + 1, [x], _ => Nat.le_refl _
  | n + 1, x :: y :: r, h => by
    have ih := ev2_len n r (by simp at h; omega)
    simp only [ev2, List.length_cons]; omega
theorem Rls.ev2 {K : PySem.W.Frag} {ρ : List Addr} {R : Hp} : ∀ (n : Nat) {ds : List DV} {vs : List V}, ds.length ≤ n → Rls K ρ R ds vs → Rls K ρ R (Ev.ev2 ds) (Ev.ev2 vs)
  | _, [], vs, _, h => by rw [Rls.nil_iff.mp h]; exact Rls.nil
  | _, [d], vs, _, h => by
    obtain ⟨v, rfl, r⟩ := rls1 h
    exact Rls.cons r Rls.nil
  | 0, d :: e :: ds, vs, hn, h => by simp at hn
  | n + 1, d :: e :: ds, vs, hn, h => by
    obtain ⟨v, r, rfl, r1, r2⟩ := Rls.cons_iff.mp h
    obtain ⟨u, r', rfl, r3, r4⟩ := Rls.cons_iff.mp r2
    exact Rls.cons r1 (Rls.ev2 n (by simp at hn; omega) r4)
theorem Vals.ev2 : ∀ (n : Nat) {xs : List V} {us : List Value}, xs.length ≤ n → Vals xs us → Vals (Ev.ev2 xs) (Ev.ev2 us)
  | _, _, _, _, .nil => .nil
  | _, _, _, _, .cons r .nil => .cons r .nil
  | 0, _, _, hn, .cons r (.cons q t) => by simp at hn
  | n + 1, _, _, hn, .cons r (.cons q t) => .cons r (Vals.ev2 n (by simp at hn; omega) t)
section
variable {prog : Program} {w : World} {A : Around} {E : Value → Shared → Prop} {s : Shared}
theorem getItem_tuple_ev2 {t sl : Addr} {items : Array Value} {vl vu vs : Value} {k : Nat} {Q : Value → Shared → Prop} (ht : IsTup s.heap t items) (hs : s.heap.IsSliceOf sl vl vu vs) (pl : IsPart vl (some (k : Int))) (pu : IsPart vu none) (ps : IsPart vs (some 2))
    (h : Q (.ref s.heap.objs.size) { s with heap := s.heap.push { cls := .type "tuple", data := .seq (ev2 (items.toList.drop k)).toArray } })
    (hsz : items.size ≤ sizeLine) : wpAny (model prog w) A (getItem (.ref t) (.ref sl)) Q E s := by
  have hl2 : (ev2 (items.toList.drop k)).length ≤ items.size := by
    refine Nat.le_trans (ev2_len _ _ (Nat.le_refl _)) ?_
    rw [List.length_drop, Array.length_toList]; omega
  have htake : sizeOk (.seq (ev2 (items.toList.drop k)).toArray) := by
    show (ev2 (items.toList.drop k)).toArray.size ≤ sizeLine
    rw [List.size_toArray]; omega
  obtain ⟨os, hos, hcs, hds⟩ := id hs
  have hTs : s.TypeIs (.ref sl) "slice" := ⟨os, hos, hcs⟩
  have adj : Builtin.Slice.sliceAdjust (some (k : Int)) none 2 (items.size : Int) = (((min k items.size : Nat) : Int), (items.size : Int)) := by
    unfold Builtin.Slice.sliceAdjust
    have h2 : ¬ ((2 : Int) < 0) := by omega
    have hk : ¬ ((k : Int) < 0) := by omega
    simp only [h2, hk, if_false]
    refine Prod.ext ?_ rfl
    show min (k : Int) (items.size : Int) = ((min k items.size : Nat) : Int)
    omega
  have plc : Builtin.Slice.slicePlaces ((min k items.size : Nat) : Int) (items.size : Int) 2 = ((items.toList.drop k).length + 1) / 2 := by
    unfold Builtin.Slice.slicePlaces
    have h2 : (2 : Int) > 0 := by omega
    simp only [h2, if_true]
    rw [List.length_drop, Array.length_toList]
    split <;> omega
  unfold getItem
  try with_reducible refine wpAny_holding ?_
  first | refine wpAny_bind (wpAny_pure ?_) | skip
  refine wpAny_bind (wpAny_sequenceKey ht.typeIs (by decide) ?_)
  refine wpAny_bind (wpAny_callSpecial?_slot (name := Str.ofString "__getitem__") ht.typeIs PyProof.Rows.slot_tuple_getitem
    (wpAny_call_entry PyProof.Rows.slot_tuple_getitem ht.typeIs PyProof.Rows.entry_tuple_getitem ?_ (PyProof.Rows.args_tuple_getitem _ _)))
  show wpAny _ _ (Builtin.Tuple.tupleItemsOf (.ref t) >>= _) _ _ s
  refine wpAny_bind (tupleItemsOf_ ht ?_)
  refine wpAny_bind (wpAny_typeOf hTs ?_)
  rw [if_pos (by decide)]
  have applied : ∀ {Q' : Int × Int × Nat → Shared → Prop} {A' : Around} {E' : Value → Shared → Prop}, Q' (((min k items.size : Nat) : Int), 2, ((items.toList.drop k).length + 1) / 2) s → wpAny (model prog w) A' (Builtin.Slice.sliceApplied (.ref sl) (pure (items.size : Int))) Q' E' s := by
    intro Q' A' E' hq
    unfold Builtin.Slice.sliceApplied Builtin.Slice.sliceFields
    refine wpAny_bind (wpAny_bind (wpAny_field hos hds (x := vl) rfl (wpAny_bind (wpAny_field hos hds (x := vu) rfl (wpAny_bind (wpAny_field hos hds (x := vs) rfl (wpAny_pure ?_)))))))
    refine wpAny_bind (HT.slicePart_ ps ?_)
    show wpAny _ _ (if ((2 : Int) == 0) = true then _ else _) _ _ s
    rw [if_neg (by decide)]
    refine wpAny_bind (HT.slicePart_ pl (wpAny_bind (HT.slicePart_ pu (wpAny_bind (wpAny_pure ?_)))))
    show wpAny _ _ (match Builtin.Slice.sliceAdjust (some (k : Int)) none 2 (items.size : Int) with | (lo, hi) => pure (lo, (2 : Int), Builtin.Slice.slicePlaces lo hi 2)) _ _ s
    rw [adj]
    show wpAny _ _ (pure (((min k items.size : Nat) : Int), (2 : Int), Builtin.Slice.slicePlaces ((min k items.size : Nat) : Int) (items.size : Int) 2)) _ _ s
    rw [plc]
    exact wpAny_pure hq
  refine wpAny_bind (applied ?_)
  have hno : ¬ ((((min k items.size : Nat) : Int) == 0 && (2 : Int) == 1 && ((items.toList.drop k).length + 1) / 2 == items.size) = true) := by
    intro q
    rw [Bool.and_eq_true, Bool.and_eq_true] at q
    exact absurd q.1.2 (by decide)
  show wpAny _ _ (if (((min k items.size : Nat) : Int) == 0 && (2 : Int) == 1 && ((items.toList.drop k).length + 1) / 2 == items.size) = true then _ else _) _ _ s
  have pick : ((List.range (((items.toList.drop k).length + 1) / 2)).filterMap fun (m : Nat) => items[(((min k items.size : Nat) : Int) + (m : Int) * 2).toNat]?).toArray = (ev2 (items.toList.drop k)).toArray := by
    rw [← ev2_pick _ (items.toList.drop k) (Nat.le_refl _)]
    congr 1
    by_cases hk : k ≤ items.size
    · refine congrArg (fun f => List.filterMap f _) (funext fun m => ?_)
      rw [List.getElem?_drop, Nat.min_eq_left hk, show ((k : Int) + (m : Int) * 2).toNat = k + 2 * m by omega, Array.getElem?_toList]
    · have e : (items.toList.drop k).length = 0 := by rw [List.length_drop, Array.length_toList]; omega
      rw [e]; rfl
  rw [if_neg hno, pick]
  first
    | exact wpAny_bind (m := Builtin.Tuple.tupleExact _) (wpAny_newObj_type (wpAny_pure ⟨_, rfl, wpAny_pure h⟩) htake)
    | exact wpAny_bind (m := Builtin.Tuple.tupleExact _) (wpAny_newObj_type (wpAny_bind (wpAny_pure (wpAny_pure ⟨_, rfl, wpAny_pure h⟩))) htake)
    | exact wpAny_bind (wpAny_bind (m := Builtin.Tuple.tupleExact _) (wpAny_newObj_type (wpAny_pure (wpAny_pure ⟨_, rfl, wpAny_pure h⟩)) htake))
    | exact wpAny_bind (wpAny_bind (m := Builtin.Tuple.tupleExact _) (wpAny_newObj_type (wpAny_pure ⟨_, rfl, wpAny_pure h⟩) htake))
end
section
variable {C : SC} {s : Sc} {X : Cx} {a : Ex} {a' : Expr} {pos p2 q1 q2 : Pos} {j1 j2 : Nat}
theorem sd_step (hX : XO C s X) {k : Nat} (ha : PE X a' (tE C a)) : PE X (.Subscript a' (.Slice (some (.Constant (.int (k : Int)) j1 q1)) none (some (.Constant (.int 2) j2 q2)) p2) pos) (tE C (.step a k)) := by
  refine ⟨fun pins sh σ H Q I h => ?_⟩
  obtain ⟨base, ρ, R, m, env, w, er, po⟩ := h
  unfold evE at po
  refine Subscript_ (thn (ha.run pins sh σ H _ I ⟨base, ρ, R, m, env, w, er, (Po.bind (Rl C.K) po)⟩) fun v s1 ⟨b0, H1, I1, r1, qq⟩ => ?_)
  refine qq.run fun d m1 ρ1 R1 x1 w1 rx po1 => ?_
  obtain ⟨z, hz, po2⟩ := po1.of
  have hd := Hl.of w1 rx
  have hsq : ∃ (ds : List DV) (p : Addr) (vs : List V), b0 = .ref p ∧ z = .tup (ev2 (ds.drop k)) ∧ ds.length ≤ SL ∧ SqT C.K H1 p vs ∧ Rls C.K ρ1 R1 ds vs := by
    unfold stepD at hz
    split at hz
    · rename_i ds e
      obtain rfl := Option.some.inj hz
      rw [e] at hd
      obtain ⟨l, p, vs, e1, e2, r2⟩ := hd
      exact ⟨ds, p, vs, e1, rfl, l, .of e2, r2⟩
    · rename_i ds e
      obtain rfl := Option.some.inj hz
      rw [e] at hd
      obtain ⟨l, p, vs, e1, e2, r2⟩ := hd
      exact ⟨ds, p, vs, e1, rfl, l, e2.st, r2⟩
    · cases hz
  obtain ⟨ds, p, vs, rfl, rfl, hl, hq, r2⟩ := hsq
  obtain rfl : v = Value.ref p := r1
  refine wpAny_Slice (thn ((po_some (X := X) (pe_int (i := (k : Int)) (j := j1) (pos := q1))).run pins s1 σ H1 (fun l H2' => l = some (k : Int) ∧ H2' = H1) I1 ⟨_, rfl, rfl, rfl⟩) fun vl s2 h2 => ?_)
  obtain ⟨l, H2, I2, pl, rfl, rfl⟩ := h2
  rw [evalPart_none]
  refine wpAny_pure ?_
  refine thn ((po_some (X := X) (pe_int (i := (2 : Int)) (j := j2) (pos := q2))).run pins s2 σ H2 (fun l H2' => l = some 2 ∧ H2' = H2) I2 ⟨_, rfl, rfl, rfl⟩) fun vs3 s3 h3 => ?_
  obtain ⟨l, H3, I3, ps, rfl, rfl⟩ := h3
  have I4 : Inv X pins σ H3 { s3 with heap := s3.heap.push { cls := .type "slice", data := .fields #[vl, .none, vs3] } } := I3.kept (t' := s3.toks) fun b ob q => Heap.get?_push_of_some _ q
  rw [← hX.K] at hq
  obtain ⟨its, rv, ht, hz⟩ := I4.tuple hq
  have hlen : its.toArray.size = vs.length := by rw [List.size_toArray]; exact rv.length.symm
  show wpAny (model X.prog X.w) X.A (subscriptTail a' (.Slice _ none _ p2) (.ref p) (.ref s3.heap.objs.size)) (EP X pins σ Q) X.xe { s3 with heap := s3.heap.push { cls := .type "slice", data := .fields #[vl, .none, vs3] } }
  refine tail_any (ops := [.ref p, .ref s3.heap.objs.size]) ht.typeIs PyProof.Rows.slot_tuple_getitem.lookup ?_ (by with_unfolding_all rfl)
  refine getItem_tuple_ev2 (k := k) ht (Heap.IsSliceOf.new ..) pl .none ps ?_ (by rw [hlen]; exact hz)
  have hd2 : (ev2 (vs.drop k)).length ≤ sizeLine := by
    refine Nat.le_trans (ev2_len _ _ (Nat.le_refl _)) ?_
    rw [List.length_drop]; omega
  have hds : (ev2 (ds.drop k)).length ≤ SL := by
    refine Nat.le_trans (ev2_len _ _ (Nat.le_refl _)) ?_
    rw [List.length_drop]; omega
  refine ⟨.ref _, _, I4.laid (t' := s3.toks) (o := .tup (ev2 (vs.drop k))) (fun b ob q => Heap.get?_push_of_some _ q) (Nat.le_refl _) ⟨hd2, _, Vals.ev2 _ (Nat.le_refl _) (rv.drop k), IsTup.new _ _⟩, rfl, ?_⟩
  exact w1.tup (I4.hok.fresh (Nat.le_refl _)) (Rls.ev2 _ (Nat.le_refl _) (r2.drop k)) hds po2
end
end Ev

set_option Elab.async false
set_option linter.all false
set_option maxRecDepth 100000
set_option maxHeartbeats 2000000
/-! sorted(d.items()) of a dict whose keys are tuples. -/
namespace Ev
open PySem PySem.Spec PyProof.Rows L2
mutual
theorem reads_there {h : Heap} : ∀ {v : Value} {d : PyData} {as : List Addr}, Reads h v d as → ∀ a ∈ as, a < h.objs.size
  | _, _, _, .none, a, ha => nomatch ha
  | _, _, _, .bool _, a, ha => nomatch ha
  | _, _, _, .int _ _, a, ha => nomatch ha
  | _, _, _, .str _ _, a, ha => nomatch ha
  | _, _, _, .list ho _ _ r, a, ha => by
    rcases List.mem_cons.mp ha with rfl | ha
    · exact Heap.lt_size ho
    · exact readsAll_there r a ha
  | _, _, _, .tuple _ _ _ r, a, ha => readsAll_there r a ha
  | _, _, _, .dict ho _ _ r q, a, ha => by
    rcases List.mem_append.mp ha with ha | ha
    · rcases List.mem_cons.mp ha with rfl | ha
      · exact Heap.lt_size ho
      · exact readsAll_there r a ha
    · exact readsAll_there q a ha
theorem readsAll_there {h : Heap} : ∀ {vs : List Value} {ds : List PyData} {as : List Addr}, ReadsAll h vs ds as → ∀ a ∈ as, a < h.objs.size
  | _, _, _, .nil, a, ha => nomatch ha
  | _, _, _, .cons r q, a, ha => by
    rcases List.mem_append.mp ha with ha | ha
    · exact reads_there r a ha
    · exact readsAll_there q a ha
end
section
variable {X : Cx} {K : PySem.W.Frag} {base : Bs} {ρ : List Addr} {m : Mem}
/-- new pairs are tracked, one behind the other -/
theorem takeW {pins : List (Addr × Obj)} {σ : L2.St} {H0 : Hp} {s s' : Shared} (I0 : Inv X pins σ H0 s) : ∀ (as : List Addr) {kvs : List (List Key × V)} {ks : List (List KA)} {ds : List DV} {H1 R : Hp}, as.length = kvs.length → kvs.map (·.1) = ks.map (List.map kaK) → Rls K ρ R ds (kvs.map (·.2)) → (∀ k ∈ ks, k.length ≤ SL ∧ ∀ a ∈ k, kaZ a) →
    Inv X pins σ H1 s' → WR K base ρ R m H1 → as.Nodup →
    (∀ (j : Nat) (b : Addr), as[j]? = some b → ∃ (k : List Key) (v : V) (kq : Addr) (u : Value), kvs[j]? = some (k, v) ∧ H1 kq = some (.tup (k.map kV)) ∧ RelV v u ∧ s'.heap.get? b = some { cls := .type "tuple", data := .seq #[.ref kq, u] } ∧ s.heap.objs.size ≤ b ∧ H1 b = none) →
    ∃ H2 R2, Inv X pins σ H2 s' ∧ WR K base ρ R2 m H2 ∧ Xt ρ R ρ R2 ∧ Rls K ρ R2 (pairs (ks.map fun k => DV.tup (k.map ofKa)) ds) (as.map V.ref) ∧ (∀ b o, H1 b = some o → H2 b = some o) ∧ ∀ b, b ∉ as → H1 b = none → H2 b = none
  | [], kvs, ks, ds, H1, R, hl, e1, r, hz, I, w, nd, h => by
    obtain rfl := List.eq_nil_of_length_eq_zero hl.symm
    cases ks with
    | cons _ _ => simp at e1
    | nil => exact ⟨H1, R, I, w, Xt.refl, Rls.nil, fun _ _ e => e, fun _ _ e => e⟩
  | b :: as, kvs, ks, ds, H1, R, hl, e1, r, hz, I, w, nd, h => by
    match kvs, ks, hl, e1 with
    | kv :: kvs, k0 :: ks, hl, e1 =>
      obtain ⟨v, vs, e2, r1, r2⟩ : ∃ d ds', ds = d :: ds' ∧ Rl K ρ R d kv.2 ∧ Rls K ρ R ds' (kvs.map (·.2)) := by
        cases ds with
        | nil => simp [Rls] at r
        | cons d ds' =>
          obtain ⟨v, q, e, a, t⟩ := Rls.cons_iff.mp r
          rw [List.map_cons] at e
          injection e with e3 e4
          exact ⟨d, ds', rfl, e3 ▸ a, e4 ▸ t⟩
      subst e2
      rw [List.map_cons, List.map_cons] at e1
      injection e1 with e3 e4
      obtain ⟨k, v', kq, u, g1, g2, g3, g4, g5, g6⟩ := h 0 b rfl
      obtain rfl : kv = (k, v') := Option.some.inj g1
      simp only at e3 r1
      subst e3
      rw [List.nodup_cons] at nd
      obtain ⟨R'', x1, w1, hR⟩ := w.adopt g2
      obtain ⟨z1, z2⟩ := hz k0 List.mem_cons_self
      have rk : Rl K ρ R'' (.tup (k0.map ofKa)) (.ref kq) := rl_tup.mpr ⟨by rw [List.length_map]; exact z1, kq, _, rfl, hR, ofKas_rl z2⟩
      obtain ⟨R3, x3, w3, r3⟩ := new_pair w1 g6 rk (r1.mono x1)
      have ok : ObjOk X.prog X.w (upd H1 b (.tup [.ref kq, v'])) s'.heap b (.tup [.ref kq, v']) := ⟨by show 2 ≤ sizeLine; decide, [.ref kq, u], .cons rfl (.cons g3 .nil), _, g4, rfl, _, rfl⟩
      have I2 : Inv X pins σ (upd H1 b (.tup [.ref kq, v'])) s' := I.take (h' := s'.heap) (t' := s'.toks) (fun _ _ _ e => e) (I0.fpOk g5 g6) ok
      have up : ∀ c o, H1 c = some o → upd H1 b (.tup [.ref kq, v']) c = some o := fun c o e => by rw [upd_ne (ne_of_none e g6)]; exact e
      obtain ⟨H2, R2, I4, w4, x4, r4, g, gn⟩ := takeW I0 as (kvs := kvs) (ks := ks) (ds := vs) (by simpa using hl) e4 ((r2.mono x1).mono x3) (fun k hk => hz k (List.mem_cons_of_mem _ hk)) I2 w3 nd.2 fun j c hj => by
        obtain ⟨k, v, kq, u, f1, f2, f3, f4, f5, f6⟩ := h (j + 1) c (by simpa using hj)
        exact ⟨k, v, kq, u, by simpa using f1, up _ _ f2, f3, f4, f5, by rw [upd_ne (fun z : c = b => nd.1 (by rw [← z]; exact List.mem_of_getElem? hj))]; exact f6⟩
      refine ⟨H2, R2, I4, w4, (x1.trans x3).trans x4, ?_, fun c o e => g c o (up c o e), fun c hc e => gn c (fun z => hc (List.mem_cons_of_mem _ z)) (by rw [upd_ne (fun z : c = b => hc (by rw [z]; exact List.mem_cons_self))]; exact e)⟩
      exact Rls.cons (r3.mono x4) r4
end
section
variable {C : SC} {s : Sc} {X : Cx} {a : Ex} {a' : Expr} {pos p p2 q cpos apos : Pos}
theorem cr_sitems (hX : XO C s X) : CallR X (.builtin "sorted") (fun vs H Q => ∃ base ρ R m p a kvs ks ds es, vs = [.ref p] ∧ H p = some (DX.itemsO p a) ∧ Rd H a (.dT kvs) ∧ DZT ks ∧ kvs.map (·.1) = ks.map (List.map kaK) ∧ Rls C.K ρ R ds (kvs.map (·.2)) ∧ WR C.K base ρ R m H ∧ dsort (pairs (ks.map fun k => DV.tup (k.map ofKa)) ds) = some es ∧ Po C.K base (Rl C.K) ρ R Q (.ok (.lst es) m)) := by
  intro pins sh σ H xs us Q I rvs ⟨base, ρ, R, m, p, a, kvs, ks, ds, es, e0, hp, ha, hz, e1, r, w, hs, po⟩
  subst e0
  obtain ⟨kr, hr⟩ := hX.room
  have hun := hr.un
  obtain rfl := Vals.ref1 rvs
  have view : sh.heap.IsItemsView p a := (show ObjOk X.prog X.w H sh.heap p (DX.itemsO p a) from I.hok p _ hp).1
  obtain ⟨z, hd, xs', rel, o, es', ep, ho, hx, hdat, hes, his, hn⟩ := dt_rd I.hok ha
  have l1 : kvs.length = xs'.length := Paired.length rel
  have l2 : es'.size = xs'.length := size_of_entries hes
  have l3 : kvs.length = ks.length := kvs_len e1
  have l4 : kvs.length = ds.length := by have := r.length; rwa [List.length_map] at this
  have hh : X.A.handled = none := I.ok.hd hX.calm
  refine DT.sortedI (es := es') (ep := ep) hh view ⟨o, ho, hx, hdat⟩ (by rw [l2, ← l1]; exact z) fun h' tk as hk hlt hl hG => ?_
  have lak : as.length = kvs.length := by omega
  have nd : as.Nodup := List.Pairwise.imp (fun h => Nat.ne_of_lt h) hG.rise
  have I1 : Inv X pins σ H { sh with heap := h', toks := tk } := I.kept (t' := tk) hk
  have pr : ∀ (j : Nat) (b : Addr), as[j]? = some b → ∃ (k : List Key) (v : V) (kq : Addr) (u : Value), kvs[j]? = some (k, v) ∧ H kq = some (.tup (k.map kV)) ∧ RelV v u ∧ h'.get? b = some { cls := .type "tuple", data := .seq #[.ref kq, u] } ∧ sh.heap.objs.size ≤ b ∧ H b = none := by
    intro j b hj
    obtain ⟨en, he, hg⟩ := hG.pairs j b hj
    rw [entry_at hes j] at he
    have hbl : sh.heap.objs.size ≤ b := Nat.le_of_lt (hG.above b (List.mem_of_getElem? hj))
    cases hxj : xs'[j]? with
    | none =>
      rw [hxj] at he
      exact nomatch (show (none : Option DictEntry) = some en from he)
    | some x =>
      rw [hxj] at he
      have een : entryOfKey (tupleKind (mixKind X.prog X.w)) x = en := Option.some.inj he
      obtain ⟨e0, he0, r1, r2, r3⟩ := DX.pget rel hxj
      refine ⟨e0.1, e0.2, x.2.1, x.2.2, he0, r2, r3, ?_, hbl, I.hok.fresh hbl⟩
      rw [hg, ← een]
      all_goals rfl
  obtain ⟨H2, R2, I2, w2, x2, r2, g, gn⟩ := takeW I as lak e1 r hz.2 I1 w nd pr
  have hob : (h'.push { cls := .type "list", data := .seq (as.map Value.ref).toArray }).get? h'.objs.size = some (seqObj "list" (as.map Value.ref).toArray 0) := Heap.get?_push_size _ rfl
  have ka : ∀ b o, h'.get? b = some o → (h'.push { cls := .type "list", data := .seq (as.map Value.ref).toArray }).get? b = some o := fun b o e => Heap.get?_push_of_some _ e
  generalize hh2 : h'.push { cls := .type "list", data := .seq (as.map Value.ref).toArray } = h2 at hob ka ⊢
  unfold dsort at hs
  obtain ⟨hcond, rfl⟩ := some_if hs
  simp only [Bool.and_eq_true, Bool.or_eq_true, List.all_eq_true] at hcond
  obtain ⟨⟨hk2, hq⟩, hal⟩ := hcond
  have rv : Vals (as.map V.ref) (as.map Value.ref) := vals_maps (fun b : Addr => V.ref b) (fun b => Value.ref b) as fun _ _ => rfl
  have e := each_of r2 rv
  have plen : (pairs (ks.map fun k => DV.tup (k.map ofKa)) ds).length = as.length := by have := r2.length; rw [List.length_map] at this; exact this.symm
  have hal2 : PySem.W.AllAlike ((pairs (ks.map fun k => DV.tup (k.map ofKa)) ds).map toPD) := by
    intro x hx y hy
    obtain ⟨d1, m1, rfl⟩ := List.mem_map.mp hx
    obtain ⟨d2, m2, rfl⟩ := List.mem_map.mp hy
    exact alike_eq _ _ (hal d1 m1 d2 m2)
  have hpairs : ∀ d ∈ pairs (ks.map fun k => DV.tup (k.map ofKa)) ds, ∃ x y, d = .tup [x, y] := fun d hd => by
    obtain ⟨q, _, rfl⟩ := List.mem_map.mp hd
    exact ⟨_, _, rfl⟩
  have hdz : as.length ≤ SL := by rw [lak, l3]; exact hz.1
  refine PySem.W.list_sort_data (s := { sh with heap := h2, toks := tk }) (vs := as.map Value.ref) (n := 0) (enc := toPD) (R := St2 C.K ρ R2) hob e (each_mono e fun u d hd ⟨v, h1, h3⟩ => ?_) hal2 (.inl fun x hx => ?_) (by rw [plen]; exact Nat.le_trans hdz SL_line) (fun d hd => ?_) fun out hlen hout => ?_
  · have hp2 : Dp X.K H2 v (toPD d) := by rw [hX.K]; exact Rl.dp w2 64 d v h3 (hq d hd)
    obtain ⟨as0, rd⟩ := Dp.reads I2 _ v u hp2 h1
    exact ⟨as0, PyProof.Rows.Reads.keeps ka rd, fun z => Nat.lt_irrefl _ (reads_there rd _ z)⟩
  · obtain ⟨d1, m1, rfl⟩ := List.mem_map.mp hx
    obtain ⟨x, y, rfl⟩ := hpairs d1 m1
    exact ⟨_, _, by rw [toPD, toPDs]⟩
  · have := pd_depth 64 d (hq d hd)
    show X.A.units + 1 + 1 + _ < cLine
    omega
  · rw [← le_eq] at hout
    obtain ⟨vs2, h1, h3⟩ := of_each hout
    obtain ⟨eF, heF⟩ := PyProof.Rows.sortedHeap_at (vs := as.map Value.ref) (out := out.toArray) hob
    have kF : ∀ b o, h'.get? b = some o → (sortedHeap h2 h'.objs.size (as.map Value.ref) out.toArray).get? b = some o := fun b o e => (PyProof.Rows.sortedHeap_old (Nat.ne_of_lt (Heap.lt_size e)) (Heap.lt_size (ka b o e))).trans (ka b o e)
    have hzl : ((pairs (ks.map fun k => DV.tup (k.map ofKa)) ds).mergeSort fun a b => !dlt b a).length ≤ SL := by rw [List.length_mergeSort, plen]; exact hdz
    have hl2 : vs2.length ≤ sizeLine := by rw [h1.length]; exact Nat.le_trans hzl SL_line
    have fr : H2 h'.objs.size = none := I2.hok.fresh (Nat.le_refl _)
    exact ⟨.ref h'.objs.size, upd H2 h'.objs.size (.lst vs2), I2.laid (t' := tk) kF (Nat.le_refl _) ⟨hl2, out, eF, h3, heF⟩, rfl, w2.newFix fr hzl h1 (po.up x2)⟩
/-- d.items(), a view -/
def tItR (to : TE) : TE := fun σ H Q => to σ H fun x H1 => ∃ a kvs, x = .ref a ∧ Rd H1 a (.dT kvs) ∧ ∀ p, H1 p = none → Q (.ref p) (upd H1 p (DX.itemsO p a))
theorem pe_itR {o : Expr} {to : TE} (ho : PE X o to) (hbase : attributeBase o "items" X.env (eval o X.env) = eval o X.env) (hline : (apos.endLine == cpos.line) = true) : PE X (.Call (.Attribute o "items" apos) [] [] cpos) (tItR to) := by
  refine ⟨fun pins s σ H Q I h => ?_⟩
  refine wpAny_Call_method0_late hbase hline (thn (ho.run pins s σ H _ I h) fun v s1 ⟨x, H1, I1, r1, a, kvs, e, ha, q1⟩ => ?_)
  subst e
  obtain rfl : v = Value.ref a := r1
  obtain ⟨z, hd, xs', rel, ob, es, ep, hob, hx, hdat, _⟩ := dt_rd I1.hok ha
  refine ⟨"dict", "dict.items", F.plainAttrs_dict, F.slot_dict_items, F.type_dict_items, ⟨ob, hob, hx.1⟩, fun b e => ?_, Calls.callWith_builtin rfl (PySem.evalArgs_none ?_)⟩
  · obtain rfl : a = b := by injection e
    exact ⟨ob, hob, hx.2.1⟩
  · refine DT.callItems (es := es) (ep := ep) hd ⟨ob, hob, hx, hdat⟩ ?_
    have hf : H1 s1.heap.objs.size = none := I1.hok.fresh (Nat.le_refl _)
    exact ⟨.ref s1.heap.objs.size, upd H1 s1.heap.objs.size (DX.itemsO s1.heap.objs.size a), I1.laid (t' := s1.toks) (fun b u e => Heap.get?_push_of_some _ e) (Nat.le_refl _) (DX.itemsO_ok (Heap.get?_push_size _ rfl)), rfl, q1 _ hf⟩
theorem sd_sitems (hX : XO C s X) (g1 : glB s.eff "sorted" = true) (g2 : ("sorted" : Str) ∈ C.bi) (hp : plainO a' = true) (hl : (apos.endLine == cpos.line) = true) (ha : PE X a' (tE C a)) :
    PE X (.Call (.Name "sorted" p) [.Call (.Attribute a' "items" apos) [] [] cpos] [] pos) (tE C (.un1 .sitems a)) := by
  refine (pe_callB (cr_sitems hX) (glB_ok hX g1) (hX.bi _ g2) (by decide +kernel) (pa_cons (pe_itR ha (plainO_ok hp) hl) pa_nil)).imp ?_
  rintro σ H Q ⟨base, ρ, R, m, env, w, er, po⟩
  unfold evE at po
  refine ⟨base, ρ, R, m, env, w, er, (Po.bind (Rl C.K) po).mono fun vx H1 h1 => h1.run fun x m1 ρ1 R1 x1 w1 rx po1 => ?_⟩
  obtain ⟨z, hz, po2⟩ := po1.of
  unfold unD at hz
  have hd := Hl.of w1 rx
  cases hc : rs m1 x with
  | dt ks ds =>
    rw [hc] at hz hd
    obtain ⟨es, hs, rfl⟩ := Option.map_eq_some_iff.mp hz
    obtain ⟨dz, d, kvs, rfl, hR, e1, r2⟩ := hd
    refine ⟨d, kvs, rfl, hR, fun t ht => ?_⟩
    obtain ⟨x3, w3⟩ := w1.fix ht (DX.itemsO t d)
    have rd3 : Rd (upd H1 t (DX.itemsO t d)) d (.dT kvs) := by
      rcases hR with hR | ⟨ob, hR⟩
      · exact .inl (by rw [upd_ne (ne_of_none hR ht)]; exact hR)
      · exact .inr ⟨ob, by rw [upd_ne (ne_of_none hR ht)]; exact hR⟩
    exact ⟨base, ρ1, _, m1, t, d, kvs, ks, ds, es, rfl, upd_same, rd3, dz, e1, r2.mono x3, w3, hs, po2.up x3⟩
  | _ => rw [hc] at hz; cases hz
/-- list(range(n)) -/
theorem sd_lrng (hX : XO C s X) (g1 : glB s.eff "list" = true) (g2 : ("list" : Str) ∈ C.bi) (k1 : glB s.eff "range" = true) (k2 : ("range" : Str) ∈ C.bi) (hs : noStarE a' = true) (ha : PE X a' (tE C a)) :
    PE X (.Call (.Name "list" p) [.Call (.Name "range" p2) [a'] [] q] [] pos) (tE C (.un1 .lrng a)) := by
  refine (pe_listRg hX.calm (glB_ok hX g1) (hX.bi _ g2) (prg_1 (glB_ok hX k1) (hX.bi _ k2) ha (star_ok hs))).imp ?_
  rintro σ H Q ⟨base, ρ, R, m, env, w, er, po⟩
  unfold evE at po
  refine ⟨base, ρ, R, m, env, w, er, (Po.bind (Rl C.K) po).mono fun vx H1 h1 => h1.run fun x m1 ρ1 R1 x1 w1 rx po1 => ?_⟩
  obtain ⟨z, hz, po2⟩ := po1.of
  have hd := Hl.of w1 rx
  unfold unD at hz
  cases hc : rs m1 x with
  | int i =>
    rw [hc] at hz hd
    obtain ⟨⟨h1, h2⟩, rfl⟩ := some_if hz
    have hsl : (SL : Int) = 10000000 := rfl
    refine ⟨i, hd, ⟨by omega, by omega, by omega, by omega, by omega⟩, fun t ht => ?_⟩
    have e : rgV 0 i = (List.range i.toNat).map fun k => V.int (0 + (k : Nat)) := by unfold rgV; rw [Int.sub_zero]
    rw [e]
    refine w1.lst ht ?_ (by rw [List.length_map, List.length_range]; omega) po2
    have := ints_rls (K := C.K) (ρ := ρ1) (R := R1) ((List.range i.toNat).map fun (k : Nat) => (0 + (k : Int)))
    rwa [List.map_map, List.map_map] at this
  | _ => rw [hc] at hz; cases hz
theorem idx_facts : ∀ {ns : List Int} {i : Int} {j : Nat}, ns.idxOf? i = some j → ns[j]? = some i ∧ ∀ m z, m < j → ns[m]? = some z → (z == i) = false := by
  intro ns i j h
  rw [List.idxOf?] at h
  rw [List.findIdx?_eq_some_iff_getElem] at h
  obtain ⟨hl, h1, h2⟩ := h
  refine ⟨?_, fun m z hm hz => ?_⟩
  · rw [List.getElem?_eq_getElem hl, eq_of_beq h1]
  · have := h2 m hm
    obtain ⟨hml, hme⟩ := List.getElem?_eq_some_iff.mp hz
    rw [hme] at this
    simpa using this
variable {b : Ex} {b' : Expr}
theorem sd_index (hX : XO C s X) (ha : PE X a' (tE C a)) (hb : PA X [b'] (tA C [b])) (hp : plainO a' = true) (hs : noStarE b' = true) (hl : (apos.endLine == cpos.line) = true) : PE X (.Call (.Attribute a' "index" apos) [b'] [] cpos) (tE C (.meth .index a [b])) := by
  refine (pe_bm PySem.F.plainAttrs_list PySem.F.slot_list_index PySem.F.type_list_index mt_index ha hb (plainO_ok hp) (few1 hs) hl (star_ok hs) (star_any rfl)).imp ?_
  rintro σ H Q ⟨base, ρ, R, m, env, w, er, po⟩
  unfold evE at po
  refine ⟨base, ρ, R, m, env, w, er, (Po.bind (Rl C.K) po).mono fun vx H1 h1 => h1.run fun x m1 ρ1 R1 x1 w1 rx po1 => ?_⟩
  have hd := Hl.of w1 rx
  cases hr' : recvOk .index (rs m1 x) with
  | false => rw [hr'] at po1; exact po1.elim
  | true =>
    rw [hr', if_pos rfl] at po1
    refine ⟨?_, base, ρ1, R1, m1, env, w1, er.mono x1, (Po.bind (Rls C.K) po1).mono fun vs H2 h2 => h2.run fun xs m2 ρ2 R2 x2 w2 rxs po2 => ?_⟩
    · cases hc : rs m1 x with
      | lst ys =>
        rw [hc] at hd
        obtain ⟨l, p, us, rfl, e2, r2⟩ := hd
        exact .inl ⟨rfl, us, .inl e2⟩
      | _ => rw [hc] at hr'; cases hr'
    · unfold methD at po2
      split at po2 <;> first | (exfalso; exact Mt.noConfusion ‹_›) | (exact po2.elim) | skip
      rename_i i _
      have hd2 := Hl.of w2 (rx.mono x2)
      split at po2 <;> first | (exact po2.elim) | skip
      rename_i ys hc
      rw [hc] at hd2
      obtain ⟨z, hz, po3⟩ := po2.of
      obtain ⟨ns, hn, hz⟩ := Option.bind_eq_some_iff.mp hz
      obtain ⟨j, hj, rfl⟩ := Option.map_eq_some_iff.mp hz
      obtain ⟨l, p, us, rfl, e2, r2⟩ := hd2
      obtain ⟨vy, rfl, ry⟩ := rls1 rxs
      obtain rfl := rl_int.mp ry
      obtain rfl := ints_of r2 hn
      obtain ⟨i1, i2⟩ := idx_facts hj
      refine ⟨p, _, _, j, .int i, rfl, rfl, .inl e2, rfl, ?_, by rw [List.getElem?_map, i1]; rfl, by show (i == i) = true; simp, fun q z' hq hz' => ?_, po3.ok Xt.refl w2 (rl_int.mpr rfl)⟩
      · exact List.all_eq_true.mpr fun v hv => by obtain ⟨n, _, rfl⟩ := List.mem_map.mp hv; rfl
      · rw [List.getElem?_map] at hz'
        obtain ⟨n, hn2, rfl⟩ := Option.map_eq_some_iff.mp hz'
        exact i2 q n hq hn2
end
end Ev

set_option Elab.async false
set_option linter.all false
set_option maxRecDepth 100000
set_option maxHeartbeats 1000000
/-! set(xs) of numbers and texts; its members in order. -/
namespace Ev
open PySem PySem.Spec PyProof.Rows L2

section
variable (P : Program) (w : World)
/-- an entry of the table holds the key k -/
def HoldsK (e : Int × Value) (k : Key) : Prop := RelV (kV k) e.2 ∧ e.1 = (mixKind P w).hash k
/-- the entries, in some order, hold the keys -/
def HoldAll (l : List (Int × Value)) (ks : List Key) : Prop := ∃ l', l.Perm l' ∧ Paired (HoldsK P w) l' ks
/-- the set at a: its members, each once -/
def SetG (h : Heap) (a : Addr) (ks : List Key) : Prop :=
  ∃ o es ep t, h.get? a = some o ∧ o.ExactSet ∧ o.data = .set es ep t ∧ HoldAll P w es.toList ks ∧ ks.Nodup ∧ es.size < scanBound ∧ t.fits es.size = true ∧ Ris t.place.toList ∧
    (w.params.followText "set-order" = true ∨ t.led = true)
end
section
variable {P : Program} {w : World}
theorem HoldAll.mem1 {l : List (Int × Value)} {ks : List Key} (h : HoldAll P w l ks) {e : Int × Value} (he : e ∈ l) : ∃ k ∈ ks, HoldsK P w e k := by
  obtain ⟨l', p, q⟩ := h
  have he' := p.mem_iff.mp he
  clear he p
  induction q with
  | nil => cases he'
  | cons r t ih =>
    rcases List.mem_cons.mp he' with rfl | he'
    · exact ⟨_, List.mem_cons_self, r⟩
    · obtain ⟨k, h1, h2⟩ := ih he'
      exact ⟨k, List.mem_cons_of_mem _ h1, h2⟩
theorem HoldAll.mem2 {l : List (Int × Value)} {ks : List Key} (h : HoldAll P w l ks) {k : Key} (hk : k ∈ ks) : ∃ e ∈ l, HoldsK P w e k := by
  obtain ⟨l', p, q⟩ := h
  have : ∃ e ∈ l', HoldsK P w e k := by
    clear p
    induction q with
    | nil => cases hk
    | cons r t ih =>
      rcases List.mem_cons.mp hk with rfl | hk
      · exact ⟨_, List.mem_cons_self, r⟩
      · obtain ⟨e, h1, h2⟩ := ih hk
        exact ⟨e, List.mem_cons_of_mem _ h1, h2⟩
  obtain ⟨e, h1, h2⟩ := this
  exact ⟨e, p.mem_iff.mpr h1, h2⟩
theorem HoldAll.len {l : List (Int × Value)} {ks : List Key} (h : HoldAll P w l ks) : l.length = ks.length := by
  obtain ⟨l', p, q⟩ := h
  exact p.length_eq.trans (Paired.length q)
theorem HoldAll.perm {l m : List (Int × Value)} {ks : List Key} (h : HoldAll P w l ks) (p : m.Perm l) : HoldAll P w m ks := by
  obtain ⟨l', p', q⟩ := h
  exact ⟨l', p.trans p', q⟩
theorem HoldAll.cons {l : List (Int × Value)} {ks : List Key} (h : HoldAll P w l ks) {e : Int × Value} {k : Key} (r : HoldsK P w e k) : HoldAll P w (e :: l) (k :: ks) := by
  obtain ⟨l', p, q⟩ := h
  exact ⟨e :: l', p.cons e, .cons r q⟩
theorem HoldAll.elems {l : List (Int × Value)} {ks : List Key} (h : HoldAll P w l ks) : ElemsOf (mixKind P w) l := fun e he => by
  obtain ⟨k, _, h1, h2⟩ := h.mem1 he
  exact ⟨⟨k, kV_is h1, h2⟩, key_scan h1⟩
variable {A : Around} {E : Value → Shared → Prop} {s : Shared} {a : Addr}
theorem SetG.sta {h h' : Heap} {ks : List Key} (R : SetG P w h a ks) (k : ∀ o, h.get? a = some o → h'.get? a = some o) : SetG P w h' a ks := by
  obtain ⟨o, es, ep, t, ho, r⟩ := R
  exact ⟨o, es, ep, t, k o ho, r⟩
/-- a key that is new is stored; the table may be laid anew -/
theorem setG_store {say : Bool → Sem Unit} (hs : ∀ (b : Bool) (s₁ : Shared) (C : Unit → Shared → Prop), C () s₁ → wpAny (model P w) A (say b) C E s₁) {o : Obj} {old new : Array (Int × Value)} {ep : Nat} {t t' : SetTable} {ks : List Key}
    (ho : s.heap.get? a = some o) (hx : o.ExactSet) (hd : o.data = .set old ep t) (hm : HoldAll P w new.toList ks) (nd : ks.Nodup) (hb : new.size < scanBound) (hf : t'.fits new.size = true) (hr : Ris t'.place.toList)
    (hl : w.params.followText "set-order" = true ∨ t'.led = true) {dummy : Bool} {C : Option Bool → Shared → Prop} (hC : ∀ h', Heap.SameBut a s.heap h' → SetG P w h' a ks → C (some true) { s with heap := h' }) :
    wpAny (model P w) A (storeSet a new t' >>= fun _ => if (!dummy && t'.tooFull) = true then say (relayAll t' new (SetTable.grown new.size)).2.2 >>= fun _ =>
      storeSet a (relayAll t' new (SetTable.grown new.size)).1 (relayAll t' new (SetTable.grown new.size)).2.1 >>= fun _ => pure (some true) else pure (some true)) C E s := by
  have keep1 := Heap.SameBut.update s.heap a (Obj.putSet new t')
  have at1 := store_at (es' := new) (t' := t') ho hd
  refine wpAny_bind (wpAny_storeSet_of ho hd ?_ (fits_of_scanBound hb))
  by_cases full : (!dummy && t'.tooFull) = true
  · rw [if_pos full]
    have q1 := relayAll_perm t' new (SetTable.grown new.size)
    have q2 := relayAll_fits t' new (SetTable.grown new.size)
    have q3 := relayAll_ris t' new (SetTable.grown new.size)
    have q4 := relayAll_led t' new (SetTable.grown new.size)
    revert q1 q2 q3 q4
    rcases relayAll t' new (SetTable.grown new.size) with ⟨more, t2, b⟩
    intro q1 q2 q3 q4
    have size2 : more.size < scanBound := by
      have := q1.length_eq
      rw [Array.length_toList, Array.length_toList] at this
      rw [this]
      exact hb
    refine wpAny_bind (hs _ _ _ (wpAny_bind (wpAny_storeSet_of at1 rfl (wpAny_pure (hC _ (keep1.trans (Heap.SameBut.update _ a _)) ?_)) (fits_of_scanBound size2))))
    exact ⟨_, more, _, t2, store_at (es' := more) (t' := t2) at1 rfl, hx, rfl, hm.perm q1, nd, size2, q2, q3, hl.imp id fun z => q4.trans z⟩
  · rw [if_neg full]
    exact wpAny_pure (hC _ keep1 ⟨_, new, _, t', at1, hx, rfl, hm, nd, hb, hf, hr, hl⟩)
open Classical in
noncomputable def addK (ks : List Key) (k : Key) : List Key := if k ∈ ks then ks else k :: ks
theorem setG_add {k : Key} {x : Value} {ks : List Key} {C : Bool → Shared → Prop} (hx : RelV (kV k) x) (R : SetG P w s.heap a ks) (room : ks.length + 1 < scanBound)
    (hC : ∀ (b : Bool) (h' : Heap), Heap.SameBut a s.heap h' → SetG P w h' a (addK ks k) → C b { s with heap := h' }) : wpAny (model P w) A (setAddHashed a x ((mixKind P w).hash k)) C E s := by
  obtain ⟨o, es, ep, t, ho, ex, hd, hm, nd, hb, hf, hr, hl⟩ := R
  have isk : (mixKind P w).is k x = true := kV_is hx
  have sc := key_scan hx
  have el := hm.elems
  unfold setAddHashed setAddHashedIn
  refine wpAny_holding (wpAny_bind (wpAny_setState_of ho hd hf ?_))
  dsimp only
  rw [byScan_of sc hb el]
  simp only [↓reduceIte]
  unfold setAddByScan
  refine wpAny_bind (wpAny_bind (wpAny_rule (wpAny_bind (wpAny_setScan_of isk ho hd hf el ?_))))
  by_cases hk : k ∈ ks
  · obtain ⟨e, he, h1, h2⟩ := hm.mem2 hk
    have some1 : (es.toList.findIdx? fun e => (mixKind P w).is k e.2) ≠ none := fun z => by
      have := List.findIdx?_eq_none_iff.mp z e he
      rw [kV_is h1] at this
      cases this
    cases hi : es.toList.findIdx? fun e => (mixKind P w).is k e.2 with
    | none => exact absurd hi some1
    | some j =>
      dsimp only
      have q := hC false s.heap (Heap.SameBut.refl a s.heap) (by unfold addK; rw [if_pos hk]; exact ⟨o, es, ep, t, ho, ex, hd, hm, nd, hb, hf, hr, hl⟩)
      exact wpAny_pure (wpAny_pure q)
  · have none1 : (es.toList.findIdx? fun e => (mixKind P w).is k e.2) = none := List.findIdx?_eq_none_iff.mpr fun e he => by
      obtain ⟨j, hj, h1, h2⟩ := hm.mem1 he
      cases z : (mixKind P w).is k e.2 with
      | false => rfl
      | true => exact absurd ((mixKind P w).inj _ _ _ z (kV_is h1) ▸ hj) hk
    rw [none1]
    dsimp only
    have p1 := layNew_perm t es ((mixKind P w).hash k) x
    have p2 := layNew_fits t es ((mixKind P w).hash k) x
    have p3 := layNew_ris t es ((mixKind P w).hash k) x hr
    have p4 := layNew_led t es ((mixKind P w).hash k) x
    revert p1 p2 p3 p4
    rcases layNew t es ((mixKind P w).hash k) x with ⟨new, t1, dummy, gave⟩
    intro p1 p2 p3 p4
    dsimp only at p1 p2 p3 p4 ⊢
    have hm1 : HoldAll P w new.toList (k :: ks) := (hm.cons (e := ((mixKind P w).hash k, x)) ⟨hx, rfl⟩).perm (p1.trans (by rw [Array.toList_push]; exact List.perm_append_singleton _ _))
    have nd1 : (k :: ks).Nodup := List.nodup_cons.mpr ⟨hk, nd⟩
    have hb1 : new.size < scanBound := by
      have e1 := hm1.len
      have e2 := hm.len
      rw [Array.length_toList] at e1 e2
      rw [e1, List.length_cons]
      exact room
    have hl1 : w.params.followText "set-order" = true ∨ t1.led = true := hl.imp id fun z => p4.trans z
    have say : ∀ (b : Bool) (s₁ : Shared) (C : Unit → Shared → Prop), C () s₁ → wpAny (model P w) A (match b with | true => rule "set.scan.the-table-gave-way" | false => pure ()) C E s₁ := fun b s₁ C q => by
      cases b
      · exact wpAny_pure q
      · exact wpAny_rule q
    have end1 : ∀ h', Heap.SameBut a s.heap h' → SetG P w h' a (k :: ks) → C true { s with heap := h' } := fun h' sb r => hC true h' sb (by unfold addK; rw [if_neg hk]; exact r)
    refine wpAny_bind (say _ _ _ ?_)
    have off : ∀ b : Bool, (if b = true then t1 else { t1 with plain := false }).fits new.size = true ∧ Ris (if b = true then t1 else { t1 with plain := false }).place.toList ∧ (w.params.followText "set-order" = true ∨ (if b = true then t1 else { t1 with plain := false }).led = true) := fun b => by
      cases b
      · exact ⟨SetTable.fits_plain_off p2, p3, hl1⟩
      · exact ⟨p2, p3, hl1⟩
    by_cases pl : t1.plain = true
    · simp only [pl, if_true]
      refine wpAny_bind ?_
      rw [hashByValue_scannable 8 sc]
      refine wpAny_pure ?_
      obtain ⟨o1, o2, o3⟩ := off (plainKind x)
      exact setG_store (fun b s₁ C q => by cases b <;> first | exact wpAny_pure q | exact wpAny_rule q) ho ex hd hm1 nd1 hb1 o1 o2 o3 fun h' sb r => wpAny_pure (end1 h' sb r)
    · simp only [pl, if_false]
      refine wpAny_bind (wpAny_pure ?_)
      exact setG_store (fun b s₁ C q => by cases b <;> first | exact wpAny_pure q | exact wpAny_rule q) ho ex hd hm1 nd1 hb1 p2 p3 hl1 fun h' sb r => wpAny_pure (end1 h' sb r)
end
section
variable {P : Program} {w : World} {A : Around} {R : Result → Shared → Prop} {I : Addr} {fp wr : List Addr} {G : Array GenState → Array GenState → Prop} {n : Nat} {Pv : Nat → Value → Prop} {St : Nat → Shared → Prop}
theorem mem_addK {ks : List Key} {k x : Key} : x ∈ addK ks k ↔ x = k ∨ x ∈ ks := by
  unfold addK
  split
  · rename_i h
    exact ⟨.inr, fun z => z.elim (fun e => e ▸ h) id⟩
  · exact List.mem_cons
theorem len_addK {ks : List Key} {k : Key} : (addK ks k).length ≤ ks.length + 1 := by
  unfold addK
  split <;> simp
theorem setG_loop (W : WalksS P w A.in1 I fp wr G n Pv St) (S : Addr) (out : S ∉ fp) (key : Nat → Key) (hv : ∀ i v, Pv i v → RelV (kV (key i)) v) (hb : n + 1 < scanBound) :
    ∀ (d i : Nat) (s : Shared) (ms : List Key), n - i = d → i ≤ n → St i s → SetG P w s.heap S ms → ms.length ≤ i → (∀ x, x ∈ ms ↔ ∃ j, j < i ∧ key j = x) →
      (∀ s' ms', Moved (S :: wr) G s s' → SetG P w s'.heap S ms' → ms'.length ≤ n → (∀ x, x ∈ ms' ↔ ∃ j, j < n ∧ key j = x) → R (.ok (.ret .none)) s') →
      codeAny (model P w) A (.builtin "set.update.loop" ⟨[.ref S, .ref I], []⟩) R s
  | 0, i, s, ms, hd, hi, hst, hS, hl, hm, fin => by
    have e : i = n := by omega
    subst e
    have away : S ∉ wr := fun z => out (W.sub _ z)
    refine codeAny_builtin PyProof.Rows.F.entry_set_update_loop ?_
    rw [Around.under_plainId PyProof.Rows.F.plain_set_update_loop _]
    show wpAny _ A.in1 (pyNext (.ref I) >>= _) _ _ s
    refine wpAny_bind (W.done s _ _ hst fun s' mv => wpAny_pure ?_)
    exact fin s' ms (mv.mono fun b z => List.mem_cons_of_mem _ z) (hS.sta fun o e => mv.heap S o away e) hl hm
  | d + 1, i, s, ms, hd, hi, hst, hS, hl, hm, fin => by
    have lt : i < n := by omega
    have away : S ∉ wr := fun z => out (W.sub _ z)
    refine codeAny_builtin PyProof.Rows.F.entry_set_update_loop ?_
    rw [Around.under_plainId PyProof.Rows.F.plain_set_update_loop _]
    show wpAny _ A.in1 (pyNext (.ref I) >>= _) _ _ s
    refine wpAny_bind (W.item i s _ _ lt hst fun v s1 hp hst1 mv => ?_)
    have rv := hv i v hp
    have hS1 : SetG P w s1.heap S ms := hS.sta fun o e => mv.heap S o away e
    show wpAny _ A.in1 (holding [v] (setAdd S v) >>= _) _ _ s1
    refine wpAny_bind (wpAny_holding ?_)
    unfold setAdd
    refine wpAny_holding (wpAny_bind ((mixKind P w).pyHash (k := key i) (kV_is rv) ?_))
    refine setG_add (s := { s1 with toks := s1.toks + 1 }) rv hS1 (by omega) fun b h' sb hS2 => ?_
    refine wpAny_pure ⟨plainId_quiet PyProof.Rows.F.plain_set_update_loop _, setG_loop W S out key hv hb d (i + 1) _ _ (by omega) lt (W.frame _ s1 _ _ hst1 (Nat.le_succ _) fun c hc o e => ?_) hS2 (Nat.le_trans len_addK (by omega)) (fun x => ?_) fun s' ms' mv' hS' hl' hm' => ?_⟩
    · have ne : c ≠ S := fun z => out (z ▸ hc)
      exact (sb.2 c ne).trans e
    · rw [mem_addK, hm x]
      constructor
      · rintro (rfl | ⟨j, h1, h2⟩)
        · exact ⟨i, Nat.lt_succ_self i, rfl⟩
        · exact ⟨j, Nat.lt_succ_of_lt h1, h2⟩
      · rintro ⟨j, h1, h2⟩
        rcases Nat.lt_succ_iff_lt_or_eq.mp h1 with h1 | rfl
        · exact .inr ⟨j, h1, h2⟩
        · exact .inl h2.symm
    · refine fin s' ms' (Moved.trans W.gtrans ((mv.mono fun b z => List.mem_cons_of_mem _ z).then_heap (Nat.le_succ _) fun c o hc e => ?_) mv') hS' hl' hm'
      have ne : c ≠ S := fun z => hc (z ▸ List.mem_cons_self)
      exact (sb.2 c ne).trans e
end
section
variable {P : Program} {w : World} {A : Around} {E : Value → Shared → Prop} {s : Shared}
/-- what set.__new__ makes -/
def newSet (w : World) : Obj := { cls := .type "set", dict := none, data := .set #[] 0 (.fresh 0 0 (!w.params.followText "set-order")) }
theorem setG_new {h : Heap} {a : Addr} (e : h.get? a = some (newSet w)) : SetG P w h a [] := by
  refine ⟨_, #[], 0, _, e, ⟨rfl, rfl, rfl⟩, rfl, ⟨[], List.Perm.refl _, .nil⟩, List.nodup_nil, by decide, rfl, List.Pairwise.nil, ?_⟩
  show _ ∨ (!w.params.followText "set-order") = true
  cases w.params.followText "set-order" <;> simp
set_option maxHeartbeats 3200000 in
theorem setG_call {l : Addr} {items : Array Value} {ks : List Key} {Q : Value → Shared → Prop} (calm : A.handled = none) (list : s.heap.IsList l items) (keys : Vals (ks.map kV) items.toList) (few : ks.length + 1 < scanBound)
    (fin : ∀ (h' : Heap) (tk : Nat) (ms : List Key), SetG P w h' s.heap.objs.size ms → ms.length ≤ ks.length → (∀ k, k ∈ ms ↔ k ∈ ks) → (∀ b o, s.heap.get? b = some o → h'.get? b = some o) → Q (.ref s.heap.objs.size) { s with heap := h', toks := tk }) :
    wpAny (model P w) A (call (.type "set") [.ref l]) Q E s := by
  have size : items.size = ks.length := by
    have := keys.length
    rw [List.length_map, Array.length_toList] at this
    exact this.symm
  have facts := F.called_set
  obtain ⟨c, tl, m1⟩ := facts.mro
  have m2 := facts.made
  have m3 := facts.sub
  refine wpAny_call (codeAny_of_tree (show wpAny _ _ (callAny (.type "set") _) _ _ _ from wpAny_pure ⟨Code.quiet_builtin _ (by decide +kernel), codeAny_builtin F.entry_type_call ?_⟩))
  rw [Around.under_plain (weight_type_call_type "set" [.ref l] []) rfl]
  have m4 := facts.notType
  have m5 := facts.canCreate
  have m6 := F.typeCall_set_1 (.ref l)
  repeat (any_goals (first | assumption | wp_step))
  have made : ∀ b o, s.heap.get? b = some o → (s.heap.push (newSet w)).get? b = some o := fun b o e => Heap.get?_push_of_some _ e
  have at0 : (s.heap.push (newSet w)).get? s.heap.objs.size = some (newSet w) := Heap.get?_push_size _ rfl
  refine codeAny_mono (L2.code_set_led1 (.ref l) (E := E) (Q₁ := fun v s₁ => v = .ref s.heap.objs.size ∧ s₁ = { s with heap := s.heap.push (newSet w) }) ⟨rfl, rfl⟩) fun r s₁ hr => ?_
  rcases r with e | fl
  · exact hr
  cases fl with
  | ret v =>
    obtain ⟨rfl, rfl⟩ := hr
    have ty : Shared.TypeIs { s with heap := s.heap.push (newSet w) } (.ref s.heap.objs.size) "set" := ⟨_, at0, rfl⟩
    have m7 := facts.init.lookup
    have m8 := facts.init.bind (.ref s.heap.objs.size)
    repeat (any_goals (first | assumption | wp_step))
    refine codeAny_mono (codeAny_call_builtin (R := wants (fun v s₂ => v = .none ∧ ∃ h' tk ms, s₂ = { s with heap := h', toks := tk } ∧ SetG P w h' s.heap.objs.size ms ∧ ms.length ≤ ks.length ∧ (∀ k, k ∈ ms ↔ k ∈ ks) ∧ (∀ b o, s.heap.get? b = some o → h'.get? b = some o)) E)
      facts.init.plain F.entry_set_init (check_set_init_1 ty ?_)) fun r₂ s₂ h2 => ?_
    · obtain ⟨⟨cls, dct, dat, sl⟩, e1, e2, n1, e3⟩ := list
      obtain rfl : cls = _ := e2
      obtain rfl : dat = _ := e3
      have at1 := made l _ e1
      have list1 : (s.heap.push (newSet w)).IsList l items := ⟨_, at1, rfl, n1, rfl⟩
      have m9 := F.sub_list_set
      have m10 := F.sub_list_frozenset
      have m11 : (Value.type "list" == Value.type "dict") = false := by decide
      unfold Builtin.«set.__init__» noKeywords Builtin.Frozenset.updateFrom
      generalize hid : pyIter = IT
      wp_walk
      subst hid
      refine wpAny_pyIter_list list1 ?_
      refine wpAny_bind (wpAny_runValue ?_)
      have below : l < s.heap.objs.size := Heap.lt_size e1
      have sz : (s.heap.push (newSet w)).objs.size = s.heap.objs.size + 1 := Heap.size_push ..
      have ne1 : l ≠ (s.heap.push (newSet w)).objs.size := Nat.ne_of_lt (by rw [sz]; exact Nat.lt_succ_of_lt below)
      have calm3 : A.in1.in1.in1.handled = none := by simp [calm]
      have out : s.heap.objs.size ∉ [(s.heap.push (newSet w)).objs.size, l] := by
        intro z
        rcases List.mem_cons.mp z with z | z
        · exact Nat.ne_of_lt (by rw [sz]; exact Nat.lt_succ_self _) z
        · exact Nat.ne_of_gt below (List.mem_singleton.mp z)
      have key : ∀ (i : Nat) (v : Value), items[i]? = some v → RelV (kV ((ks[i]?).getD (.inl 0))) v := fun i v hv => by
        have h1 : items.toList[i]? = some v := by rw [Array.getElem?_toList]; exact hv
        have lt : i < ks.length := by
          have := (List.getElem?_eq_some_iff.mp h1).1
          rw [Array.length_toList] at this
          omega
        obtain ⟨u, h2, h3⟩ := keys.get (i := i) (x := kV ks[i]) (by rw [List.getElem?_map, List.getElem?_eq_getElem lt]; rfl)
        have h4 := h1.symm.trans h2
        obtain rfl : v = u := by injection h4
        rw [List.getElem?_eq_getElem lt]
        exact h3
      have two : ((s.heap.push (newSet w)).push { cls := .type "list_iterator", data := .fields #[.ref l, .int 0 0] }).get? s.heap.objs.size = some (newSet w) := Heap.get?_push_of_some _ at0
      refine setG_loop ((Walks.list calm3 _ l ne1 items).toS) s.heap.objs.size out _ key (by rw [size]; exact few) items.size 0 _ [] (by omega) (Nat.zero_le _) ⟨⟨_, Heap.get?_push_size _ rfl, rfl, rfl⟩, list1.push _⟩ (setG_new two) (Nat.le_refl _) (fun x => ?_) ?_
      · constructor
        · intro z; cases z
        · rintro ⟨j, h1, _⟩; omega
      · intro s' ms mv hS hl hm
        obtain ⟨h', g', d', tk', os'⟩ := s'
        obtain rfl : g' = s.gens := mv.gens
        obtain rfl : d' = s.drawn := mv.drawn
        obtain rfl : os' = s.os := mv.os
        refine wpAny_pure (wpAny_pure ⟨rfl, h', tk', ms, rfl, hS, by omega, fun k => ?_, fun b o e => ?_⟩)
        · rw [hm k]
          constructor
          · rintro ⟨j, h1, h2⟩
            rw [List.getElem?_eq_getElem (by omega)] at h2
            exact h2 ▸ List.getElem_mem _
          · intro hk
            obtain ⟨j, h1, h2⟩ := List.getElem_of_mem hk
            exact ⟨j, by omega, by rw [List.getElem?_eq_getElem h1]; exact h2⟩
        · have lt := Heap.lt_size e
          refine mv.heap b o (fun z => ?_) (Heap.get?_push_of_some _ (made b o e))
          rcases List.mem_cons.mp z with z | z
          · exact Nat.ne_of_lt lt z
          · exact Nat.ne_of_lt (by rw [sz]; exact Nat.lt_succ_of_lt lt) (List.mem_singleton.mp z)
    · rcases r₂ with e | fl₂
      · exact h2
      cases fl₂ with
      | ret v =>
        obtain ⟨rfl, h', tk, ms, rfl, g1, g2, g3, g4⟩ := h2
        repeat (any_goals (first | assumption | wp_step))
        exact fin h' tk ms g1 g2 g3 g4
      | _ => exact h2.elim
  | _ => exact hr.elim
end
/-- the set at p -/
def setO (P : Program) (w : World) (p : Addr) (ms : List Key) : HO := .ext fun h => SetG P w h p ms
theorem setO_new {P : Program} {w : World} {H : Hp} {h : Heap} {p : Addr} {ms : List Key} (R : SetG P w h p ms) : ObjOk P w H h p (setO P w p ms) :=
  ⟨R, (let ⟨o, _, _, _, ho, _⟩ := R; ⟨o, ho⟩), fun _ _ r k => r.sta k⟩
theorem SetG.nd {P : Program} {w : World} {h : Heap} {p : Addr} {ms : List Key} (R : SetG P w h p ms) : ms.Nodup := let ⟨_, _, _, _, _, _, _, _, nd, _⟩ := R; nd
/-- set(xs) -/
theorem cr_setG {X : Cx} (hc : X.calm = true) : CallR X (.type "set") (fun vs H Q => ∃ (l : Addr) (ks : List Key), vs = [.ref l] ∧ SqL X.K H l (ks.map kV) ∧ ks.length + 1 < scanBound ∧
    ∀ (p : Addr) (ms : List Key), H p = none → ms.length ≤ ks.length → (∀ k, k ∈ ms ↔ k ∈ ks) → ms.Nodup → Q (.ref p) (upd H p (setO X.prog X.w p ms))) := by
  rintro pins s σ H vs us Q I r ⟨l, ks, rfl, hq, few, q⟩
  obtain ⟨u, rfl, rx⟩ := vals1 r
  cases rx
  obtain ⟨its, rv, pl, hz⟩ := I.list hq
  refine setG_call (I.ok.hd hc) pl.isList (by simpa using rv) few fun h' tk ms g1 g2 g3 g4 => ?_
  exact ⟨.ref s.heap.objs.size, _, I.laid (t' := tk) g4 (Nat.le_refl _) (setO_new g1), rfl, q _ ms (I.hok.fresh (Nat.le_refl _)) g2 g3 g1.nd⟩
def encK : Key → PyData
  | .inl i => .int i
  | .inr x => .str x
theorem paired_perm {α β : Type} {F : α → β → Prop} {l m : List α} (p : l.Perm m) : ∀ {bs : List β}, Paired F l bs → ∃ cs : List β, cs.Perm bs ∧ Paired F m cs := by
  induction p with
  | nil => exact fun q => ⟨_, List.Perm.refl _, q⟩
  | cons x p ih =>
    intro bs q
    cases q with
    | cons r t =>
      obtain ⟨cs, h1, h2⟩ := ih t
      exact ⟨_, h1.cons _, .cons r h2⟩
  | swap x y l =>
    intro bs q
    cases q with
    | cons r t =>
      cases t with
      | cons r2 t => exact ⟨_, List.Perm.swap _ _ _, .cons r2 (.cons r t)⟩
  | trans p1 p2 ih1 ih2 =>
    intro bs q
    obtain ⟨cs, h1, h2⟩ := ih1 q
    obtain ⟨ds, h3, h4⟩ := ih2 h2
    exact ⟨ds, h3.trans h1, h4⟩
theorem paired_each {α β : Type} {F : α → β → Prop} : ∀ {l : List α} {bs : List β}, Paired F l bs → PySem.W.EachIs F l bs
  | _, _, .nil => .nil
  | _, _, .cons r t => .cons r (paired_each t)
theorem each_vals : ∀ {us : List Value} {ks : List Key}, PySem.W.EachIs (fun v k => RelV (kV k) v) us ks → Vals (ks.map kV) us
  | _, _, .nil => .nil
  | _, _, .cons r t => .cons r (each_vals t)
theorem paired_snd {P : Program} {w : World} : ∀ {l : List (Int × Value)} {ks : List Key}, Paired (HoldsK P w) l ks → Paired (fun v k => RelV (kV k) v) (l.map (·.2)) ks
  | _, _, .nil => .nil
  | _, _, .cons r t => .cons r.1 (paired_snd t)
/-- numbers alone, or texts alone -/
def OneSort (ks : List Key) : Prop := (∀ k ∈ ks, ∃ i, k = .inl i) ∨ ∀ k ∈ ks, ∃ x, k = .inr x
theorem cr_sortedG {X : Cx} (hc : X.calm = true) (hu : X.A.units + 64 < cLine) : CallR X (.builtin "sorted") (fun vs H Q => ∃ (a : Addr) (ms : List Key), vs = [.ref a] ∧ H a = some (setO X.prog X.w a ms) ∧ OneSort ms ∧
    ∀ (p : Addr) (bs : List Key), H p = none → bs.Perm ms → Q (.ref p) (upd H p (.lst ((bs.mergeSort (PySem.W.dataLe false encK)).map kV)))) := by
  rintro pins s σ H vs us Q I r ⟨a, ms, rfl, hH, one, q⟩
  obtain ⟨u, rfl, rx⟩ := vals1 r
  cases rx
  obtain ⟨o, es, ep, t, ho, ex, hd, ⟨l', p1, pr⟩, nd, hb, hf, hr, hl⟩ := (I.hok a _ hH).1
  refine Calls.call_function_entry kind_sorted plain_sorted entry_sorted (args_sorted1 _) ?_
  unfold Builtin.«sorted»
  refine wpAny_bind (m := checkCount "sorted" 1 1 _) (wpAny_pure ?_)
  refine wpAny_bind (collect_set (A := X.A.in1) (I.ok.hd hc) ⟨o, ho, ex.1, hd⟩ hf hb hr hl fun s1 out k1 z1 g1 o1 pm => ?_)
  obtain ⟨bs, b1, b2⟩ := paired_perm (pm.trans (p1.map (·.2))).symm (paired_snd pr)
  have each := paired_each b2
  have len : out.length = bs.length := Paired.length b2
  have small : out.length ≤ sizeLine := by
    have := fits_of_scanBound hb
    rw [pm.length_eq, List.length_map, Array.length_toList]
    exact this
  have members : ∀ k ∈ bs, k ∈ ms := fun k hk => b1.mem_iff.mp hk
  refine wpAny_bind (wpAny_newList ?_ small)
  have at1 : (s1.heap.push (seqObj "list" out.toArray 0)).get? s1.heap.objs.size = some (seqObj "list" out.toArray 0) := Heap.get?_push_size _ rfl
  have reads : ∀ {us : List Value} {ks : List Key}, PySem.W.EachIs (fun v k => RelV (kV k) v) us ks → PySem.W.EachIs (fun v k => ∃ as, Reads (s1.heap.push (seqObj "list" out.toArray 0)) v (encK k) as ∧ s1.heap.objs.size ∉ as) us ks := by
    intro us ks e
    induction e with
    | nil => exact .nil
    | @cons v k _ _ r _ ih =>
      refine .cons ?_ ih
      cases k with
      | inl i => obtain ⟨t, rfl⟩ := r; exact ⟨[], .int i t, by simp⟩
      | inr x => obtain ⟨t, rfl⟩ := r; exact ⟨[], .str x t, by simp⟩
  refine wpAny_bind (wpAny_holding (PySem.W.list_sort_data (enc := encK) (R := fun v k => RelV (kV k) v) (bs := bs) at1 each (reads each) ?_ ?_ (by rw [← len]; exact small) ?_ fun out' l2 e2 => wpAny_pure ⟨_, rfl, ?_⟩))
  · intro d hd d' hd'
    obtain ⟨k, hk, rfl⟩ := List.mem_map.mp hd
    obtain ⟨k', hk', rfl⟩ := List.mem_map.mp hd'
    rcases one with one | one
    · obtain ⟨i, rfl⟩ := one k (members k hk)
      obtain ⟨j, rfl⟩ := one k' (members k' hk')
      simp [encK, PySem.W.alike]
    · obtain ⟨i, rfl⟩ := one k (members k hk)
      obtain ⟨j, rfl⟩ := one k' (members k' hk')
      simp [encK, PySem.W.alike]
  · refine .inr fun d hd => ?_
    obtain ⟨k, hk, rfl⟩ := List.mem_map.mp hd
    cases k <;> exact ⟨(fun z => nomatch z), (fun _ z => nomatch z)⟩
  · intro k hk
    have : (encK k).depth ≤ 1 := by cases k <;> simp [encK, PyData.depth]
    show X.A.in1.units + 1 + (encK k).depth < cLine
    have : X.A.in1.units = X.A.units + 1 := rfl
    omega
  · obtain ⟨c, hat⟩ := sortedHeap_at (vs := out) (out := List.toArray out') at1
    have keep : ∀ b u, s.heap.get? b = some u → (sortedHeap (s1.heap.push (seqObj "list" out.toArray 0)) s1.heap.objs.size out (List.toArray out')).get? b = some u := fun b u e => by
      have e1 := k1 b u e
      have lt := Heap.lt_size e1
      rw [sortedHeap_old (Nat.ne_of_lt lt) (by rw [Heap.size_push]; exact Nat.lt_succ_of_lt lt)]
      exact Heap.get?_push_of_some _ e1
    have vals := each_vals e2
    have ok : ObjOk X.prog X.w (upd H s1.heap.objs.size (.lst ((bs.mergeSort (PySem.W.dataLe false encK)).map kV))) (sortedHeap (s1.heap.push (seqObj "list" out.toArray 0)) s1.heap.objs.size out (List.toArray out')) s1.heap.objs.size (.lst ((bs.mergeSort (PySem.W.dataLe false encK)).map kV)) := by
      refine ⟨?_, out', c, vals, hat⟩
      rw [List.length_map, List.length_mergeSort, ← len]
      exact small
    have I2 := I.call (g' := s1.gens) (d' := s1.drawn) (t' := s1.toks) (ch := []) (Un.laid keep z1 (I.hok.fresh z1)) (I.hok.laid keep z1 ok) (by rw [g1]; exact I.bare) (fun _ z => nomatch z)
    refine ⟨.ref s1.heap.objs.size, _, ?_, rfl, q _ bs (I.hok.fresh z1) b1⟩
    rw [← o1] at I2
    exact I2
/-- len(set(xs)) -/
theorem cr_lenG {X : Cx} : CallR X (.builtin "len") (fun vs H Q => ∃ (a : Addr) (ms : List Key), vs = [.ref a] ∧ H a = some (setO X.prog X.w a ms) ∧ Q (.int ms.length) H) := by
  rintro pins s σ H vs us Q I r ⟨a, ms, rfl, hH, q⟩
  obtain ⟨u, rfl, rx⟩ := vals1 r
  cases rx
  obtain ⟨o, es, ep, t, ho, ex, hd, hold, nd, hb, hf, hr, hl⟩ := (I.hok a _ hH).1
  have e := hold.len
  rw [Array.length_toList] at e
  refine call_len_set ho ex hd hf ?_ ⟨.int ms.length, H, I.tok _, ⟨_, by rw [e]⟩, q⟩
  have : es.size < 4096 := hb
  omega
theorem boot_sorted' : bootBuiltins "sorted" = some (.builtin "sorted") := by decide +kernel
theorem boot_len' : bootBuiltins "len" = some (.builtin "len") := by decide +kernel
theorem boot_set' : bootBuiltins "set" = some (.type "set") := by decide +kernel
section
variable {C : SC} {s : Sc} {X : Cx} {a : Ex} {a' : Expr} {pos p p1 p2 p3 q : Pos} {k : Nat}
theorem sd_rev (hX : XO C s X) (ha : PE X a' (tE C a)) : PE X (.Subscript a' (.Slice none none (some (.UnaryOp .USub (.Constant (.int 1) k p1) p2)) p3) pos) (tE C (.un1 .rev a)) := by
  refine (pe_revL ha).imp ?_
  rintro σ H Q ⟨base, ρ, R, m, env, w, er, po⟩
  unfold evE at po
  refine ⟨base, ρ, R, m, env, w, er, (Po.bind (Rl C.K) po).mono fun vx H1 h1 => h1.run fun x m1 ρ1 R1 x1 w1 rx po1 => ?_⟩
  obtain ⟨z, hz, po2⟩ := po1.of
  unfold unD at hz
  obtain ⟨xs, hs, rfl⟩ := Option.map_eq_some_iff.mp hz
  obtain ⟨l, b, us, rfl, h2, r2⟩ := lst_of w1 rx hs
  rw [hX.K]
  exact ⟨b, us, rfl, h2, fun t ht => w1.lst ht r2.reverse (by rw [List.length_reverse]; exact l) po2⟩
theorem keysD_vals {K : PySem.W.Frag} {ρ : List Addr} {R : Hp} : ∀ {ds : List DV} {vs : List V} {ks : List KA}, Rls K ρ R ds vs → keysD ds = some ks → vs = (ks.map kaK).map kV ∧ ks.length = ds.length
  | [], vs, ks, r, h => by
    rw [Rls.nil_iff.mp r]
    obtain rfl : [] = ks := Option.some.inj h
    exact ⟨rfl, rfl⟩
  | d :: ds, vs, ks, r, h => by
    obtain ⟨v, vs', rfl, h1, h2⟩ := Rls.cons_iff.mp r
    obtain ⟨a, ha, h⟩ := Option.bind_eq_some_iff.mp h
    obtain ⟨b, hb, rfl⟩ := Option.map_eq_some_iff.mp h
    obtain ⟨i1, i2⟩ := keysD_vals h2 hb
    refine ⟨?_, by simp [i2]⟩
    rw [List.map_cons, List.map_cons, ← i1]
    congr 1
    cases d <;> first | (cases ha; done) | skip
    · obtain rfl := Option.some.inj ha; exact rl_int.mp h1
    · obtain rfl := Option.some.inj ha; exact (rl_str.mp h1).2
theorem ddK_mem {κ : Type} [DecidableEq κ] : ∀ {ks : List κ} {k : κ}, k ∈ ddK ks ↔ k ∈ ks
  | [], k => Iff.rfl
  | j :: ks, k => by
    unfold ddK
    split
    · rename_i h
      rw [ddK_mem, List.mem_cons]
      exact ⟨.inr, fun z => z.elim (fun e => e ▸ h) id⟩
    · rw [List.mem_cons, List.mem_cons, ddK_mem]
theorem ddK_len {κ : Type} [DecidableEq κ] : ∀ {ks : List κ}, (ddK ks).length ≤ ks.length
  | [] => Nat.le_refl _
  | j :: ks => by
    have := ddK_len (ks := ks)
    unfold ddK
    split
    · exact Nat.le_succ_of_le this
    · exact Nat.succ_le_succ this
theorem ddK_nodup {κ : Type} [DecidableEq κ] : ∀ {ks : List κ}, (ddK ks).Nodup
  | [] => List.nodup_nil
  | j :: ks => by
    unfold ddK
    split
    · exact ddK_nodup
    · rename_i h
      exact List.nodup_cons.mpr ⟨fun z => h (ddK_mem.mp z), ddK_nodup⟩
theorem toS_list (x : List Nat) : (toS x).cps.toList = x := by simp [toS]
theorem kaLe_enc {ks : List KA} (h : oneK ks = true) : ∀ a ∈ ks, ∀ b ∈ ks, kaLe a b = PySem.W.dataLe false encK (kaK a) (kaK b) := by
  intro a ha b hb
  unfold oneK at h
  rw [Bool.and_eq_true, Bool.or_eq_true, List.all_eq_true, List.all_eq_true] at h
  have hi : ∀ i j : Int, PySem.W.dataLe false encK (.inl i) (.inl j) = decide (i ≤ j) := fun i j => by
    have := congrFun (congrFun (PySem.W.dataLe_int (β := Int) (fun b => b)) i) j
    exact this
  have hx : ∀ i j : Str, PySem.W.dataLe false encK (.inr i) (.inr j) = decide (i.cps.toList ≤ j.cps.toList) := fun i j => by
    have := congrFun (congrFun (PySem.W.dataLe_str (β := Str) (fun b => b)) i) j
    exact this
  rcases h.1 with h | h
  · have h1 := h a ha
    have h2 := h b hb
    cases a <;> cases b <;> first | (cases h1; done) | (cases h2; done) | skip
    rw [kaK, kaK, hi]; rfl
  · have h1 := h a ha
    have h2 := h b hb
    cases a <;> cases b <;> first | (cases h1; done) | (cases h2; done) | skip
    rw [kaK, kaK, hx, toS_list, toS_list]; rfl
theorem kaLe_trans : ∀ a b c : KA, kaLe a b = true → kaLe b c = true → kaLe a c = true
  | .inl a, .inl b, .inl c, h1, h2 => by simp only [kaLe, decide_eq_true_eq] at *; omega
  | .inl a, .inl b, .inr c, h1, h2 => rfl
  | .inl a, .inr b, .inl c, h1, h2 => nomatch h2
  | .inl a, .inr b, .inr c, h1, h2 => rfl
  | .inr a, .inl b, c, h1, h2 => nomatch h1
  | .inr a, .inr b, .inl c, h1, h2 => nomatch h2
  | .inr a, .inr b, .inr c, h1, h2 => by simp only [kaLe, decide_eq_true_eq] at *; exact List.le_trans h1 h2
theorem kaLe_total : ∀ a b : KA, (kaLe a b || kaLe b a) = true
  | .inl a, .inl b => by simp only [kaLe, Bool.or_eq_true, decide_eq_true_eq]; omega
  | .inl a, .inr b => rfl
  | .inr a, .inl b => rfl
  | .inr a, .inr b => by simp only [kaLe, Bool.or_eq_true, decide_eq_true_eq]; exact List.le_total a b
theorem kaLe_anti : ∀ a b : KA, kaLe a b = true → kaLe b a = true → a = b
  | .inl a, .inl b, h1, h2 => by simp only [kaLe, decide_eq_true_eq] at *; rw [Int.le_antisymm h1 h2]
  | .inl a, .inr b, h1, h2 => nomatch h2
  | .inr a, .inl b, h1, h2 => nomatch h1
  | .inr a, .inr b, h1, h2 => by simp only [kaLe, decide_eq_true_eq] at *; rw [List.le_antisymm h1 h2]
theorem sort_perm {as bs : List KA} (p : as.Perm bs) : as.mergeSort kaLe = bs.mergeSort kaLe :=
  List.Perm.eq_of_pairwise (le := fun a b => kaLe a b = true) (fun a b _ _ => kaLe_anti a b) (List.pairwise_mergeSort kaLe_trans kaLe_total _) (List.pairwise_mergeSort kaLe_trans kaLe_total _) ((List.mergeSort_perm _ _).trans (p.trans (List.mergeSort_perm _ _).symm))
theorem paired_map {α β : Type} (f : β → α) : ∀ l : List β, Paired (fun (x : α) (y : β) => x = f y) (l.map f) l
  | [] => .nil
  | x :: l => .cons rfl (paired_map f l)
theorem map_of_paired {α β : Type} {f : β → α} : ∀ {l : List α} {m : List β}, Paired (fun (x : α) (y : β) => x = f y) l m → l = m.map f
  | _, _, .nil => rfl
  | _, _, .cons r t => by rw [r, map_of_paired t]; rfl
theorem map_nodup {α β : Type} {f : α → β} (hf : ∀ a b, f a = f b → a = b) : ∀ {l : List α}, l.Nodup → (l.map f).Nodup
  | [], _ => List.nodup_nil
  | x :: l, h => by
    obtain ⟨h1, h2⟩ := List.nodup_cons.mp h
    refine List.nodup_cons.mpr ⟨fun z => ?_, map_nodup hf h2⟩
    obtain ⟨y, hy, e⟩ := List.mem_map.mp z
    exact h1 (hf _ _ e ▸ hy)
theorem members_perm {ks : List KA} {ms : List Key} (h : ∀ k, k ∈ ms ↔ k ∈ ks.map kaK) (nd : ms.Nodup) : ms.Perm ((ddK ks).map kaK) :=
  (List.perm_ext_iff_of_nodup nd (map_nodup (fun _ _ => kaK_inj) ddK_nodup)).mpr fun k => by
    rw [h k, List.mem_map, List.mem_map]
    constructor
    · rintro ⟨a, h1, h2⟩; exact ⟨a, ddK_mem.mpr h1, h2⟩
    · rintro ⟨a, h1, h2⟩; exact ⟨a, ddK_mem.mp h1, h2⟩
theorem sort_keys {ks : List KA} (one : oneK ks = true) {ms bs : List Key} (h : ∀ k, k ∈ ms ↔ k ∈ ks.map kaK) (nd : ms.Nodup) (p : bs.Perm ms) : bs.mergeSort (PySem.W.dataLe false encK) = ((ddK ks).mergeSort kaLe).map kaK := by
  obtain ⟨cs, c1, c2⟩ := paired_perm (p.trans (members_perm h nd)).symm (paired_map kaK (ddK ks))
  rw [map_of_paired c2, ← List.map_mergeSort (r := kaLe), sort_perm c1]
  exact fun a ha b hb => kaLe_enc one a (ddK_mem.mp (c1.mem_iff.mp ha)) b (ddK_mem.mp (c1.mem_iff.mp hb))
theorem oneSort_of {ks : List KA} (one : oneK ks = true) {ms : List Key} (h : ∀ k, k ∈ ms ↔ k ∈ ks.map kaK) : OneSort ms := by
  unfold oneK at one
  rw [Bool.and_eq_true, Bool.or_eq_true, List.all_eq_true, List.all_eq_true] at one
  rcases one.1 with one | one
  · refine .inl fun k hk => ?_
    obtain ⟨a, h1, rfl⟩ := List.mem_map.mp ((h k).mp hk)
    have := one a h1
    cases a with
    | inl i => exact ⟨i, rfl⟩
    | inr x => cases this
  · refine .inr fun k hk => ?_
    obtain ⟨a, h1, rfl⟩ := List.mem_map.mp ((h k).mp hk)
    have := one a h1
    cases a with
    | inl i => cases this
    | inr x => exact ⟨_, rfl⟩
theorem keys_rls {K : PySem.W.Frag} {ρ : List Addr} {R : Hp} {ks : List KA} (hz : ∀ k ∈ ks, kaZ k) : Rls K ρ R (ks.map ofKa) ((ks.map kaK).map kV) := ofKas_rl hz
theorem keysD_z {K : PySem.W.Frag} {ρ : List Addr} {R : Hp} : ∀ {ds : List DV} {vs : List V} {ks : List KA}, Rls K ρ R ds vs → keysD ds = some ks → ∀ k ∈ ks, kaZ k
  | [], vs, ks, r, h => by
    obtain rfl : [] = ks := Option.some.inj h
    intro k hk; cases hk
  | d :: ds, vs, ks, r, h => by
    obtain ⟨v, vs', rfl, h1, h2⟩ := Rls.cons_iff.mp r
    obtain ⟨a, ha, h⟩ := Option.bind_eq_some_iff.mp h
    obtain ⟨b, hb, rfl⟩ := Option.map_eq_some_iff.mp h
    intro k hk
    rcases List.mem_cons.mp hk with rfl | hk
    · intro x e
      subst e
      cases d <;> first | (cases ha; done) | skip
      obtain rfl : _ = x := Sum.inr.inj (Option.some.inj ha)
      exact (rl_str.mp h1).1
    · exact keysD_z h2 hb k hk
theorem set_of_list (hX : XO C s X) {xs : List DV} {base : Bs} {ρ : List Addr} {R H : Hp} {m : Mem} (w : WR C.K base ρ R m H) {x : DV} {v : V} (rx : Rl C.K ρ R x v) {ks : List KA} (hs : lstD (rs m x) = some xs) (hk : keysD xs = some ks) (one : oneK ks = true) {Q : VK}
    (q : ∀ p ms, H p = none → (∀ k, k ∈ ms ↔ k ∈ ks.map kaK) → ms.Nodup → Q (.ref p) (upd H p (setO X.prog X.w p ms))) :
    ∃ (l : Addr) (js : List Key), [v] = [V.ref l] ∧ SqL X.K H l (js.map kV) ∧ js.length + 1 < scanBound ∧ ∀ (p : Addr) (ms : List Key), H p = none → ms.length ≤ js.length → (∀ k, k ∈ ms ↔ k ∈ js) → ms.Nodup → Q (.ref p) (upd H p (setO X.prog X.w p ms)) := by
  obtain ⟨l, b, us, rfl, h2, r2⟩ := lst_of w rx hs
  obtain ⟨rfl, len⟩ := keysD_vals r2 hk
  refine ⟨b, ks.map kaK, rfl, by rw [hX.K]; exact h2, ?_, fun p ms h1 _ h3 h4 => q p ms h1 h3 h4⟩
  unfold oneK at one
  rw [Bool.and_eq_true, decide_eq_true_eq] at one
  rw [List.length_map]
  have : (4096 : Nat) = scanBound := rfl
  omega
theorem sd_sset (hX : XO C s X) (g1 : glB s.eff "sorted" = true) (g2 : ("sorted" : Str) ∈ C.bi) (k1 : glB s.eff "set" = true) (k2 : ("set" : Str) ∈ C.bi) (hs : noStarE a' = true) (ha : PE X a' (tE C a)) :
    PE X (.Call (.Name "sorted" p) [.Call (.Name "set" p2) [a'] [] q] [] pos) (tE C (.un1 .sset a)) := by
  obtain ⟨kr, hr⟩ := hX.room
  have inner := pe_callTy (p := p2) (pos := q) (cr_setG hX.calm) (glB_ok hX k1) (hX.bi _ k2) boot_set' (pa_cons ha pa_nil (star_ok hs)) (by decide) (by decide) (star_ok hs) (star_any rfl)
  refine (pe_callB (p := p) (pos := pos) (cr_sortedG hX.calm (by have := hr.un; omega)) (glB_ok hX g1) (hX.bi _ g2) boot_sorted' (pa_cons inner pa_nil (star_ok rfl)) (by decide) (by decide) (star_ok rfl) (star_any rfl)).imp ?_
  rintro σ H Q ⟨base, ρ, R, m, env, w, er, po⟩
  unfold evE at po
  refine ⟨base, ρ, R, m, env, w, er, (Po.bind (Rl C.K) po).mono fun vx H1 h1 => h1.run fun x m1 ρ1 R1 x1 w1 rx po1 => ?_⟩
  obtain ⟨z, hz, po2⟩ := po1.of
  unfold unD at hz
  obtain ⟨xs, hs, hz⟩ := Option.bind_eq_some_iff.mp hz
  obtain ⟨ks, hk, hz⟩ := Option.bind_eq_some_iff.mp hz
  obtain ⟨one, rfl⟩ := some_if hz
  refine set_of_list hX w1 rx hs hk one (Q := fun v H => ∃ (a : Addr) (ms : List Key), [v] = [V.ref a] ∧ H a = some (setO X.prog X.w a ms) ∧ OneSort ms ∧ ∀ (p : Addr) (bs : List Key), H p = none → bs.Perm ms → Q (.ref p) (upd H p (.lst ((bs.mergeSort (PySem.W.dataLe false encK)).map kV)))) fun b ms h1 h2 h3 => ?_
  refine ⟨b, ms, rfl, upd_same, oneSort_of one h2, fun c bs h4 h5 => ?_⟩
  rw [sort_keys one h2 h3 h5]
  obtain ⟨x2, w2⟩ := w1.fix h1 (setO X.prog X.w b ms)
  obtain ⟨l, _, us, _, _, r2⟩ := lst_of w1 rx hs
  have kz := keysD_z r2 hk
  have len := (keysD_vals r2 hk).2
  refine w2.lst h4 (keys_rls fun k hk2 => kz k (ddK_mem.mp ((List.mergeSort_perm _ _).mem_iff.mp hk2))) ?_ (po2.up x2)
  rw [List.length_map, List.length_mergeSort]
  have : (ddK ks).length ≤ ks.length := ddK_len
  omega
theorem sd_lset (hX : XO C s X) (g1 : glB s.eff "len" = true) (g2 : ("len" : Str) ∈ C.bi) (k1 : glB s.eff "set" = true) (k2 : ("set" : Str) ∈ C.bi) (hs : noStarE a' = true) (ha : PE X a' (tE C a)) :
    PE X (.Call (.Name "len" p) [.Call (.Name "set" p2) [a'] [] q] [] pos) (tE C (.un1 .lset a)) := by
  have inner := pe_callTy (p := p2) (pos := q) (cr_setG hX.calm) (glB_ok hX k1) (hX.bi _ k2) boot_set' (pa_cons ha pa_nil (star_ok hs)) (by decide) (by decide) (star_ok hs) (star_any rfl)
  refine (pe_callB (p := p) (pos := pos) cr_lenG (glB_ok hX g1) (hX.bi _ g2) boot_len' (pa_cons inner pa_nil (star_ok rfl)) (by decide) (by decide) (star_ok rfl) (star_any rfl)).imp ?_
  rintro σ H Q ⟨base, ρ, R, m, env, w, er, po⟩
  unfold evE at po
  refine ⟨base, ρ, R, m, env, w, er, (Po.bind (Rl C.K) po).mono fun vx H1 h1 => h1.run fun x m1 ρ1 R1 x1 w1 rx po1 => ?_⟩
  obtain ⟨z, hz, po2⟩ := po1.of
  unfold unD at hz
  obtain ⟨xs, hs, hz⟩ := Option.bind_eq_some_iff.mp hz
  obtain ⟨ks, hk, hz⟩ := Option.bind_eq_some_iff.mp hz
  obtain ⟨one, rfl⟩ := some_if hz
  refine set_of_list hX w1 rx hs hk one (Q := fun v H => ∃ (a : Addr) (ms : List Key), [v] = [V.ref a] ∧ H a = some (setO X.prog X.w a ms) ∧ Q (.int ms.length) H) fun b ms h1 h2 h3 => ?_
  refine ⟨b, ms, rfl, upd_same, ?_⟩
  obtain ⟨x2, w2⟩ := w1.fix h1 (setO X.prog X.w b ms)
  have e : ms.length = (ddK ks).length := by rw [(members_perm h2 h3).length_eq, List.length_map]
  exact (po2.up x2).ok Xt.refl w2 (rl_int.mpr (by rw [e]))
end
end Ev

set_option Elab.async false
set_option linter.all false
set_option maxRecDepth 100000
/-! Built-ins as values; the check that what is told is what stands in the text. -/
namespace Ev
open PySem PySem.Spec PyProof.Rows L2

section
variable {C : SC} {s : Sc} {X : Cx} {a b c d : Ex} {a' b' c' d' g e' : Expr} {pos p apos cpos tpos : Pos} {es : List Ex} {es' elts : List Expr} {lk : Option Nat} {kk : Nat}
theorem sd_prim (hX : XO C s X) {q : Pr} (hc : CallR X (prVal q).val (rPr C q)) (hv : glB s.eff (prName q) = true) (hb : prName q ∈ C.bi) (ha : PA X (e' :: es') (tA C es)) (hs : (e' :: es').all noStarE = true) : PE X (.Call (.Name (prName q) p) (e' :: es') [] pos) (tE C (.prim q es)) := by
  refine (pr_call hX hc hv hb ha hs).imp ?_
  rintro σ H Q ⟨base, ρ, R, m, env, w, er, po⟩
  unfold evE at po
  exact ⟨base, ρ, R, m, env, w, er, (Po.bind (Rls C.K) po).mono fun vs H1 h1 => h1.run fun xs m1 ρ1 R1 x1 w1 rx po1 => ⟨base, ρ1, R1, m1, xs, w1, rx, po1⟩⟩
theorem sd_primM (hX : XO C s X) {q : Pr} (hc : CallR X (prVal q).val (rPrN C q)) (hv : glB s.eff (prName q) = true) (hb : prName q ∈ C.bi) (ha : PA X (e' :: es') (tA C es)) (hs : (e' :: es').all noStarE = true) : PE X (.Call (.Name (prName q) p) (e' :: es') [] pos) (tE C (.primM q es)) := by
  refine (pr_call hX hc hv hb ha hs).imp ?_
  rintro σ H Q ⟨base, ρ, R, m, env, w, er, po⟩
  unfold evE at po
  exact ⟨base, ρ, R, m, env, w, er, (Po.bind (Rls C.K) po).mono fun vs H1 h1 => h1.run fun xs m1 ρ1 R1 x1 w1 rx po1 => ⟨base, ρ1, R1, m1, xs, w1, rx, po1⟩⟩
/-- the built-ins that have a rule -/
def prOk : Pr → Bool
  | .dict1 => false
  | .dictT => false
  | .cat => false
  | _ => true
theorem pr_any1 (hX : XO C s X) : ∀ {q : Pr}, prOk q = true → CallR X (prVal q).val (rPr C q)
  | .len, _ => pr_len hX
  | .abs, _ => pr_abs hX
  | .int1, _ => pr_int1 hX
  | .str1, _ => pr_str1 hX
  | .list1, _ => pr_list1 hX
  | .tuple1, _ => pr_tuple1 hX
  | .sum, _ => pr_sum hX
  | .all, _ => pr_all hX
  | .any, _ => pr_any hX
  | .sorted, _ => pr_sorted hX
  | .min2, _ => (pr_minmax hX).1
  | .max2, _ => (pr_minmax hX).2
def prOkN : Pr → Bool
  | .list1 => true
  | .dict1 => true
  | .dictT => true
  | _ => false
theorem pr_any1N (hX : XO C s X) : ∀ {q : Pr}, prOkN q = true → CallR X (prVal q).val (rPrN C q)
  | .list1, _ => pr_list1N hX
  | .dict1, _ => pr_dict1N hX
  | .dictT, _ => pr_dictTN hX
def isCat : Pr → Bool
  | .cat => true
  | _ => false
theorem isCat_eq {q : Pr} (h : isCat q = true) : q = .cat := by cases q <;> first | rfl | cases h
theorem rd_of {K : PySem.W.Frag} {base : Bs} {ρ : List Addr} {R H : Hp} {m : Mem} (w : WR K base ρ R m H) {x : DV} {v : V} {ds : List DV} (r : Rl K ρ R x v) (h : rs m x = .lst ds) : ds.length ≤ SL ∧ ∃ a vs, v = V.ref a ∧ Rd H a (.lst vs) ∧ Rls K ρ R ds vs := by
  have hd := Hl.of w r
  rw [h] at hd
  exact hd
theorem cat_run {a b : Ex} {f : DV → Mem → Out DV} {σ : L2.St} {H : Hp} {Q : VK} {base : Bs} {ρ : List Addr} {R : Hp} {m : Mem} {env : Env'} (w : WR C.K base ρ R m H) (er : ER C.K ρ R env σ) {p : List DV → Option DV}
    (hp : ∀ xs z, p xs = some z → ∃ u v, xs = [.lst u, .lst v] ∧ u.length + v.length ≤ SL ∧ z = .lst (u ++ v))
    (po : Po C.K base (Rl C.K) ρ R Q ((evEs C.F C.cs base.n env [a, b] m).bind fun xs m => (Out.of (p (xs.map (rs m))) m).bind f))
    (hf : ∀ base ρ R m H us zs, WR C.K base ρ R m H → Rls C.K ρ R us zs → us.length ≤ SL → Po C.K base (Rl C.K) ρ R Q (f (.lst us) m) → ∀ p, H p = none → Q (.ref p) (upd H p (.lst zs))) : tOp rCatL (tE C a) (tE C b) σ H Q := by
  have e : (evEs C.F C.cs base.n env [a, b] m).bind (fun xs m => (Out.of (p (xs.map (rs m))) m).bind f) = (evE C.F C.cs base.n env a m).bind fun x m => (evE C.F C.cs base.n env b m).bind fun y m => (Out.of (p [rs m x, rs m y]) m).bind f := by
    rw [evEs]
    cases evE C.F C.cs base.n env a m with
    | ok x m1 =>
      simp only [Out.bind_ok]
      rw [evEs]
      cases evE C.F C.cs base.n env b m1 with
      | ok y m2 => simp only [Out.bind_ok]; rw [evEs]; rfl
      | exc z m2 => rfl
      | bad => rfl
    | exc z m1 => rfl
    | bad => rfl
  rw [e] at po
  refine two_ops w er po fun base ρ R m H x y vx vy w rx ry po => ?_
  obtain ⟨z, hz, po⟩ : ∃ z, p [rs m x, rs m y] = some z ∧ Po C.K base (Rl C.K) ρ R Q (f z m) := by
    cases hz : p [rs m x, rs m y] with
    | none => rw [hz] at po; exact po.elim
    | some z => rw [hz] at po; exact ⟨z, rfl, po⟩
  obtain ⟨u, v, e1, hl, rfl⟩ := hp _ _ hz
  injection e1 with e1 e2
  injection e2 with e2 _
  obtain ⟨l1, p1, us, rfl, q1, r1⟩ := rd_of w rx e1
  obtain ⟨l2, p2, vs, rfl, q2, r2⟩ := rd_of w ry e2
  refine ⟨p1, p2, us, vs, rfl, rfl, q1, q2, ?_, fun t ht => hf base ρ R m H _ _ w (r1.append r2) (by rw [List.length_append]; exact hl) po t ht⟩
  rw [r1.length, r2.length]; exact Nat.le_trans hl SL_line
theorem cat_inv {xs : List DV} {z : DV} (h : primD .cat xs = some z) : ∃ u v, xs = [.lst u, .lst v] ∧ u.length + v.length ≤ SL ∧ z = .lst (u ++ v) := by
  unfold primD at h
  split at h <;> first | (exfalso; exact Pr.noConfusion ‹_›) | skip
  · obtain ⟨h1, h2⟩ := some_if h
    exact ⟨_, _, rfl, h1, h2.symm⟩
  · cases h
theorem catN_inv {xs : List DV} {z : DV} (h : primND .cat xs = some z) : ∃ u v, xs = [.lst u, .lst v] ∧ u.length + v.length ≤ SL ∧ z = .lst (u ++ v) := by
  unfold primND at h
  split at h <;> first | (exfalso; exact Pr.noConfusion ‹_›) | skip
  · obtain ⟨h1, h2⟩ := some_if h
    exact ⟨_, _, rfl, h1, h2.symm⟩
  · cases h
theorem sd_cat (ha : PE X a' (tE C a)) (hb : PE X b' (tE C b)) : PE X (.BinOp a' .Add b' pos) (tE C (.prim .cat [a, b])) := by
  refine (pe_op op_catL ha hb).imp ?_
  rintro σ H Q ⟨base, ρ, R, m, env, w, er, po⟩
  unfold evE at po
  refine cat_run (p := primD .cat) (f := fun x m => .ok x m) w er (fun _ _ => cat_inv) ?_ fun base ρ R m H us zs w r hl po p hp => w.lst hp r hl po
  have e : ∀ o : Out DV, (o.bind fun x m => .ok x m) = o := fun o => by cases o <;> rfl
  simpa only [e] using po
theorem sd_catM (ha : PE X a' (tE C a)) (hb : PE X b' (tE C b)) : PE X (.BinOp a' .Add b' pos) (tE C (.primM .cat [a, b])) := by
  refine (pe_op op_catL ha hb).imp ?_
  rintro σ H Q ⟨base, ρ, R, m, env, w, er, po⟩
  unfold evE at po
  exact cat_run (p := primND .cat) w er (fun _ _ => catN_inv) po fun base ρ R m H us zs w r hl po p hp => w.lstM hp r hl po
theorem two_pe {es : List Ex} (h : match es, [a', b'] with
    | [b], [b'] => PE X b' (tE C b) ∧ True
    | [b, c], [b', c'] => PE X b' (tE C b) ∧ PE X c' (tE C c) ∧ True
    | _, _ => True) (hl : es.length = 2) : ∃ x y, es = [x, y] ∧ PE X a' (tE C x) ∧ PE X b' (tE C y) := by
  match es, hl with
  | [x, y], _ => exact ⟨x, y, rfl, h.1, h.2.1⟩
/-! ### the check -/
def opB : Op2 → Operator → Bool
  | .add, .Add => true
  | .sub, .Sub => true
  | .mul, .Mult => true
  | .fdiv, .FloorDiv => true
  | .mod, .Mod => true
  | .pow, .Pow => true
  | .shr, .RShift => true
  | _, _ => false
theorem opB_ok {o : Op2} {op : Operator} (h : opB o op = true) : op = opO o := by
  cases o <;> cases op <;> first | rfl | cases h
def cmB : Cm → CmpOp → Bool
  | .eq, .Eq => true
  | .ne, .NotEq => true
  | .lt, .Lt => true
  | .le, .LtE => true
  | .gt, .Gt => true
  | .ge, .GtE => true
  | .is, .Is => true
  | .isnot, .IsNot => true
  | .in_, .In => true
  | .notin, .NotIn => true
  | _, _ => false
theorem cmB_ok {o : Cm} {op : CmpOp} (h : cmB o op = true) : op = cmOp o := by
  cases o <;> cases op <;> first | rfl | cases h
def nameIs (x : Str) : Expr → Bool
  | .Name y _ => y == x
  | _ => false
def bltB (C : TX) (s : Sc) (x : Str) : Bool := glB s.eff x && C.bi.contains x
def lineB (e c : Pos) : Bool := e.endLine == c.line
/-- the method that a name tells -/
def mtName : Mt → Str
  | .append => "append"
  | .pop0 => "pop"
  | .popAt => "pop"
  | .get1 => "get"
  | .get2 => "get"
  | .join => "join"
  | .extend => "extend"
  | .index => "index"
section
variable (C : TX)
mutual
def chkE (s : Sc) : Ex → Expr → Bool
  | .var i, e' => (match e' with
    | .Name x _ => decide (C.N[i]? = some x) && visB s.eff x && nDbg x
    | _ => false)
  | .int i, e' => (match e' with
    | .Constant (.int j) _ _ => decide (j = i)
    | _ => false)
  | .str t, e' => (match e' with
    | .Constant (.str y) _ _ => decide (y = toS t) && decide (t.length ≤ SL)
    | _ => false)
  | .bl b, e' => (match e' with
    | .Constant (.bool c) _ _ => c == b
    | _ => false)
  | .non, e' => (match e' with
    | .Constant .none _ _ => true
    | _ => false)
  | .con g, e' => (match e' with
    | .Name x _ => decide (C.cons[g]? = some x) && glB s.eff x && nDbg x
    | _ => false)
  | .bin o a b, e' => (match e' with
    | .BinOp a' op b' _ => opB o op && chkE s a a' && chkE s b b'
    | _ => false)
  | .neg a, e' => (match e' with
    | .UnaryOp .USub a' _ => chkE s a a'
    | _ => false)
  | .cmp c a b, e' => (match e' with
    | .Compare a' [op] [b'] _ => cmB c op && noSetE b' && chkE s a a' && chkE s b b'
    | _ => false)
  | .chain c1 c2 a b c, e' => (match e' with
    | .Compare a' [op1, op2] [b', c'] _ => cmB c1 op1 && cmB c2 op2 && noSetE c' && chkE s a a' && chkE s b b' && chkE s c c'
    | _ => false)
  | .and a b, e' => (match e' with
    | .BoolOp .And [a', b'] _ => chkE s a a' && chkE s b b'
    | .BoolOp .And (a' :: b' :: c' :: rest) pos => chkE s a a' && chkE s b (.BoolOp .And (b' :: c' :: rest) pos)
    | _ => false)
  | .or a b, e' => (match e' with
    | .BoolOp .Or [a', b'] _ => chkE s a a' && chkE s b b'
    | .BoolOp .Or (a' :: b' :: c' :: rest) pos => chkE s a a' && chkE s b (.BoolOp .Or (b' :: c' :: rest) pos)
    | _ => false)
  | .not a, e' => (match e' with
    | .UnaryOp .Not a' _ => chkE s a a'
    | _ => false)
  | .ite c a b, e' => (match e' with
    | .IfExp c' a' b' _ => chkT s c c' && chkE s a a' && chkE s b b'
    | _ => false)
  | .tup es, e' => (match e' with
    | .Tuple es' _ _ => decide (es.length ≤ SL) && chkEs s es es'
    | _ => false)
  | .tupK es, e' => (match e' with
    | .Tuple es' _ _ => decide (es.length ≤ SL) && chkEs s es es'
    | _ => false)
  | .lst es, e' => (match e' with
    | .List es' _ => decide (es.length ≤ SL) && chkEs s es es'
    | _ => false)
  | .lstM es, e' => (match e' with
    | .List es' _ => decide (es.length ≤ SL) && chkEs s es es'
    | _ => false)
  | .dnew _, e' => (match e' with
    | .Dict [] [] _ => true
    | _ => false)
  | .dispM es, e' => (match e' with
    | .Dict (k0 :: ks) vs _ => decide (es.length % 2 = 0) && decide (es.length ≤ 30) && decide ((k0 :: ks).length = vs.length) && decide ((k0 :: ks).length ≤ 15) && (k0 :: ks).all (·.isSome) && chkD s es (k0 :: ks) vs
    | _ => false)
  | .sub a i, e' => (match e' with
    | .Subscript a' b' _ => noSliceE b' && chkE s a a' && chkE s i b'
    | _ => false)
  | .slice a lo hi, e' => (match e' with
    | .Subscript a' (.Slice lo' hi' none _) _ => chkE s a a' && chkO s lo lo' && chkO s hi hi'
    | _ => false)
  | .call f es, e' => (match e' with
    | .Call (.Name x _) es' [] _ => decide (C.fns[f]? = some x) && glB s.eff x && nDbg x && decide (es.length = es'.length) && chkEs s es es'
    | _ => false)
  | .prim q es, e' => (match e' with
    | .Call (.Name x _) (a' :: es') [] _ => prOk q && decide (x = prName q) && bltB C s x && chkEs s es (a' :: es')
    | .BinOp a' .Add b' _ => isCat q && chkEs s es [a', b']
    | _ => false)
  | .primM q es, e' => (match e' with
    | .Call (.Name x _) (a' :: es') [] _ => prOkN q && decide (x = prName q) && bltB C s x && chkEs s es (a' :: es')
    | .BinOp a' .Add b' _ => isCat q && chkEs s es [a', b']
    | _ => false)
  | .isi a t ts, e' => (match e' with
    | .Call (.Name x _) [a', .Name y _] [] _ => decide (x = "isinstance") && bltB C s x && noStarE a' && ts.isEmpty && (y == (tyStr t : Str)) && tyOk C s t && chkE s a a'
    | .Call (.Name x _) [a', .Tuple es' _ _] [] _ => decide (x = "isinstance") && bltB C s x && noStarE a' && areTys (t :: ts) es' && ((t :: ts).all fun u => tyOk C s u) && decide ((t :: ts).length ≤ SL) && chkE s a a'
    | _ => false)
  | .meth q a es, e' => (match e' with
    | .Call (.Attribute a' n ap) es' [] cp => decide (n = mtName q) && lineB ap cp && plainO a' && chkE s a a' && chkEs s es es' && (match q with
      | .append => decide (es'.length = 1)
      | .pop0 => decide (es'.length = 0)
      | .popAt => decide (es'.length = 1)
      | .get1 => decide (es'.length = 1)
      | .get2 => decide (es'.length = 2)
      | .join => decide (es'.length = 1)
      | .extend => decide (es'.length = 1)
      | .index => decide (es'.length = 1))
    | _ => false)
  | .un1 u a, e' => (match u, e' with
    | .rev, .Subscript a' (.Slice none none (some (.UnaryOp .USub (.Constant (.int 1) _ _) _)) _) _ => chkE s a a'
    | .sset, .Call (.Name x _) [.Call (.Name y _) [a'] [] _] [] _ => decide (x = "sorted") && decide (y = "set") && bltB C s x && bltB C s y && noStarE a' && chkE s a a'
    | .lset, .Call (.Name x _) [.Call (.Name y _) [a'] [] _] [] _ => decide (x = "len") && decide (y = "set") && bltB C s x && bltB C s y && noStarE a' && chkE s a a'
    | .sitems, .Call (.Name x _) [.Call (.Attribute a' n ap) [] [] cp] [] _ => decide (x = "sorted") && decide (n = "items") && bltB C s x && lineB ap cp && plainO a' && chkE s a a'
    | .lrng, .Call (.Name x _) [.Call (.Name y _) [a'] [] _] [] _ => decide (x = "list") && decide (y = "range") && bltB C s x && bltB C s y && noStarE a' && chkE s a a'
    | _, _ => false)
  | .step a k, e' => (match e' with
    | .Subscript a' (.Slice (some (.Constant (.int i) _ _)) none (some (.Constant (.int 2) _ _)) _) _ => decide (i = (k : Int)) && chkE s a a'
    | _ => false)
  | .comp lk _ own t it tests el, e' => (match e' with
    | .ListComp elt [⟨tg, iter, ifs, 0⟩] scope _ => blkC C.N s.eff scope (ownP C.N own) && decide ((ownP C.N own).map (·.2) = own) && (tvars t).all (fun i => own.contains i) && noSetE iter &&
        chkI s lk it tg iter && chkG (s.blk scope) t tg && chkTs (s.blk scope) tests ifs && chkE (s.blk scope) el elt
    | _ => false)
def chkD (s : Sc) : List Ex → List (Option Expr) → List Expr → Bool
  | [], ks, vs => ks.isEmpty && vs.isEmpty
  | [_], _, _ => false
  | k :: v :: r, ks, vs => (match ks, vs with
    | some k' :: ks, v' :: vs => chkE s k k' && chkE s v v' && chkD s r ks vs
    | _, _ => false)
def chkEs (s : Sc) : List Ex → List Expr → Bool
  | [], es' => es'.isEmpty
  | e :: es, l => (match l with
    | e' :: es' => noStarE e' && chkE s e e' && chkEs s es es'
    | [] => false)
def chkO (s : Sc) : Option Ex → Option Expr → Bool
  | none, o' => o'.isNone
  | some e, o' => (match o' with
    | some e' => chkE s e e'
    | none => false)
def chkT (s : Sc) : Ts → Expr → Bool
  | .val e, e' => (match e' with
    | .Compare .. => chkE s e e'
    | _ => plainT e' && chkE s e e')
  | .not t, e' => (match e' with
    | .UnaryOp .Not a' _ => chkT s t a'
    | _ => false)
  | .and a b, e' => (match e' with
    | .BoolOp .And [a', b'] _ => chkT s a a' && chkT s b b'
    | .BoolOp .And (a' :: b' :: c' :: rest) pos => chkT s a a' && chkT s b (.BoolOp .And (b' :: c' :: rest) pos)
    | _ => false)
  | .or a b, e' => (match e' with
    | .BoolOp .Or [a', b'] _ => chkT s a a' && chkT s b b'
    | .BoolOp .Or (a' :: b' :: c' :: rest) pos => chkT s a a' && chkT s b (.BoolOp .Or (b' :: c' :: rest) pos)
    | _ => false)
def chkTs (s : Sc) : List Ts → List Expr → Bool
  | [], l => l.isEmpty
  | t :: ts, l => (match l with
    | [e'] => ts.isEmpty && chkT s t e'
    | _ => false)
def chkI (s : Sc) (lk : Option Nat) : Itx → Expr → Expr → Bool
  | .seq e, _, e' => chkE s e e'
  | .rev e, _, e' => (match e' with
    | .Call (.Name x _) [a'] [] _ => decide (x = "reversed") && bltB C s x && noStarE a' && chkE s e a'
    | _ => false)
  | .rng1 e, _, e' => (match e' with
    | .Call (.Name x _) [a'] [] _ => decide (x = "range") && bltB C s x && noStarE a' && chkE s e a'
    | _ => false)
  | .rng2 a b, _, e' => (match e' with
    | .Call (.Name x _) [a', b'] [] _ => decide (x = "range") && bltB C s x && noStarE a' && noStarE b' && chkE s a a' && chkE s b b'
    | _ => false)
  | .rngd a b, _, e' => (match e' with
    | .Call (.Name x _) [a', b', .UnaryOp .USub (.Constant (.int 1) _ _) _] [] _ => decide (x = "range") && bltB C s x && noStarE a' && noStarE b' && chkE s a a' && chkE s b b'
    | _ => false)
  | .enum e, g, e' => (match g, e' with
    | .Tuple .., .Call (.Name x _) [a'] [] _ => decide (x = "enumerate") && bltB C s x && noStarE a' && chkE s e a'
    | _, _ => false)
  | .zip a b, g, e' => (match g, e' with
    | .Tuple .., .Call (.Name x _) [a', b'] [] _ => decide (x = "zip") && bltB C s x && noStarE a' && noStarE b' && chkE s a a' && chkE s b b'
    | _, _ => false)
  | .items e, g, e' => (match e, g, e' with
    | .var i, .Tuple .., .Call (.Attribute (.Name x _) n ap) [] [] cp => decide (lk = some i) && decide (n = "items") && lineB ap cp && decide (C.N[i]? = some x) && visB s.eff x && nDbg x
    | _, _, _ => false)
  | .keys e, _, e' => (match e, e' with
    | .var i, .Name x _ => decide (lk = some i) && decide (C.N[i]? = some x) && visB s.eff x && nDbg x
    | _, _ => false)
def chkG (s : Sc) : Ta → Expr → Bool
  | .v i, e' => (match e' with
    | .Name x _ => decide (C.N[i]? = some x) && locB s x
    | _ => false)
  | .sub o i, e' => (match e' with
    | .Subscript a' b' _ => noSliceE b' && chkE s o a' && chkE s i b'
    | _ => false)
  | .t ts, e' => (match e' with
    | .Tuple es' _ _ => decide (ts.length = es'.length) && chkGs s ts es'
    | _ => false)
def chkGs (s : Sc) : List Ta → List Expr → Bool
  | [], l => l.isEmpty
  | t :: ts, l => (match l with
    | e' :: es' => noStarT e' && chkG s t e' && chkGs s ts es'
    | [] => false)
end
end
end
end Ev

set_option Elab.async false
set_option linter.all false
set_option maxRecDepth 100000
set_option maxHeartbeats 4000000
/-! The check is sound: expressions. -/
namespace Ev
open PySem PySem.Spec PyProof.Rows L2

section
variable {C : SC}
theorem blt_ok {s : Sc} {x : Str} (h : bltB C.toTX s x = true) : glB s.eff x = true ∧ x ∈ C.bi := by
  unfold bltB at h
  rw [Bool.and_eq_true] at h
  exact ⟨h.1, List.contains_iff_mem.mp h.2⟩
theorem tyOk_ok {s : Sc} {t : Ty} (h : tyOk C.toTX s t = true) : glB s.eff (tyStr t : Str) = true ∧ (tyStr t : Str) ∈ C.bi := by
  unfold tyOk at h
  rw [Bool.and_eq_true] at h
  exact ⟨h.1, List.contains_iff_mem.mp h.2⟩
theorem chkEs_noStar {s : Sc} : ∀ {es : List Ex} {es' : List Expr}, chkEs C.toTX s es es' = true → es'.all noStarE = true ∧ es.length = es'.length
  | [], es', h => by
    unfold chkEs at h
    cases es' with
    | nil => exact ⟨rfl, rfl⟩
    | cons _ _ => cases h
  | e :: es, es', h => by
    unfold chkEs at h
    cases es' with
    | nil => cases h
    | cons e' es' =>
      simp only [Bool.and_eq_true] at h
      obtain ⟨h1, h2⟩ := chkEs_noStar h.2
      exact ⟨by rw [List.all_cons, h.1.1, h1]; rfl, by rw [List.length_cons, List.length_cons, h2]⟩
theorem chkGs_noStar {s : Sc} : ∀ {es : List Ta} {es' : List Expr}, chkGs C.toTX s es es' = true → es'.all noStarT = true
  | [], es', h => by
    unfold chkGs at h
    cases es' with
    | nil => rfl
    | cons _ _ => cases h
  | e :: es, es', h => by
    unfold chkGs at h
    cases es' with
    | nil => cases h
    | cons e' es' =>
      simp only [Bool.and_eq_true] at h
      rw [List.all_cons, h.1.1, chkGs_noStar h.2]
      rfl
theorem fold_ok {e : Expr} {env : Env} (h : noSetE e = true) : ∀ x, foldedSetIterable e env x = pure x := by
  intro x
  cases e <;> first | rfl | (simp [noSetE] at h)
mutual
theorem chkE_ok : ∀ (e : Ex) (e' : Expr) (s : Sc) (X : Cx), chkE C.toTX s e e' = true → XO C s X → PE X e' (tE C e)
  | .var i, e', s, X, h, hX => by
    unfold chkE at h
    cases e' <;> first | (cases h; done) | skip
    simp only [Bool.and_eq_true, decide_eq_true_eq] at h
    exact sd_var hX h.1.1 h.1.2 h.2
  | .int i, e', s, X, h, hX => by
    unfold chkE at h
    cases e' <;> first | (cases h; done) | skip
    rename_i c k pos
    cases c <;> first | (cases h; done) | skip
    have := of_decide_eq_true h
    subst this
    exact sd_int
  | .str t, e', s, X, h, hX => by
    unfold chkE at h
    cases e' <;> first | (cases h; done) | skip
    rename_i c k pos
    cases c <;> first | (cases h; done) | skip
    simp only [Bool.and_eq_true, decide_eq_true_eq] at h
    obtain ⟨rfl, h2⟩ := h
    exact sd_str h2
  | .bl b, e', s, X, h, hX => by
    unfold chkE at h
    cases e' <;> first | (cases h; done) | skip
    rename_i c k pos
    cases c <;> first | (cases h; done) | skip
    have := eq_of_beq h
    subst this
    exact sd_bl
  | .non, e', s, X, h, hX => by
    unfold chkE at h
    cases e' <;> first | (cases h; done) | skip
    rename_i c k pos
    cases c <;> first | (cases h; done) | skip
    exact sd_non
  | .con g, e', s, X, h, hX => by
    unfold chkE at h
    cases e' <;> first | (cases h; done) | skip
    simp only [Bool.and_eq_true, decide_eq_true_eq] at h
    exact sd_con hX h.1.1 h.1.2 h.2
  | .bin o a b, e', s, X, h, hX => by
    unfold chkE at h
    cases e' <;> first | (cases h; done) | skip
    simp only [Bool.and_eq_true] at h
    obtain ⟨⟨h1, h2⟩, h3⟩ := h
    have ha := chkE_ok a _ s X h2 hX
    have hb := chkE_ok b _ s X h3 hX
    rw [opB_ok h1]
    cases o
    · exact sd_add ha hb hX.K
    · exact sd_sub ha hb
    · exact sd_mul ha hb
    · exact sd_fdiv ha hb
    · exact sd_mod ha hb
    · exact sd_pow ha hb
    · exact sd_shr ha hb
  | .neg a, e', s, X, h, hX => by
    unfold chkE at h
    cases e' <;> first | (cases h; done) | skip
    rename_i op a' pos
    cases op <;> first | (cases h; done) | skip
    exact sd_neg (chkE_ok a _ s X h hX)
  | .cmp c a b, e', s, X, h, hX => by
    unfold chkE at h
    split at h <;> first | (cases h; done) | skip
    simp only [Bool.and_eq_true] at h
    obtain ⟨⟨⟨h1, h2⟩, h3⟩, h4⟩ := h
    rw [cmB_ok h1]
    exact sd_cmp hX (chkE_ok a _ s X h3 hX) (chkE_ok b _ s X h4 hX) h2
  | .chain c1 c2 a b c, e', s, X, h, hX => by
    unfold chkE at h
    split at h <;> first | (cases h; done) | skip
    simp only [Bool.and_eq_true] at h
    obtain ⟨⟨⟨⟨⟨h1, h2⟩, h3⟩, h4⟩, h5⟩, h6⟩ := h
    rw [cmB_ok h1, cmB_ok h2]
    exact sd_chain hX (chkE_ok a _ s X h4 hX) (chkE_ok b _ s X h5 hX) (chkE_ok c _ s X h6 hX) h3
  | .and a b, e', s, X, h, hX => by
    unfold chkE at h
    split at h <;> first | (cases h; done) | skip
    · simp only [Bool.and_eq_true] at h
      exact sd_and (chkE_ok a _ s X h.1 hX) (pe_one (chkE_ok b _ s X h.2 hX))
    · simp only [Bool.and_eq_true] at h
      exact sd_and (chkE_ok a _ s X h.1 hX) (chkE_ok b _ s X h.2 hX)
  | .or a b, e', s, X, h, hX => by
    unfold chkE at h
    split at h <;> first | (cases h; done) | skip
    · simp only [Bool.and_eq_true] at h
      exact sd_or (chkE_ok a _ s X h.1 hX) (pe_one (chkE_ok b _ s X h.2 hX))
    · simp only [Bool.and_eq_true] at h
      exact sd_or (chkE_ok a _ s X h.1 hX) (chkE_ok b _ s X h.2 hX)
  | .not a, e', s, X, h, hX => by
    unfold chkE at h
    split at h <;> first | (cases h; done) | skip
    exact sd_not hX (chkE_ok a _ s X h hX)
  | .ite c a b, e', s, X, h, hX => by
    unfold chkE at h
    split at h <;> first | (cases h; done) | skip
    simp only [Bool.and_eq_true] at h
    exact sd_ite (chkT_ok c _ s X h.1.1 hX).1 (chkE_ok a _ s X h.1.2 hX) (chkE_ok b _ s X h.2 hX)
  | .tup es, e', s, X, h, hX => by
    unfold chkE at h
    split at h <;> first | (cases h; done) | skip
    simp only [Bool.and_eq_true, decide_eq_true_eq] at h
    exact sd_tup (chkEs_ok es _ s X h.2 hX) h.1
  | .tupK es, e', s, X, h, hX => by
    unfold chkE at h
    split at h <;> first | (cases h; done) | skip
    simp only [Bool.and_eq_true, decide_eq_true_eq] at h
    exact sd_tupK (chkEs_ok es _ s X h.2 hX) h.1
  | .lst es, e', s, X, h, hX => by
    unfold chkE at h
    split at h <;> first | (cases h; done) | skip
    simp only [Bool.and_eq_true, decide_eq_true_eq] at h
    exact sd_lst (chkEs_ok es _ s X h.2 hX) h.1
  | .lstM es, e', s, X, h, hX => by
    unfold chkE at h
    split at h <;> first | (cases h; done) | skip
    simp only [Bool.and_eq_true, decide_eq_true_eq] at h
    exact sd_lstM (chkEs_ok es _ s X h.2 hX) h.1
  | .dnew t, e', s, X, h, hX => by
    unfold chkE at h
    split at h <;> first | (cases h; done) | skip
    exact sd_dnew
  | .dispM es, e', s, X, h, hX => by
    unfold chkE at h
    split at h <;> first | (cases h; done) | skip
    simp only [Bool.and_eq_true, decide_eq_true_eq] at h
    obtain ⟨⟨⟨⟨⟨h1, h2⟩, h3⟩, h4⟩, h5⟩, h6⟩ := h
    exact sd_disp (chkD_ok es _ _ s X _ h6 hX) h1 h2 h5 h3 (fun z => nomatch z) h4
  | .sub a i, e', s, X, h, hX => by
    unfold chkE at h
    split at h <;> first | (cases h; done) | skip
    simp only [Bool.and_eq_true] at h
    exact sd_ix hX (chkE_ok a _ s X h.1.2 hX) (chkE_ok i _ s X h.2 hX) h.1.1
  | .slice a lo hi, e', s, X, h, hX => by
    unfold chkE at h
    split at h <;> first | (cases h; done) | skip
    simp only [Bool.and_eq_true] at h
    exact sd_slice hX (chkE_ok a _ s X h.1.1 hX) (chkO_ok lo _ s X h.1.2 hX) (chkO_ok hi _ s X h.2 hX)
  | .call f es, e', s, X, h, hX => by
    unfold chkE at h
    split at h <;> first | (cases h; done) | skip
    simp only [Bool.and_eq_true, decide_eq_true_eq] at h
    obtain ⟨⟨⟨⟨h1, h2⟩, h3⟩, h4⟩, h5⟩ := h
    exact sd_call hX h1 h2 h3 (chkEs_ok es _ s X h5 hX) (chkEs_noStar h5).1 h4
  | .prim q es, e', s, X, h, hX => by
    unfold chkE at h
    split at h <;> first | (cases h; done) | skip
    · simp only [Bool.and_eq_true, decide_eq_true_eq] at h
      obtain ⟨⟨⟨h1, rfl⟩, h3⟩, h4⟩ := h
      obtain ⟨g1, g2⟩ := blt_ok h3
      exact sd_prim hX (pr_any1 hX h1) g1 g2 (chkEs_ok es _ s X h4 hX) (chkEs_noStar h4).1
    · simp only [Bool.and_eq_true] at h
      obtain ⟨h1, h2⟩ := h
      obtain ⟨x, y, e1, e2, e3⟩ := two_pe (chkEs_all es _ s X h2 hX) (chkEs_noStar h2).2
      rw [isCat_eq h1, e1]
      exact sd_cat e2 e3
  | .primM q es, e', s, X, h, hX => by
    unfold chkE at h
    split at h <;> first | (cases h; done) | skip
    · simp only [Bool.and_eq_true, decide_eq_true_eq] at h
      obtain ⟨⟨⟨h1, rfl⟩, h3⟩, h4⟩ := h
      obtain ⟨g1, g2⟩ := blt_ok h3
      exact sd_primM hX (pr_any1N hX h1) g1 g2 (chkEs_ok es _ s X h4 hX) (chkEs_noStar h4).1
    · simp only [Bool.and_eq_true] at h
      obtain ⟨h1, h2⟩ := h
      obtain ⟨x, y, e1, e2, e3⟩ := two_pe (chkEs_all es _ s X h2 hX) (chkEs_noStar h2).2
      rw [isCat_eq h1, e1]
      exact sd_catM e2 e3
  | .isi a t ts, e', s, X, h, hX => by
    unfold chkE at h
    split at h <;> first | (cases h; done) | skip
    · simp only [Bool.and_eq_true, decide_eq_true_eq] at h
      obtain ⟨⟨⟨⟨⟨⟨rfl, h2⟩, h3⟩, h4⟩, h5⟩, h6⟩, h7⟩ := h
      obtain ⟨g1, g2⟩ := blt_ok h2
      obtain ⟨k1, k2⟩ := tyOk_ok h6
      have := eq_of_beq h5
      subst this
      have h4' := List.isEmpty_iff.mp h4
      subst h4'
      exact sd_isi1 (x := (tyStr t : Str)) hX g1 g2 (chkE_ok a _ s X h7 hX) h3 (sd_ty hX k1 k2) rfl
    · simp only [Bool.and_eq_true, decide_eq_true_eq] at h
      obtain ⟨⟨⟨⟨⟨⟨rfl, h2⟩, h3⟩, h4⟩, h5⟩, h6⟩, h7⟩ := h
      obtain ⟨g1, g2⟩ := blt_ok h2
      exact sd_isiT hX g1 g2 (chkE_ok a _ s X h7 hX) h3 h4 (fun u hu => tyOk_ok (List.all_eq_true.mp h5 u hu)) h6
  | .meth q a es, e', s, X, h, hX => by
    unfold chkE at h
    split at h <;> first | (cases h; done) | skip
    rename_i a' n ap es' cp
    simp only [Bool.and_eq_true, decide_eq_true_eq] at h
    obtain ⟨⟨⟨⟨⟨rfl, h2⟩, h3⟩, h4⟩, h5⟩, h6⟩ := h
    have ha := chkE_ok a _ s X h4 hX
    have hl : (ap.endLine == cp.line) = true := h2
    obtain ⟨n1, n2⟩ := chkEs_noStar h5
    have hes := chkEs_ok es es' s X h5 hX
    cases q with
    | append =>
      simp only [decide_eq_true_eq] at h6
      match es', es, h6, n1, n2, hes with
      | [b'], [b], _, n1, _, hes => exact sd_append hX ha hes h3 (by simpa using n1) hl
    | pop0 =>
      simp only [decide_eq_true_eq] at h6
      match es', es, h6, n1, n2, hes with
      | [], [], _, n1, _, hes => exact sd_pop0 hX ha h3 hl
    | popAt =>
      simp only [decide_eq_true_eq] at h6
      match es', es, h6, n1, n2, hes with
      | [b'], [b], _, n1, _, hes => exact sd_popAt hX ha hes h3 (by simpa using n1) hl
    | get1 =>
      simp only [decide_eq_true_eq] at h6
      match es', es, h6, n1, n2, h5 with
      | [b'], [b], _, n1, _, h5 =>
        have hb := chkEs_all [b] [b'] s X h5 hX
        exact sd_get1 hX ha hb.1 h3 (by simpa using n1) hl
    | get2 =>
      simp only [decide_eq_true_eq] at h6
      match es', es, h6, n1, n2, h5 with
      | [b', c'], [b, c], _, n1, _, h5 =>
        have hb := chkEs_all [b, c] [b', c'] s X h5 hX
        simp only [List.all_cons, Bool.and_eq_true, List.all_nil, and_true] at n1
        exact sd_get2 hX ha hb.1 hb.2.1 h3 n1.1 n1.2 hl
    | join =>
      simp only [decide_eq_true_eq] at h6
      match es', es, h6, n1, n2, h5 with
      | [b'], [b], _, n1, _, h5 =>
        have hb := chkEs_all [b] [b'] s X h5 hX
        exact sd_join hX ha hb.1 h3 (by simpa using n1) hl
    | extend =>
      simp only [decide_eq_true_eq] at h6
      match es', es, h6, n1, n2, hes with
      | [b'], [b], _, n1, _, hes => exact sd_extend hX ha hes h3 (by simpa using n1) hl
    | index =>
      simp only [decide_eq_true_eq] at h6
      match es', es, h6, n1, n2, hes with
      | [b'], [b], _, n1, _, hes => exact sd_index hX ha hes h3 (by simpa using n1) hl
  | .un1 u a, e', s, X, h, hX => by
    unfold chkE at h
    split at h <;> first | (cases h; done) | skip
    · exact sd_rev hX (chkE_ok a _ s X h hX)
    · simp only [Bool.and_eq_true, decide_eq_true_eq] at h
      obtain ⟨⟨⟨⟨⟨rfl, rfl⟩, h3⟩, h4⟩, h5⟩, h6⟩ := h
      obtain ⟨g1, g2⟩ := blt_ok h3
      obtain ⟨k1, k2⟩ := blt_ok h4
      exact sd_sset hX g1 g2 k1 k2 h5 (chkE_ok a _ s X h6 hX)
    · simp only [Bool.and_eq_true, decide_eq_true_eq] at h
      obtain ⟨⟨⟨⟨⟨rfl, rfl⟩, h3⟩, h4⟩, h5⟩, h6⟩ := h
      obtain ⟨g1, g2⟩ := blt_ok h3
      obtain ⟨k1, k2⟩ := blt_ok h4
      exact sd_lset hX g1 g2 k1 k2 h5 (chkE_ok a _ s X h6 hX)
    · simp only [Bool.and_eq_true, decide_eq_true_eq] at h
      obtain ⟨⟨⟨⟨⟨rfl, rfl⟩, h3⟩, h4⟩, h5⟩, h6⟩ := h
      obtain ⟨g1, g2⟩ := blt_ok h3
      exact sd_sitems hX g1 g2 h5 h4 (chkE_ok a _ s X h6 hX)
    · simp only [Bool.and_eq_true, decide_eq_true_eq] at h
      obtain ⟨⟨⟨⟨⟨rfl, rfl⟩, h3⟩, h4⟩, h5⟩, h6⟩ := h
      obtain ⟨g1, g2⟩ := blt_ok h3
      obtain ⟨k1, k2⟩ := blt_ok h4
      exact sd_lrng hX g1 g2 k1 k2 h5 (chkE_ok a _ s X h6 hX)
  | .step a k, e', s, X, h, hX => by
    unfold chkE at h
    split at h <;> first | (cases h; done) | skip
    simp only [Bool.and_eq_true, decide_eq_true_eq] at h
    obtain ⟨rfl, h2⟩ := h
    exact sd_step hX (chkE_ok a _ s X h2 hX)
  | .comp lk cell own t it tests el, e', s, X, h, hX => by
    unfold chkE at h
    split at h <;> first | (cases h; done) | skip
    simp only [Bool.and_eq_true, decide_eq_true_eq] at h
    obtain ⟨⟨⟨⟨⟨⟨⟨h1, h2⟩, h3⟩, h4⟩, h5⟩, h6⟩, h7⟩, h8⟩ := h
    exact sd_comp hX (chkI_ok lk it _ _ s X h5 hX) h1 h2 (fun i hi => List.contains_iff_mem.mp (List.all_eq_true.mp h3 i hi)) (fun X' hX' => chkG_ok t _ _ X' h6 hX') (fun X' hX' => chkTs_ok tests _ _ X' h7 hX') (fun X' hX' => chkE_ok el _ _ X' h8 hX') (fold_ok h4)
theorem chkD_ok : ∀ (es : List Ex) (ks : List (Option Expr)) (vs : List Expr) (s : Sc) (X : Cx) (pos : Pos), chkD C.toTX s es ks vs = true → XO C s X → PPs X pos ks vs (trsOf C es)
  | [], ks, vs, s, X, pos, h, hX => by
    unfold chkD at h
    rw [Bool.and_eq_true] at h
    have h1 := List.isEmpty_iff.mp h.1
    have h2 := List.isEmpty_iff.mp h.2
    subst h1 h2
    exact pps_nil
  | [_], ks, vs, s, X, pos, h, hX => by
    unfold chkD at h
    cases h
  | k :: v :: r, ks, vs, s, X, pos, h, hX => by
    unfold chkD at h
    split at h <;> first | (cases h; done) | skip
    simp only [Bool.and_eq_true] at h
    exact pps_cons (chkE_ok k _ s X h.1.1 hX) (chkE_ok v _ s X h.1.2 hX) (chkD_ok r _ _ s X pos h.2 hX)
theorem chkEs_ok : ∀ (es : List Ex) (es' : List Expr) (s : Sc) (X : Cx), chkEs C.toTX s es es' = true → XO C s X → PA X es' (tA C es)
  | [], es', s, X, h, hX => by
    unfold chkEs at h
    cases es' with
    | nil => exact sa_nil
    | cons _ _ => cases h
  | e :: es, es', s, X, h, hX => by
    unfold chkEs at h
    cases es' with
    | nil => cases h
    | cons e' es' =>
      simp only [Bool.and_eq_true] at h
      exact sa_cons (chkE_ok e _ s X h.1.2 hX) (chkEs_ok es _ s X h.2 hX) h.1.1
theorem chkEs_all : ∀ (es : List Ex) (es' : List Expr) (s : Sc) (X : Cx), chkEs C.toTX s es es' = true → XO C s X → (match es, es' with
    | [b], [b'] => PE X b' (tE C b) ∧ True
    | [b, c], [b', c'] => PE X b' (tE C b) ∧ PE X c' (tE C c) ∧ True
    | _, _ => True)
  | [], es', s, X, h, hX => by
    cases es' <;> trivial
  | [e], es', s, X, h, hX => by
    unfold chkEs at h
    match es', h with
    | [], _ => trivial
    | [e'], h =>
      simp only [Bool.and_eq_true] at h
      exact ⟨chkE_ok e _ s X h.1.2 hX, trivial⟩
    | _ :: _ :: _, _ => trivial
  | [e, f], es', s, X, h, hX => by
    unfold chkEs at h
    match es', h with
    | [], _ => trivial
    | [e'], h => trivial
    | [e', f'], h =>
      simp only [Bool.and_eq_true] at h
      obtain ⟨⟨_, h1⟩, h2⟩ := h
      unfold chkEs at h2
      simp only [Bool.and_eq_true] at h2
      exact ⟨chkE_ok e _ s X h1 hX, chkE_ok f _ s X h2.1.2 hX, trivial⟩
    | _ :: _ :: _ :: _, _ => trivial
  | _ :: _ :: _ :: _, es', s, X, h, hX => trivial
theorem chkO_ok : ∀ (o : Option Ex) (o' : Option Expr) (s : Sc) (X : Cx), chkO C.toTX s o o' = true → XO C s X → PO X o' (tO C o)
  | none, o', s, X, h, hX => by
    unfold chkO at h
    cases o' with
    | none => exact so_none
    | some _ => cases h
  | some e, o', s, X, h, hX => by
    unfold chkO at h
    cases o' with
    | none => cases h
    | some e' => exact so_some (chkE_ok e _ s X h hX)
theorem chkT_ok : ∀ (t : Ts) (e' : Expr) (s : Sc) (X : Cx), chkT C.toTX s t e' = true → XO C s X → PT X e' (tT C t) ∧ ((∃ op es pos, e' = .BoolOp op es pos) → PW X e' (tT C t))
  | .val e, e', s, X, h, hX => by
    unfold chkT at h
    have no : ∀ (q : plainT e' = true), (∃ op es pos, e' = .BoolOp op es pos) → PW X e' (tT C (.val e)) := fun q ⟨op, es, pos, z⟩ => by
      subst z
      cases q
    split at h
    · refine ⟨?_, fun ⟨op, es, pos, z⟩ => nomatch z⟩
      cases e with
      | cmp c a b =>
        unfold chkE at h
        split at h <;> first | (cases h; done) | skip
        rename_i a' op b' pos heq
        simp only [Bool.and_eq_true] at h
        obtain ⟨⟨⟨h1, h2⟩, h3⟩, h4⟩ := h
        injection heq with e1 e2 e3 e4
        subst e1 e2 e3 e4
        rw [cmB_ok h1]
        exact st_cmp hX (chkE_ok a _ s X h3 hX) (chkE_ok b _ s X h4 hX) h2
      | chain c1 c2 a b c =>
        unfold chkE at h
        split at h <;> first | (cases h; done) | skip
        rename_i a' op1 op2 b' c' pos heq
        simp only [Bool.and_eq_true] at h
        obtain ⟨⟨⟨⟨⟨h1, h2⟩, h3⟩, h4⟩, h5⟩, h6⟩ := h
        injection heq with e1 e2 e3 e4
        subst e1 e2 e3 e4
        rw [cmB_ok h1, cmB_ok h2]
        exact st_chain hX (chkE_ok a _ s X h4 hX) (chkE_ok b _ s X h5 hX) (chkE_ok c _ s X h6 hX) h3
      | un1 u a =>
        unfold chkE at h
        split at h <;> first | (cases h; done) | skip
        all_goals (rename_i heq; first | (cases heq; done) | skip)
      | _ => (unfold chkE at h) <;> first | (cases h; done) | skip
    · simp only [Bool.and_eq_true] at h
      exact ⟨st_val hX (chkE_ok e _ s X h.2 hX) h.1, no h.1⟩
  | .not t, e', s, X, h, hX => by
    unfold chkT at h
    split at h <;> first | (cases h; done) | skip
    exact ⟨st_not (chkT_ok t _ s X h hX).1, fun ⟨op, es, pos, z⟩ => nomatch z⟩
  | .and a b, e', s, X, h, hX => by
    unfold chkT at h
    split at h <;> first | (cases h; done) | skip
    · rename_i p0
      simp only [Bool.and_eq_true] at h
      have w := sw_and (pos := p0) (chkT_ok a _ s X h.1 hX).1 (pw_and1 (chkT_ok b _ s X h.2 hX).1)
      exact ⟨w.pt, fun _ => w⟩
    · simp only [Bool.and_eq_true] at h
      have w := sw_and (chkT_ok a _ s X h.1 hX).1 ((chkT_ok b _ s X h.2 hX).2 ⟨_, _, _, rfl⟩)
      exact ⟨w.pt, fun _ => w⟩
  | .or a b, e', s, X, h, hX => by
    unfold chkT at h
    split at h <;> first | (cases h; done) | skip
    · rename_i p0
      simp only [Bool.and_eq_true] at h
      have w := sw_or (pos := p0) (chkT_ok a _ s X h.1 hX).1 (pw_or1 (chkT_ok b _ s X h.2 hX).1)
      exact ⟨w.pt, fun _ => w⟩
    · simp only [Bool.and_eq_true] at h
      have w := sw_or (chkT_ok a _ s X h.1 hX).1 ((chkT_ok b _ s X h.2 hX).2 ⟨_, _, _, rfl⟩)
      exact ⟨w.pt, fun _ => w⟩
theorem chkTs_ok : ∀ (ts : List Ts) (es' : List Expr) (s : Sc) (X : Cx), chkTs C.toTX s ts es' = true → XO C s X → PTs X es' (tTsL C ts)
  | [], es', s, X, h, hX => by
    unfold chkTs at h
    cases es' with
    | nil => exact sts_nil
    | cons _ _ => cases h
  | t :: ts, es', s, X, h, hX => by
    unfold chkTs at h
    split at h <;> first | (cases h; done) | skip
    simp only [Bool.and_eq_true] at h
    have := List.isEmpty_iff.mp h.1
    subst this
    exact sts_one (chkT_ok t _ s X h.2 hX).1
theorem chkI_ok : ∀ (lk : Option Nat) (it : Itx) (g e' : Expr) (s : Sc) (X : Cx), chkI C.toTX s lk it g e' = true → XO C s X → PI X g e' (tI C lk it)
  | lk, .seq e, g, e', s, X, h, hX => by
    unfold chkI at h
    exact si_seq hX (chkE_ok e _ s X h hX)
  | lk, .rev e, g, e', s, X, h, hX => by
    unfold chkI at h
    split at h <;> first | (cases h; done) | skip
    simp only [Bool.and_eq_true, decide_eq_true_eq] at h
    obtain ⟨⟨⟨rfl, h2⟩, h3⟩, h4⟩ := h
    obtain ⟨g1, g2⟩ := blt_ok h2
    exact si_rev hX g1 g2 (chkE_ok e _ s X h4 hX) h3
  | lk, .rng1 e, g, e', s, X, h, hX => by
    unfold chkI at h
    split at h <;> first | (cases h; done) | skip
    simp only [Bool.and_eq_true, decide_eq_true_eq] at h
    obtain ⟨⟨⟨rfl, h2⟩, h3⟩, h4⟩ := h
    obtain ⟨g1, g2⟩ := blt_ok h2
    exact si_rng1 hX g1 g2 (chkE_ok e _ s X h4 hX) h3
  | lk, .rng2 a b, g, e', s, X, h, hX => by
    unfold chkI at h
    split at h <;> first | (cases h; done) | skip
    simp only [Bool.and_eq_true, decide_eq_true_eq] at h
    obtain ⟨⟨⟨⟨⟨rfl, h2⟩, h3⟩, h4⟩, h5⟩, h6⟩ := h
    obtain ⟨g1, g2⟩ := blt_ok h2
    exact si_rng2 hX g1 g2 (chkE_ok a _ s X h5 hX) h3 (chkE_ok b _ s X h6 hX) h4
  | lk, .rngd a b, g, e', s, X, h, hX => by
    unfold chkI at h
    split at h <;> first | (cases h; done) | skip
    simp only [Bool.and_eq_true, decide_eq_true_eq] at h
    obtain ⟨⟨⟨⟨⟨rfl, h2⟩, h3⟩, h4⟩, h5⟩, h6⟩ := h
    obtain ⟨g1, g2⟩ := blt_ok h2
    exact si_rngd hX g1 g2 (chkE_ok a _ s X h5 hX) h3 (chkE_ok b _ s X h6 hX) h4 (sd_neg sd_int)
  | lk, .enum e, g, e', s, X, h, hX => by
    unfold chkI at h
    split at h <;> first | (cases h; done) | skip
    simp only [Bool.and_eq_true, decide_eq_true_eq] at h
    obtain ⟨⟨⟨rfl, h2⟩, h3⟩, h4⟩ := h
    obtain ⟨g1, g2⟩ := blt_ok h2
    exact si_enum hX g1 g2 (chkE_ok e _ s X h4 hX) h3
  | lk, .zip a b, g, e', s, X, h, hX => by
    unfold chkI at h
    split at h <;> first | (cases h; done) | skip
    simp only [Bool.and_eq_true, decide_eq_true_eq] at h
    obtain ⟨⟨⟨⟨⟨rfl, h2⟩, h3⟩, h4⟩, h5⟩, h6⟩ := h
    obtain ⟨g1, g2⟩ := blt_ok h2
    exact si_zip hX g1 g2 (chkE_ok a _ s X h5 hX) h3 (chkE_ok b _ s X h6 hX) h4
  | lk, .items e, g, e', s, X, h, hX => by
    unfold chkI at h
    split at h <;> first | (cases h; done) | skip
    simp only [Bool.and_eq_true, decide_eq_true_eq] at h
    obtain ⟨⟨⟨⟨⟨rfl, rfl⟩, h3⟩, h4⟩, h5⟩, h6⟩ := h
    exact si_items hX h4 h5 h6 h3
  | lk, .keys e, g, e', s, X, h, hX => by
    unfold chkI at h
    split at h <;> first | (cases h; done) | skip
    simp only [Bool.and_eq_true, decide_eq_true_eq] at h
    obtain ⟨⟨⟨rfl, h4⟩, h5⟩, h6⟩ := h
    exact si_keys hX h4 h5 h6
theorem chkG_ok : ∀ (t : Ta) (e' : Expr) (s : Sc) (X : Cx), chkG C.toTX s t e' = true → XO C s X → PG X e' (tG C t)
  | .v i, e', s, X, h, hX => by
    unfold chkG at h
    split at h <;> first | (cases h; done) | skip
    simp only [Bool.and_eq_true, decide_eq_true_eq] at h
    exact sg_name hX h.1 h.2
  | .sub o i, e', s, X, h, hX => by
    unfold chkG at h
    split at h <;> first | (cases h; done) | skip
    simp only [Bool.and_eq_true] at h
    exact sg_sub hX (chkE_ok o _ s X h.1.2 hX) (chkE_ok i _ s X h.2 hX) h.1.1
  | .t ts, e', s, X, h, hX => by
    unfold chkG at h
    split at h <;> first | (cases h; done) | skip
    simp only [Bool.and_eq_true, decide_eq_true_eq] at h
    exact sg_tup hX (chkGs_ok ts _ s X h.2 hX) (chkGs_noStar h.2) h.1
theorem chkGs_ok : ∀ (ts : List Ta) (es' : List Expr) (s : Sc) (X : Cx), chkGs C.toTX s ts es' = true → XO C s X → PGs X es' (tGs C ts)
  | [], es', s, X, h, hX => by
    unfold chkGs at h
    cases es' with
    | nil => exact sgs_nil
    | cons _ _ => cases h
  | t :: ts, es', s, X, h, hX => by
    unfold chkGs at h
    cases es' with
    | nil => cases h
    | cons e' es' =>
      simp only [Bool.and_eq_true] at h
      exact sgs_cons (chkG_ok t _ s X h.1.2 hX) (chkGs_ok ts _ s X h.2 hX) h.1.1
end
end
end Ev

set_option Elab.async false
set_option linter.all false
set_option maxRecDepth 100000
set_option maxHeartbeats 4000000
/-! The check: statements. -/
namespace Ev
open PySem PySem.Spec PyProof.Rows L2

section
def noSD : Expr → Bool
  | .SetComp .. => false
  | .DictComp .. => false
  | _ => true
def noComp : Expr → Bool
  | .SetComp .. => false
  | .DictComp .. => false
  | .ListComp .. => false
  | _ => true
/-- a name takes a comprehension's list as its block's frame goes -/
def swB (s : Sc) (g a : Expr) : Bool := match a, g with
  | .ListComp _ _ sc p, .Name y py => (s.eff.names.lookup y == some .local) && py.line == p.line && !(sc.names.any fun (n, k) => n == y && (k == .local || k == .cell))
  | _, _ => false
/-- a pair, a triple told side by side -/
def pairOk (s : Sc) (g a : Expr) : Bool := match g, a with
  | .Tuple ts _ _, .Tuple vs _ _ => (match swapN s.eff ts vs with
    | some none => true
    | _ => false)
  | .List .., _ => false
  | _, _ => true
variable {C : SC} {s : Sc} {X : Cx} {g a' : Expr}
theorem sw_eq (hX : XS C s X) (h : noSD a' = true) (l : Nat) : swapsWithSole [g] a' l X.env = pure (swB s g a') := by
  cases a' <;> first | rfl | (cases h; done) | skip
  rename_i elt gens sc p
  cases g <;> first | rfl | skip
  rename_i y py
  show (pure _ : Sem Bool) = _
  have h1 : (X.env.blockKind == ScopeKind.function) = true := by rw [hX.blk']; rfl
  have h2 : X.env.kindOf y = s.eff.names.lookup y := by unfold Env.kindOf; rw [hX.eff]
  rw [h1, h2, Bool.true_and]
  rfl
theorem nocomp_eq (h : noComp a' = true) (l : Nat) : swapsWith a' none l X.env = pure false := by
  cases a' <;> first | rfl | (cases h; done)
theorem pair_eq (hX : XS C s X) (h : pairOk s g a' = true) : swappedStores [g] a' X.env = pure none := by
  cases g <;> first | rfl | (cases h; done) | skip
  cases a' <;> first | rfl | (cases h; done) | skip
  refine swap_eq hX.blk' ?_
  rw [hX.eff]
  unfold pairOk at h
  simp only at h
  split at h
  · assumption
  · cases h
variable (C : TX)
mutual
def chkS (s : Sc) : Sm → Stmt → Bool
  | .asg t e, st => (match st with
    | .Assign [g] a' _ => noStarT g && noSD a' && pairOk s g a' && chkG C s t g && chkE C s e a'
    | _ => false)
  | .par is es, st => (match is, es, st with
    | [i, j], [a, b], .Assign [.Tuple [.Name x px, .Name y py] _ _] (.Tuple [a', b'] _ _) _ => decide (C.N[i]? = some x) && decide (C.N[j]? = some y) && decide (i ≠ j) && isLoc s.eff x && isLoc s.eff y &&
        decide (swapN s.eff [.Name x px, .Name y py] [a', b'] = some (some [x, y])) && chkEs C s [a, b] [a', b']
    | [i, j, l], [a, b, c], .Assign [.Tuple [.Name x px, .Name y py, .Name z pz] _ _] (.Tuple [a', b', c'] _ _) _ => decide (C.N[i]? = some x) && decide (C.N[j]? = some y) && decide (C.N[l]? = some z) && decide (i ≠ j) && decide (i ≠ l) && decide (j ≠ l) && isLoc s.eff x && isLoc s.eff y && isLoc s.eff z &&
        decide (swapN s.eff [.Name x px, .Name y py, .Name z pz] [a', b', c'] = some (some [x, y, z])) && chkEs C s [a, b, c] [a', b', c']
    | _, _, _ => false)
  | .aug i o e, st => (match st with
    | .AugAssign (.Name x _) op a' _ => decide (C.N[i]? = some x) && locB s x && opB o op && chkE C s e a'
    | _ => false)
  | .augS o i op e, st => (match st with
    | .AugAssign (.Subscript a' b' _) op' c' _ => opB op op' && noSliceE b' && chkE C s o a' && chkE C s i b' && chkE C s e c'
    | _ => false)
  | .ex e, st => (match st with
    | .Expr a' _ => noComp a' && chkE C s e a'
    | _ => false)
  | .ite c A B, st => (match st with
    | .If c' A' B' _ => chkT C s c c' && chkB s A A' && chkB s B B'
    | _ => false)
  | .whl c B, st => (match st with
    | .While c' B' [] _ => chkT C s c c' && chkB s B B'
    | _ => false)
  | .for lk t it B, st => (match st with
    | .For g it' B' [] _ => noSetE it' && chkI C s lk it g it' && chkG C s t g && chkB s B B'
    | _ => false)
  | .ret e, st => (match st with
    | .Return (some a') _ => chkE C s e a'
    | _ => false)
  | .retn, st => (match st with
    | .Return none _ => true
    | _ => false)
  | .brk, st => (match st with
    | .Break _ => true
    | _ => false)
  | .cont, st => (match st with
    | .Continue _ => true
    | _ => false)
  | .pass, st => (match st with
    | .Pass _ => true
    | _ => false)
def chkB (s : Sc) : List Sm → List Stmt → Bool
  | [], l => l.isEmpty
  | t :: ts, l => (match l with
    | e' :: es' => chkS s t e' && chkB s ts es'
    | [] => false)
end
variable {C : SC} {s : Sc} {X : Cx} {g a' : Expr}
theorem asg_ok (hX : XS C s X) {t : Ta} {e : Ex} {pos : Pos} (h1 : noStarT g = true) (h2 : noSD a' = true) (h3 : pairOk s g a' = true) (h4 : chkG C.toTX s t g = true) (h5 : chkE C.toTX s e a' = true) : PS X (.Assign [g] a' pos) (tS C (.asg t e)) := by
  have hs := sw_eq (g := g) hX h2 pos.line
  cases hb : swB s g a' with
  | false =>
    rw [hb] at hs
    exact s_asg (chkE_ok e a' s X h5 hX.toXO) (chkG_ok t g s X h4 hX.toXO) hs (pair_eq hX h3) h1
  | true =>
    rw [hb] at hs
    unfold swB at hb
    split at hb <;> first | (cases hb; done) | skip
    rename_i elt gens sc p y py
    simp only [Bool.and_eq_true] at hb
    have hl : isLoc s.eff y = true := by
      have := hb.1.1
      have : s.eff.names.lookup y = some .local := by simpa using this
      unfold isLoc
      rw [this]
    cases t with
    | v i =>
      unfold chkG at h4
      simp only [Bool.and_eq_true, decide_eq_true_eq] at h4
      cases e with
      | comp lk cell own t it tests el =>
        unfold chkE at h5
        split at h5 <;> first | (cases h5; done) | skip
        rename_i elt' tg iter ifs scope pos' heq
        injection heq with e1 e2 e3 e4
        subst e1 e2 e3 e4
        simp only [Bool.and_eq_true, decide_eq_true_eq] at h5
        obtain ⟨⟨⟨⟨⟨⟨⟨k1, k2⟩, k3⟩, k4⟩, k5⟩, k6⟩, k7⟩, k8⟩ := h5
        exact s_asgLc hX h4.1 hl hs (chkI_ok lk it _ _ s X k5 hX.toXO) k1 k2 (fun i hi => List.contains_iff_mem.mp (List.all_eq_true.mp k3 i hi)) (fun X' hX' => chkG_ok t _ _ X' k6 hX') (fun X' hX' => chkTs_ok tests _ _ X' k7 hX') (fun X' hX' => chkE_ok el _ _ X' k8 hX') (fold_ok k4)
      | un1 u a =>
        unfold chkE at h5
        split at h5 <;> first | (cases h5; done) | skip
        all_goals (rename_i heq; first | (cases heq; done) | skip)
      | _ => (unfold chkE at h5) <;> first | (cases h5; done) | (split at h5 <;> cases h5)
    | sub o i => (unfold chkG at h4); cases h4
    | t ts => (unfold chkG at h4); cases h4
mutual
theorem chkS_ok : ∀ (m : Sm) (st : Stmt) (s : Sc) (X : Cx), chkS C.toTX s m st = true → XS C s X → PS X st (tS C m)
  | .asg t e, st, s, X, h, hX => by
    unfold chkS at h
    split at h <;> first | (cases h; done) | skip
    simp only [Bool.and_eq_true] at h
    obtain ⟨⟨⟨⟨h1, h2⟩, h3⟩, h4⟩, h5⟩ := h
    exact asg_ok hX h1 h2 h3 h4 h5
  | .par is es, st, s, X, h, hX => by
    unfold chkS at h
    split at h <;> first | (cases h; done) | skip
    · simp only [Bool.and_eq_true, decide_eq_true_eq] at h
      obtain ⟨⟨⟨⟨⟨⟨h1, h2⟩, h3⟩, h4⟩, h5⟩, h6⟩, h7⟩ := h
      exact s_par2 hX h1 h2 h3 h4 h5 h6 (chkEs_ok _ _ s X h7 hX.toXO)
    · simp only [Bool.and_eq_true, decide_eq_true_eq] at h
      obtain ⟨⟨⟨⟨⟨⟨⟨⟨⟨⟨h1, h2⟩, h3⟩, h4⟩, h5⟩, h6⟩, h7⟩, h8⟩, h9⟩, h10⟩, h11⟩ := h
      exact s_par3 hX h1 h2 h3 h4 h5 h6 h7 h8 h9 h10 (chkEs_ok _ _ s X h11 hX.toXO)
  | .aug i o e, st, s, X, h, hX => by
    unfold chkS at h
    split at h <;> first | (cases h; done) | skip
    simp only [Bool.and_eq_true, decide_eq_true_eq] at h
    rw [opB_ok h.1.2]
    exact s_aug hX h.1.1.1 h.1.1.2 (chkE_ok e _ s X h.2 hX.toXO)
  | .augS o i op e, st, s, X, h, hX => by
    unfold chkS at h
    split at h <;> first | (cases h; done) | skip
    simp only [Bool.and_eq_true] at h
    obtain ⟨⟨⟨⟨h1, h2⟩, h3⟩, h4⟩, h5⟩ := h
    rw [opB_ok h1]
    exact s_augS hX (chkE_ok o _ s X h3 hX.toXO) (chkE_ok i _ s X h4 hX.toXO) (chkE_ok e _ s X h5 hX.toXO) h2
  | .ex e, st, s, X, h, hX => by
    unfold chkS at h
    split at h <;> first | (cases h; done) | skip
    simp only [Bool.and_eq_true] at h
    exact s_expr (chkE_ok e _ s X h.2 hX.toXO) (nocomp_eq h.1 _)
  | .ite c A B, st, s, X, h, hX => by
    unfold chkS at h
    split at h <;> first | (cases h; done) | skip
    simp only [Bool.and_eq_true] at h
    exact s_ite (chkT_ok c _ s X h.1.1 hX.toXO).1 (chkB_ok A _ s X h.1.2 hX) (chkB_ok B _ s X h.2 hX)
  | .whl c B, st, s, X, h, hX => by
    unfold chkS at h
    split at h <;> first | (cases h; done) | skip
    simp only [Bool.and_eq_true] at h
    exact s_whl hX (chkT_ok c _ s X h.1 hX.toXO).1 (chkB_ok B _ s X h.2 hX)
  | .for lk t it B, st, s, X, h, hX => by
    unfold chkS at h
    split at h <;> first | (cases h; done) | skip
    simp only [Bool.and_eq_true] at h
    obtain ⟨⟨⟨h1, h2⟩, h3⟩, h4⟩ := h
    exact s_for hX (chkI_ok lk it _ _ s X h2 hX.toXO) (chkG_ok t _ s X h3 hX.toXO) (chkB_ok B _ s X h4 hX) (fold_ok h1)
  | .ret e, st, s, X, h, hX => by
    unfold chkS at h
    split at h <;> first | (cases h; done) | skip
    exact s_ret (chkE_ok e _ s X h hX.toXO)
  | .retn, st, s, X, h, hX => by
    unfold chkS at h
    split at h <;> first | (cases h; done) | skip
    exact s_retn
  | .brk, st, s, X, h, hX => by
    unfold chkS at h
    split at h <;> first | (cases h; done) | skip
    exact s_brk
  | .cont, st, s, X, h, hX => by
    unfold chkS at h
    split at h <;> first | (cases h; done) | skip
    exact s_cont
  | .pass, st, s, X, h, hX => by
    unfold chkS at h
    split at h <;> first | (cases h; done) | skip
    exact s_pass
theorem chkB_ok : ∀ (l : List Sm) (es : List Stmt) (s : Sc) (X : Cx), chkB C.toTX s l es = true → XS C s X → PSs X es (tB C l)
  | [], es, s, X, h, hX => by
    unfold chkB at h
    cases es with
    | nil => exact ss_nil
    | cons _ _ => cases h
  | t :: ts, es, s, X, h, hX => by
    unfold chkB at h
    cases es with
    | nil => cases h
    | cons e' es' =>
      simp only [Bool.and_eq_true] at h
      exact ss_cons (chkS_ok t _ s X h.1 hX) (chkB_ok ts _ s X h.2 hX)
end
end
end Ev

set_option Elab.async false
set_option linter.all false
set_option maxRecDepth 100000
set_option maxHeartbeats 4000000
/-! Defs: what a call answers. -/
namespace Ev
open PySem PySem.Spec PyProof.Rows L2

section
variable {K : PySem.W.Frag} {base : Bs} {ρ ρ' : List Addr} {R R' H H' : Hp} {m m' : Mem}
/-- a def's own cells start here -/
def Bs.own (b : Bs) (n : Nat) (h : b.n ≤ n) : Bs := ⟨n, b.L, n :: b.cu, fun x hx => by
  rcases List.mem_cons.mp hx with rfl | hx
  · exact Nat.le_refl _
  · exact Nat.le_trans (b.cle x hx) h⟩
theorem CR.below {a : Addr} {c : Cell} (h : CR K ρ R H a c) : refsBelow ρ.length c.d = true := by
  cases c with
  | c d => obtain ⟨o, _, h⟩ := h; exact h.below
  | k d => obtain ⟨ob, o, _, h⟩ := h; exact h.below
theorem WR.enter (w : WR K base ρ R m H) : WR K (base.own m.length w.bas) ρ R m H := by
  refine ⟨w.len, w.nd, w.sub, w.own, w.cel, fun b n c hb hn hm => ?_, Nat.le_refl _, w.lk, w.kin⟩
  rcases List.mem_cons.mp hb with rfl | hb
  · have hl := (List.getElem?_eq_some_iff.mp hm).1
    rw [← w.len] at hl
    have := (w.cel n ρ[n] c (List.getElem?_eq_getElem hl) hm).below
    rwa [w.len] at this
  · exact w.low b n c hb hn hm
/-- what the answer hands on -/
def Rx (R H : Hp) (l : List Addr) : Hp := fun a => if a ∈ l then H a else R a
theorem Rx.in_ {R H : Hp} {l : List Addr} {a : Addr} (h : a ∈ l) : Rx R H l a = H a := if_pos h
theorem Rx.out {R H : Hp} {l : List Addr} {a : Addr} (h : a ∉ l) : Rx R H l a = R a := if_neg h
theorem mem_drop_get {n : Nat} {a : Addr} (h : ρ[n]? = some a) {b : Nat} (hb : b ≤ n) : a ∈ ρ.drop b := List.mem_iff_getElem?.mpr ⟨n - b, by rw [List.getElem?_drop, Nat.add_sub_cancel' hb]; exact h⟩
theorem take_not_drop (nd : ρ.Nodup) {a : Addr} {b : Nat} (h : a ∈ ρ.take b) : a ∉ ρ.drop b := fun h2 => by
  have := nd
  rw [← List.take_append_drop b ρ, List.nodup_append] at this
  exact this.2.2 a h a h2 rfl
theorem mapM_rls {f : DV → Option DV} {ρ2 : List Addr} {R2 : Hp} (hf : ∀ d v d', Rl K ρ R d v → f d = some d' → Rl K ρ2 R2 d' v) : ∀ {ds : List DV} {vs : List V} {ds' : List DV}, Rls K ρ R ds vs → ds.mapM f = some ds' → ds'.length = ds.length ∧ Rls K ρ2 R2 ds' vs
  | [], vs, ds', r, h => by
    obtain rfl := Option.some.inj h
    exact ⟨rfl, Rls.nil_iff.mpr (Rls.nil_iff.mp r)⟩
  | d :: ds, vs, ds', r, h => by
    obtain ⟨v, r', rfl, h1, h2⟩ := Rls.cons_iff.mp r
    rw [List.mapM_cons] at h
    obtain ⟨k, hk, h⟩ := Option.bind_eq_some_iff.mp h
    obtain ⟨ks', hks, h⟩ := Option.bind_eq_some_iff.mp h
    obtain rfl := Option.some.inj h
    obtain ⟨i1, i2⟩ := mapM_rls hf h2 hks
    exact ⟨by rw [List.length_cons, i1, List.length_cons], Rls.cons (hf d v k h1 hk) i2⟩
/-- a thing told again without the def's own cells -/
theorem frz_ok (w : WR K base ρ R m H) {b : Nat} : ∀ (n : Nat) (d d' : DV) (v : V), frz n b m d = some d' → (Rl K ρ R d v ∨ ∃ a o, v = .ref a ∧ a ∈ ρ.drop b ∧ H a = some o ∧ CoR K ρ R d o) → Rl K (ρ.take b) (Rx R H (ρ.drop b)) d' v
  | 0, d, d', v, h, _ => by unfold frz at h; cases h
  | n + 1, d, d', v, h, r => by
    have hR : ∀ a o, R a = some o → Rx R H (ρ.drop b) a = some o := fun a o e => by
      rw [Rx.out (fun z => by rw [w.own a (List.mem_of_mem_drop z)] at e; cases e)]
      exact e
    have x1 : Xt (ρ.take b) R (ρ.take b) (Rx R H (ρ.drop b)) := ⟨⟨[], (List.append_nil _).symm⟩, fun a o e => .inl (hR a o e)⟩
    have ih := fun (d d' : DV) (v : V) (r : Rl K ρ R d v) (h : frz n b m d = some d') => frz_ok w n d d' v h (.inl r)
    unfold frz at h
    by_cases hn : noRef d = true
    · rw [if_pos hn] at h
      obtain rfl := Option.some.inj h
      have hb := below_of_noRef b hn
      rcases r with r | ⟨a, o, rfl, ha, hH, hc⟩
      · exact (r.cut hb).mono x1
      · have hRa : Rx R H (ρ.drop b) a = some o := by rw [Rx.in_ ha]; exact hH
        cases d with
        | lst ds =>
          obtain ⟨z, vs, rfl, rr⟩ := hc
          rw [refsBelow] at hb
          exact rl_lst.mpr ⟨z, a, vs, rfl, .inl hRa, (rr.cut hb).mono x1⟩
        | dk ks ds =>
          obtain ⟨z, kvs, rfl, e, rr⟩ := hc
          rw [refsBelow] at hb
          exact rl_dk.mpr ⟨z, a, kvs, rfl, .inl hRa, e, (rr.cut hb).mono x1⟩
        | dt ks ds =>
          obtain ⟨z, kvs, rfl, e, rr⟩ := hc
          rw [refsBelow] at hb
          exact rl_dt.mpr ⟨z, a, kvs, rfl, .inl hRa, e, (rr.cut hb).mono x1⟩
        | _ => exact (show False from hc).elim
    · rw [if_neg hn] at h
      cases d with
      | ref k =>
        rcases r with r | ⟨a, o, rfl, ha, hH, hc⟩
        · obtain ⟨a, ha, rfl⟩ := rl_ref.mp r
          simp only at h
          by_cases hk : k < b
          · rw [if_pos hk] at h
            obtain rfl := Option.some.inj h
            exact rl_ref.mpr ⟨a, by rw [List.getElem?_take_of_lt hk]; exact ha, rfl⟩
          · rw [if_neg hk] at h
            split at h
            · rename_i x hm
              obtain ⟨o, h1, h2⟩ := w.cel k a _ ha hm
              exact frz_ok w n x d' _ h (.inr ⟨a, o, rfl, mem_drop_get ha (Nat.le_of_not_lt hk), h1, h2⟩)
            · cases h
        · exact (show False from hc).elim
      | tup xs =>
        obtain ⟨ys, hy, rfl⟩ := Option.map_eq_some_iff.mp h
        rcases r with r | ⟨a, o, rfl, ha, hH, hc⟩
        · obtain ⟨z, a, vs, rfl, hr, rr⟩ := rl_tup.mp r
          obtain ⟨l, rr'⟩ := mapM_rls (fun d v d' r h => ih d d' v r h) rr hy
          exact rl_tup.mpr ⟨by rw [l]; exact z, a, vs, rfl, hR _ _ hr, rr'⟩
        · exact (show False from hc).elim
      | kt xs =>
        obtain ⟨ys, hy, rfl⟩ := Option.map_eq_some_iff.mp h
        rcases r with r | ⟨a, o, rfl, ha, hH, hc⟩
        · obtain ⟨z, a, vs, rfl, hr, rr⟩ := rl_kt.mp r
          obtain ⟨l, rr'⟩ := mapM_rls (fun d v d' r h => ih d d' v r h) rr hy
          exact rl_kt.mpr ⟨by rw [l]; exact z, a, vs, rfl, x1.nt hr, rr'⟩
        · exact (show False from hc).elim
      | lst xs =>
        obtain ⟨ys, hy, rfl⟩ := Option.map_eq_some_iff.mp h
        rcases r with r | ⟨a, o, rfl, ha, hH, hc⟩
        · obtain ⟨z, a, vs, rfl, hr, rr⟩ := rl_lst.mp r
          obtain ⟨l, rr'⟩ := mapM_rls (fun d v d' r h => ih d d' v r h) rr hy
          exact rl_lst.mpr ⟨by rw [l]; exact z, a, vs, rfl, x1.rd hr, rr'⟩
        · obtain ⟨z, vs, rfl, rr⟩ := hc
          obtain ⟨l, rr'⟩ := mapM_rls (fun d v d' r h => ih d d' v r h) rr hy
          exact rl_lst.mpr ⟨by rw [l]; exact z, a, vs, rfl, .inl (by rw [Rx.in_ ha]; exact hH), rr'⟩
      | dk ks xs =>
        obtain ⟨ys, hy, rfl⟩ := Option.map_eq_some_iff.mp h
        rcases r with r | ⟨a, o, rfl, ha, hH, hc⟩
        · obtain ⟨z, a, vs, rfl, hr, e, rr⟩ := rl_dk.mp r
          obtain ⟨l, rr'⟩ := mapM_rls (fun d v d' r h => ih d d' v r h) rr hy
          exact rl_dk.mpr ⟨z, a, vs, rfl, x1.rd hr, e, rr'⟩
        · obtain ⟨z, vs, rfl, e, rr⟩ := hc
          obtain ⟨l, rr'⟩ := mapM_rls (fun d v d' r h => ih d d' v r h) rr hy
          exact rl_dk.mpr ⟨z, a, vs, rfl, .inl (by rw [Rx.in_ ha]; exact hH), e, rr'⟩
      | dt ks xs =>
        obtain ⟨ys, hy, rfl⟩ := Option.map_eq_some_iff.mp h
        rcases r with r | ⟨a, o, rfl, ha, hH, hc⟩
        · obtain ⟨z, a, vs, rfl, hr, e, rr⟩ := rl_dt.mp r
          obtain ⟨l, rr'⟩ := mapM_rls (fun d v d' r h => ih d d' v r h) rr hy
          exact rl_dt.mpr ⟨z, a, vs, rfl, x1.rd hr, e, rr'⟩
        · obtain ⟨z, vs, rfl, e, rr⟩ := hc
          obtain ⟨l, rr'⟩ := mapM_rls (fun d v d' r h => ih d d' v r h) rr hy
          exact rl_dt.mpr ⟨z, a, vs, rfl, .inl (by rw [Rx.in_ ha]; exact hH), e, rr'⟩
      | _ => cases h
theorem WR.leave {n : Nat} {hn : base.n ≤ n} (w : WR K (base.own n hn) ρ R m H) : WR K base (ρ.take n) (Rx R H (ρ.drop n)) (m.take n) H := by
  have hb : n ≤ m.length := w.bas
  have nt : ∀ {a}, a ∈ ρ.take n → a ∉ ρ.drop n := fun h => take_not_drop w.nd h
  have hR : ∀ a o, R a = some o → Rx R H (ρ.drop n) a = some o := fun a o e => by
    rw [Rx.out (fun z => by rw [w.own a (List.mem_of_mem_drop z)] at e; cases e)]
    exact e
  have x1 : Xt (ρ.take n) R (ρ.take n) (Rx R H (ρ.drop n)) := ⟨⟨[], (List.append_nil _).symm⟩, fun a o e => .inl (hR a o e)⟩
  have lt_of : ∀ {k : Nat} {c : Cell}, (m.take n)[k]? = some c → k < n ∧ m[k]? = some c := fun {k c} h => by
    have hk : k < n := by
      have := (List.getElem?_eq_some_iff.mp h).1
      rw [List.length_take] at this
      omega
    exact ⟨hk, by rw [List.getElem?_take_of_lt hk] at h; exact h⟩
  refine ⟨by rw [List.length_take, List.length_take, w.len], w.nd.sublist (List.take_sublist _ _), fun a o e => ?_, fun a ha => ?_, fun k a c h1 h2 => ?_, fun b k c h1 h2 h3 => ?_, by rw [List.length_take]; omega, fun p hp => ?_, fun k a d h1 h2 => ?_⟩
  · by_cases ha : a ∈ ρ.drop n
    · rw [Rx.in_ ha] at e; exact e
    · rw [Rx.out ha] at e; exact w.sub a o e
  · rw [Rx.out (nt ha)]; exact w.own a (List.mem_of_mem_take ha)
  · obtain ⟨hk, h2⟩ := lt_of h2
    rw [List.getElem?_take_of_lt hk] at h1
    have hl := w.low n k c List.mem_cons_self hk h2
    have cutc : ∀ {d : DV} {o : HO}, refsBelow n d = true → CoR K ρ R d o → CoR K (ρ.take n) (Rx R H (ρ.drop n)) d o := fun {d o} hb hc => by
      cases d with
      | lst ds => obtain ⟨z, vs, e, r⟩ := hc; rw [refsBelow] at hb; exact ⟨z, vs, e, (r.cut hb).mono x1⟩
      | dk ks ds => obtain ⟨z, vs, e, e2, r⟩ := hc; rw [refsBelow] at hb; exact ⟨z, vs, e, e2, (r.cut hb).mono x1⟩
      | dt ks ds => obtain ⟨z, vs, e, e2, r⟩ := hc; rw [refsBelow] at hb; exact ⟨z, vs, e, e2, (r.cut hb).mono x1⟩
      | _ => exact (show False from hc).elim
    have hc := w.cel k a c h1 h2
    cases c with
    | c d => obtain ⟨o, e, hc⟩ := hc; exact ⟨o, e, cutc hl hc⟩
    | k d => obtain ⟨ob, o, e, hc⟩ := hc; exact ⟨ob, o, e, cutc hl hc⟩
  · obtain ⟨hk, h3⟩ := lt_of h3
    exact w.low b k c (List.mem_cons_of_mem _ h1) h2 h3
  · obtain ⟨h1, h2⟩ := w.lk p hp
    refine ⟨h1, h2.imp id fun ⟨h3, h4, h5⟩ => ⟨h3, fun z => h4 (List.mem_of_mem_take z), ?_⟩⟩
    rw [Rx.out (fun z => h4 (List.mem_of_mem_drop z))]
    exact h5
  · obtain ⟨hk, h2⟩ := lt_of h2
    rw [List.getElem?_take_of_lt hk] at h1
    exact w.kin k a d h1 h2
theorem WR.weaken {n : Nat} {hn : base.n ≤ n} (w : WR K (base.own n hn) ρ R m H) : WR K base ρ R m H :=
  ⟨w.len, w.nd, w.sub, w.own, w.cel, fun b k c h1 h2 h3 => w.low b k c (List.mem_cons_of_mem _ h1) h2 h3, Nat.le_trans hn w.bas, w.lk, w.kin⟩
/-- behind a body -/
theorem leave_ok {Q : VK} (w0 : WR K base ρ R m H) {d : DV} {m' : Mem} (po : Po K base (Rl K) ρ R Q (leave false m.length d m')) {ρ' : List Addr} {R' H' : Hp} {v : V} (x : Xt ρ R ρ' R') (w : WR K (base.own m.length w0.bas) ρ' R' m' H') (r : Rl K ρ' R' d v) : Q v H' := by
  unfold leave at po
  rw [if_neg Bool.false_ne_true] at po
  by_cases hl : m'.length = m.length
  · rw [if_pos hl] at po
    exact po.ok x w.weaken r
  · rw [if_neg hl] at po
    obtain ⟨d', hd, po⟩ := po.of
    have hR : ∀ a o, R' a = some o → Rx R' H' (ρ'.drop m.length) a = some o := fun a o e => by
      rw [Rx.out (fun z => by rw [w.own a (List.mem_of_mem_drop z)] at e; cases e)]
      exact e
    have e1 : ρ'.take m.length = ρ := by
      obtain ⟨l, e⟩ := x.pre
      rw [e, ← w0.len, List.take_left]
    have x2 : Xt ρ R (ρ'.take m.length) (Rx R' H' (ρ'.drop m.length)) := ⟨⟨[], by rw [e1, List.append_nil]⟩, fun a o e => by
      rcases x.sub a o e with h | ⟨⟨ob, h⟩, mu⟩
      · exact .inl (hR _ _ h)
      · exact .inr ⟨⟨ob, hR _ _ h⟩, mu⟩⟩
    exact po.ok x2 w.leave (frz_ok w 40 d d' v hd (.inl r))
theorem er_start {N : List Str} {args : List DV} {vs : List V} {nn np : Nat} (r : Rls K ρ R args vs) (h1 : nn = N.length) (h2 : args.length = np) : ER K ρ R (args.map some ++ List.replicate (nn - np) none) (L2.start N vs) := by
  have hl := r.length
  refine ⟨?_, fun i d h => ?_⟩
  · unfold L2.start
    rw [List.length_append, List.length_append, List.length_map, List.length_map, List.length_replicate, List.length_replicate, hl, h1, h2]
  · have hi : i < args.length := by
      by_cases hi : i < args.length
      · exact hi
      · rw [List.getElem?_append_right (by simpa using hi), List.getElem?_replicate] at h
        split at h <;> cases h
    rw [List.getElem?_append_left (by simpa using hi), List.getElem?_map] at h
    obtain ⟨d', hd, e⟩ := Option.map_eq_some_iff.mp h
    obtain rfl := Option.some.inj e
    obtain ⟨v, hv, rv⟩ := r.get hd
    refine ⟨v, ?_, rv⟩
    unfold L2.start
    rw [List.getElem?_append_left (by rw [List.length_map, hl]; exact hi), List.getElem?_map, hv]
    rfl
end
/-! ### the program's defs -/
structure DefI where
  x : Str
  st : Stmt
  ps : List Str
  N : List Str
  fn : Fn
structure DefOk (T : TX) (D : DefI) : Prop where
  sc : FnScope D.N D.ps (defScope D.st)
  np : D.fn.np = D.ps.length
  nn : D.fn.nn = D.N.length
  chk : chkB { T with N := D.N } ⟨defScope D.st, defScope D.st⟩ D.fn.body (defBody D.st) = true
section
variable {P : Program} {w : World} {K : PySem.W.Frag} {mg : Str → Option Value} {base : Heap}
/-- what the text is -/
structure Text (K : PySem.W.Frag) (mg : Str → Option Value) (T : TX) (Ds : List DefI) (cs : List DV) : Prop where
  fns : T.fns = Ds.map (·.x)
  bi : ∀ x, x ∈ T.bi → mg x = none
  ok : ∀ D ∈ Ds, DefOk T D
  at_ : ∀ D ∈ Ds, ∃ (a : Addr) (fd : FuncData), mg D.x = some (.ref a) ∧ Fun K D.x D.x D.st a fd ∧ Binds K fd D.ps []
  con : ∀ (g : Nat) (x : Str), T.cons[g]? = some x → ∃ (d : DV) (v : V) (u : Value), cs[g]? = some d ∧ mg x = some u ∧ RelV v u ∧ ∀ ρ R, Rl K ρ R d v
theorem evCall_len {cs : List DV} {Pf : List Fn} {d f : Nat} {ds : List DV} {b : Nat} {m : Mem} {fn : Fn} (hf : Pf[f]? = some fn) (h : evCall cs Pf d f ds b m ≠ .bad) : ds.length = fn.np := by
  cases d with
  | zero => exact absurd rfl h
  | succ d =>
    unfold evCall at h
    rw [hf] at h
    by_cases hl : ds.length = fn.np
    · exact hl
    · simp only [if_neg hl] at h
      exact absurd rfl h
theorem defs_ok {T : TX} {Ds : List DefI} {cs : List DV} (X : Text K mg T Ds cs) : ∀ (d : Nat) (f : Nat) (D : DefI), Ds[f]? = some D → ∀ (a : Addr) (fd : FuncData), mg D.x = some (.ref a) → Fun K D.x D.x D.st a fd →
    FnOk P w K mg base CX0 d a fd D.ps (spOf K D.ps.length (evCall cs (Ds.map (·.fn)) d f))
  | 0, f, D, hf, a, fd, hm, F => ⟨fun vs H Q E h => h.1, fun A outer s H args us vs Q E hr e0 hb r h => by
      obtain ⟨_, b, ρ, R, m, ds, _, _, po⟩ := h
      unfold evCall at po
      exact po.elim⟩
  | d + 1, f, D, hf, a, fd, hm, F => by
    have ok := X.ok D (List.mem_of_getElem? hf)
    refine F.ok ok.sc (fun vs H Q E h => h.1) (fun cdv A outer s H vs Q E hr h => ?_)
    obtain ⟨hl, b, ρ, R, m, ds, w0, rd, po⟩ := h
    have hPf : (Ds.map (·.fn))[f]? = some D.fn := by rw [List.getElem?_map, hf]; rfl
    unfold evCall at po
    rw [hPf] at po
    simp only at po
    have hn : ds.length = D.fn.np := by rw [← rd.length, hl, ok.np]
    rw [if_pos hn] at po
    let C : SC := { T with N := D.N, K := K, cs := cs, F := evCall cs (Ds.map (·.fn)) d }
    have hX : XS C ⟨defScope D.st, defScope D.st⟩ (cxOf CX0 P w K mg base D.N D.x (defScope D.st) a cdv A outer s H E).nox :=
      { K := rfl, N := rfl, nd := ok.sc.nd, calm := rfl, eff := rfl, loc := fun x h => h, cel := fun x h => ⟨rfl, h⟩, bi := fun x h => X.bi x h, room := ⟨d, hr⟩
        fn := fun g x hg => by
          have hg : T.fns[g]? = some x := hg
          rw [X.fns, List.getElem?_map] at hg
          obtain ⟨D2, h2, rfl⟩ := Option.map_eq_some_iff.mp hg
          obtain ⟨a2, fd2, m2, F2, b2⟩ := X.at_ D2 (List.mem_of_getElem? h2)
          have hP2 : (Ds.map (·.fn))[g]? = some D2.fn := by rw [List.getElem?_map, h2]; rfl
          exact ⟨d, a2, fd2, D2.ps, hr, m2, F2.kp, b2, defs_ok X d g D2 h2 a2 fd2 m2 F2, fun ds b m h => by rw [evCall_len hP2 h]; exact (X.ok D2 (List.mem_of_getElem? h2)).np⟩
        con := fun g x hg => X.con g x hg
        po := PassesOwn.never
        blk := ok.sc.kind }
    refine ⟨tB C D.fn.body, chkB_ok D.fn.body (defBody D.st) ⟨defScope D.st, defScope D.st⟩ _ ok.chk hX, ?_⟩
    have er := er_start (N := D.N) rd ok.nn hn
    cases hk : D.fn.keep with
    | true =>
      rw [hk] at po
      simp only [if_true] at po
      refine ⟨b, ρ, R, m, _, w0, er, ?_⟩
      cases hb : evB (evCall cs (Ds.map (·.fn)) d) cs b.n (ds.map some ++ List.replicate (D.fn.nn - D.fn.np) none) D.fn.body m with
      | nx env m1 =>
        rw [hb] at po
        exact fun ρ' R' H' σ' x w' er' => (show Po K b (Rl K) ρ R Q (.ok .non m1) from po).ok x w' (rl_non.mpr rfl)
      | rt v m1 =>
        rw [hb] at po
        exact fun ρ' R' H' v' x w' r => (show Po K b (Rl K) ρ R Q (.ok v m1) from po).ok x w' r
      | bk _ _ => rw [hb] at po; exact po.elim
      | ct _ _ => rw [hb] at po; exact po.elim
      | ex _ _ => rw [hb] at po; exact po.elim
      | bad => rw [hb] at po; exact po.elim
    | false =>
      rw [hk] at po
      simp only [Bool.false_eq_true, if_false] at po
      refine ⟨b.own m.length w0.bas, ρ, R, m, _, w0.enter, er, ?_⟩
      show PoS K (b.own m.length w0.bas) ρ R _ (evB (evCall cs (Ds.map (·.fn)) d) cs m.length (ds.map some ++ List.replicate (D.fn.nn - D.fn.np) none) D.fn.body m)
      cases hb : evB (evCall cs (Ds.map (·.fn)) d) cs m.length (ds.map some ++ List.replicate (D.fn.nn - D.fn.np) none) D.fn.body m with
      | nx env m1 =>
        rw [hb] at po
        exact fun ρ' R' H' σ' x w' er' => leave_ok w0 po x w' (rl_non.mpr rfl)
      | rt v m1 =>
        rw [hb] at po
        exact fun ρ' R' H' v' x w' r => leave_ok w0 po x w' r
      | bk _ _ => rw [hb] at po; exact po.elim
      | ct _ _ => rw [hb] at po; exact po.elim
      | ex _ _ => rw [hb] at po; exact po.elim
      | bad => rw [hb] at po; exact po.elim
/-- the law's call: what the evaluator answers -/
theorem law_sp {G : List DV → Nat → Mem → Out DV} {H : Hp} {a : Addr} {ns : List Int} (hS : SqL K H a (ns.map V.int)) (hl : ns.length ≤ SL) (h : ∃ m, G [.kl (ns.map DV.int)] 0 [] = .ok (.bl true) m) : spOf K 1 G [.ref a] H (fun v _ => v = .bl true) fun _ _ _ => False := by
  obtain ⟨m, h⟩ := h
  refine ⟨rfl, ⟨0, [], [], by intro b hb; cases hb⟩, [], H, [], [.kl (ns.map DV.int)],
    { len := rfl
      nd := List.nodup_nil
      sub := fun a o e => e
      own := by intro a ha; cases ha
      cel := by intro n a c h1; cases h1
      low := by intro b n c hb; cases hb
      bas := Nat.le_refl _
      lk := by intro p hp; cases hp
      kin := by intro n a d h1; cases h1 }, ?_, ?_⟩
  · refine Rls.cons (rl_kl.mpr ⟨by rw [List.length_map]; exact hl, a, _, rfl, hS, ?_⟩) Rls.nil
    clear hS hl h
    induction ns with
    | nil => exact Rls.nil
    | cons n ns ih => exact Rls.cons (rl_int.mpr rfl) ih
  · show Po K _ (Rl K) [] H _ (G [.kl (ns.map DV.int)] 0 [])
    rw [h]
    exact fun ρ' R' H' v x w r => rl_bl.mp r
end
end Ev

set_option Elab.async false
set_option linter.all false
set_option maxRecDepth 100000
set_option maxHeartbeats 4000000
/-! What is asked of a run, step by step: equations for simp (nothing is reckoned under a binder), rules for loops. -/
namespace Ev
open PySem
/-- what a variable holds -/
def gv (env : Env') (i : Nat) : Option DV := match env[i]? with
  | some (some d) => some d
  | _ => none
@[simp] theorem gv_ne {env : Env'} {i j : Nat} {x : Option DV} (h : i ≠ j) : gv (env.set i x) j = gv env j := by unfold gv; rw [List.getElem?_set_ne h]
@[simp] theorem gv_eq {env : Env'} {i : Nat} {d : DV} (h : i < env.length) : gv (env.set i (some d)) i = some d := by unfold gv; rw [List.getElem?_set_self h]
@[simp] theorem gv_cons {env : Env'} {x : Option DV} {i : Nat} : gv (x :: env) (i + 1) = gv env i := by unfold gv; rw [List.getElem?_cons_succ]
@[simp] theorem gv_cons0 {env : Env'} {d : DV} : gv (some d :: env) 0 = some d := (rfl)
theorem Out.bind_id {α : Type} {o : Out α} : (o.bind fun a m => .ok a m) = o := by cases o <;> rfl
theorem Out.bind_of {α β : Type} {o : Option α} {m : Mem} {f : α → Mem → Out β} : (Out.of o m).bind f = (match o with
  | some a => f a m
  | none => .bad) := by cases o <;> rfl
section
variable (F : Nat → List DV → Nat → Mem → Out DV) (cs : List DV) (b : Nat) (env : Env')
def WE (e : Ex) (m : Mem) (Q : Out DV → Prop) : Prop := Q (evE F cs b env e m)
def WL (es : List Ex) (acc : List DV) (m : Mem) (Q : Out (List DV) → Prop) : Prop := Q ((evEs F cs b env es m).bind fun xs m => .ok (acc ++ xs) m)
def WT (t : Ts) (m : Mem) (Q : Out Bool → Prop) : Prop := Q (evT F cs b env t m)
def WTs (ts : List Ts) (m : Mem) (Q : Out Bool → Prop) : Prop := Q (evTs F cs b env ts m)
def WI (it : Itx) (m : Mem) (Q : Out (List DV) → Prop) : Prop := Q (evI F cs b env it m)
def WG (t : Ta) (d : DV) (m : Mem) (Q : Out Env' → Prop) : Prop := Q (asgT F cs b env t d m)
def WGs (ts : List Ta) (ds : List DV) (m : Mem) (Q : Out Env' → Prop) : Prop := Q (asgTs F cs b env ts ds m)
def WS (s : Sm) (m : Mem) (Q : SO → Prop) : Prop := Q (evS F cs b env s m)
def WB (ss : List Sm) (m : Mem) (Q : SO → Prop) : Prop := Q (evB F cs b env ss m)
/-- an outcome that is known, or is to be known -/
def WF' {α : Type} (o : Out α) (Q : Out α → Prop) : Prop := Q o
def qOf {α : Type} (o : Option α) (m : Mem) (Q : Out α → Prop) : Prop := Q (.of o m)
def qIf (k : Bool) (a b : Prop) : Prop := (k = true → a) ∧ (k = false → b)
end
@[simp] theorem WF'_ok {α : Type} {a : α} {m : Mem} {Q : Out α → Prop} : WF' (.ok a m) Q = Q (.ok a m) := (rfl)
@[simp] theorem WF'_exc {α : Type} {x : Exn} {m : Mem} {Q : Out α → Prop} : WF' (.exc x m) Q = Q (.exc x m) := (rfl)
@[simp] theorem qOf_some {α : Type} {a : α} {m : Mem} {Q : Out α → Prop} : qOf (some a) m Q = Q (.ok a m) := (rfl)
@[simp] theorem qIf_true {a b : Prop} : qIf true a b = a := by simp [qIf]
@[simp] theorem qIf_false {a b : Prop} : qIf false a b = b := by simp [qIf]
theorem spl {Q : Out Bool → Prop} {k : Bool} {m : Mem} (h1 : k = true → Q (.ok true m)) (h2 : k = false → Q (.ok false m)) : Q (.ok k m) := by cases k <;> simp_all
theorem splB {Q : Out DV → Prop} {k : Bool} {m : Mem} (h1 : k = true → Q (.ok (.bl true) m)) (h2 : k = false → Q (.ok (.bl false) m)) : Q (.ok (.bl k) m) := by cases k <;> simp_all
theorem qIf_intro {k : Bool} {a b : Prop} (h1 : k = true → a) (h2 : k = false → b) : qIf k a b := ⟨h1, h2⟩
section
variable {F : Nat → List DV → Nat → Mem → Out DV} {cs : List DV} {b : Nat} {env : Env'} {m : Mem} {Q : Out DV → Prop}
/-! ### rows of expressions -/
def kL (F : Nat → List DV → Nat → Mem → Out DV) (cs : List DV) (b : Nat) (env : Env') (es : List Ex) (acc : List DV) (K : Out (List DV) → Prop) (r : Out DV) : Prop := K (r.bind fun x m => (evEs F cs b env es m).bind fun xs m => .ok (acc ++ x :: xs) m)
@[simp] theorem WL_nil {acc : List DV} {K : Out (List DV) → Prop} : WL F cs b env [] acc m K = K (.ok acc m) := by unfold WL; rw [evEs, Out.bind_ok, List.append_nil]
@[simp] theorem WL_cons {e : Ex} {es : List Ex} {acc : List DV} {K : Out (List DV) → Prop} : WL F cs b env (e :: es) acc m K = WE F cs b env e m (kL F cs b env es acc K) := by
  unfold WL WE kL
  rw [evEs]
  simp only [Out.bind_assoc, Out.bind_ok]
@[simp] theorem kL_ok {es : List Ex} {acc : List DV} {K : Out (List DV) → Prop} {x : DV} : kL F cs b env es acc K (.ok x m) = WL F cs b env es (acc ++ [x]) m K := by
  unfold kL WL
  rw [Out.bind_ok]
  simp only [List.append_assoc, List.cons_append, List.nil_append]
@[simp] theorem kL_exc {es : List Ex} {acc : List DV} {K : Out (List DV) → Prop} {x : Exn} : kL F cs b env es acc K (.exc x m) = K (.exc x m) := (rfl)
/-! ### expressions -/
theorem WL_two {x y : Ex} {K : Out (List DV) → Prop} : WL F cs b env [x, y] [] m K = K ((evE F cs b env x m).bind fun u m => (evE F cs b env y m).bind fun v m => .ok [u, v] m) := by
  unfold WL
  simp only [evEs, Out.bind_assoc, Out.bind_ok, List.nil_append]
@[simp] theorem WE_var {i : Nat} : WE F cs b env (.var i) m Q = qOf (gv env i) m Q := by
  unfold WE qOf gv
  rw [evE]
  rcases env[i]? with _ | _ | d <;> rfl
@[simp] theorem WE_int {i : Int} : WE F cs b env (.int i) m Q = Q (.ok (.int i) m) := by unfold WE; rw [evE]
@[simp] theorem WE_str {t : List Nat} : WE F cs b env (.str t) m Q = Q (.ok (.str t) m) := by unfold WE; rw [evE]
@[simp] theorem WE_bl {k : Bool} : WE F cs b env (.bl k) m Q = Q (.ok (.bl k) m) := by unfold WE; rw [evE]
@[simp] theorem WE_non : WE F cs b env .non m Q = Q (.ok .non m) := by unfold WE; rw [evE]
@[simp] theorem WE_con {g : Nat} : WE F cs b env (.con g) m Q = qOf cs[g]? m Q := by unfold WE qOf; rw [evE]
def two {α : Type} (f : DV → DV → Mem → Out α) (xs : List DV) (m : Mem) : Out α := match xs with
  | [u, v] => f u v m
  | _ => .bad
def kBin (o : Op2) (Q : Out DV → Prop) (r : Out (List DV)) : Prop := Q (r.bind (two fun u v m => .of (op2 o u v) m))
@[simp] theorem WE_bin {o : Op2} {x y : Ex} : WE F cs b env (.bin o x y) m Q = WL F cs b env [x, y] [] m (kBin o Q) := by
  rw [WL_two]
  unfold WE kBin
  rw [evE]
  simp only [Out.bind_assoc, Out.bind_ok]
  rfl
@[simp] theorem kBin_ok {o : Op2} {u v : DV} : kBin o Q (.ok [u, v] m) = qOf (op2 o u v) m Q := (rfl)
@[simp] theorem kBin_exc {o : Op2} {x : Exn} : kBin o Q (.exc x m) = Q (.exc x m) := (rfl)
def kNeg (Q : Out DV → Prop) (r : Out DV) : Prop := Q (r.bind fun x m => (match x with
    | .int i => .ok (.int (-i)) m
    | _ => .bad))
@[simp] theorem WE_neg {x : Ex} : WE F cs b env (.neg x) m Q = WE F cs b env x m (kNeg Q) := by unfold WE kNeg; rw [evE]; try rfl
@[simp] theorem kNeg_ok {i : Int} : kNeg Q (.ok (.int i) m) = Q (.ok (.int (-i)) m) := (rfl)
def kCmp (c : Cm) (Q : Out DV → Prop) (r : Out (List DV)) : Prop := Q (r.bind (two fun u v m => .of ((cmpD c (rs m u) (rs m v)).map .bl) m))
@[simp] theorem WE_cmp {c : Cm} {x y : Ex} : WE F cs b env (.cmp c x y) m Q = WL F cs b env [x, y] [] m (kCmp c Q) := by
  rw [WL_two]
  unfold WE kCmp
  rw [evE]
  simp only [Out.bind_assoc, Out.bind_ok]
  rfl
@[simp] theorem kCmp_ok {c : Cm} {u v : DV} : kCmp c Q (.ok [u, v] m) = qOf ((cmpD c (rs m u) (rs m v)).map .bl) m Q := (rfl)
@[simp] theorem kCmp_exc {c : Cm} {x : Exn} : kCmp c Q (.exc x m) = Q (.exc x m) := (rfl)
def chain3 (c2 : Cm) (v z : DV) (m : Mem) : Out DV := .of ((cmpD c2 (rs m v) (rs m z)).map .bl) m
def chain2 (F : Nat → List DV → Nat → Mem → Out DV) (cs : List DV) (b : Nat) (env : Env') (c2 : Cm) (v : DV) (z : Ex) (k : Bool) (m : Mem) : Out DV := if k = true then (evE F cs b env z m).bind (chain3 c2 v) else .ok (.bl false) m
def kChain (F : Nat → List DV → Nat → Mem → Out DV) (cs : List DV) (b : Nat) (env : Env') (c1 c2 : Cm) (z : Ex) (Q : Out DV → Prop) (r : Out (List DV)) : Prop := Q (r.bind (two fun u v m => (Out.of (cmpD c1 (rs m u) (rs m v)) m).bind (chain2 F cs b env c2 v z)))
def kChain2 (F : Nat → List DV → Nat → Mem → Out DV) (cs : List DV) (b : Nat) (env : Env') (c2 : Cm) (v : DV) (z : Ex) (Q : Out DV → Prop) (r : Out Bool) : Prop := Q (r.bind (chain2 F cs b env c2 v z))
def kChain3 (c2 : Cm) (v : DV) (Q : Out DV → Prop) (r : Out DV) : Prop := Q (r.bind (chain3 c2 v))
@[simp] theorem WE_chain {c1 c2 : Cm} {x y z : Ex} : WE F cs b env (.chain c1 c2 x y z) m Q = WL F cs b env [x, y] [] m (kChain F cs b env c1 c2 z Q) := by
  rw [WL_two]
  unfold WE kChain
  rw [evE]
  simp only [Out.bind_assoc, Out.bind_ok]
  rfl
@[simp] theorem kChain_ok {c1 c2 : Cm} {u v : DV} {z : Ex} : kChain F cs b env c1 c2 z Q (.ok [u, v] m) = qOf (cmpD c1 (rs m u) (rs m v)) m (kChain2 F cs b env c2 v z Q) := (rfl)
@[simp] theorem kChain2_t {c2 : Cm} {v : DV} {z : Ex} : kChain2 F cs b env c2 v z Q (.ok true m) = WE F cs b env z m (kChain3 c2 v Q) := by simp [kChain2, chain2, kChain3, WE]
@[simp] theorem kChain2_f {c2 : Cm} {v : DV} {z : Ex} : kChain2 F cs b env c2 v z Q (.ok false m) = Q (.ok (.bl false) m) := by simp [kChain2, chain2]
@[simp] theorem kChain3_ok {c2 : Cm} {v z : DV} : kChain3 c2 v Q (.ok z m) = qOf ((cmpD c2 (rs m v) (rs m z)).map .bl) m Q := (rfl)
def kAnd (F : Nat → List DV → Nat → Mem → Out DV) (cs : List DV) (b : Nat) (env : Env') (y : Ex) (Q : Out DV → Prop) (r : Out DV) : Prop := Q (r.bind fun x m => (match x with
    | .bl k => if k = true then evE F cs b env y m else .ok (.bl false) m
    | _ => .bad))
def kOr (F : Nat → List DV → Nat → Mem → Out DV) (cs : List DV) (b : Nat) (env : Env') (y : Ex) (Q : Out DV → Prop) (r : Out DV) : Prop := Q (r.bind fun x m => (match x with
    | .bl k => if k = true then .ok (.bl true) m else evE F cs b env y m
    | _ => .bad))
@[simp] theorem WE_and {x y : Ex} : WE F cs b env (.and x y) m Q = WE F cs b env x m (kAnd F cs b env y Q) := by unfold WE kAnd; rw [evE]; try rfl
@[simp] theorem WE_or {x y : Ex} : WE F cs b env (.or x y) m Q = WE F cs b env x m (kOr F cs b env y Q) := by unfold WE kOr; rw [evE]; try rfl
@[simp] theorem kAnd_t {y : Ex} : kAnd F cs b env y Q (.ok (.bl true) m) = WE F cs b env y m Q := by simp [kAnd, WE]
@[simp] theorem kAnd_f {y : Ex} : kAnd F cs b env y Q (.ok (.bl false) m) = Q (.ok (.bl false) m) := by simp [kAnd]
@[simp] theorem kOr_t {y : Ex} : kOr F cs b env y Q (.ok (.bl true) m) = Q (.ok (.bl true) m) := by simp [kOr]
@[simp] theorem kOr_f {y : Ex} : kOr F cs b env y Q (.ok (.bl false) m) = WE F cs b env y m Q := by simp [kOr, WE]
@[simp] theorem kAnd_exc {y : Ex} {x : Exn} : kAnd F cs b env y Q (.exc x m) = Q (.exc x m) := (rfl)
@[simp] theorem kOr_exc {y : Ex} {x : Exn} : kOr F cs b env y Q (.exc x m) = Q (.exc x m) := (rfl)
def kNotE (Q : Out DV → Prop) (r : Out DV) : Prop := Q (r.bind fun u m => .of ((truD (rs m u)).map fun k => .bl (!k)) m)
@[simp] theorem WE_not {x : Ex} : WE F cs b env (.not x) m Q = WE F cs b env x m (kNotE Q) := by unfold WE kNotE; rw [evE]
@[simp] theorem kNotE_ok {u : DV} : kNotE Q (.ok u m) = qOf ((truD (rs m u)).map fun k => .bl (!k)) m Q := (rfl)
@[simp] theorem kNotE_exc {x : Exn} : kNotE Q (.exc x m) = Q (.exc x m) := (rfl)
def kIteE (F : Nat → List DV → Nat → Mem → Out DV) (cs : List DV) (b : Nat) (env : Env') (x y : Ex) (Q : Out DV → Prop) (r : Out Bool) : Prop := Q (r.bind fun k m => if k = true then evE F cs b env x m else evE F cs b env y m)
@[simp] theorem WE_ite {c : Ts} {x y : Ex} : WE F cs b env (.ite c x y) m Q = WT F cs b env c m (kIteE F cs b env x y Q) := by unfold WE WT kIteE; rw [evE]
@[simp] theorem kIteE_t {x y : Ex} : kIteE F cs b env x y Q (.ok true m) = WE F cs b env x m Q := by simp [kIteE, WE]
@[simp] theorem kIteE_f {x y : Ex} : kIteE F cs b env x y Q (.ok false m) = WE F cs b env y m Q := by simp [kIteE, WE]
@[simp] theorem kIteE_exc {z : Exn} {x y : Ex} : kIteE F cs b env x y Q (.exc z m) = Q (.exc z m) := (rfl)
def kLst (f : List DV → Mem → Out DV) (Q : Out DV → Prop) (r : Out (List DV)) : Prop := Q (r.bind f)
@[simp] theorem kLst_ok {f : List DV → Mem → Out DV} {xs : List DV} : kLst f Q (.ok xs m) = Q (f xs m) := (rfl)
@[simp] theorem kLst_exc {f : List DV → Mem → Out DV} {x : Exn} : kLst f Q (.exc x m) = Q (.exc x m) := (rfl)
theorem WL_emp {es : List Ex} {K : Out (List DV) → Prop} : WL F cs b env es [] m K = K (evEs F cs b env es m) := by
  unfold WL
  simp only [List.nil_append, Out.bind_id]
@[simp] theorem WE_tup {es : List Ex} : WE F cs b env (.tup es) m Q = WL F cs b env es [] m (kLst (fun xs m => .ok (.tup xs) m) Q) := by rw [WL_emp]; unfold WE kLst; rw [evE]
@[simp] theorem WE_tupK {es : List Ex} : WE F cs b env (.tupK es) m Q = WL F cs b env es [] m (kLst (fun xs m => .ok (.kt xs) m) Q) := by rw [WL_emp]; unfold WE kLst; rw [evE]
@[simp] theorem WE_lst {es : List Ex} : WE F cs b env (.lst es) m Q = WL F cs b env es [] m (kLst (fun xs m => .ok (.lst xs) m) Q) := by rw [WL_emp]; unfold WE kLst; rw [evE]
@[simp] theorem WE_lstM {es : List Ex} : WE F cs b env (.lstM es) m Q = WL F cs b env es [] m (kLst (fun xs m => .ok (.ref m.length) (m ++ [.c (.lst xs)])) Q) := by rw [WL_emp]; unfold WE kLst; rw [evE]
@[simp] theorem WE_dnewt : WE F cs b env (.dnew true) m Q = Q (.ok (.ref m.length) (m ++ [.c (.dt [] [])])) := by unfold WE; rw [evE]; rfl
@[simp] theorem WE_dnewf : WE F cs b env (.dnew false) m Q = Q (.ok (.ref m.length) (m ++ [.c (.dk [] [])])) := by unfold WE; rw [evE]; rfl
def kCell (Q : Out DV → Prop) (r : Out DV) : Prop := Q (r.bind fun d m => .ok (.ref m.length) (m ++ [.c d]))
@[simp] theorem kCell_ok {d : DV} : kCell Q (.ok d m) = Q (.ok (.ref m.length) (m ++ [.c d])) := (rfl)
def kQ (f : List DV → Mem → (Out DV → Prop) → Prop) (Q : Out DV → Prop) (r : Out (List DV)) : Prop := match r with
  | .ok xs m => f xs m Q
  | .exc x m => Q (.exc x m)
  | .bad => Q .bad
@[simp] theorem kQ_ok {f : List DV → Mem → (Out DV → Prop) → Prop} {xs : List DV} : kQ f Q (.ok xs m) = f xs m Q := (rfl)
@[simp] theorem kQ_exc {f : List DV → Mem → (Out DV → Prop) → Prop} {x : Exn} : kQ f Q (.exc x m) = Q (.exc x m) := (rfl)
@[simp] theorem WE_dispM {es : List Ex} : WE F cs b env (.dispM es) m Q = WL F cs b env es [] m (kQ (fun xs m Q => qOf (dispD xs [] []) m (kCell Q)) Q) := by
  rw [WL_emp]; unfold WE; rw [evE]; cases evEs F cs b env es m <;> rfl
@[simp] theorem WE_sub {x y : Ex} : WE F cs b env (.sub x y) m Q = WL F cs b env [x, y] [] m (kQ (fun xs m Q => WF' (two (fun u v m => .of (subD (rs m u) v) m) xs m) Q) Q) := by
  rw [WL_two]
  unfold WE
  rw [evE]
  cases evE F cs b env x m with
  | ok u m1 => simp only [Out.bind_ok]; cases evE F cs b env y m1 <;> rfl
  | exc z m1 => rfl
  | bad => rfl
@[simp] theorem two_ok {α : Type} {f : DV → DV → Mem → Out α} {u v : DV} : two f [u, v] m = f u v m := (rfl)
@[simp] theorem WF'_of {α : Type} {o : Option α} {Q : Out α → Prop} : WF' (Out.of o m) Q = qOf o m Q := (rfl)
def kSl (F : Nat → List DV → Nat → Mem → Out DV) (cs : List DV) (b : Nat) (env : Env') (lo hi : Option Ex) (Q : Out DV → Prop) (r : Out DV) : Prop := Q (r.bind fun x m => (evO F cs b env lo m).bind fun l m => (evO F cs b env hi m).bind fun h m => .of (sliceD (rs m x) l h) m)
def kSl2 (F : Nat → List DV → Nat → Mem → Out DV) (cs : List DV) (b : Nat) (env : Env') (x : DV) (hi : Option Ex) (Q : Out DV → Prop) (r : Out (Option Int)) : Prop := Q (r.bind fun l m => (evO F cs b env hi m).bind fun h m => .of (sliceD (rs m x) l h) m)
def kSl3 (x : DV) (l : Option Int) (Q : Out DV → Prop) (r : Out (Option Int)) : Prop := Q (r.bind fun h m => .of (sliceD (rs m x) l h) m)
def WO' (F : Nat → List DV → Nat → Mem → Out DV) (cs : List DV) (b : Nat) (env : Env') (e : Option Ex) (m : Mem) (Q : Out (Option Int) → Prop) : Prop := Q (evO F cs b env e m)
def kO (Q : Out (Option Int) → Prop) (r : Out DV) : Prop := Q (r.bind fun x m => (match x with
    | .int i => .ok (some i) m
    | _ => .bad))
@[simp] theorem WO_none {Q : Out (Option Int) → Prop} : WO' F cs b env none m Q = Q (.ok none m) := by unfold WO'; rw [evO]
@[simp] theorem WO_some {e : Ex} {Q : Out (Option Int) → Prop} : WO' F cs b env (some e) m Q = WE F cs b env e m (kO Q) := by unfold WO' WE kO; rw [evO]; try rfl
@[simp] theorem kO_ok {i : Int} {Q : Out (Option Int) → Prop} : kO Q (.ok (.int i) m) = Q (.ok (some i) m) := (rfl)
@[simp] theorem WE_slice {x : Ex} {lo hi : Option Ex} : WE F cs b env (.slice x lo hi) m Q = WE F cs b env x m (kSl F cs b env lo hi Q) := by unfold WE kSl; rw [evE]
@[simp] theorem kSl_ok {x : DV} {lo hi : Option Ex} : kSl F cs b env lo hi Q (.ok x m) = WO' F cs b env lo m (kSl2 F cs b env x hi Q) := (rfl)
@[simp] theorem kSl2_ok {x : DV} {l : Option Int} {hi : Option Ex} : kSl2 F cs b env x hi Q (.ok l m) = WO' F cs b env hi m (kSl3 x l Q) := (rfl)
@[simp] theorem kSl3_ok {x : DV} {l h : Option Int} : kSl3 x l Q (.ok h m) = qOf (sliceD (rs m x) l h) m Q := (rfl)
def kCall (F : Nat → List DV → Nat → Mem → Out DV) (b f : Nat) (Q : Out DV → Prop) (r : Out (List DV)) : Prop := Q (r.bind fun xs m => F f xs b m)
@[simp] theorem WE_call {f : Nat} {es : List Ex} : WE F cs b env (.call f es) m Q = WL F cs b env es [] m (kCall F b f Q) := by rw [WL_emp]; unfold WE kCall; rw [evE]
@[simp] theorem kCall_ok {f : Nat} {xs : List DV} : kCall F b f Q (.ok xs m) = WF' (F f xs b m) Q := (rfl)
@[simp] theorem kCall_exc {f : Nat} {x : Exn} : kCall F b f Q (.exc x m) = Q (.exc x m) := (rfl)
@[simp] theorem WE_prim {p : Pr} {es : List Ex} : WE F cs b env (.prim p es) m Q = WL F cs b env es [] m (kQ (fun xs m Q => qOf (primD p (xs.map (rs m))) m Q) Q) := by
  rw [WL_emp]; unfold WE; rw [evE]; cases evEs F cs b env es m <;> rfl
@[simp] theorem WE_primM {p : Pr} {es : List Ex} : WE F cs b env (.primM p es) m Q = WL F cs b env es [] m (kQ (fun xs m Q => qOf (primND p (xs.map (rs m))) m (kCell Q)) Q) := by
  rw [WL_emp]; unfold WE; rw [evE]; cases evEs F cs b env es m <;> rfl
def kIsi (ts : List Ty) (Q : Out DV → Prop) (r : Out DV) : Prop := Q (r.bind fun u m => .of ((isiD ts (rs m u)).map .bl) m)
@[simp] theorem WE_isi {x : Ex} {t : Ty} {ts : List Ty} : WE F cs b env (.isi x t ts) m Q = WE F cs b env x m (kIsi (t :: ts) Q) := by unfold WE kIsi; rw [evE]
@[simp] theorem kIsi_ok {ts : List Ty} {u : DV} : kIsi ts Q (.ok u m) = qOf ((isiD ts (rs m u)).map .bl) m Q := (rfl)
def kMeth (F : Nat → List DV → Nat → Mem → Out DV) (cs : List DV) (b : Nat) (env : Env') (p : Mt) (es : List Ex) (Q : Out DV → Prop) (r : Out DV) : Prop := Q (r.bind fun u m => if recvOk p (rs m u) = true then (evEs F cs b env es m).bind fun xs m => methD p b u xs m else .bad)
def kMeth2 (b : Nat) (p : Mt) (u : DV) (Q : Out DV → Prop) (r : Out (List DV)) : Prop := Q (r.bind fun xs m => methD p b u xs m)
@[simp] theorem WE_meth {p : Mt} {x : Ex} {es : List Ex} : WE F cs b env (.meth p x es) m Q = WE F cs b env x m (kMeth F cs b env p es Q) := by unfold WE kMeth; rw [evE]
@[simp] theorem kMeth_ok {p : Mt} {u : DV} {es : List Ex} (h : recvOk p (rs m u) = true) : kMeth F cs b env p es Q (.ok u m) = WL F cs b env es [] m (kMeth2 b p u Q) := by
  rw [WL_emp]
  unfold kMeth kMeth2
  rw [Out.bind_ok, if_pos h]
@[simp] theorem kMeth2_ok {p : Mt} {u : DV} {xs : List DV} : kMeth2 b p u Q (.ok xs m) = WF' (methD p b u xs m) Q := (rfl)
@[simp] theorem kMeth2_exc {p : Mt} {u : DV} {x : Exn} : kMeth2 b p u Q (.exc x m) = Q (.exc x m) := (rfl)
def kUn1 (u : U1) (Q : Out DV → Prop) (r : Out DV) : Prop := Q (r.bind fun x m => .of (unD u (rs m x)) m)
@[simp] theorem WE_un1 {u : U1} {x : Ex} : WE F cs b env (.un1 u x) m Q = WE F cs b env x m (kUn1 u Q) := by unfold WE kUn1; rw [evE]
@[simp] theorem kUn1_ok {u : U1} {x : DV} : kUn1 u Q (.ok x m) = qOf (unD u (rs m x)) m Q := (rfl)
def kStep (k : Nat) (Q : Out DV → Prop) (r : Out DV) : Prop := Q (r.bind fun x m => .of (stepD k (rs m x)) m)
@[simp] theorem WE_step {k : Nat} {x : Ex} : WE F cs b env (.step x k) m Q = WE F cs b env x m (kStep k Q) := by unfold WE kStep; rw [evE]
@[simp] theorem kStep_ok {k : Nat} {x : DV} : kStep k Q (.ok x m) = qOf (stepD k (rs m x)) m Q := (rfl)
@[simp] theorem step_tup {k : Nat} {xs : List DV} : stepD k (.tup xs) = some (.tup (ev2 (xs.drop k))) := (rfl)
@[simp] theorem step_kt {k : Nat} {xs : List DV} : stepD k (.kt xs) = some (.tup (ev2 (xs.drop k))) := (rfl)
/-! ### tests -/
variable {T : Out Bool → Prop}
def kVal (T : Out Bool → Prop) (r : Out DV) : Prop := T (r.bind fun x m => .of (truD (rs m x)) m)
@[simp] theorem WT_val {e : Ex} : WT F cs b env (.val e) m T = WE F cs b env e m (kVal T) := by unfold WT WE kVal; rw [evT]
@[simp] theorem kVal_ok {x : DV} : kVal T (.ok x m) = qOf (truD (rs m x)) m T := (rfl)
@[simp] theorem kVal_exc {x : Exn} : kVal T (.exc x m) = T (.exc x m) := (rfl)
def kNot (T : Out Bool → Prop) (r : Out Bool) : Prop := T (r.bind fun k m => .ok (!k) m)
@[simp] theorem WT_not {t : Ts} : WT F cs b env (.not t) m T = WT F cs b env t m (kNot T) := by unfold WT kNot; rw [evT]
@[simp] theorem kNot_ok {k : Bool} : kNot T (.ok k m) = T (.ok (!k) m) := (rfl)
@[simp] theorem kNot_exc {x : Exn} : kNot T (.exc x m) = T (.exc x m) := (rfl)
def kTAnd (F : Nat → List DV → Nat → Mem → Out DV) (cs : List DV) (b : Nat) (env : Env') (u : Ts) (T : Out Bool → Prop) (r : Out Bool) : Prop := T (r.bind fun k m => if k = true then evT F cs b env u m else .ok false m)
def kTOr (F : Nat → List DV → Nat → Mem → Out DV) (cs : List DV) (b : Nat) (env : Env') (u : Ts) (T : Out Bool → Prop) (r : Out Bool) : Prop := T (r.bind fun k m => if k = true then .ok true m else evT F cs b env u m)
@[simp] theorem WT_and {t u : Ts} : WT F cs b env (.and t u) m T = WT F cs b env t m (kTAnd F cs b env u T) := by unfold WT kTAnd; rw [evT]
@[simp] theorem WT_or {t u : Ts} : WT F cs b env (.or t u) m T = WT F cs b env t m (kTOr F cs b env u T) := by unfold WT kTOr; rw [evT]
@[simp] theorem kTAnd_t {u : Ts} : kTAnd F cs b env u T (.ok true m) = WT F cs b env u m T := by simp [kTAnd, WT]
@[simp] theorem kTAnd_f {u : Ts} : kTAnd F cs b env u T (.ok false m) = T (.ok false m) := by simp [kTAnd]
@[simp] theorem kTOr_t {u : Ts} : kTOr F cs b env u T (.ok true m) = T (.ok true m) := by simp [kTOr]
@[simp] theorem kTOr_f {u : Ts} : kTOr F cs b env u T (.ok false m) = WT F cs b env u m T := by simp [kTOr, WT]
@[simp] theorem kTAnd_exc {x : Exn} {u : Ts} : kTAnd F cs b env u T (.exc x m) = T (.exc x m) := (rfl)
@[simp] theorem kTOr_exc {x : Exn} {u : Ts} : kTOr F cs b env u T (.exc x m) = T (.exc x m) := (rfl)
@[simp] theorem WTs_nil : WTs F cs b env [] m T = T (.ok true m) := by unfold WTs; rw [evTs]
def kTs (F : Nat → List DV → Nat → Mem → Out DV) (cs : List DV) (b : Nat) (env : Env') (ts : List Ts) (T : Out Bool → Prop) (r : Out Bool) : Prop := T (r.bind fun k m => if k = true then evTs F cs b env ts m else .ok false m)
@[simp] theorem WTs_cons {t : Ts} {ts : List Ts} : WTs F cs b env (t :: ts) m T = WT F cs b env t m (kTs F cs b env ts T) := by unfold WTs WT kTs; rw [evTs]
@[simp] theorem kTs_t {ts : List Ts} : kTs F cs b env ts T (.ok true m) = WTs F cs b env ts m T := by simp [kTs, WTs]
@[simp] theorem kTs_f {ts : List Ts} : kTs F cs b env ts T (.ok false m) = T (.ok false m) := by simp [kTs]
@[simp] theorem kTs_nil {k : Bool} : kTs F cs b env [] T (.ok k m) = T (.ok k m) := by cases k <;> simp
/-! ### targets -/
variable {G : Out Env' → Prop}
@[simp] theorem WG_v {i : Nat} {d : DV} (h : i < env.length) : WG F cs b env (.v i) d m G = G (.ok (env.set i (some d)) m) := by unfold WG; rw [asgT, if_pos h]
def kSet (env : Env') (b : Nat) (d : DV) (G : Out Env' → Prop) (r : Out (List DV)) : Prop := G (r.bind (two fun x y m => (setD b x y d m).bind fun _ m => .ok env m))
def kEnv (env : Env') (G : Out Env' → Prop) (r : Out Unit) : Prop := G (r.bind fun _ m => .ok env m)
@[simp] theorem WG_sub {o i : Ex} {d : DV} : WG F cs b env (.sub o i) d m G = WL F cs b env [o, i] [] m (kSet env b d G) := by
  rw [WL_two]
  unfold WG kSet
  rw [asgT]
  simp only [Out.bind_assoc, Out.bind_ok]
  rfl
@[simp] theorem kSet_ok {x y d : DV} : kSet env b d G (.ok [x, y] m) = WF' (setD b x y d m) (kEnv env G) := (rfl)
@[simp] theorem kEnv_ok {u : Unit} : kEnv env G (.ok u m) = G (.ok env m) := (rfl)
@[simp] theorem WG_t {ts : List Ta} {xs : List DV} (h : xs.length = ts.length) : WG F cs b env (.t ts) (.tup xs) m G = WGs F cs b env ts xs m G := by
  unfold WG WGs
  rw [asgT]
  rw [if_pos h]
@[simp] theorem WG_kt {ts : List Ta} {xs : List DV} (h : xs.length = ts.length) : WG F cs b env (.t ts) (.kt xs) m G = WGs F cs b env ts xs m G := by
  unfold WG WGs
  rw [asgT]
  rw [if_pos h]
@[simp] theorem WGs_nil {xs : List DV} : WGs F cs b env [] xs m G = G (.ok env m) := by unfold WGs; rw [asgTs]
def kGs (F : Nat → List DV → Nat → Mem → Out DV) (cs : List DV) (b : Nat) (ts : List Ta) (xs : List DV) (G : Out Env' → Prop) (r : Out Env') : Prop := G (r.bind fun env m => asgTs F cs b env ts xs m)
@[simp] theorem WGs_cons {t : Ta} {ts : List Ta} {x : DV} {xs : List DV} : WGs F cs b env (t :: ts) (x :: xs) m G = WG F cs b env t x m (kGs F cs b ts xs G) := by unfold WGs WG kGs; rw [asgTs]
@[simp] theorem kGs_ok {ts : List Ta} {xs : List DV} : kGs F cs b ts xs G (.ok env m) = WGs F cs b env ts xs m G := (rfl)
/-! ### statements -/
variable {S : SO → Prop}
def kNx (S : SO → Prop) (r : Out Env') : Prop := S (r.so fun env m => .nx env m)
@[simp] theorem kNx_ok : kNx S (.ok env m) = S (.nx env m) := (rfl)
@[simp] theorem kNx_exc {x : Exn} : kNx S (.exc x m) = S (.ex x m) := (rfl)
def kAsg (F : Nat → List DV → Nat → Mem → Out DV) (cs : List DV) (b : Nat) (env : Env') (t : Ta) (S : SO → Prop) (r : Out DV) : Prop := S (r.so fun x m => (asgT F cs b env t x m).so fun env m => .nx env m)
@[simp] theorem WS_asg {t : Ta} {e : Ex} : WS F cs b env (.asg t e) m S = WE F cs b env e m (kAsg F cs b env t S) := by unfold WS WE kAsg; rw [evS]
@[simp] theorem kAsg_ok {t : Ta} {x : DV} : kAsg F cs b env t S (.ok x m) = WG F cs b env t x m (kNx S) := (rfl)
@[simp] theorem kAsg_exc {t : Ta} {x : Exn} : kAsg F cs b env t S (.exc x m) = S (.ex x m) := (rfl)
def parO (o : Option Env') (m : Mem) : SO := match o with
  | some env => .nx env m
  | none => .bad
def kPar (env : Env') (is : List Nat) (S : SO → Prop) (r : Out (List DV)) : Prop := S (r.so fun xs m => parO (parSet env is xs) m)
@[simp] theorem WS_par {is : List Nat} {es : List Ex} : WS F cs b env (.par is es) m S = WL F cs b env es [] m (kPar env is S) := by rw [WL_emp]; unfold WS kPar; rw [evS]; rfl
def qPar (S : SO → Prop) (m : Mem) (o : Option Env') : Prop := S (parO o m)
@[simp] theorem kPar_ok {is : List Nat} {xs : List DV} : kPar env is S (.ok xs m) = qPar S m (parSet env is xs) := (rfl)
@[simp] theorem kPar_exc {is : List Nat} {x : Exn} : kPar env is S (.exc x m) = S (.ex x m) := (rfl)
@[simp] theorem qPar_some : qPar S m (some env) = S (.nx env m) := (rfl)
@[simp] theorem par_cons {i : Nat} {is : List Nat} {x : DV} {xs : List DV} (h : i < env.length) : parSet env (i :: is) (x :: xs) = parSet (env.set i (some x)) is xs := by rw [parSet, if_pos h]
@[simp] theorem par_nil : parSet env [] [] = some env := by rw [parSet]
def kAug (env : Env') (i : Nat) (o : Op2) (x : DV) (S : SO → Prop) (r : Out DV) : Prop := S (r.so fun y m => match opI o x y with
      | some z => .nx (env.set i (some z)) m
      | none => .bad)
def qAug (F : Nat → List DV → Nat → Mem → Out DV) (cs : List DV) (b : Nat) (env : Env') (i : Nat) (o : Op2) (e : Ex) (m : Mem) (S : SO → Prop) (x : Option DV) : Prop := match x with
  | some x => WE F cs b env e m (kAug env i o x S)
  | none => S .bad
@[simp] theorem qAug_some {i : Nat} {o : Op2} {e : Ex} {x : DV} : qAug F cs b env i o e m S (some x) = WE F cs b env e m (kAug env i o x S) := (rfl)
@[simp] theorem WS_aug {i : Nat} {o : Op2} {e : Ex} : WS F cs b env (.aug i o e) m S = qAug F cs b env i o e m S (gv env i) := by
  unfold WS gv qAug WE kAug
  rw [evS]
  rcases env[i]? with _ | _ | d <;> rfl
def qAug2 (env : Env') (i : Nat) (m : Mem) (S : SO → Prop) (o : Option DV) : Prop := S (match o with
      | some z => .nx (env.set i (some z)) m
      | none => .bad)
@[simp] theorem qAug2_some {i : Nat} {d : DV} : qAug2 env i m S (some d) = S (.nx (env.set i (some d)) m) := (rfl)
@[simp] theorem kAug_ok {i : Nat} {o : Op2} {x y : DV} : kAug env i o x S (.ok y m) = qAug2 env i m S (opI o x y) := (rfl)
@[simp] theorem opI_add {i j : Int} : opI .add (.int i) (.int j) = some (.int (i + j)) := (rfl)
@[simp] theorem opI_sub {i j : Int} : opI .sub (.int i) (.int j) = some (.int (i - j)) := (rfl)
@[simp] theorem opI_str {i j : List Nat} (h : i.length + j.length ≤ 10000000) : opI .add (.str i) (.str j) = some (.str (i ++ j)) := if_pos h
def kAugS (F : Nat → List DV → Nat → Mem → Out DV) (cs : List DV) (b : Nat) (env : Env') (op : Op2) (e : Ex) (S : SO → Prop) (r : Out (List DV)) : Prop := match r with
  | .ok [x, y] m => (∃ v, getD2 (rs m x) y = some v ∧ WE F cs b env e m (fun r => S (r.so fun z m => (match opI op v z with
      | some u => (setD b x y u m).so fun _ m => .nx env m
      | none => .bad))))
  | _ => False
theorem WS_augS {o i : Ex} {op : Op2} {e : Ex} (h : WL F cs b env [o, i] [] m (kAugS F cs b env op e S)) : WS F cs b env (.augS o i op e) m S := by
  unfold WS
  rw [evS]
  rw [WL_two] at h
  revert h
  cases evE F cs b env o m with
  | ok x m1 =>
    simp only [Out.bind_ok, Out.so]
    cases evE F cs b env i m1 with
    | ok y m2 =>
      intro h
      simp only [Out.bind_ok] at h ⊢
      obtain ⟨v, h1, h2⟩ := h
      rw [h1]
      exact h2
    | exc z m2 => intro h; cases h
    | bad => intro h; cases h
  | exc z m1 => intro h; cases h
  | bad => intro h; cases h
def kEx (env : Env') (S : SO → Prop) (r : Out DV) : Prop := S (r.so fun _ m => .nx env m)
@[simp] theorem WS_ex {e : Ex} : WS F cs b env (.ex e) m S = WE F cs b env e m (kEx env S) := by unfold WS WE kEx; rw [evS]
@[simp] theorem kEx_ok {d : DV} : kEx env S (.ok d m) = S (.nx env m) := (rfl)
@[simp] theorem kEx_exc {x : Exn} : kEx env S (.exc x m) = S (.ex x m) := (rfl)
def kIf (F : Nat → List DV → Nat → Mem → Out DV) (cs : List DV) (b : Nat) (env : Env') (x y : List Sm) (S : SO → Prop) (r : Out Bool) : Prop := S (r.so fun k m => if k = true then evB F cs b env x m else evB F cs b env y m)
@[simp] theorem WS_ite {c : Ts} {x y : List Sm} : WS F cs b env (.ite c x y) m S = WT F cs b env c m (kIf F cs b env x y S) := by unfold WS WT kIf; rw [evS]
@[simp] theorem kIf_t {x y : List Sm} : kIf F cs b env x y S (.ok true m) = WB F cs b env x m S := by simp [kIf, WB, Out.so]
@[simp] theorem kIf_f {x y : List Sm} : kIf F cs b env x y S (.ok false m) = WB F cs b env y m S := by simp [kIf, WB, Out.so]
@[simp] theorem kIf_exc {z : Exn} {x y : List Sm} : kIf F cs b env x y S (.exc z m) = S (.ex z m) := (rfl)
def kRet (S : SO → Prop) (r : Out DV) : Prop := S (r.so fun x m => .rt x m)
@[simp] theorem WS_ret {e : Ex} : WS F cs b env (.ret e) m S = WE F cs b env e m (kRet S) := by unfold WS WE kRet; rw [evS]
@[simp] theorem kRet_ok {d : DV} : kRet S (.ok d m) = S (.rt d m) := (rfl)
@[simp] theorem kRet_exc {x : Exn} : kRet S (.exc x m) = S (.ex x m) := (rfl)
@[simp] theorem WS_retn : WS F cs b env .retn m S = S (.rt .non m) := by unfold WS; rw [evS]
@[simp] theorem WS_brk : WS F cs b env .brk m S = S (.bk env m) := by unfold WS; rw [evS]
@[simp] theorem WS_cont : WS F cs b env .cont m S = S (.ct env m) := by unfold WS; rw [evS]
@[simp] theorem WS_pass : WS F cs b env .pass m S = S (.nx env m) := by unfold WS; rw [evS]
def kB (F : Nat → List DV → Nat → Mem → Out DV) (cs : List DV) (b : Nat) (ss : List Sm) (S : SO → Prop) (o : SO) : Prop := S (o.then fun env m => evB F cs b env ss m)
@[simp] theorem WB_nil : WB F cs b env [] m S = S (.nx env m) := by unfold WB; rw [evB]
@[simp] theorem WB_cons {s : Sm} {ss : List Sm} : WB F cs b env (s :: ss) m S = WS F cs b env s m (kB F cs b ss S) := by unfold WB WS kB; rw [evB]
@[simp] theorem kB_nx {ss : List Sm} : kB F cs b ss S (.nx env m) = WB F cs b env ss m S := (rfl)
@[simp] theorem kB_rt {ss : List Sm} {d : DV} : kB F cs b ss S (.rt d m) = S (.rt d m) := (rfl)
@[simp] theorem kB_bk {ss : List Sm} : kB F cs b ss S (.bk env m) = S (.bk env m) := (rfl)
@[simp] theorem kB_ct {ss : List Sm} : kB F cs b ss S (.ct env m) = S (.ct env m) := (rfl)
@[simp] theorem kB_ex {ss : List Sm} {x : Exn} : kB F cs b ss S (.ex x m) = S (.ex x m) := (rfl)
/-! ### walks -/
variable {I : Out (List DV) → Prop}
def kWk (f : DV → Option (List DV)) (I : Out (List DV) → Prop) (r : Out DV) : Prop := I (r.bind fun x m => .of ((wk m x).bind f) m)
@[simp] theorem kWk_ok {f : DV → Option (List DV)} {x : DV} : kWk f I (.ok x m) = qOf ((wk m x).bind f) m I := (rfl)
@[simp] theorem WI_seq {e : Ex} : WI F cs b env (.seq e) m I = WE F cs b env e m (kWk walkSeq I) := by unfold WI WE kWk; rw [evI]
@[simp] theorem WI_items {e : Ex} : WI F cs b env (.items e) m I = WE F cs b env e m (kWk walkItems I) := by unfold WI WE kWk; rw [evI]
@[simp] theorem WI_keys {e : Ex} : WI F cs b env (.keys e) m I = WE F cs b env e m (kWk walkKeys I) := by unfold WI WE kWk; rw [evI]
def enum0 (d : DV) : Option (List DV) := (seqD d).map (enumD 0)
def rev0 (d : DV) : Option (List DV) := (seqD d).map List.reverse
@[simp] theorem WI_enum {e : Ex} : WI F cs b env (.enum e) m I = WE F cs b env e m (kWk enum0 I) := by
  unfold WI WE kWk; rw [evI]; congr 2; funext x m; cases wk m x <;> rfl
@[simp] theorem WI_rev {e : Ex} : WI F cs b env (.rev e) m I = WE F cs b env e m (kWk rev0 I) := by
  unfold WI WE kWk; rw [evI]; congr 2; funext x m; cases wk m x <;> rfl
def kRng1 (I : Out (List DV) → Prop) (r : Out DV) : Prop := I (r.bind fun x m => (match x with
    | .int i => if -(2 ^ 62) ≤ i ∧ i ≤ SL then .ok ((List.range i.toNat).map fun (k : Nat) => DV.int (0 + (k : Int))) m else .bad
    | _ => .bad))
def rngI (a : Int) (n : Nat) : List DV := (List.range n).map fun (k : Nat) => DV.int (a + (k : Int))
@[simp] theorem WI_rng1 {e : Ex} : WI F cs b env (.rng1 e) m I = WE F cs b env e m (kRng1 I) := by unfold WI WE kRng1; rw [evI]; try rfl
@[simp] theorem kRng1_ok {i : Int} (h1 : -4611686018427387904 ≤ i) (h2 : i ≤ 10000000) : kRng1 I (.ok (.int i) m) = I (.ok (rngI 0 i.toNat) m) := by
  unfold kRng1
  show I (if -(2 ^ 62) ≤ i ∧ i ≤ (SL : Int) then _ else _) = _
  rw [if_pos ⟨h1, h2⟩]
  rfl
def kRng2 (I : Out (List DV) → Prop) (r : Out (List DV)) : Prop := I (r.bind (two fun x y m => (match x, y with
    | .int i, .int j => if -(2 ^ 62) ≤ i ∧ i < 2 ^ 62 ∧ -(2 ^ 62) ≤ j ∧ j < 2 ^ 62 ∧ j - i ≤ SL then .ok ((List.range (j - i).toNat).map fun (k : Nat) => DV.int (i + (k : Int))) m else .bad
    | _, _ => .bad)))
@[simp] theorem WI_rng2 {x y : Ex} : WI F cs b env (.rng2 x y) m I = WL F cs b env [x, y] [] m (kRng2 I) := by
  rw [WL_two]
  unfold WI kRng2
  rw [evI]
  simp only [Out.bind_assoc, Out.bind_ok]
  rfl
@[simp] theorem kRng2_ok {i j : Int} (h1 : -4611686018427387904 ≤ i) (h2 : i < 4611686018427387904) (h3 : -4611686018427387904 ≤ j) (h4 : j < 4611686018427387904) (h5 : j - i ≤ 10000000) : kRng2 I (.ok [.int i, .int j] m) = I (.ok (rngI i (j - i).toNat) m) := by
  unfold kRng2
  show I (if -(2 ^ 62) ≤ i ∧ i < 2 ^ 62 ∧ -(2 ^ 62) ≤ j ∧ j < 2 ^ 62 ∧ j - i ≤ (SL : Int) then _ else _) = _
  rw [if_pos ⟨h1, h2, h3, h4, h5⟩]
  rfl
def rngDn (a : Int) (n : Nat) : List DV := (List.range n).map fun (k : Nat) => DV.int (a - (k : Int))
def kRngd (I : Out (List DV) → Prop) (r : Out (List DV)) : Prop := I (r.bind (two fun x y m => (match x, y with
    | .int i, .int j => if -(2 ^ 62) ≤ i ∧ i < 2 ^ 62 ∧ -(2 ^ 62) ≤ j ∧ j < 2 ^ 62 ∧ i - j ≤ SL then .ok ((List.range (i - j).toNat).map fun (k : Nat) => DV.int (i - (k : Int))) m else .bad
    | _, _ => .bad)))
@[simp] theorem WI_rngd {x y : Ex} : WI F cs b env (.rngd x y) m I = WL F cs b env [x, y] [] m (kRngd I) := by
  rw [WL_two]
  unfold WI kRngd
  rw [evI]
  simp only [Out.bind_assoc, Out.bind_ok]
  rfl
@[simp] theorem kRngd_ok {i j : Int} (h1 : -4611686018427387904 ≤ i) (h2 : i < 4611686018427387904) (h3 : -4611686018427387904 ≤ j) (h4 : j < 4611686018427387904) (h5 : i - j ≤ 10000000) : kRngd I (.ok [.int i, .int j] m) = I (.ok (rngDn i (i - j).toNat) m) := by
  unfold kRngd
  show I (if -(2 ^ 62) ≤ i ∧ i < 2 ^ 62 ∧ -(2 ^ 62) ≤ j ∧ j < 2 ^ 62 ∧ i - j ≤ (SL : Int) then _ else _) = _
  rw [if_pos ⟨h1, h2, h3, h4, h5⟩]
  rfl
@[simp] theorem kRngd_exc {x : Exn} : kRngd I (.exc x m) = I (.exc x m) := (rfl)
@[simp] theorem kRngd_bad : kRngd I .bad = I .bad := (rfl)
def kZip (I : Out (List DV) → Prop) (r : Out (List DV)) : Prop := I (r.bind (two fun x y m => .of ((wk m x).bind fun x => (wk m y).bind fun y => zipD x y) m))
@[simp] theorem WI_zip {x y : Ex} : WI F cs b env (.zip x y) m I = WL F cs b env [x, y] [] m (kZip I) := by
  rw [WL_two]
  unfold WI kZip
  rw [evI]
  simp only [Out.bind_assoc, Out.bind_ok]
  rfl
@[simp] theorem kZip_ok {x y : DV} : kZip I (.ok [x, y] m) = qOf ((wk m x).bind fun x => (wk m y).bind fun y => zipD x y) m I := (rfl)
/-! ### loops -/
def lockC (n : Nat) (m : Mem) : Option Cell → Option (Option Nat × Mem)
  | some (.c d) => some (some n, m.set n (.k d))
  | some (.k _) => some (none, m)
  | none => none
def lockG (m : Mem) : Option DV → Option (Option Nat × Mem)
  | some (.ref n) => lockC n m m[n]?
  | some _ => some (none, m)
  | none => none
theorem lockV_eq {env : Env'} {i : Nat} {m : Mem} : lockV env (some i) m = lockG m (gv env i) := by
  unfold lockV gv
  simp only
  rcases env[i]? with _ | _ | d
  · rfl
  · rfl
  · cases d with
    | ref n =>
      unfold lockG lockC
      simp only
      try (rcases m[n]? with _ | ⟨_ | _⟩ <;> rfl)
    | _ => rfl
@[simp] theorem lockG_ref {n : Nat} : lockG m (some (.ref n)) = lockC n m m[n]? := (rfl)
@[simp] theorem lockG_int {i : Int} : lockG m (some (.int i)) = some (none, m) := (rfl)
@[simp] theorem lockG_str {i : List Nat} : lockG m (some (.str i)) = some (none, m) := (rfl)
@[simp] theorem lockG_tup {xs : List DV} : lockG m (some (.tup xs)) = some (none, m) := (rfl)
@[simp] theorem lockG_kt {xs : List DV} : lockG m (some (.kt xs)) = some (none, m) := (rfl)
@[simp] theorem lockG_lst {xs : List DV} : lockG m (some (.lst xs)) = some (none, m) := (rfl)
@[simp] theorem lockG_kl {xs : List DV} : lockG m (some (.kl xs)) = some (none, m) := (rfl)
@[simp] theorem lockG_dk {ks : List KA} {xs : List DV} : lockG m (some (.dk ks xs)) = some (none, m) := (rfl)
@[simp] theorem lockG_dt {ks : List (List KA)} {xs : List DV} : lockG m (some (.dt ks xs)) = some (none, m) := (rfl)
@[simp] theorem lockC_c {n : Nat} {d : DV} : lockC n m (some (.c d)) = some (some n, m.set n (.k d)) := (rfl)
@[simp] theorem lockC_k {n : Nat} {d : DV} : lockC n m (some (.k d)) = some (none, m) := (rfl)
theorem lockG_nr {d : DV} (h : noRef d = true) : lockG m (some d) = some (none, m) := by cases d <;> first | rfl | (cases h; done)
def qLock (f : Option Nat → Mem → Prop) (bad : Prop) (o : Option (Option Nat × Mem)) : Prop := match o with
  | some (o, m) => f o m
  | none => bad
@[simp] theorem qLock_some {f : Option Nat → Mem → Prop} {bad : Prop} {o : Option Nat} : qLock f bad (some (o, m)) = f o m := (rfl)
def kFor (F : Nat → List DV → Nat → Mem → Out DV) (cs : List DV) (b : Nat) (env : Env') (t : Ta) (x : List Sm) (o : Option Nat) (S : SO → Prop) (r : Out (List DV)) : Prop := S ((r.so fun w m => forLoop (fun env d m => asgT F cs b env t d m) (fun env m => evB F cs b env x m) w env m).mapM (unlockM o))
@[simp] theorem WS_for {t : Ta} {it : Itx} {x : List Sm} : WS F cs b env (.for none t it x) m S = WI F cs b env it m (kFor F cs b env t x none S) := by
  unfold WS WI kFor
  rw [evS]
  rfl
def forI (F : Nat → List DV → Nat → Mem → Out DV) (cs : List DV) (b : Nat) (env : Env') (t : Ta) (it : Itx) (x : List Sm) (S : SO → Prop) (o : Option Nat) (m : Mem) : Prop := WI F cs b env it m (kFor F cs b env t x o S)
@[simp] theorem WS_forL {t : Ta} {it : Itx} {x : List Sm} {i : Nat} : WS F cs b env (.for (some i) t it x) m S = qLock (forI F cs b env t it x S) (S .bad) (lockG m (gv env i)) := by
  unfold WS forI WI kFor
  rw [evS, ← lockV_eq]
  rcases lockV env (some i) m with _ | ⟨o, m'⟩ <;> rfl
@[simp] theorem forI_eq {t : Ta} {it : Itx} {x : List Sm} {o : Option Nat} : forI F cs b env t it x S o m = WI F cs b env it m (kFor F cs b env t x o S) := (rfl)
/-- what a turn's end asks -/
def kTurn (J : Env' → Mem → Prop) (S : SO → Prop) (r : SO) : Prop := match r with
  | .nx env m => J env m
  | .ct env m => J env m
  | .bk env m => S (.nx env m)
  | o => S o
@[simp] theorem kTurn_nx {J : Env' → Mem → Prop} : kTurn J S (.nx env m) = J env m := (rfl)
@[simp] theorem kTurn_ct {J : Env' → Mem → Prop} : kTurn J S (.ct env m) = J env m := (rfl)
@[simp] theorem kTurn_bk {J : Env' → Mem → Prop} : kTurn J S (.bk env m) = S (.nx env m) := (rfl)
@[simp] theorem kTurn_rt {J : Env' → Mem → Prop} {d : DV} : kTurn J S (.rt d m) = S (.rt d m) := (rfl)
@[simp] theorem kTurn_ex {J : Env' → Mem → Prop} {x : Exn} : kTurn J S (.ex x m) = S (.ex x m) := (rfl)
def kBody (F : Nat → List DV → Nat → Mem → Out DV) (cs : List DV) (b : Nat) (x : List Sm) (S : SO → Prop) (r : Out Env') : Prop := S (r.so fun env m => evB F cs b env x m)
@[simp] theorem kBody_ok {x : List Sm} : kBody F cs b x S (.ok env m) = WB F cs b env x m S := (rfl)
def kUn (o : Option Nat) (S : SO → Prop) (r : SO) : Prop := S (r.mapM (unlockM o))
@[simp] theorem kUn_none {r : SO} : kUn none S r = S r := by cases r <;> rfl
@[simp] theorem kUn_nx {o : Option Nat} : kUn o S (.nx env m) = S (.nx env (unlockM o m)) := (rfl)
@[simp] theorem kUn_rt {o : Option Nat} {d : DV} : kUn o S (.rt d m) = S (.rt d (unlockM o m)) := (rfl)
@[simp] theorem kUn_ex {o : Option Nat} {x : Exn} : kUn o S (.ex x m) = S (.ex x (unlockM o m)) := (rfl)
theorem for_loop (t : Ta) (x : List Sm) : ∀ {w : List DV} (J : Nat → Env' → Mem → Prop) {env : Env'} {m : Mem}, J 0 env m →
    (∀ i d env m, w[i]? = some d → J i env m → WG F cs b env t d m (kBody F cs b x (kTurn (J (i + 1)) S))) → (∀ env m, J w.length env m → S (.nx env m)) →
    S (forLoop (fun env d m => asgT F cs b env t d m) (fun env m => evB F cs b env x m) w env m)
  | [], J, env, m, h0, _, hk => hk env m h0
  | d :: ds, J, env, m, h0, hs, hk => by
    have h := hs 0 d env m rfl h0
    have ih := fun env m h => for_loop t x (w := ds) (env := env) (m := m) (fun i => J (i + 1)) h (fun i d env m hd hi => hs (i + 1) d env m (by simpa using hd) hi) hk
    unfold WG kBody at h
    rw [forLoop]
    revert h
    cases asgT F cs b env t d m with
    | bad => exact fun h => h
    | exc x m => exact fun h => h
    | ok env m =>
      simp only [Out.so]
      cases evB F cs b env x m with
      | nx env m => exact ih env m
      | ct env m => exact ih env m
      | _ => exact fun h => h
theorem for_rule {w : List DV} {t : Ta} {x : List Sm} {o : Option Nat} (J : Nat → Env' → Mem → Prop) (h0 : J 0 env m)
    (hs : ∀ i d env m, w[i]? = some d → J i env m → WG F cs b env t d m (kBody F cs b x (kTurn (J (i + 1)) (kUn o S)))) (hk : ∀ env m, J w.length env m → S (.nx env (unlockM o m))) : kFor F cs b env t x o S (.ok w m) :=
  for_loop t x J h0 hs hk
def kComp (F : Nat → List DV → Nat → Mem → Out DV) (cs : List DV) (b : Nat) (env : Env') (cell : Bool) (own : List Nat) (t : Ta) (ts : List Ts) (el : Ex) (o : Option Nat) (Q : Out DV → Prop) (r : Out (List DV)) : Prop := Q (((r.bind fun w m => compLoop (fun d m => asgT F cs b (wipeE env own) t d m) (fun env m => evTs F cs b env ts m) (fun env m => evE F cs b env el m) w [] m).noExc.bind fun xs m =>
        if cell = true then .ok (.ref m.length) (m ++ [.c (.lst xs)]) else .ok (.lst xs) m).bind fun d m => .ok d (unlockM o m))
@[simp] theorem WE_comp {cell : Bool} {own : List Nat} {t : Ta} {it : Itx} {ts : List Ts} {el : Ex} : WE F cs b env (.comp none cell own t it ts el) m Q = WI F cs b env it m (kComp F cs b env cell own t ts el none Q) := by
  unfold WE WI kComp
  rw [evE]
  rfl
def compI (F : Nat → List DV → Nat → Mem → Out DV) (cs : List DV) (b : Nat) (env : Env') (cell : Bool) (own : List Nat) (t : Ta) (it : Itx) (ts : List Ts) (el : Ex) (Q : Out DV → Prop) (o : Option Nat) (m : Mem) : Prop := WI F cs b env it m (kComp F cs b env cell own t ts el o Q)
@[simp] theorem WE_compL {i : Nat} {cell : Bool} {own : List Nat} {t : Ta} {it : Itx} {ts : List Ts} {el : Ex} : WE F cs b env (.comp (some i) cell own t it ts el) m Q = qLock (compI F cs b env cell own t it ts el Q) (Q .bad) (lockG m (gv env i)) := by
  unfold WE compI WI kComp
  rw [evE, ← lockV_eq]
  rcases lockV env (some i) m with _ | ⟨o, m'⟩ <;> rfl
@[simp] theorem compI_eq {cell : Bool} {own : List Nat} {t : Ta} {it : Itx} {ts : List Ts} {el : Ex} {o : Option Nat} : compI F cs b env cell own t it ts el Q o m = WI F cs b env it m (kComp F cs b env cell own t ts el o Q) := (rfl)
def kEl (F : Nat → List DV → Nat → Mem → Out DV) (cs : List DV) (b : Nat) (env : Env') (el : Ex) (J1 : DV → Mem → Prop) (J2 : Mem → Prop) (r : Out Bool) : Prop := match r with
  | .ok k m => qIf k (WE F cs b env el m (fun r => match r with
    | .ok v m => J1 v m
    | _ => False)) (J2 m)
  | _ => False
def kV (J1 : DV → Mem → Prop) (r : Out DV) : Prop := match r with
    | .ok v m => J1 v m
    | _ => False
@[simp] theorem kV_ok {J1 : DV → Mem → Prop} {v : DV} : kV J1 (.ok v m) = J1 v m := (rfl)
theorem kEl_ok {el : Ex} {J1 : DV → Mem → Prop} {J2 : Mem → Prop} {k : Bool} : kEl F cs b env el J1 J2 (.ok k m) = qIf k (WE F cs b env el m (kV J1)) (J2 m) := (rfl)
@[simp] theorem kEl_t {el : Ex} {J1 : DV → Mem → Prop} {J2 : Mem → Prop} : kEl F cs b env el J1 J2 (.ok true m) = WE F cs b env el m (kV J1) := by rw [kEl_ok, qIf_true]
@[simp] theorem kEl_f {el : Ex} {J1 : DV → Mem → Prop} {J2 : Mem → Prop} : kEl F cs b env el J1 J2 (.ok false m) = J2 m := by rw [kEl_ok, qIf_false]
def kTe (F : Nat → List DV → Nat → Mem → Out DV) (cs : List DV) (b : Nat) (ts : List Ts) (el : Ex) (J1 : DV → Mem → Prop) (J2 : Mem → Prop) (r : Out Env') : Prop := match r with
  | .ok env m => WTs F cs b env ts m (kEl F cs b env el J1 J2)
  | _ => False
@[simp] theorem kTe_ok {ts : List Ts} {el : Ex} {J1 : DV → Mem → Prop} {J2 : Mem → Prop} : kTe F cs b ts el J1 J2 (.ok env m) = WTs F cs b env ts m (kEl F cs b env el J1 J2) := (rfl)
theorem comp_loop (own : List Nat) (t : Ta) (ts : List Ts) (el : Ex) (env : Env') : ∀ {w : List DV} (J : Nat → List DV → Mem → Prop) {acc : List DV} {m : Mem}, J 0 acc m →
    (∀ i d acc m, w[i]? = some d → J i acc m → WG F cs b (wipeE env own) t d m (kTe F cs b ts el (fun v m => J (i + 1) (acc ++ [v]) m) (fun m => J (i + 1) acc m))) →
    ∃ xs m', compLoop (fun d m => asgT F cs b (wipeE env own) t d m) (fun env m => evTs F cs b env ts m) (fun env m => evE F cs b env el m) w acc m = .ok xs m' ∧ J w.length xs m'
  | [], J, acc, m, h0, _ => ⟨acc, m, rfl, h0⟩
  | d :: ds, J, acc, m, h0, hs => by
    have h := hs 0 d acc m rfl h0
    have ih := fun acc m h => comp_loop own t ts el env (w := ds) (acc := acc) (m := m) (fun i => J (i + 1)) h (fun i d acc m hd hi => hs (i + 1) d acc m (by simpa using hd) hi)
    unfold WG at h
    rw [compLoop]
    revert h
    cases asgT F cs b (wipeE env own) t d m with
    | bad => intro h; cases h
    | exc x m => intro h; cases h
    | ok e1 m1 =>
      intro h
      simp only [kTe_ok, WTs] at h
      rw [Out.bind_ok]
      revert h
      cases evTs F cs b e1 ts m1 with
      | bad => intro h; cases h
      | exc x m => intro h; cases h
      | ok k m2 =>
        intro h
        rw [kEl_ok] at h
        rw [Out.bind_ok]
        cases k with
        | false => rw [qIf_false] at h; rw [if_neg (by decide)]; exact ih _ _ h
        | true =>
          rw [qIf_true] at h
          rw [if_pos rfl]
          unfold WE at h
          revert h
          cases evE F cs b e1 el m2 with
          | bad => intro h; cases h
          | exc x m => intro h; cases h
          | ok v m3 => intro h; rw [Out.bind_ok]; exact ih _ _ h
def kList (cell : Bool) (o : Option Nat) (Q : Out DV → Prop) (xs : List DV) (m : Mem) : Prop := if cell = true then Q (.ok (.ref m.length) (unlockM o (m ++ [.c (.lst xs)]))) else Q (.ok (.lst xs) (unlockM o m))
@[simp] theorem kList_t {o : Option Nat} {xs : List DV} : kList true o Q xs m = Q (.ok (.ref m.length) (unlockM o (m ++ [.c (.lst xs)]))) := (rfl)
@[simp] theorem kList_f {o : Option Nat} {xs : List DV} : kList false o Q xs m = Q (.ok (.lst xs) (unlockM o m)) := by simp [kList]
theorem comp_rule {w : List DV} {cell : Bool} {own : List Nat} {t : Ta} {ts : List Ts} {el : Ex} {o : Option Nat} (J : Nat → List DV → Mem → Prop) (h0 : J 0 [] m)
    (hs : ∀ i d acc m, w[i]? = some d → J i acc m → WG F cs b (wipeE env own) t d m (kTe F cs b ts el (fun v m => J (i + 1) (acc ++ [v]) m) (fun m => J (i + 1) acc m)))
    (hk : ∀ xs m, J w.length xs m → kList cell o Q xs m) : kComp F cs b env cell own t ts el o Q (.ok w m) := by
  obtain ⟨xs, m', h1, h2⟩ := comp_loop own t ts el env J h0 hs
  have h := hk xs m' h2
  unfold kComp
  rw [Out.bind_ok, h1]
  cases cell <;> simpa [kList, Out.noExc] using h
/-- a comprehension that changes nothing -/
theorem comp_pure {w : List DV} {cell : Bool} {own : List Nat} {t : Ta} {ts : List Ts} {el : Ex} {o : Option Nat} (p : DV → Bool) (f : DV → DV)
    (hs : ∀ d ∈ w, WG F cs b (wipeE env own) t d m (kTe F cs b ts el (fun v m' => p d = true ∧ v = f d ∧ m' = m) (fun m' => p d = false ∧ m' = m)))
    (hk : kList cell o Q ((w.filter p).map f) m) : kComp F cs b env cell own t ts el o Q (.ok w m) := by
  refine comp_rule (fun i acc m' => m' = m ∧ acc = ((w.take i).filter p).map f) (by simp) (fun i d acc m' hd hJ => ?_) (fun xs m' hJ => ?_)
  · obtain ⟨rfl, rfl⟩ := hJ
    have h := hs d (List.mem_of_getElem? hd)
    have ht : w.take (i + 1) = w.take i ++ [d] := by rw [List.take_add_one, hd]; rfl
    unfold WG at h ⊢
    revert h
    cases asgT F cs b (wipeE env own) t d m' with
    | bad => intro h; cases h
    | exc x m => intro h; cases h
    | ok e1 m1 =>
      simp only [kTe_ok, WTs]
      cases evTs F cs b e1 ts m1 with
      | bad => intro h; cases h
      | exc x m => intro h; cases h
      | ok k m2 =>
        rw [kEl_ok, kEl_ok]
        cases k with
        | false =>
          rw [qIf_false, qIf_false]
          rintro ⟨h1, rfl⟩
          refine ⟨rfl, ?_⟩
          rw [ht, List.filter_append, List.filter_cons, h1, if_neg (by decide)]
          simp
        | true =>
          rw [qIf_true, qIf_true]
          unfold WE
          cases evE F cs b e1 el m2 with
          | bad => intro h; cases h
          | exc x m => intro h; cases h
          | ok v m3 =>
            rintro ⟨h1, rfl, rfl⟩
            refine ⟨rfl, ?_⟩
            rw [ht, List.filter_append, List.filter_cons, h1, if_pos rfl]
            simp
  · obtain ⟨rfl, rfl⟩ := hJ
    rw [List.take_length]
    exact hk
theorem comp_map {w : List DV} {cell : Bool} {own : List Nat} {t : Ta} {el : Ex} {o : Option Nat} (f : DV → DV)
    (hs : ∀ d ∈ w, WG F cs b (wipeE env own) t d m (kTe F cs b [] el (fun v m' => v = f d ∧ m' = m) (fun m' => False)))
    (hk : kList cell o Q (w.map f) m) : kComp F cs b env cell own t [] el o Q (.ok w m) := by
  refine comp_pure (fun _ => true) f (fun d hd => ?_) (by rw [List.filter_eq_self.mpr (fun _ _ => rfl)]; exact hk)
  have h := hs d hd
  unfold WG at h ⊢
  revert h
  cases asgT F cs b (wipeE env own) t d m with
  | bad => intro h; cases h
  | exc x m => intro h; cases h
  | ok e1 m1 =>
    simp only [kTe_ok, WTs_nil, kEl_ok, qIf_true]
    unfold WE
    cases evE F cs b e1 el m1 with
    | bad => intro h; cases h
    | exc x m => intro h; cases h
    | ok v m3 => exact fun h => ⟨trivial, h⟩
def kW (F : Nat → List DV → Nat → Mem → Out DV) (cs : List DV) (b : Nat) (env : Env') (x : List Sm) (J : Env' → Mem → Prop) (S : SO → Prop) (r : Out Bool) : Prop := match r with
  | .ok k m => qIf k (WB F cs b env x m (kTurn J S)) (S (.nx env m))
  | .exc x m => S (.ex x m)
  | .bad => S .bad
theorem kW_ok {x : List Sm} {J : Env' → Mem → Prop} {k : Bool} : kW F cs b env x J S (.ok k m) = qIf k (WB F cs b env x m (kTurn J S)) (S (.nx env m)) := (rfl)
@[simp] theorem kW_t {x : List Sm} {J : Env' → Mem → Prop} : kW F cs b env x J S (.ok true m) = WB F cs b env x m (kTurn J S) := by rw [kW_ok, qIf_true]
@[simp] theorem kW_f {x : List Sm} {J : Env' → Mem → Prop} : kW F cs b env x J S (.ok false m) = S (.nx env m) := by rw [kW_ok, qIf_false]
theorem whl_loop (c : Ts) (x : List Sm) (J : Nat → Env' → Mem → Prop) (hs : ∀ n env m, J n env m → WT F cs b env c m (kW F cs b env x (fun env m => ∃ n' < n, J n' env m) S)) : ∀ (k n : Nat) (env : Env') (m : Mem), n < k → J n env m → S (whLoop (fun env m => evT F cs b env c m) (fun env m => evB F cs b env x m) k env m)
  | 0, _, _, _, hk, _ => by omega
  | k + 1, n, env, m, hk, hJ => by
    have h := hs n env m hJ
    have ih := fun n env m => whl_loop c x J hs k n env m
    unfold WT at h
    rw [whLoop]
    revert h
    cases evT F cs b env c m with
    | bad => exact fun h => h
    | exc y m => exact fun h => h
    | ok t m1 =>
      rw [kW_ok]
      simp only [Out.so]
      cases t with
      | false => rw [qIf_false, if_neg (by decide)]; exact fun h => h
      | true =>
        rw [qIf_true, if_pos rfl]
        unfold WB
        cases evB F cs b env x m1 with
        | nx env m => rintro ⟨n', h1, h2⟩; exact ih n' env m (by omega) h2
        | ct env m => rintro ⟨n', h1, h2⟩; exact ih n' env m (by omega) h2
        | _ => exact fun h => h
theorem whl_rule {c : Ts} {x : List Sm} (J : Nat → Env' → Mem → Prop) (n : Nat) (hn : n < 1000000000000) (h0 : J n env m)
    (hs : ∀ n env m, J n env m → WT F cs b env c m (kW F cs b env x (fun env m => ∃ n' < n, J n' env m) S)) : WS F cs b env (.whl c x) m S := by
  unfold WS
  rw [evS]
  exact whl_loop c x J hs _ n env m hn h0
/-- a middle word -/
theorem mid_rule {s : Sm} {ss : List Sm} (J : Env' → Mem → Prop) (h1 : WS F cs b env s m (fun r => match r with
    | .nx env m => J env m
    | _ => False)) (h2 : ∀ env m, J env m → WB F cs b env ss m S) : WB F cs b env (s :: ss) m S := by
  rw [WB_cons]
  unfold WS kB at *
  revert h1
  cases evS F cs b env s m with
  | nx env m => exact h2 env m
  | _ => exact fun h => h.elim
/-! ### defs -/
def qLeave (keep : Bool) (b : Nat) (d : DV) (m : Mem) (Q : Out DV → Prop) : Prop := Q (leave keep b d m)
def kFin (keep : Bool) (b : Nat) (Q : Out DV → Prop) (r : SO) : Prop := Q (Ev.finish keep b r)
@[simp] theorem kFin_nx {keep : Bool} {n : Nat} : kFin keep n Q (.nx env m) = qLeave keep n .non m Q := (rfl)
@[simp] theorem kFin_rt {keep : Bool} {n : Nat} {d : DV} : kFin keep n Q (.rt d m) = qLeave keep n d m Q := (rfl)
theorem leave_nr {n : Nat} {d : DV} {m : Mem} (h : noRef d = true) : leave false n d m = .ok d (m.take n) := by
  unfold leave
  rw [if_neg (by decide)]
  split
  · rename_i e
    rw [← e, List.take_length]
  · unfold frz
    rw [if_pos h]
    rfl
theorem leave_len {d : DV} {m : Mem} : leave false m.length d m = .ok d m := by unfold leave; simp
@[simp] theorem qLeave_nr {n : Nat} {d : DV} (h : noRef d = true) : qLeave false n d m Q = Q (.ok d (m.take n)) := by unfold qLeave; rw [leave_nr h]
@[simp] theorem qLeave_keep {n : Nat} {d : DV} : qLeave true n d m Q = Q (.ok d m) := by unfold qLeave leave; rfl
def frzs (k b : Nat) (m : Mem) : List DV → Option (List DV)
  | [] => some []
  | x :: xs => (frz k b m x).bind fun y => (frzs k b m xs).map (y :: ·)
def frzC (k b : Nat) (m : Mem) (o : Option Cell) : Option DV := match o with
  | some (.c x) => frz k b m x
  | _ => none
theorem frzs_eq {k b : Nat} {xs : List DV} : xs.mapM (frz k b m) = frzs k b m xs := by
  induction xs with
  | nil => rfl
  | cons x xs ih =>
    rw [List.mapM_cons, ih]
    show _ = (frz k b m x).bind fun y => (frzs k b m xs).map (y :: ·)
    cases frz k b m x with
    | none => rfl
    | some y => cases frzs k b m xs <;> rfl
@[simp] theorem frzs_nil {k b : Nat} : frzs k b m [] = some [] := (rfl)
@[simp] theorem frzs_cons {k b : Nat} {x : DV} {xs : List DV} : frzs k b m (x :: xs) = (frz k b m x).bind fun y => (frzs k b m xs).map (y :: ·) := (rfl)
@[simp] theorem frz_nr {k b : Nat} {d : DV} (h : noRef d = true) : frz (k + 1) b m d = some d := by unfold frz; rw [if_pos h]
@[simp] theorem frz_ref {k b j : Nat} : frz (k + 1) b m (.ref j) = if j < b then some (.ref j) else frzC k b m m[j]? := by
  unfold frz
  rw [if_neg (by rw [noRef]; decide)]
  rfl
@[simp] theorem frzC_c {k b : Nat} {d : DV} : frzC k b m (some (.c d)) = frz k b m d := (rfl)
@[simp] theorem frz_kt {k b : Nat} {xs : List DV} (h : noRefs xs = false) : frz (k + 1) b m (.kt xs) = (frzs k b m xs).map .kt := by
  unfold frz
  show (if noRef (.kt xs) = true then _ else _) = _
  rw [if_neg (by rw [noRef, h]; exact Bool.false_ne_true)]
  show (xs.mapM (frz k b m)).map DV.kt = _
  rw [frzs_eq]
@[simp] theorem frz_tup {k b : Nat} {xs : List DV} (h : noRefs xs = false) : frz (k + 1) b m (.tup xs) = (frzs k b m xs).map .tup := by
  rw [← frzs_eq]
  show (if noRef (.tup xs) = true then _ else _) = _
  rw [if_neg (by rw [noRef, h]; decide)]
@[simp] theorem frz_lst {k b : Nat} {xs : List DV} (h : noRefs xs = false) : frz (k + 1) b m (.lst xs) = (frzs k b m xs).map .lst := by
  rw [← frzs_eq]
  show (if noRef (.lst xs) = true then _ else _) = _
  rw [if_neg (by rw [noRef, h]; decide)]
@[simp] theorem frz_dk {k b : Nat} {ks : List KA} {xs : List DV} (h : noRefs xs = false) : frz (k + 1) b m (.dk ks xs) = (frzs k b m xs).map (.dk ks) := by
  rw [← frzs_eq]
  show (if noRef (.dk ks xs) = true then _ else _) = _
  rw [if_neg (by rw [noRef, h]; decide)]
@[simp] theorem qLeave_frz {n : Nat} {d : DV} (h : n < m.length) : qLeave false n d m Q = qOf (frz 40 n m d) (m.take n) Q := by
  unfold qLeave leave
  rw [if_neg (by decide), if_neg (by omega)]
  rfl
@[simp] theorem qLeave_len {d : DV} : qLeave false m.length d m Q = Q (.ok d m) := by unfold qLeave; rw [leave_len]
theorem call_rule {P : List Fn} {d f : Nat} {args : List DV} {fn : Fn} (h : P[f]? = some fn) (hl : args.length = fn.np) (hk : fn.keep = false)
    (hb : WB (evCall cs P d) cs m.length (args.map some ++ List.replicate (fn.nn - fn.np) none) fn.body m (kFin false m.length Q)) : Q (evCall cs P (d + 1) f args b m) := by
  rw [evCall, h]
  simp only [if_pos hl, hk, Bool.false_eq_true, if_false]
  exact hb
theorem call_ruleK {P : List Fn} {d f : Nat} {args : List DV} {fn : Fn} (h : P[f]? = some fn) (hl : args.length = fn.np) (hk : fn.keep = true)
    (hb : WB (evCall cs P d) cs b (args.map some ++ List.replicate (fn.nn - fn.np) none) fn.body m (kFin true b Q)) : Q (evCall cs P (d + 1) f args b m) := by
  rw [evCall, h]
  simp only [if_pos hl, hk, if_true]
  exact hb
end
/-! ### memory -/
@[simp 1100] theorem es_ne {α : Type} {l : List α} {i j : Nat} {x : α} (h : i ≠ j) : (l.set i x)[j]? = l[j]? := List.getElem?_set_ne h
@[simp 1100] theorem es_eq {α : Type} {l : List α} {i : Nat} {x : α} (h : i < l.length) : (l.set i x)[i]? = some x := List.getElem?_set_self h
@[simp 1100] theorem gq_cons {α : Type} {a : α} {l : List α} {n : Nat} : (a :: l)[n + 1]? = l[n]? := by rw [List.getElem?_cons_succ]
@[simp 1100] theorem gq_cons0 {α : Type} {a : α} {l : List α} : (a :: l)[0]? = some a := (rfl)
@[simp 1100] theorem gq_app0 {α : Type} {l r : List α} : (l ++ r)[l.length]? = r[0]? := by rw [List.getElem?_append_right (Nat.le_refl _), Nat.sub_self]
@[simp 1100] theorem gq_app {α : Type} {l r : List α} {k : Nat} : (l ++ r)[l.length + k]? = r[k]? := by rw [List.getElem?_append_right (Nat.le_add_right ..), Nat.add_sub_cancel_left]
@[simp] theorem gq_left {α : Type} {l r : List α} {n : Nat} {c : α} (h : l[n]? = some c) : (l ++ r)[n]? = some c := by
  rw [List.getElem?_append_left (List.getElem?_eq_some_iff.mp h).1, h]
@[simp 1100] theorem st_app0 {α : Type} {l r : List α} {x : α} : (l ++ r).set l.length x = l ++ r.set 0 x := by rw [List.set_append_right _ _ (Nat.le_refl _), Nat.sub_self]
@[simp 1100] theorem st_app {α : Type} {l r : List α} {k : Nat} {x : α} : (l ++ r).set (l.length + k) x = l ++ r.set k x := by rw [List.set_append_right _ _ (Nat.le_add_right ..), Nat.add_sub_cancel_left]
/-! ### data -/
@[simp] theorem dispD_nil {ks : List KA} {vs : List DV} : dispD [] ks vs = some (.dk ks vs) := by rw [dispD]
@[simp] theorem dispD_cons {k v : DV} {r : List DV} {ks : List KA} {vs : List DV} : dispD (k :: v :: r) ks vs = (kaOf k).bind fun k => dispD r (putK' ks k) (putV ks vs k v) := by rw [dispD]
section
variable {m : Mem}
@[simp] theorem xrs_int {i : Int} : rs m (.int i) = .int i := (rfl)
@[simp] theorem xrs_str {t : List Nat} : rs m (.str t) = .str t := (rfl)
@[simp] theorem xrs_bl {k : Bool} : rs m (.bl k) = .bl k := (rfl)
@[simp] theorem xrs_non : rs m .non = .non := (rfl)
@[simp] theorem xrs_tup {xs : List DV} : rs m (.tup xs) = .tup xs := (rfl)
@[simp] theorem xrs_kt {xs : List DV} : rs m (.kt xs) = .kt xs := (rfl)
@[simp] theorem xrs_lst {xs : List DV} : rs m (.lst xs) = .lst xs := (rfl)
@[simp] theorem xrs_kl {xs : List DV} : rs m (.kl xs) = .kl xs := (rfl)
@[simp] theorem xrs_dk {ks : List KA} {xs : List DV} : rs m (.dk ks xs) = .dk ks xs := (rfl)
@[simp] theorem xrs_dt {ks : List (List KA)} {xs : List DV} : rs m (.dt ks xs) = .dt ks xs := (rfl)
def rsC (n : Nat) : Option Cell → DV
  | some c => c.d
  | none => .ref n
@[simp] theorem xrs_ref {n : Nat} : rs m (.ref n) = rsC n m[n]? := (rfl)
@[simp] theorem rsC_c {n : Nat} {d : DV} : rsC n (some (.c d)) = d := (rfl)
@[simp] theorem rsC_k {n : Nat} {d : DV} : rsC n (some (.k d)) = d := (rfl)
theorem xrs_nr {d : DV} (h : noRef d = true) : rs m d = d := by cases d <;> first | rfl | (cases h; done)
@[simp] theorem wk_int {i : Int} : wk m (.int i) = some (.int i) := (rfl)
@[simp] theorem wk_txt {t : List Nat} : wk m (.str t) = some (.str t) := (rfl)
@[simp] theorem wk_tup {xs : List DV} : wk m (.tup xs) = some (.tup xs) := (rfl)
@[simp] theorem wk_kt {xs : List DV} : wk m (.kt xs) = some (.kt xs) := (rfl)
@[simp] theorem wk_lst {xs : List DV} : wk m (.lst xs) = some (.lst xs) := (rfl)
@[simp] theorem wk_kl {xs : List DV} : wk m (.kl xs) = some (.kl xs) := (rfl)
@[simp] theorem wk_dk {ks : List KA} {xs : List DV} : wk m (.dk ks xs) = some (.dk ks xs) := (rfl)
@[simp] theorem wk_dt {ks : List (List KA)} {xs : List DV} : wk m (.dt ks xs) = some (.dt ks xs) := (rfl)
def wkC : Option Cell → Option DV
  | some (.k d) => some d
  | _ => none
@[simp] theorem wk_ref {n : Nat} : wk m (.ref n) = wkC m[n]? := (rfl)
@[simp] theorem wkC_k {d : DV} : wkC (some (.k d)) = some d := (rfl)
@[simp] theorem ws_tup {xs : List DV} : walkSeq (.tup xs) = some xs := (rfl)
@[simp] theorem ws_kt {xs : List DV} : walkSeq (.kt xs) = some xs := (rfl)
@[simp] theorem ws_lst {xs : List DV} : walkSeq (.lst xs) = some xs := (rfl)
@[simp] theorem ws_kl {xs : List DV} : walkSeq (.kl xs) = some xs := (rfl)
@[simp] theorem ws_str {s : List Nat} : walkSeq (.str s) = some (s.map fun c => .str [c]) := (rfl)
@[simp] theorem wkeys_dk {ks : List KA} {xs : List DV} : walkKeys (.dk ks xs) = some (ks.map ofKa) := (rfl)
@[simp] theorem witems_dk {ks : List KA} {xs : List DV} : walkItems (.dk ks xs) = some (pairs (ks.map ofKa) xs) := (rfl)
@[simp] theorem enum_lst {xs : List DV} : enum0 (.lst xs) = some (enumD 0 xs) := (rfl)
@[simp] theorem enum_tup {xs : List DV} : enum0 (.tup xs) = some (enumD 0 xs) := (rfl)
@[simp] theorem enum_kl {xs : List DV} : enum0 (.kl xs) = some (enumD 0 xs) := (rfl)
@[simp] theorem rev_tup {xs : List DV} : rev0 (.tup xs) = some xs.reverse := (rfl)
@[simp] theorem rev_lst {xs : List DV} : rev0 (.lst xs) = some xs.reverse := (rfl)
@[simp] theorem zip_ll {xs ys : List DV} : zipD (.lst xs) (.lst ys) = some (pairs xs ys) := (rfl)
@[simp] theorem zip_tt {xs ys : List DV} : zipD (.tup xs) (.tup ys) = some (pairs xs ys) := (rfl)
@[simp] theorem unlock_none : unlockM none m = m := (rfl)
def unlC (n : Nat) (m : Mem) : Option Cell → Mem
  | some (.k d) => m.set n (.c d)
  | _ => m
@[simp] theorem unlock_some {n : Nat} : unlockM (some n) m = unlC n m m[n]? := (rfl)
@[simp] theorem unlC_k {n : Nat} {d : DV} : unlC n m (some (.k d)) = m.set n (.c d) := (rfl)
@[simp] theorem tru_bl {k : Bool} : truD (.bl k) = some k := (rfl)
@[simp] theorem tru_non : truD .non = some false := (rfl)
@[simp] theorem tru_int {i : Int} : truD (.int i) = some (!decide (i = 0)) := by show some (i != 0) = _; by_cases h : i = 0 <;> simp [h]
@[simp] theorem tru_str {s : List Nat} : truD (.str s) = some (!s.isEmpty) := (rfl)
@[simp] theorem tru_lst {xs : List DV} : truD (.lst xs) = some (!xs.isEmpty) := (rfl)
@[simp] theorem tru_tup {xs : List DV} : truD (.tup xs) = some (!xs.isEmpty) := (rfl)
@[simp] theorem tru_kl {xs : List DV} : truD (.kl xs) = some (!xs.isEmpty) := (rfl)
@[simp] theorem tru_dk {ks : List KA} {xs : List DV} : truD (.dk ks xs) = some (!ks.isEmpty) := (rfl)
@[simp] theorem len_kl {xs : List DV} : primD .len [.kl xs] = some (.int xs.length) := (rfl)
@[simp] theorem len_kt {xs : List DV} : primD .len [.kt xs] = some (.int xs.length) := (rfl)
@[simp] theorem len_lst {xs : List DV} : primD .len [.lst xs] = some (.int xs.length) := (rfl)
@[simp] theorem len_tup {xs : List DV} : primD .len [.tup xs] = some (.int xs.length) := (rfl)
@[simp] theorem len_str {xs : List Nat} : primD .len [.str xs] = some (.int xs.length) := (rfl)
@[simp] theorem len_dk {ks : List KA} {xs : List DV} : primD .len [.dk ks xs] = some (.int ks.length) := (rfl)
@[simp] theorem int1_i {i : Int} : primD .int1 [.int i] = some (.int i) := (rfl)
@[simp] theorem int1_b {k : Bool} : primD .int1 [.bl k] = some (.int (if k = true then 1 else 0)) := (rfl)
@[simp] theorem abs_i {i : Int} : primD .abs [.int i] = some (.int (if i < 0 then -i else i)) := (rfl)
@[simp] theorem tup_lst {xs : List DV} : primD .tuple1 [.lst xs] = some (.kt xs) := (rfl)
@[simp] theorem tup_kl {xs : List DV} : primD .tuple1 [.kl xs] = some (.kt xs) := (rfl)
@[simp] theorem tup_kt {xs : List DV} : primD .tuple1 [.kt xs] = some (.kt xs) := (rfl)
@[simp] theorem list_kt {xs : List DV} : primD .list1 [.kt xs] = some (.lst xs) := (rfl)
@[simp] theorem list_ktM {xs : List DV} : primND .list1 [.kt xs] = some (.lst xs) := (rfl)
@[simp] theorem dict_kt {xs : List DV} : primND .dict1 [.kt xs] = mkDk xs [] [] := (rfl)
@[simp] theorem dict_lst {xs : List DV} : primND .dict1 [.lst xs] = mkDk xs [] [] := (rfl)
@[simp] theorem dictT_kt {xs : List DV} : primND .dictT [.kt xs] = mkDt xs [] [] := (rfl)
@[simp] theorem dictT_lst {xs : List DV} : primND .dictT [.lst xs] = mkDt xs [] [] := (rfl)
@[simp] theorem witems_dt {ks : List (List KA)} {xs : List DV} : walkItems (.dt ks xs) = some (pairs (ks.map fun k => .tup (k.map ofKa)) xs) := (rfl)
@[simp] theorem wkeys_dt' {ks : List (List KA)} {xs : List DV} : walkKeys (.dt ks xs) = some (ks.map fun k => .tup (k.map ofKa)) := (rfl)
@[simp] theorem isNon_kt {xs : List DV} : isNonD (.kt xs) = false := (rfl)
@[simp] theorem enum_kt {xs : List DV} : enum0 (.kt xs) = some (enumD 0 xs) := (rfl)
@[simp] theorem tru_kt {xs : List DV} : truD (.kt xs) = some (!xs.isEmpty) := (rfl)
@[simp] theorem tup_tup {xs : List DV} : primD .tuple1 [.tup xs] = some (.tup xs) := (rfl)
@[simp] theorem list_lst {xs : List DV} : primD .list1 [.lst xs] = some (.lst xs) := (rfl)
@[simp] theorem list_tup {xs : List DV} : primD .list1 [.tup xs] = some (.lst xs) := (rfl)
@[simp] theorem min_i {i j : Int} : primD .min2 [.int i, .int j] = some (.int (if j < i then j else i)) := (rfl)
@[simp] theorem max_i {i j : Int} : primD .max2 [.int i, .int j] = some (.int (if j > i then j else i)) := (rfl)
@[simp] theorem list_lstM {xs : List DV} : primND .list1 [.lst xs] = some (.lst xs) := (rfl)
@[simp] theorem list_tupM {xs : List DV} : primND .list1 [.tup xs] = some (.lst xs) := (rfl)
@[simp] theorem dict_dk {ks : List KA} {xs : List DV} : primND .dict1 [.dk ks xs] = some (.dk ks xs) := (rfl)
@[simp] theorem add_i {i j : Int} : op2 .add (.int i) (.int j) = some (.int (i + j)) := (rfl)
@[simp] theorem sub_i {i j : Int} : op2 .sub (.int i) (.int j) = some (.int (i - j)) := (rfl)
@[simp] theorem mul_i {i j : Int} (h : L2.CMul i j) : op2 .mul (.int i) (.int j) = some (.int (i * j)) := if_pos h
@[simp] theorem fdiv_i {i j : Int} (h : L2.CDivN i j) : op2 .fdiv (.int i) (.int j) = some (.int (i.fdiv j)) := if_pos h
@[simp] theorem mod_i {i j : Int} (h : j ≠ 0) : op2 .mod (.int i) (.int j) = some (.int (i.fmod j)) := if_pos h
@[simp] theorem pow_i {i j : Int} (h : L2.CPow i j) : op2 .pow (.int i) (.int j) = some (.int (i ^ j.toNat)) := if_pos h
@[simp] theorem add_l {xs ys : List DV} (h : xs.length + ys.length ≤ 10000000) : op2 .add (.lst xs) (.lst ys) = some (.lst (xs ++ ys)) := if_pos h
@[simp] theorem add_t {xs ys : List DV} (h : xs.length + ys.length ≤ 10000000) : op2 .add (.tup xs) (.tup ys) = some (.tup (xs ++ ys)) := if_pos h
@[simp] theorem add_s {xs ys : List Nat} (h : xs.length + ys.length ≤ 10000000) : op2 .add (.str xs) (.str ys) = some (.str (xs ++ ys)) := if_pos h
@[simp] theorem cmul_r {i j : Int} (h1 : -(2 ^ 64) < j) (h2 : j < 2 ^ 64) : L2.CMul i j := .inr ⟨h1, h2⟩
@[simp] theorem lt_i {i j : Int} : cmpD .lt (.int i) (.int j) = some (decide (i < j)) := (rfl)
@[simp] theorem le_i {i j : Int} : cmpD .le (.int i) (.int j) = some (decide (i ≤ j)) := (rfl)
@[simp] theorem gt_i {i j : Int} : cmpD .gt (.int i) (.int j) = some (decide (j < i)) := (rfl)
@[simp] theorem ge_i {i j : Int} : cmpD .ge (.int i) (.int j) = some (decide (j ≤ i)) := (rfl)
theorem dkCmp_none {c : Cm} {x y : DV} (h : (∀ ks vs, x ≠ .dk ks vs) ∨ (∀ ks vs, y ≠ .dk ks vs)) : dkCmp c x y = none := by
  cases c <;> first | rfl | skip
  all_goals cases x <;> first | rfl | skip
  all_goals cases y <;> first | rfl | skip
  all_goals rcases h with h | h <;> exact absurd rfl (h _ _)
theorem cmpD_eq {x y : DV} (hx : eqOk 64 x = true) (hy : eqOk 64 y = true) : cmpD .eq x y = some (deq x y) := by
  unfold cmpD
  rw [dkCmp_none (.inl (fun ks vs e => by subst e; simp [eqOk] at hx))]
  show (if (eqOk 64 x && eqOk 64 y) = true then some (deq x y) else none) = _
  rw [if_pos (by rw [hx, hy]; rfl)]
theorem cmpD_ne {x y : DV} (hx : eqOk 64 x = true) (hy : eqOk 64 y = true) : cmpD .ne x y = some (!deq x y) := by
  unfold cmpD
  rw [dkCmp_none (.inl (fun ks vs e => by subst e; simp [eqOk] at hx))]
  show (if (eqOk 64 x && eqOk 64 y) = true then some (!deq x y) else none) = _
  rw [if_pos (by rw [hx, hy]; rfl)]
@[simp] theorem eq_i {i j : Int} : cmpD .eq (.int i) (.int j) = some (decide (i = j)) := by rw [cmpD_eq rfl rfl]; by_cases h : i = j <;> simp [deq, h]
@[simp] theorem ne_i {i j : Int} : cmpD .ne (.int i) (.int j) = some (!decide (i = j)) := by rw [cmpD_ne rfl rfl]; by_cases h : i = j <;> simp [deq, h]
@[simp] theorem eq_s {i j : List Nat} : cmpD .eq (.str i) (.str j) = some (decide (i = j)) := by rw [cmpD_eq rfl rfl]; by_cases h : i = j <;> simp [deq, h]
@[simp] theorem ne_s {i j : List Nat} : cmpD .ne (.str i) (.str j) = some (!decide (i = j)) := by rw [cmpD_ne rfl rfl]; by_cases h : i = j <;> simp [deq, h]
@[simp] theorem eq_b {i j : Bool} : cmpD .eq (.bl i) (.bl j) = some (decide (i = j)) := by rw [cmpD_eq rfl rfl]; by_cases h : i = j <;> simp [deq, h]
@[simp] theorem ne_b {i j : Bool} : cmpD .ne (.bl i) (.bl j) = some (!decide (i = j)) := by rw [cmpD_ne rfl rfl]; by_cases h : i = j <;> simp [deq, h]
@[simp] theorem is_bl {a b : Bool} : cmpD .is (.bl a) (.bl b) = some (a == b) := (rfl)
@[simp] theorem isnot_bl {a b : Bool} : cmpD .isnot (.bl a) (.bl b) = some (!(a == b)) := (rfl)
@[simp] theorem is_non {x : DV} : cmpD .is x .non = some (isNonD x) := by cases x <;> rfl
@[simp] theorem isnot_non {x : DV} : cmpD .isnot x .non = some (!isNonD x) := by cases x <;> rfl
@[simp] theorem isNon_non : isNonD .non = true := (rfl)
@[simp] theorem isNon_tup {xs : List DV} : isNonD (.tup xs) = false := (rfl)
@[simp] theorem isNon_lst {xs : List DV} : isNonD (.lst xs) = false := (rfl)
@[simp] theorem isNon_int {i : Int} : isNonD (.int i) = false := (rfl)
@[simp] theorem isNon_str {i : List Nat} : isNonD (.str i) = false := (rfl)
@[simp] theorem sub_tup {xs : List DV} {i : Int} : subD (.tup xs) (.int i) = L2.atI xs i := (rfl)
@[simp] theorem sub_kt {xs : List DV} {i : Int} : subD (.kt xs) (.int i) = L2.atI xs i := (rfl)
@[simp] theorem sub_lst {xs : List DV} {i : Int} : subD (.lst xs) (.int i) = L2.atI xs i := (rfl)
@[simp] theorem sub_kl {xs : List DV} {i : Int} : subD (.kl xs) (.int i) = L2.atI xs i := (rfl)
theorem atI_nn {α : Type} {xs : List α} {i : Int} (h0 : 0 ≤ i) : L2.atI xs i = xs[i.toNat]? := by
  unfold L2.atI L2.ixN
  rw [if_pos h0]
  by_cases h : i < (xs.length : Int)
  · rw [if_pos h]; rfl
  · rw [if_neg h]
    symm
    exact List.getElem?_eq_none (by omega)
@[simp] theorem atI_nat {α : Type} {xs : List α} {n : Nat} : L2.atI xs (n : Int) = xs[n]? := atI_nn (Int.natCast_nonneg n)
@[simp] theorem atI_lit {α : Type} {xs : List α} {n : Nat} : L2.atI xs (OfNat.ofNat n : Int) = xs[n]? := atI_nn (Int.natCast_nonneg n)
@[simp] theorem atI_0 {α : Type} {xs : List α} : L2.atI xs 0 = xs[0]? := atI_nn (Int.le_refl 0)
@[simp] theorem atI_1 {α : Type} {xs : List α} : L2.atI xs 1 = xs[1]? := atI_nn (by decide)
@[simp] theorem atI_2 {α : Type} {xs : List α} : L2.atI xs 2 = xs[2]? := atI_nn (by decide)
@[simp] theorem atI_3 {α : Type} {xs : List α} : L2.atI xs 3 = xs[3]? := atI_nn (by decide)
@[simp] theorem atI_4 {α : Type} {xs : List α} : L2.atI xs 4 = xs[4]? := atI_nn (by decide)
@[simp] theorem atI_5 {α : Type} {xs : List α} : L2.atI xs 5 = xs[5]? := atI_nn (by decide)
@[simp] theorem atI_6 {α : Type} {xs : List α} : L2.atI xs 6 = xs[6]? := atI_nn (by decide)
@[simp] theorem atI_7 {α : Type} {xs : List α} : L2.atI xs 7 = xs[7]? := atI_nn (by decide)
@[simp] theorem atI_8 {α : Type} {xs : List α} : L2.atI xs 8 = xs[8]? := atI_nn (by decide)
@[simp] theorem atI_9 {α : Type} {xs : List α} : L2.atI xs 9 = xs[9]? := atI_nn (by decide)
@[simp] theorem pow_10_18 : op2 .pow (.int 10) (.int 18) = some (.int 1000000000000000000) := by
  rw [pow_i ⟨by decide, by decide, by decide⟩]
  rfl
@[simp] theorem mul_2 {c : Int} : op2 .mul (.int 2) (.int c) = some (.int (2 * c)) := mul_i (.inl ⟨by decide, by decide⟩)
@[simp] theorem recv_append {xs : List DV} : recvOk .append (.lst xs) = true := (rfl)
@[simp] theorem recv_pop0 {xs : List DV} : recvOk .pop0 (.lst xs) = true := (rfl)
@[simp] theorem recv_popAt {xs : List DV} : recvOk .popAt (.lst xs) = true := (rfl)
@[simp] theorem recv_get1 {ks : List KA} {xs : List DV} : recvOk .get1 (.dk ks xs) = true := (rfl)
@[simp] theorem recv_get2 {ks : List KA} {xs : List DV} : recvOk .get2 (.dk ks xs) = true := (rfl)
@[simp] theorem recv_get1t {ks : List (List KA)} {xs : List DV} : recvOk .get1 (.dt ks xs) = true := (rfl)
@[simp] theorem recv_get2t {ks : List (List KA)} {xs : List DV} : recvOk .get2 (.dt ks xs) = true := (rfl)
@[simp] theorem recv_index {xs : List DV} : recvOk .index (.lst xs) = true := (rfl)
@[simp] theorem recv_extend {xs : List DV} : recvOk .extend (.lst xs) = true := (rfl)
@[simp] theorem un_rev {xs : List DV} : unD .rev (.lst xs) = some (.lst xs.reverse) := (rfl)
theorem un_sset {xs : List DV} {ks : List KA} (h : keysD xs = some ks) (one : oneK ks = true) : unD .sset (.lst xs) = some (.lst (((ddK ks).mergeSort kaLe).map ofKa)) := by
  show (keysD xs).bind _ = _
  rw [h]
  exact if_pos one
theorem un_lset {xs : List DV} {ks : List KA} (h : keysD xs = some ks) (one : oneK ks = true) : unD .lset (.lst xs) = some (.int (ddK ks).length) := by
  show (keysD xs).bind _ = _
  rw [h]
  exact if_pos one
def extC (b n : Nat) (zs : List DV) (m : Mem) : Option Cell → Out DV
  | some (.c (.lst ys)) => if (zs.all (mayPut b n) && decide (ys.length + zs.length ≤ SL)) = true then .ok .non (m.set n (.c (.lst (ys ++ zs)))) else .bad
  | _ => .bad
theorem m_extend {b n : Nat} {x : DV} {zs : List DV} (h : rs m x = .lst zs) : methD .extend b (.ref n) [x] m = extC b n zs m m[n]? := by
  unfold methD extC
  simp only [h]
  rcases m[n]? with _ | ⟨d⟩ | d
  · rfl
  · cases d <;> rfl
  · rfl
@[simp] theorem m_extendL {b n : Nat} {zs : List DV} : methD .extend b (.ref n) [.lst zs] m = extC b n zs m m[n]? := m_extend (by rfl)
@[simp] theorem extC_lst {b n : Nat} {ys zs : List DV} (h1 : zs.all (mayPut b n) = true) (h2 : ys.length + zs.length ≤ 10000000) : extC b n zs m (some (.c (.lst ys))) = .ok .non (m.set n (.c (.lst (ys ++ zs)))) := by
  show (if (zs.all (mayPut b n) && decide (ys.length + zs.length ≤ SL)) = true then Out.ok DV.non (m.set n (.c (.lst (ys ++ zs)))) else .bad) = _
  rw [if_pos (by rw [h1, Bool.true_and]; exact decide_eq_true h2)]
@[simp] theorem recv_join {s : List Nat} : recvOk .join (.str s) = true := (rfl)
def appC (b n : Nat) (x : DV) (m : Mem) : Option Cell → Out DV
  | some (.c (.lst ys)) => if (mayPut b n x && decide (ys.length < SL)) = true then .ok .non (m.set n (.c (.lst (ys ++ [x])))) else .bad
  | _ => .bad
@[simp] theorem m_append {b n : Nat} {x : DV} : methD .append b (.ref n) [x] m = appC b n x m m[n]? := (rfl)
@[simp] theorem appC_lst {b n : Nat} {ys : List DV} {x : DV} (h1 : mayPut b n x = true) (h2 : ys.length < 10000000) : appC b n x m (some (.c (.lst ys))) = .ok .non (m.set n (.c (.lst (ys ++ [x])))) := by
  show (if (mayPut b n x && decide (ys.length < SL)) = true then Out.ok DV.non (m.set n (.c (.lst (ys ++ [x])))) else .bad) = _
  rw [if_pos (by rw [h1, Bool.true_and]; exact decide_eq_true h2)]
def popC (n : Nat) (m : Mem) : Option Cell → Out DV
  | some (.c (.lst ys)) => (match ys.getLast? with
      | some y => .ok y (m.set n (.c (.lst ys.dropLast)))
      | none => .bad)
  | _ => .bad
@[simp] theorem m_pop0 {b n : Nat} : methD .pop0 b (.ref n) [] m = popC n m m[n]? := (rfl)
@[simp] theorem popC_lst {n : Nat} {ys : List DV} {y : DV} (h : ys.getLast? = some y) : popC n m (some (.c (.lst ys))) = .ok y (m.set n (.c (.lst ys.dropLast))) := by
  show (match ys.getLast? with
      | some y => Out.ok y (m.set n (.c (.lst ys.dropLast)))
      | none => .bad) = _
  rw [h]
def popAtC (n : Nat) (i : Int) (m : Mem) : Option Cell → Out DV
  | some (.c (.lst ys)) => (match L2.ixN ys.length i with
      | some j => (match ys[j]? with
        | some y => .ok y (m.set n (.c (.lst (ys.eraseIdx j))))
        | none => .bad)
      | none => .bad)
  | _ => .bad
@[simp] theorem m_popAt {b n : Nat} {i : Int} : methD .popAt b (.ref n) [.int i] m = popAtC n i m m[n]? := (rfl)
theorem popAtC_lst {n j : Nat} {i : Int} {ys : List DV} {y : DV} (h : L2.ixN ys.length i = some j) (h2 : ys[j]? = some y) : popAtC n i m (some (.c (.lst ys))) = .ok y (m.set n (.c (.lst (ys.eraseIdx j)))) := by
  show (match L2.ixN ys.length i with
      | some j => (match ys[j]? with
        | some y => Out.ok y (m.set n (.c (.lst (ys.eraseIdx j))))
        | none => .bad)
      | none => .bad) = _
  rw [h]
  show (match ys[j]? with
        | some y => Out.ok y (m.set n (.c (.lst (ys.eraseIdx j))))
        | none => .bad) = _
  rw [h2]
@[simp] theorem m_get1 {b : Nat} {o k : DV} : methD .get1 b o [k] m = .of ((dget (rs m o) k).map fun r => r.getD .non) m := (rfl)
@[simp] theorem m_get2 {b : Nat} {o k x : DV} : methD .get2 b o [k, x] m = .of ((dget (rs m o) k).map fun r => r.getD x) m := (rfl)
@[simp] theorem dget_int {ks : List KA} {vs : List DV} {i : Int} : dget (.dk ks vs) (.int i) = some (look ks vs (.inl i)) := (rfl)
@[simp] theorem dget_str {ks : List KA} {vs : List DV} {i : List Nat} : dget (.dk ks vs) (.str i) = some (look ks vs (.inr i)) := (rfl)
@[simp] theorem nr_non : noRef .non = true := (rfl)
@[simp] theorem nr_int {i : Int} : noRef (.int i) = true := (rfl)
@[simp] theorem nr_bl {i : Bool} : noRef (.bl i) = true := (rfl)
@[simp] theorem nr_str {i : List Nat} : noRef (.str i) = true := (rfl)
@[simp] theorem nr_tup {xs : List DV} : noRef (.tup xs) = noRefs xs := by rw [noRef]
@[simp] theorem nr_kt {xs : List DV} : noRef (.kt xs) = noRefs xs := by rw [noRef]
@[simp] theorem nr_lst {xs : List DV} : noRef (.lst xs) = noRefs xs := by rw [noRef]
@[simp] theorem nr_kl {xs : List DV} : noRef (.kl xs) = noRefs xs := by rw [noRef]
@[simp] theorem nr_dk {ks : List KA} {xs : List DV} : noRef (.dk ks xs) = noRefs xs := by rw [noRef]
@[simp] theorem nr_dt {ks : List (List KA)} {xs : List DV} : noRef (.dt ks xs) = noRefs xs := by rw [noRef]
@[simp] theorem nr_ref {n : Nat} : noRef (.ref n) = false := (rfl)
@[simp] theorem nrs_nil : noRefs [] = true := (rfl)
@[simp] theorem nrs_cons {x : DV} {xs : List DV} : noRefs (x :: xs) = (noRef x && noRefs xs) := by rw [noRefs]
@[simp] theorem mayPut_nr {b n : Nat} {d : DV} (h : noRef d = true) : mayPut b n d = true := by unfold mayPut; rw [h, Bool.or_true]
@[simp] theorem mayPut_own {b n : Nat} {d : DV} (h : b ≤ n) : mayPut b n d = true := by unfold mayPut; rw [decide_eq_true h, Bool.true_or]
theorem noRefs_all {xs : List DV} (h : ∀ x ∈ xs, noRef x = true) : noRefs xs = true := by
  induction xs with
  | nil => rfl
  | cons x xs ih => rw [noRefs, h x (List.mem_cons_self ..), ih (fun y hy => h y (List.mem_cons_of_mem _ hy))]; rfl
def setC (b n : Nat) (i x : DV) (m : Mem) : Option Cell → Out Unit
  | some (.c (.lst ys)) => (match i with
      | .int j => (match L2.ixN ys.length j with
        | some j => if mayPut b n x then .ok () (m.set n (.c (.lst (ys.set j x)))) else .bad
        | none => .bad)
      | _ => .bad)
  | some (.c d) => (match dput d i x with
      | some d' => if mayPut b n x then .ok () (m.set n (.c d')) else .bad
      | none => .bad)
  | _ => .bad
@[simp] theorem set_ref {b n : Nat} {i x : DV} : setD b (.ref n) i x m = setC b n i x m m[n]? := by
  unfold setD setC
  simp only
  all_goals (
    cases m[n]? with
    | none => rfl
    | some c =>
      cases c with
      | k d => rfl
      | c d => cases d <;> rfl)
def dkSet (b n : Nat) (ks : List KA) (vs : List DV) (x : DV) (m : Mem) (k : Option KA) : Out Unit := match k with
  | some a => .ok () (m.set n (.c (.dk (putK' ks a) (putV ks vs a x))))
  | none => .bad
@[simp] theorem dkSet_some {b n : Nat} {ks : List KA} {vs : List DV} {x : DV} {a : KA} : dkSet b n ks vs x m (some a) = .ok () (m.set n (.c (.dk (putK' ks a) (putV ks vs a x)))) := (rfl)
@[simp] theorem setC_dk {b n : Nat} {i x : DV} {ks : List KA} {vs : List DV} (hl : ks.length < 10000000) (hp : mayPut b n x = true) : setC b n i x m (some (.c (.dk ks vs))) = dkSet b n ks vs x m (kaOf i) := by
  show (match (if ks.length < SL then (kaOf i).map fun k => DV.dk (putK' ks k) (putV ks vs k x) else none) with
      | some d' => if mayPut b n x = true then Out.ok () (m.set n (.c d')) else .bad
      | none => .bad) = _
  rw [if_pos (show ks.length < SL from hl)]
  cases kaOf i with
  | none => rfl
  | some k => exact if_pos hp
def lsSet (n : Nat) (ys : List DV) (x : DV) (m : Mem) (k : Option Nat) : Out Unit := match k with
  | some a => .ok () (m.set n (.c (.lst (ys.set a x))))
  | none => .bad
@[simp] theorem lsSet_some {n a : Nat} {ys : List DV} {x : DV} : lsSet n ys x m (some a) = .ok () (m.set n (.c (.lst (ys.set a x)))) := (rfl)
@[simp] theorem setC_lst {b n : Nat} {j : Int} {x : DV} {ys : List DV} (hp : mayPut b n x = true) : setC b n (.int j) x m (some (.c (.lst ys))) = lsSet n ys x m (L2.ixN ys.length j) := by
  show (match L2.ixN ys.length j with
        | some j => if mayPut b n x = true then Out.ok () (m.set n (.c (.lst (ys.set j x)))) else .bad
        | none => .bad) = _
  cases L2.ixN ys.length j with
  | none => rfl
  | some k => exact if_pos hp
@[simp] theorem ixN_lit {l k : Nat} (h : k < l) : L2.ixN l (OfNat.ofNat k : Int) = some k := by
  unfold L2.ixN
  show (if 0 ≤ ((k : Nat) : Int) then if ((k : Nat) : Int) < (l : Int) then some ((k : Int)).toNat else none else _) = _
  rw [if_pos (Int.natCast_nonneg k), if_pos (by omega)]
  rfl
@[simp] theorem ixN_0 {l : Nat} (h : 0 < l) : L2.ixN l 0 = some 0 := ixN_lit (k := 0) h
@[simp] theorem ixN_1 {l : Nat} (h : 1 < l) : L2.ixN l 1 = some 1 := ixN_lit (k := 1) h
@[simp] theorem ixN_2 {l : Nat} (h : 2 < l) : L2.ixN l 2 = some 2 := ixN_lit (k := 2) h
@[simp] theorem ixN_3 {l : Nat} (h : 3 < l) : L2.ixN l 3 = some 3 := ixN_lit (k := 3) h
@[simp] theorem ixN_4 {l : Nat} (h : 4 < l) : L2.ixN l 4 = some 4 := ixN_lit (k := 4) h
@[simp] theorem ixN_5 {l : Nat} (h : 5 < l) : L2.ixN l 5 = some 5 := ixN_lit (k := 5) h
@[simp] theorem ixN_6 {l : Nat} (h : 6 < l) : L2.ixN l 6 = some 6 := ixN_lit (k := 6) h
@[simp] theorem ixN_7 {l : Nat} (h : 7 < l) : L2.ixN l 7 = some 7 := ixN_lit (k := 7) h
@[simp] theorem wipe_nil {env : Env'} : wipeE env [] = env := (rfl)
@[simp] theorem wipe_cons {env : Env'} {v : Nat} {vs : List Nat} : wipeE env (v :: vs) = (wipeE env vs).set v none := (rfl)
@[simp] theorem kaOf_int {i : Int} : kaOf (.int i) = some (.inl i) := (rfl)
@[simp] theorem kaOf_str {s : List Nat} : kaOf (.str s) = some (.inr s) := (rfl)
@[simp] theorem rngI_len {a : Int} {n : Nat} : (rngI a n).length = n := by simp [rngI]
theorem rngI_get {a : Int} {n i : Nat} {d : DV} (h : (rngI a n)[i]? = some d) : i < n ∧ d = .int (a + i) := by
  unfold rngI at h
  rw [List.getElem?_map] at h
  obtain ⟨k, h1, rfl⟩ := Option.map_eq_some_iff.mp h
  have h2 := (List.getElem?_eq_some_iff.mp h1)
  obtain ⟨h3, h4⟩ := h2
  rw [List.length_range] at h3
  rw [List.getElem_range] at h4
  exact ⟨h3, by rw [h4]⟩
theorem rngI_mem {a : Int} {n : Nat} {d : DV} (h : d ∈ rngI a n) : ∃ i : Nat, i < n ∧ d = .int (a + i) := by
  unfold rngI at h
  obtain ⟨i, h1, rfl⟩ := List.mem_map.mp h
  exact ⟨i, List.mem_range.mp h1, rfl⟩
end
end Ev

set_option Elab.async false
set_option linter.all false
set_option maxRecDepth 100000
/-! Dicts, lists of data. -/
namespace Ev
open PySem
structure DOk {κ : Type} (ks : List κ) (vs : List DV) : Prop where
  nd : ks.Nodup
  len : ks.length = vs.length
section
variable {κ : Type} [DecidableEq κ]
theorem DOk.nil : DOk ([] : List κ) [] := ⟨List.nodup_nil, rfl⟩
theorem look_mem : ∀ {ks : List κ} {vs : List DV} {k : κ}, ks.length = vs.length → ((look ks vs k).isSome = true ↔ k ∈ ks)
  | [], vs, k, h => by cases vs <;> simp_all [look]
  | j :: ks, v :: vs, k, h => by
    have ih := look_mem (ks := ks) (vs := vs) (k := k) (by simpa using h)
    unfold look
    by_cases e : j = k
    · simp [e]
    · rw [if_neg e, ih]
      simp [Ne.symm e]
theorem look_none {ks : List κ} {vs : List DV} {k : κ} (h : ks.length = vs.length) : look ks vs k = none ↔ k ∉ ks := by
  rw [← look_mem h]
  cases look ks vs k <;> simp
theorem look_some {ks : List κ} {vs : List DV} {k : κ} (h : ks.length = vs.length) (hk : k ∈ ks) : ∃ v, look ks vs k = some v := Option.isSome_iff_exists.mp ((look_mem h).mpr hk)
theorem look_in : ∀ {ks : List κ} {vs : List DV} {k : κ} {v : DV}, look ks vs k = some v → k ∈ ks ∧ v ∈ vs
  | [], vs, k, v, h => by simp [look] at h
  | j :: ks, [], k, v, h => by simp [look] at h
  | j :: ks, x :: vs, k, v, h => by
    unfold look at h
    by_cases e : j = k
    · rw [if_pos e] at h
      cases h
      simp [e]
    · rw [if_neg e] at h
      have := look_in h
      exact ⟨List.mem_cons_of_mem _ this.1, List.mem_cons_of_mem _ this.2⟩
theorem rep_len : ∀ {ks : List κ} {vs : List DV} {k : κ} {x : DV}, ks.length = vs.length → (repV ks vs k x).length = vs.length
  | [], [], k, x, h => rfl
  | [], v :: vs, k, x, h => by simp at h
  | j :: ks, [], k, x, h => by simp at h
  | j :: ks, v :: vs, k, x, h => by
    unfold repV
    rw [List.length_cons, List.length_cons, rep_len (by simpa using h)]
theorem look_rep_same : ∀ {ks : List κ} {vs : List DV} {k : κ} {x : DV}, ks.length = vs.length → k ∈ ks → look ks (repV ks vs k x) k = some x
  | [], vs, k, x, h, hk => by simp at hk
  | j :: ks, [], k, x, h, hk => by simp at h
  | j :: ks, v :: vs, k, x, h, hk => by
    unfold repV look
    by_cases e : j = k
    · simp [e]
    · rw [if_neg e, look_rep_same (by simpa using h)]
      rcases List.mem_cons.mp hk with h | h
      · exact absurd h.symm e
      · exact h
theorem look_rep_ne : ∀ {ks : List κ} {vs : List DV} {k j : κ} {x : DV}, ks.length = vs.length → k ≠ j → look ks (repV ks vs k x) j = look ks vs j
  | [], vs, k, j, x, h, hk => by cases vs <;> rfl
  | i :: ks, [], k, j, x, h, hk => by simp at h
  | i :: ks, v :: vs, k, j, x, h, hk => by
    unfold repV look
    by_cases e : i = j
    · rw [if_pos e, if_pos e, if_neg (fun z => hk (z.symm.trans e))]
    · rw [if_neg e, if_neg e, look_rep_ne (by simpa using h) hk]
theorem look_app : ∀ {ks js : List κ} {vs ws : List DV} {k : κ}, ks.length = vs.length → look (ks ++ js) (vs ++ ws) k = (look ks vs k).or (look js ws k)
  | [], js, [], ws, k, h => rfl
  | [], js, v :: vs, ws, k, h => by simp at h
  | i :: ks, js, [], ws, k, h => by simp at h
  | i :: ks, js, v :: vs, ws, k, h => by
    show (if i = k then some v else look (ks ++ js) (vs ++ ws) k) = (if i = k then some v else look ks vs k).or (look js ws k)
    by_cases e : i = k
    · rw [if_pos e, if_pos e]; rfl
    · rw [if_neg e, if_neg e, look_app (by simpa using h)]
theorem look_put_same {ks : List κ} {vs : List DV} {k : κ} {x : DV} (h : ks.length = vs.length) : look (putK' ks k) (putV ks vs k x) k = some x := by
  unfold putK' putV
  by_cases hk : k ∈ ks
  · rw [if_pos hk, if_pos hk, look_rep_same h hk]
  · rw [if_neg hk, if_neg hk, look_app h, (look_none h).mpr hk]
    simp [look]
theorem look_put_ne {ks : List κ} {vs : List DV} {k j : κ} {x : DV} (h : ks.length = vs.length) (hj : k ≠ j) : look (putK' ks k) (putV ks vs k x) j = look ks vs j := by
  unfold putK' putV
  by_cases hk : k ∈ ks
  · rw [if_pos hk, if_pos hk, look_rep_ne h hj]
  · rw [if_neg hk, if_neg hk, look_app h]
    simp [look, hj]
theorem DOk.put {ks : List κ} {vs : List DV} (h : DOk ks vs) (k : κ) (x : DV) : DOk (putK' ks k) (putV ks vs k x) := by
  unfold putK' putV
  by_cases hk : k ∈ ks
  · rw [if_pos hk, if_pos hk]
    exact ⟨h.nd, by rw [rep_len h.len]; exact h.len⟩
  · rw [if_neg hk, if_neg hk]
    refine ⟨List.nodup_append.mpr ⟨h.nd, by simp, fun a ha b hb e => hk ?_⟩, by simp [h.len]⟩
    rw [List.mem_singleton.mp hb] at e
    exact e ▸ ha
theorem repV_mem : ∀ {ks : List κ} {vs : List DV} {k : κ} {x v : DV}, v ∈ repV ks vs k x → v = x ∨ v ∈ vs
  | [], vs, k, x, v, h => by cases vs <;> simp [repV] at h
  | i :: ks, [], k, x, v, h => by simp [repV] at h
  | i :: ks, u :: vs, k, x, v, h => by
    unfold repV at h
    rcases List.mem_cons.mp h with h | h
    · by_cases e : i = k
      · rw [if_pos e] at h; exact .inl h
      · rw [if_neg e] at h; exact .inr (h ▸ List.mem_cons_self ..)
    · rcases repV_mem h with h | h
      · exact .inl h
      · exact .inr (List.mem_cons_of_mem _ h)
theorem put_mem {ks : List κ} {vs : List DV} {k : κ} {x v : DV} (h : v ∈ putV ks vs k x) : v = x ∨ v ∈ vs := by
  unfold putV at h
  split at h
  · exact repV_mem h
  · rcases List.mem_append.mp h with h | h
    · exact .inr h
    · exact .inl (List.mem_singleton.mp h)
theorem putK_mem {ks : List κ} {k j : κ} : j ∈ putK' ks k ↔ j = k ∨ j ∈ ks := by
  unfold putK'
  split
  · exact ⟨.inr, fun h => by
      rcases h with rfl | h
      · assumption
      · exact h⟩
  · rw [List.mem_append, List.mem_singleton, or_comm]
theorem putK_len {ks : List κ} {k : κ} : (putK' ks k).length ≤ ks.length + 1 := by
  unfold putK'
  split <;> simp
theorem look_zip : ∀ {ks : List κ} {vs : List DV} {p : κ × DV}, ks.Nodup → p ∈ ks.zip vs → look ks vs p.1 = some p.2
  | [], vs, p, _, h => by simp at h
  | k :: ks, [], p, _, h => by simp at h
  | k :: ks, v :: vs, p, nd, h => by
    rw [List.zip_cons_cons] at h
    unfold look
    rcases List.mem_cons.mp h with rfl | h
    · rw [if_pos rfl]
    · rw [if_neg (fun e => ?_), look_zip (List.nodup_cons.mp nd).2 h]
      have := (List.of_mem_zip h).1
      rw [← e] at this
      exact (List.nodup_cons.mp nd).1 this
end
theorem flatEq_refl {v : DV} (h : flatEq v v = true) : flatEq v v = true := h
/-- plain values -/
def flat (v : DV) : Bool := flatEq v v
theorem dkSame_refl {ks : List KA} {vs : List DV} (h : DOk ks vs) (hf : ∀ v ∈ vs, flat v = true) : dkSame ks vs ks vs = true := by
  unfold dkSame
  simp only [beq_self_eq_true, Bool.true_and, List.all_eq_true]
  intro p hp
  rw [look_zip h.nd hp]
  exact hf _ (List.of_mem_zip hp).2
/-- dicts alike, in any order -/
theorem dkSame_of {ks js : List KA} {vs ws : List DV} (h : DOk ks vs) (h2 : ks.length = js.length) (hf : ∀ v ∈ vs, flat v = true) (hl : ∀ k ∈ ks, look js ws k = look ks vs k) : dkSame ks vs js ws = true := by
  unfold dkSame
  rw [h2]
  simp only [beq_self_eq_true, Bool.true_and, List.all_eq_true]
  intro p hp
  rw [hl _ (List.of_mem_zip hp).1, look_zip h.nd hp]
  exact hf _ (List.of_mem_zip hp).2
theorem eq_dk {ks js : List KA} {vs ws : List DV} (h : dkSame ks vs js ws = true) : cmpD .eq (.dk ks vs) (.dk js ws) = some true := by
  unfold cmpD dkCmp
  simp only [if_pos h]
theorem ne_dk {ks js : List KA} {vs ws : List DV} (h : dkSame ks vs js ws = true) : cmpD .ne (.dk ks vs) (.dk js ws) = some false := by
  unfold cmpD dkCmp
  simp only [if_pos h]
section
variable {ks : List KA} {vs : List DV}
@[simp] theorem sub_dk_int {i : Int} : subD (.dk ks vs) (.int i) = look ks vs (.inl i) := by
  show ((some (look ks vs (.inl i))).bind id) = _
  rfl
@[simp] theorem sub_dk_str {s : List Nat} : subD (.dk ks vs) (.str s) = look ks vs (.inr s) := by
  show ((some (look ks vs (.inr s))).bind id) = _
  rfl
@[simp] theorem in_dk_int {i : Int} : cmpD .in_ (.int i) (.dk ks vs) = some (look ks vs (.inl i)).isSome := (rfl)
@[simp] theorem in_dk_str {s : List Nat} : cmpD .in_ (.str s) (.dk ks vs) = some (look ks vs (.inr s)).isSome := by rcases s with _ | ⟨a, _ | ⟨b, t⟩⟩ <;> rfl
@[simp] theorem notin_dk_int {i : Int} : cmpD .notin (.int i) (.dk ks vs) = some (!(look ks vs (.inl i)).isSome) := (rfl)
@[simp] theorem notin_dk_str {s : List Nat} : cmpD .notin (.str s) (.dk ks vs) = some (!(look ks vs (.inr s)).isSome) := by rcases s with _ | ⟨a, _ | ⟨b, t⟩⟩ <;> rfl
end
mutual
theorem deq_refl : ∀ (n : Nat) (x : DV), eqOk n x = true → deq x x = true
  | _, .non, _ => rfl
  | _, .bl b, _ => by simp [deq]
  | _, .int i, _ => by simp [deq]
  | _, .str s, _ => by simp [deq]
  | 0, .tup xs, h => by simp [eqOk] at h
  | 0, .kt xs, h => by simp [eqOk] at h
  | 0, .lst xs, h => by simp [eqOk] at h
  | 0, .kl xs, h => by simp [eqOk] at h
  | n + 1, .tup xs, h => by rw [eqOk] at h; rw [deq]; exact deqs_refl n xs h
  | n + 1, .kt xs, h => by rw [eqOk] at h; rw [deq]; exact deqs_refl n xs h
  | n + 1, .lst xs, h => by rw [eqOk] at h; rw [deq]; exact deqs_refl n xs h
  | n + 1, .kl xs, h => by rw [eqOk] at h; rw [deq]; exact deqs_refl n xs h
  | _, .ref _, h => by simp [eqOk] at h
  | _, .dk _ _, h => by simp [eqOk] at h
  | _, .dt _ _, h => by simp [eqOk] at h
theorem deqs_refl : ∀ (n : Nat) (xs : List DV), eqOks n xs = true → deqs xs xs = true
  | _, [], _ => rfl
  | n, x :: xs, h => by
    rw [eqOks, Bool.and_eq_true] at h
    rw [deqs, deq_refl n x h.1, deqs_refl n xs h.2]
    rfl
end
end Ev

set_option Elab.async false
set_option linter.all false
set_option maxRecDepth 100000
set_option maxHeartbeats 4000000
/-! How the first laws draw: _law_state, _law_draw, _law_one. -/
namespace Ev
namespace DA
open PySem
def drawFn : Fn := { keep := false, np := 2, nn := 5, body := [.asg (.v 2) (.sub (.var 0) (.int 0)),
    .whl (.and (.val (.cmp .gt (.prim .len [.var 2]) (.int 0))) (.val (.cmp .eq (.sub (.var 2) (.int 0)) (.int 0)))) [.ex (.meth .popAt (.var 2) [.int 0])],
    .ite (.val (.cmp .gt (.prim .len [.var 2]) (.int 0))) [.asg (.v 4) (.sub (.var 2) (.int 0)),
    .asg (.sub (.var 2) (.int 0)) (.bin .fdiv (.var 4) (.var 1)),
    .ret (.bin .mod (.prim .int1 [.var 4]) (.var 1))] [],
    .asg (.v 3) (.bin .mod (.prim .int1 [.bin .add (.bin .mul (.sub (.var 0) (.int 1)) (.int 48271)) (.int 12345)]) (.int 2147483647)),
    .asg (.sub (.var 0) (.int 1)) (.var 3),
    .ret (.bin .mod (.prim .int1 [.bin .fdiv (.var 3) (.int 64)]) (.var 1))] }
def oneFn (id : Nat) : Fn := { keep := false, np := 2, nn := 2, body := [.ret (.sub (.var 1) (.call id [.var 0, .prim .len [.var 1]]))] }
variable {F : Nat → List DV → Nat → Mem → Out DV} {cs : List DV} {P : List Fn} {id : Nat}
structure SA where
  c : List Int
  s : Int
  h : c.length < 1000
def c0 (p : SA) : Cell := .c (.lst (p.c.map .int))
def c1 (p : SA) : Cell := .c (.lst [.ref 0, .int p.s])
def dz : List Int → List Int
  | [] => []
  | x :: r => if x = 0 then dz r else x :: r
def mix (s : Int) : Int := (s * 48271 + 12345).fmod 2147483647
def got (p : SA) (size : Int) : Int := match dz p.c with
  | [] => ((mix p.s).fdiv 64).fmod size
  | v :: _ => v.fmod size
theorem dz_len : ∀ xs : List Int, (dz xs).length ≤ xs.length
  | [] => Nat.le_refl _
  | x :: r => by
    unfold dz
    split
    · exact Nat.le_succ_of_le (dz_len r)
    · exact Nat.le_refl _
def nxt (p : SA) (size : Int) : SA := match e : dz p.c with
  | [] => ⟨[], mix p.s, by decide⟩
  | v :: r => ⟨v.fdiv size :: r, p.s, by have := dz_len p.c; rw [e] at this; have := p.h; simp only [List.length_cons] at *; omega⟩
theorem nxt_nil {p : SA} {size : Int} (e : dz p.c = []) : nxt p size = ⟨[], mix p.s, by decide⟩ := by
  unfold nxt; split
  · rfl
  · rename_i h; rw [e] at h; cases h
theorem nxt_cons {p : SA} {size v : Int} {r : List Int} (e : dz p.c = v :: r) : (nxt p size).c = v.fdiv size :: r ∧ (nxt p size).s = p.s := by
  unfold nxt; split
  · rename_i h; rw [e] at h; cases h
  · rename_i h; rw [e] at h; cases h; exact ⟨rfl, rfl⟩
theorem got_nn {p : SA} {size : Int} (h : 0 < size) : 0 ≤ got p size := by
  unfold got; split <;> exact Int.fmod_nonneg_of_pos _ h
theorem got_lt {p : SA} {size : Int} (h : 0 < size) : got p size < size := by
  unfold got; split <;> exact Int.fmod_lt_of_pos _ h
def DJ (p : SA) (size : Int) (m : Mem) (n : Nat) (env : Env') (mm : Mem) : Prop := ∃ zs : List Int, zs.length = n ∧ dz zs = dz p.c ∧ env = [some (.ref 1), some (.int size), some (.ref 0), none, none] ∧ mm = .c (.lst (zs.map .int)) :: c1 p :: m
theorem dz_nz {xs : List Int} {v : Int} {r : List Int} (h : dz xs = v :: r) : v ≠ 0 := by
  induction xs with
  | nil => cases h
  | cons x xs ih =>
    unfold dz at h
    split at h
    · exact ih h
    · injection h with h _; subst h; assumption
theorem draw_eq (hd : P[id]? = some drawFn) (d : Nat) (p : SA) {size : Int} (h1 : 0 < size) (h2 : size < 2 ^ 30) (b : Nat) (m : Mem) :
    evCall cs P (d + 1) id [.ref 1, .int size] b (c0 p :: c1 p :: m) = .ok (.int (got p size)) (c0 (nxt p size) :: c1 (nxt p size) :: m) := by
  refine call_rule (Q := fun r => r = .ok _ (c0 (nxt p size) :: c1 (nxt p size) :: m)) hd rfl rfl ?_
  have hz : size ≠ 0 := by omega
  have hdv : ∀ {x : Int}, L2.CDivN x size := ⟨hz, by omega⟩
  simp [-WB_cons, drawFn, c0, c1]
  rw [WB_cons]
  simp [-WB_cons]
  rw [WB_cons]
  refine whl_rule (DJ p size m) p.c.length (by have := p.h; omega) ⟨p.c, rfl, rfl, rfl, rfl⟩ ?_
  rintro n env mm ⟨zs, e1, e2, rfl, rfl⟩
  cases zs with
  | nil =>
    simp [c1]
    have e3 : dz p.c = [] := e2.symm
    have g1 : got p size = ((mix p.s).fdiv 64).fmod size := by unfold got; rw [e3]
    have g2 := nxt_nil (size := size) e3
    have hd64 : ∀ {x : Int}, L2.CDivN x 64 := ⟨by decide, by decide⟩
    simp [g1, g2, mix, hz, L2.CMul, hd64]
  | cons z zs =>
    have hi : L2.ixN (zs.length + 1) 0 = some 0 := by unfold L2.ixN; simp
    by_cases h0 : z = 0
    · subst h0
      simp [c1, popAtC_lst, hi]
      refine ⟨zs.length, by simp only [List.length_cons] at e1; omega, zs, rfl, ?_, rfl, rfl⟩
      rw [← e2]; rw [dz, if_pos rfl]
    · have e3 : dz p.c = z :: zs := by rw [← e2, dz, if_neg h0]
      have g1 : got p size = z.fmod size := by unfold got; rw [e3]
      obtain ⟨g2, g3⟩ := nxt_cons (size := size) e3
      simp [c1, g1, g2, g3, hz, hdv, h0, hi]
theorem noRefs_mem : ∀ {xs : List DV}, noRefs xs = true → ∀ x ∈ xs, noRef x = true
  | [], _ => fun x hx => by cases hx
  | y :: ys, h => fun x hx => by
    unfold noRefs at h
    rw [Bool.and_eq_true] at h
    rcases List.mem_cons.mp hx with rfl | hx
    · exact h.1
    · exact noRefs_mem h.2 x hx
/-- one of some -/
def pk (p : SA) (xs : List DV) : DV := (xs[(got p xs.length).toNat]?).getD .non
theorem pk_at {p : SA} {xs : List DV} (h : xs ≠ []) : xs[(got p xs.length).toNat]? = some (pk p xs) := by
  have hl : 0 < (xs.length : Int) := by have := List.length_pos_iff.mpr h; omega
  have h1 := got_nn (p := p) hl
  have h2 := got_lt (p := p) hl
  unfold pk
  rw [List.getElem?_eq_getElem (by omega)]; rfl
theorem pk_mem {p : SA} {xs : List DV} (h : xs ≠ []) : pk p xs ∈ xs := List.mem_of_getElem? (pk_at h)
theorem one_eq (hd : P[id]? = some drawFn) {i1 : Nat} (hi : P[i1]? = some (oneFn id)) (d : Nat) (p : SA) {xs : List DV} (h : xs ≠ []) (h2 : xs.length < 2 ^ 30) (hn : noRefs xs = true) (b : Nat) (m : Mem) :
    evCall cs P (d + 2) i1 [.ref 1, .lst xs] b (c0 p :: c1 p :: m) = .ok (pk p xs) (c0 (nxt p xs.length) :: c1 (nxt p xs.length) :: m) := by
  have hl : 0 < (xs.length : Int) := by have := List.length_pos_iff.mpr h; omega
  have D := draw_eq (cs := cs) hd d p (size := xs.length) hl (by omega)
  refine call_rule (Q := fun r => r = .ok _ (c0 (nxt p xs.length) :: c1 (nxt p xs.length) :: m)) hi rfl rfl ?_
  have h1 := got_nn (p := p) hl
  have h3 : noRef (pk p xs) = true := noRefs_mem hn _ (pk_mem h)
  simp [oneFn, D, atI_nn h1, pk_at h, h3]
end DA
end Ev

set_option Elab.async false
set_option linter.all false
set_option maxRecDepth 100000
set_option maxHeartbeats 4000000
/-! _law_state, by its text. -/
namespace Ev
namespace DA
open PySem
def stateFn : Fn := { keep := true, np := 1, nn := 3, body := [.asg (.v 1) (.int 7),
    .for (some 0) (.v 2) (.seq (.var 0)) [.asg (.v 1) (.bin .mod (.prim .int1 [.bin .add (.bin .mul (.var 1) (.int 31)) (.var 2)]) (.int 1000003))],
    .ret (.lstM [.comp (some 0) true [2] (.v 2) (.seq (.var 0)) [] (.prim .abs [.var 2]), .bin .add (.var 1) (.int 1)])] }
variable {cs : List DV} {P : List Fn} {id : Nat}
def absD : DV → DV
  | .int i => .int (if i < 0 then -i else i)
  | d => d
theorem abs_map : ∀ ns : List Int, (ns.map DV.int).map absD = (ns.map fun i => if i < 0 then -i else i).map DV.int
  | [] => rfl
  | n :: ns => by rw [List.map_cons, List.map_cons, abs_map ns]; rfl
def StJ (ns : List Int) (i : Nat) (env : Env') (mm : Mem) : Prop := ∃ (s : Int) (e2 : Option DV), env = [some (.kl (ns.map .int)), some (.int s), e2] ∧ mm = []
def StQ (z : Out DV) : Prop := ∃ p : SA, z = .ok (.ref 1) [c0 p, c1 p]
theorem state_ex (hP : P[id]? = some stateFn) {ns : List Int} (hn : ns.length ≤ 63) (d b : Nat) : StQ (evCall cs P (d + 1) id [.kl (ns.map .int)] b []) := by
  refine call_ruleK hP rfl rfl ?_
  simp [-WB_cons, stateFn]
  rw [WB_cons]
  simp [-WB_cons]
  rw [WB_cons]
  simp [-WB_cons]
  refine for_rule (StJ ns) ⟨7, none, rfl, rfl⟩ ?_ ?_
  · rintro i dv env mm hi ⟨s, e2, rfl, rfl⟩
    obtain ⟨n, _, rfl⟩ := List.mem_map.mp (List.mem_of_getElem? hi)
    have hm : L2.CMul s 31 := .inr (by decide)
    simp [hm]
    exact ⟨_, _, rfl, rfl⟩
  · rintro env mm ⟨s, e2, rfl, rfl⟩
    simp
    refine comp_map absD (fun dv hd => ?_) ?_
    · obtain ⟨n, _, rfl⟩ := List.mem_map.mp hd
      simp [absD]
    · rw [abs_map]
      simp
      exact ⟨⟨ns.map fun i => if i < 0 then -i else i, s + 1, by rw [List.length_map]; omega⟩, by simp [c0, c1]⟩
end DA
end Ev

set_option Elab.async false
set_option linter.all false
set_option maxRecDepth 100000
set_option maxHeartbeats 1000000
/-! Rows of terms and numbers, sorted; dicts of them. -/
namespace Ev
namespace SU
open PySem
abbrev T := List Nat × List Nat
def tK (t : T) : List KA := [.inr t.1, .inr t.2]
def tD (t : T) : DV := .tup [.str t.1, .str t.2]
def rowD (r : T × Int) : DV := .tup [tD r.1, .int r.2]
theorem tK_inj {a b : T} (h : tK a = tK b) : a = b := by
  obtain ⟨a1, a2⟩ := a
  obtain ⟨b1, b2⟩ := b
  simp [tK] at h
  simp [h.1, h.2]
theorem kt_tD (t : T) : ktOf (tD t) = some (tK t) := rfl
theorem tD_tK (t : T) : DV.tup ((tK t).map ofKa) = tD t := rfl
def dks (L : List (T × Int)) : List (List KA) := L.map fun r => tK r.1
def dvs (L : List (T × Int)) : List DV := L.map fun r => .int r.2
def keys (L : List (T × Int)) : List T := L.map (·.1)
abbrev ND (L : List (T × Int)) : Prop := (keys L).Nodup
/-- a term's number -/
def val : List (T × Int) → T → Int
  | [], _ => 0
  | r :: L, s => (if r.1 = s then r.2 else 0) + val L s
def up (L : List (T × Int)) (t : T) (c : Int) : List (T × Int) := if t ∈ keys L then L.map (fun r => if r.1 = t then (r.1, c) else r) else L ++ [(t, c)]
theorem dks_mem {L : List (T × Int)} {t : T} : tK t ∈ dks L ↔ t ∈ keys L := by
  unfold dks keys
  constructor
  · intro h
    obtain ⟨r, h1, h2⟩ := List.mem_map.mp h
    exact List.mem_map.mpr ⟨r, h1, tK_inj h2⟩
  · intro h
    obtain ⟨r, h1, h2⟩ := List.mem_map.mp h
    exact List.mem_map.mpr ⟨r, h1, by rw [h2]⟩
theorem val_out : ∀ {L : List (T × Int)} {t : T}, t ∉ keys L → val L t = 0
  | [], _, _ => rfl
  | r :: L, t, h => by
    simp only [keys, List.map_cons, List.mem_cons, not_or] at h
    rw [val, if_neg (Ne.symm h.1), val_out h.2]
    rfl
theorem val_app : ∀ {L M : List (T × Int)} {t : T}, val (L ++ M) t = val L t + val M t
  | [], M, t => by simp [val]
  | r :: L, M, t => by rw [List.cons_append, val, val, val_app]; omega
theorem look_val : ∀ {L : List (T × Int)} (t : T), ND L → (look (dks L) (dvs L) (tK t)).getD (.int 0) = .int (val L t)
  | [], _, _ => rfl
  | r :: L, t, h => by
    simp only [ND, keys, List.map_cons, List.nodup_cons] at h
    show (if tK r.1 = tK t then some (DV.int r.2) else look (dks L) (dvs L) (tK t)).getD _ = _
    rw [val]
    by_cases e : r.1 = t
    · subst e
      rw [if_pos rfl, if_pos rfl, val_out (L := L) h.1]
      simp
    · rw [if_neg fun z => e (tK_inj z), if_neg e, look_val t h.2]
      simp
theorem look_at {L : List (T × Int)} {t : T} (h : ND L) (ht : t ∈ keys L) : look (dks L) (dvs L) (tK t) = some (.int (val L t)) := by
  obtain ⟨v, hv⟩ := look_some (vs := dvs L) (by simp [dks, dvs]) (dks_mem.mpr ht)
  have := look_val t h
  rw [hv] at this ⊢
  simpa using this
theorem put_k {L : List (T × Int)} {t : T} {c : Int} : putK' (dks L) (tK t) = dks (up L t c) := by
  unfold putK' up
  by_cases h : t ∈ keys L
  · rw [if_pos h, if_pos (dks_mem.mpr h)]
    unfold dks
    rw [List.map_map]
    refine List.map_congr_left fun r _ => ?_
    simp only [Function.comp]
    split <;> rfl
  · rw [if_neg h, if_neg fun z => h (dks_mem.mp z)]
    simp [dks]
theorem rep_v : ∀ {L : List (T × Int)} {t : T} {c : Int}, repV (dks L) (dvs L) (tK t) (.int c) = dvs (L.map fun r => if r.1 = t then (r.1, c) else r)
  | [], _, _ => rfl
  | r :: L, t, c => by
    show (if tK r.1 = tK t then DV.int c else .int r.2) :: repV (dks L) (dvs L) (tK t) (.int c) = _
    rw [rep_v]
    by_cases e : r.1 = t
    · rw [if_pos (by rw [e])]; simp [dvs, e]
    · rw [if_neg fun z => e (tK_inj z)]; simp [dvs, e]
theorem put_v {L : List (T × Int)} {t : T} {c : Int} : putV (dks L) (dvs L) (tK t) (.int c) = dvs (up L t c) := by
  unfold putV up
  by_cases h : t ∈ keys L
  · rw [if_pos h, if_pos (dks_mem.mpr h), rep_v]
  · rw [if_neg h, if_neg fun z => h (dks_mem.mp z)]
    simp [dvs]
theorem up_keys {L : List (T × Int)} {t : T} {c : Int} : keys (up L t c) = if t ∈ keys L then keys L else keys L ++ [t] := by
  unfold up
  by_cases h : t ∈ keys L
  · rw [if_pos h, if_pos h]
    unfold keys
    rw [List.map_map]
    refine List.map_congr_left fun r _ => ?_
    simp only [Function.comp]
    split <;> rfl
  · rw [if_neg h, if_neg h]; simp [keys]
theorem up_nd {L : List (T × Int)} {t : T} {c : Int} (h : ND L) : ND (up L t c) := by
  unfold ND
  rw [up_keys]
  split
  · exact h
  · rename_i ht
    refine List.nodup_append.mpr ⟨h, by simp, fun a ha b hb e => ht ?_⟩
    rw [List.mem_singleton.mp hb] at e
    exact e ▸ ha
theorem up_len {L : List (T × Int)} {t : T} {c : Int} : (up L t c).length ≤ L.length + 1 := by
  unfold up
  split <;> simp
theorem val_map : ∀ {L : List (T × Int)} {t s : T} {c : Int}, ND L → val (L.map fun r => if r.1 = t then (r.1, c) else r) s = if s = t ∧ t ∈ keys L then c else val L s
  | [], t, s, c, _ => by simp [val, keys]
  | r :: L, t, s, c, h => by
    simp only [ND, keys, List.map_cons, List.nodup_cons] at h
    rw [List.map_cons, val, val, val_map h.2]
    by_cases e : r.1 = t
    · subst e
      rw [if_pos rfl]
      by_cases e2 : s = r.1
      · subst e2
        have h1 := val_out (L := L) h.1
        have h3 : r.1 ∉ keys L := h.1
        have h4 : r.1 ∈ keys (r :: L) := List.mem_cons_self
        rw [if_pos (show (r.1, c).1 = r.1 from rfl), if_neg (fun z => h3 z.2), if_pos ⟨rfl, h4⟩]; omega
      · simp [e2, Ne.symm e2]
    · rw [if_neg e]
      by_cases e2 : s = t
      · subst e2
        by_cases e3 : s ∈ keys L
        · have : s ∈ keys (r :: L) := List.mem_cons_of_mem _ e3
          simp [e, e3, this]
        · have : s ∉ keys (r :: L) := fun z => by
            rcases List.mem_cons.mp z with z | z
            · exact e z.symm
            · exact e3 z
          simp [e, e3, this]
      · simp [e2]
theorem val_up {L : List (T × Int)} {t s : T} {c : Int} (h : ND L) : val (up L t c) s = if s = t then c else val L s := by
  unfold up
  by_cases ht : t ∈ keys L
  · rw [if_pos ht, val_map h]
    by_cases e : s = t <;> simp [e, ht]
  · rw [if_neg ht, val_app]
    by_cases e : s = t
    · subst e
      rw [val_out ht]
      simp [val]
    · simp [val, e, Ne.symm e]
/-! ### the order -/
def leR (a b : T × Int) : Bool := !dlt (rowD b) (rowD a)
theorem dle_trans : ∀ a b c : DV, (!dlt b a) = true → (!dlt c b) = true → (!dlt c a) = true := by
  intro a b c h1 h2
  simp only [Bool.not_eq_true', dlt] at *
  cases h : PyProof.Rows.lexLt PyProof.Rows.itemOrd (dtoks c) (dtoks a) with
  | false => rfl
  | true =>
    rcases PyProof.Rows.lex_negTrans _ (dtoks b) _ h with h | h
    · rw [h2] at h; cases h
    · rw [h1] at h; cases h
theorem dle_total : ∀ a b : DV, ((!dlt b a) || (!dlt a b)) = true := by
  intro a b
  simp only [dlt]
  cases h : PyProof.Rows.lexLt PyProof.Rows.itemOrd (dtoks b) (dtoks a) with
  | false => rfl
  | true =>
    cases h2 : PyProof.Rows.lexLt PyProof.Rows.itemOrd (dtoks a) (dtoks b) with
    | false => rfl
    | true =>
      have := PyProof.Rows.lex_trans _ _ _ h h2
      rw [PyProof.Rows.lex_irrefl] at this
      cases this
theorem toks_row (r : T × Int) : dtoks (rowD r) = [.inl 1, .inl 1, .inr r.1.1, .inl 1, .inr r.1.2, .inl 0, .inl 1, .inl r.2, .inl 0] := by
  simp [rowD, tD, dtoks, dtokss]
theorem leR_antisymm {a b : T × Int} (h1 : leR a b = true) (h2 : leR b a = true) : a = b := by
  simp only [leR, Bool.not_eq_true', dlt] at h1 h2
  have := PyProof.Rows.lex_total _ _ h2 h1
  rw [toks_row, toks_row] at this
  obtain ⟨⟨a1, a2⟩, a3⟩ := a
  obtain ⟨⟨b1, b2⟩, b3⟩ := b
  simp at this
  obtain ⟨rfl, rfl, rfl⟩ := this
  rfl
theorem leR_trans (a b c : T × Int) (h1 : leR a b = true) (h2 : leR b c = true) : leR a c = true := dle_trans _ _ _ h1 h2
theorem leR_total (a b : T × Int) : (leR a b || leR b a) = true := dle_total _ _
def srt (L : List (T × Int)) : List (T × Int) := L.mergeSort leR
theorem srt_perm (L : List (T × Int)) : (srt L).Perm L := List.mergeSort_perm _ _
theorem srt_eq {L M : List (T × Int)} (h : L.Perm M) : srt L = srt M :=
  List.Perm.eq_of_pairwise (le := fun a b => leR a b = true) (fun _ _ _ _ h1 h2 => leR_antisymm h1 h2) (List.pairwise_mergeSort leR_trans leR_total _) (List.pairwise_mergeSort leR_trans leR_total _) (((List.mergeSort_perm _ _).trans h).trans (List.mergeSort_perm _ _).symm)
theorem all_ok {α : Type} {p : α → Bool} {xs : List α} (h : ∀ x ∈ xs, p x = true) : xs.all p = true := List.all_eq_true.mpr h
theorem row_alike (a b : T × Int) : dalike (rowD a) (rowD b) = true := by simp [rowD, tD, dalike, dalikes]
theorem row_ok (a : T × Int) (n : Nat) : eqOk (n + 2) (rowD a) = true := by simp [rowD, tD, eqOk, eqOks]
theorem row_nr (a : T × Int) : noRef (rowD a) = true := by simp [rowD, tD, noRefs]
theorem sorted_rows (L : List (T × Int)) : dsort (L.map rowD) = some ((srt L).map rowD) := by
  have hc : (((L.map rowD).all isTupNE || (L.map rowD).all isFlatS) && (L.map rowD).all (eqOk 64) && (L.map rowD).all (fun a => (L.map rowD).all (dalike a))) = true := by
    rw [all_ok (p := isTupNE) fun x hx => by obtain ⟨z, _, rfl⟩ := List.mem_map.mp hx; rfl,
      all_ok (p := eqOk 64) fun x hx => by obtain ⟨z, _, rfl⟩ := List.mem_map.mp hx; exact row_ok z 62,
      all_ok (p := fun a => (L.map rowD).all (dalike a)) fun x hx => all_ok fun y hy => by
        obtain ⟨z, _, rfl⟩ := List.mem_map.mp hx
        obtain ⟨z2, _, rfl⟩ := List.mem_map.mp hy
        exact row_alike z z2]
    rfl
  unfold dsort
  rw [if_pos hc]
  congr 1
  exact (List.map_mergeSort (r := leR) (s := fun a b => !dlt b a) (f := rowD) (fun a _ b _ => rfl)).symm
theorem rows_nr (L : List (T × Int)) : noRefs (L.map rowD) = true := noRefs_all fun x hx => by obtain ⟨y, _, rfl⟩ := List.mem_map.mp hx; exact row_nr y
/-! ### sums -/
abbrev nz (L : List (T × Int)) : List (T × Int) := L.filter fun r => decide (r.2 ≠ 0)
theorem val_mem : ∀ {L : List (T × Int)} {r : T × Int}, ND L → r ∈ L → val L r.1 = r.2
  | q :: L, r, h, hr => by
    simp only [ND, keys, List.map_cons, List.nodup_cons] at h
    rw [val]
    rcases List.mem_cons.mp hr with rfl | hr
    · rw [if_pos rfl, val_out (L := L) h.1]; omega
    · have : q.1 ≠ r.1 := fun e => h.1 (e ▸ List.mem_map.mpr ⟨r, hr, rfl⟩)
      rw [if_neg this, val_mem h.2 hr]; omega
theorem mem_val : ∀ {L : List (T × Int)} {t : T}, val L t ≠ 0 → ∃ c, (t, c) ∈ L
  | [], t, h => absurd rfl h
  | q :: L, t, h => by
    rw [val] at h
    by_cases e : q.1 = t
    · exact ⟨q.2, by rw [← e]; exact List.mem_cons_self⟩
    · rw [if_neg e, Int.zero_add] at h
      obtain ⟨c, hc⟩ := mem_val h
      exact ⟨c, List.mem_cons_of_mem _ hc⟩
theorem nz_val {L : List (T × Int)} (h : ND L) (t : T) : val (nz L) t = val L t := by
  induction L with
  | nil => rfl
  | cons r L ih =>
    have h' := h
    simp only [ND, keys, List.map_cons, List.nodup_cons] at h
    have ih := ih h.2
    by_cases e : r.2 = 0
    · have : nz (r :: L) = nz L := by simp [nz, List.filter_cons, e]
      rw [this, ih, val, e]; split <;> omega
    · have : nz (r :: L) = r :: nz L := by simp [nz, List.filter_cons, e]
      rw [this, val, val, ih]
theorem nz_nd {L : List (T × Int)} (h : ND L) : ND (nz L) := h.sublist (List.Sublist.map _ List.filter_sublist)
theorem nodup_of_nd {L : List (T × Int)} (h : ND L) : L.Nodup := by
  unfold ND keys at h
  rw [List.nodup_iff_pairwise_ne, List.pairwise_map] at h
  rw [List.nodup_iff_pairwise_ne]
  exact h.imp fun {a b} hab e => hab (by rw [e])
theorem perm_of {L M : List (T × Int)} (hl : ND L) (hm : ND M) (hz : ∀ r ∈ L, r.2 ≠ 0) (hz2 : ∀ r ∈ M, r.2 ≠ 0) (hv : ∀ t, val L t = val M t) : L.Perm M := by
  refine (List.perm_ext_iff_of_nodup (nodup_of_nd hl) (nodup_of_nd hm)).mpr fun r => ⟨fun h => ?_, fun h => ?_⟩
  · have h1 := val_mem hl h
    obtain ⟨c, hc⟩ := mem_val (L := M) (t := r.1) (by rw [← hv, h1]; exact hz r h)
    have h2 := val_mem hm hc
    rw [← hv, h1] at h2
    obtain ⟨r1, r2⟩ := r
    simp only at h2 hc
    rw [h2]; exact hc
  · have h1 := val_mem hm h
    obtain ⟨c, hc⟩ := mem_val (L := L) (t := r.1) (by rw [hv, h1]; exact hz2 r h)
    have h2 := val_mem hl hc
    rw [hv, h1] at h2
    obtain ⟨r1, r2⟩ := r
    simp only at h2 hc
    rw [h2]; exact hc
/-- the rows L, each term once, none 0 times, sorted: what the numbers f tell -/
structure Can (k : Nat) (L : List (T × Int)) (f : T → Int) : Prop where
  nd : ND L
  nz : ∀ r ∈ L, r.2 ≠ 0
  so : srt L = L
  v : ∀ t, val L t = f t
  l : L.length ≤ k
theorem Can.uniq {k j : Nat} {L M : List (T × Int)} {f : T → Int} (a : Can k L f) (b : Can j M f) : L = M := by
  rw [← a.so, ← b.so]
  exact srt_eq (perm_of a.nd b.nd a.nz b.nz fun t => by rw [a.v, b.v])
theorem val_perm {L M : List (T × Int)} (h : L.Perm M) (t : T) : val L t = val M t := by
  induction h with
  | nil => rfl
  | cons x _ ih => rw [val, val, ih]
  | swap x y l => simp only [val]; omega
  | trans _ _ i1 i2 => exact i1.trans i2
theorem srt_srt (L : List (T × Int)) : srt (srt L) = srt L := srt_eq (srt_perm L)
theorem nd_perm {L M : List (T × Int)} (h : L.Perm M) (hl : ND L) : ND M := (show (L.map fun r => r.1).Perm (M.map fun r => r.1) from h.map _).nodup hl
theorem Can.of {L : List (T × Int)} {f : T → Int} {k : Nat} (h : ND L) (hv : ∀ t, val L t = f t) (hl : L.length ≤ k) : Can k (srt (SU.nz L)) f where
  nd := nd_perm (srt_perm _).symm (nz_nd h)
  nz := fun r hr => by
    have := (srt_perm _).mem_iff.mp hr
    simpa using (List.mem_filter.mp this).2
  so := srt_srt _
  v t := by rw [val_perm (srt_perm _), nz_val h, hv]
  l := by
    rw [(srt_perm _).length_eq]
    exact Nat.le_trans (List.length_filter_le _ _) hl
def sumD (n : Int) (L : List (T × Int)) : DV := .tup [.int n, .kt (L.map rowD)]
/-- d is the sum n and f -/
def IsSum (k : Nat) (d : DV) (n : Int) (f : T → Int) : Prop := ∃ L, Can k L f ∧ d = sumD n L
theorem IsSum.uniq {k j : Nat} {d e : DV} {n : Int} {f : T → Int} (a : IsSum k d n f) (b : IsSum j e n f) : d = e := by
  obtain ⟨L, h1, rfl⟩ := a
  obtain ⟨M, h2, rfl⟩ := b
  rw [h1.uniq h2]
theorem IsSum.cg {k : Nat} {d : DV} {n m : Int} {f g : T → Int} (a : IsSum k d n f) (h : n = m) (h2 : ∀ t, f t = g t) : IsSum k d m g := by
  obtain rfl : f = g := funext h2
  exact h ▸ a
theorem IsSum.mono {k j : Nat} {d : DV} {n : Int} {f : T → Int} (a : IsSum k d n f) (h : k ≤ j) : IsSum j d n f := by
  obtain ⟨L, h1, rfl⟩ := a
  exact ⟨L, { h1 with l := Nat.le_trans h1.l h }, rfl⟩
theorem IsSum.nr {k : Nat} {d : DV} {n : Int} {f : T → Int} (a : IsSum k d n f) : noRef d = true := by
  obtain ⟨L, _, rfl⟩ := a
  simp [sumD, noRefs, noRef, rows_nr]
theorem rows_ok (L : List (T × Int)) (n : Nat) : eqOks (n + 2) (L.map rowD) = true := by
  induction L with
  | nil => simp [eqOks]
  | cons r L ih => rw [List.map_cons, eqOks, row_ok, ih]; rfl
theorem IsSum.ok {k : Nat} {d : DV} {n : Int} {f : T → Int} (a : IsSum k d n f) (m : Nat) : eqOk (m + 4) d = true := by
  obtain ⟨L, _, rfl⟩ := a
  simp [sumD, eqOk, eqOks, rows_ok]
/-- the scaled rows -/
theorem val_scale (L : List (T × Int)) (c : Int) (t : T) : val (L.map fun r => (r.1, r.2 * c)) t = val L t * c := by
  induction L with
  | nil => simp [val]
  | cons r L ih =>
    rw [List.map_cons, val, val, ih, Int.add_mul]
    split <;> simp
def lx (a b : List (Int ⊕ List Nat)) : Bool := PyProof.Rows.lexLt PyProof.Rows.itemOrd a b
theorem lexI (x y : Int ⊕ List Nat) (r t : List (Int ⊕ List Nat)) : lx (x :: r) (y :: t) = (PyProof.Rows.itemLt x y || (!PyProof.Rows.itemLt y x && lx r t)) := PyProof.Rows.lex_cons (O := PyProof.Rows.itemOrd) x y r t
/-- the order of rows with unlike terms is the terms' one -/
theorem leR_any {s t : T} (h : s ≠ t) (c d c' d' : Int) : leR (s, c) (t, d) = leR (s, c') (t, d') := by
  obtain ⟨s1, s2⟩ := s
  obtain ⟨t1, t2⟩ := t
  unfold leR dlt
  rw [toks_row, toks_row, toks_row, toks_row]
  show (!lx _ _) = (!lx _ _)
  simp only [lexI]
  have i1 : ∀ z : Int, PyProof.Rows.itemLt (.inl z) (.inl z) = false := fun z => PyProof.Rows.itemOrd.irrefl (Sum.inl z : Int ⊕ List Nat)
  simp only [i1, Bool.false_or, Bool.not_false, Bool.true_and]
  by_cases e : s1 = t1
  · subst e
    have e2 : s2 ≠ t2 := fun z => h (by rw [z])
    have i2 : PyProof.Rows.itemLt (.inr s1) (.inr s1) = false := PyProof.Rows.itemOrd.irrefl (Sum.inr s1 : Int ⊕ List Nat)
    simp only [i2, Bool.false_or, Bool.not_false, Bool.true_and]
    cases h1 : PyProof.Rows.itemLt (.inr t2) (.inr s2) with
    | true => rfl
    | false =>
      cases h2 : PyProof.Rows.itemLt (.inr s2) (.inr t2) with
      | true => rfl
      | false =>
        have := PyProof.Rows.itemOrd.total (Sum.inr t2 : Int ⊕ List Nat) (Sum.inr s2) h1 h2
        exact absurd (Sum.inr.inj this).symm e2
  · cases h1 : PyProof.Rows.itemLt (.inr t1) (.inr s1) with
    | true => rfl
    | false =>
      cases h2 : PyProof.Rows.itemLt (.inr s1) (.inr t1) with
      | true => rfl
      | false =>
        have := PyProof.Rows.itemOrd.total (Sum.inr t1 : Int ⊕ List Nat) (Sum.inr s1) h1 h2
        exact absurd (Sum.inr.inj this).symm e
theorem srt_of {L : List (T × Int)} (h : L.Pairwise fun a b => leR a b = true) : srt L = L := List.mergeSort_of_pairwise h
theorem srt_pw {L : List (T × Int)} (h : srt L = L) : L.Pairwise fun a b => leR a b = true := by
  rw [← h]
  exact List.pairwise_mergeSort leR_trans leR_total _
/-- rows by other numbers under the same terms stay sorted -/
theorem Can.map {k : Nat} {L : List (T × Int)} {f g : T → Int} (a : Can k L f) (h : T × Int → Int) (hz : ∀ r ∈ L, h r ≠ 0) (hv : ∀ t, val (L.map fun r => (r.1, h r)) t = g t) : Can k (L.map fun r => (r.1, h r)) g where
  nd := by
    have := a.nd
    unfold ND keys at this ⊢
    rw [List.map_map]
    exact this
  nz := fun r hr => by
    obtain ⟨q, hq, rfl⟩ := List.mem_map.mp hr
    exact hz q hq
  so := by
    refine srt_of ?_
    rw [List.pairwise_map]
    have h1 := srt_pw a.so
    have h2 : L.Pairwise fun a b => a.1 ≠ b.1 := by
      have := a.nd
      unfold ND keys at this
      rwa [List.nodup_iff_pairwise_ne, List.pairwise_map] at this
    refine (h1.and h2).imp fun {x y} ⟨p, q⟩ => ?_
    rw [leR_any q (h x) (h y) x.2 y.2]
    exact p
  v := hv
  l := by rw [List.length_map]; exact a.l
theorem Can.scale {k : Nat} {L : List (T × Int)} {f : T → Int} (a : Can k L f) {c : Int} (hc : c ≠ 0) : Can k (L.map fun r => (r.1, r.2 * c)) fun t => f t * c :=
  a.map (fun r => r.2 * c) (fun r hr => Int.mul_ne_zero (a.nz r hr) hc) fun t => by rw [val_scale, a.v]
/-! ### adding -/
def add (D : List (T × Int)) (r : T × Int) : List (T × Int) := up D r.1 (val D r.1 + r.2)
def addAll (D L : List (T × Int)) : List (T × Int) := L.foldl add D
theorem add_nd {D : List (T × Int)} {r : T × Int} (h : ND D) : ND (add D r) := up_nd h
theorem add_val {D : List (T × Int)} {r : T × Int} (h : ND D) (s : T) : val (add D r) s = val D s + (if r.1 = s then r.2 else 0) := by
  unfold add
  rw [val_up h]
  by_cases e : s = r.1
  · subst e; simp
  · rw [if_neg e, if_neg (Ne.symm e)]; omega
theorem add_len {D : List (T × Int)} {r : T × Int} : (add D r).length ≤ D.length + 1 := up_len
theorem addAll_ok : ∀ (L : List (T × Int)) {D : List (T × Int)}, ND D → ND (addAll D L) ∧ (∀ s, val (addAll D L) s = val D s + val L s) ∧ (addAll D L).length ≤ D.length + L.length
  | [], D, h => ⟨h, fun s => by simp [addAll, val], by simp [addAll]⟩
  | r :: L, D, h => by
    obtain ⟨h1, h2, h3⟩ := addAll_ok L (add_nd (r := r) h)
    refine ⟨h1, fun s => ?_, ?_⟩
    · show val (addAll (add D r) L) s = _
      rw [h2, add_val h, val]; omega
    · show (addAll (add D r) L).length ≤ _
      have := add_len (D := D) (r := r)
      simp only [List.length_cons]; omega
theorem addAll_take {D L : List (T × Int)} {i : Nat} {r : T × Int} (h : L[i]? = some r) : addAll D (L.take (i + 1)) = add (addAll D (L.take i)) r := by
  unfold addAll
  rw [List.take_add_one, h, List.foldl_append]
  rfl
theorem Can.mk_dt {k : Nat} {L : List (T × Int)} {f : T → Int} (a : Can k L f) : mkDt (L.map rowD) [] [] = some (.dt (dks L) (dvs L)) := by
  have key : ∀ (L D : List (T × Int)), ND (D ++ L) → mkDt (L.map rowD) (dks D) (dvs D) = some (.dt (dks (D ++ L)) (dvs (D ++ L))) := by
    intro L
    induction L with
    | nil => intro D _; simp [mkDt]
    | cons r L ih =>
      intro D h
      have h2 : r.1 ∉ keys D := by
        unfold ND keys at h
        rw [List.map_append, List.nodup_append] at h
        exact fun z => h.2.2 _ z _ List.mem_cons_self rfl
      have e : up D r.1 r.2 = D ++ [r] := by unfold up; rw [if_neg h2]
      show (pairD (rowD r)).bind _ = _
      show mkDt (L.map rowD) (putK' (dks D) (tK r.1)) (putV (dks D) (dvs D) (tK r.1) (.int r.2)) = _
      rw [put_k (c := r.2), put_v, e, ih (D ++ [r]) (by simpa using h)]
      simp
  exact key L [] (by simpa using a.nd)
theorem Can.nil (k : Nat) : Can k [] fun _ => 0 := ⟨List.nodup_nil, by simp, srt_of .nil, fun _ => rfl, by simp⟩
def single (t : T) (c : Int) : T → Int := fun s => if t = s then c else 0
theorem Can.one {t : T} {c : Int} (h : c ≠ 0) : Can 1 [(t, c)] (single t c) := ⟨by simp [ND, keys], by simp [h], srt_of (List.pairwise_singleton _ _), fun s => by simp [val, single], by simp⟩
theorem dD_pairs (L : List (T × Int)) : pairs ((dks L).map fun k => DV.tup (k.map ofKa)) (dvs L) = L.map rowD := by
  induction L with
  | nil => rfl
  | cons r L ih =>
    unfold pairs dks dvs at *
    simp only [List.map_cons, List.zip_cons_cons, ih]
    rfl
theorem get_dt {D : List (T × Int)} {t : T} : dget (.dt (dks D) (dvs D)) (tD t) = some (look (dks D) (dvs D) (tK t)) := rfl
theorem set_dt {b n : Nat} {m : Mem} {D : List (T × Int)} {t : T} {c : Int} (hl : D.length < 10000000) : setC b n (tD t) (.int c) m (some (.c (.dt (dks D) (dvs D)))) = .ok () (m.set n (.c (.dt (dks (up D t c)) (dvs (up D t c))))) := by
  show (match (if (dks D).length < SL then (ktOf (tD t)).map fun k => DV.dt (putK' (dks D) k) (putV (dks D) (dvs D) k (.int c)) else none) with
      | some d' => if mayPut b n (.int c) = true then Out.ok () (m.set n (.c d')) else .bad
      | none => .bad) = _
  rw [if_pos (show (dks D).length < SL by unfold dks; rw [List.length_map]; exact hl), kt_tD]
  show (if mayPut b n (.int c) = true then Out.ok () (m.set n (.c (DV.dt (putK' (dks D) (tK t)) (putV (dks D) (dvs D) (tK t) (.int c))))) else .bad) = _
  rw [if_pos (by unfold mayPut; simp), put_k (c := c), put_v]
def rowC : DV → Int
  | .tup [_, .int c] => c
  | _ => 0
@[simp] theorem rowC_eq {t : DV} {c : Int} : rowC (.tup [t, .int c]) = c := rfl
def rowF (h : Int → Int) : DV → DV
  | .tup [t, .int x] => .tup [t, .int (h x)]
  | d => d
@[simp] theorem rowF_eq {h : Int → Int} {t : DV} {c : Int} : rowF h (.tup [t, .int c]) = .tup [t, .int (h c)] := rfl
theorem filt_rows (L : List (T × Int)) : ((L.map rowD).filter fun d => decide (rowC d ≠ 0)) = (nz L).map rowD := by
  rw [List.filter_map]; rfl
theorem map_rows (L : List (T × Int)) (h : Int → Int) : (L.map rowD).map (rowF h) = (L.map fun r => (r.1, h r.2)).map rowD := by
  rw [List.map_map, List.map_map]; rfl
theorem sorted_rows' (L : List (T × Int)) : primD .sorted [.lst (L.map rowD)] = some (.lst ((srt L).map rowD)) := by
  show ((lstD (DV.lst (L.map rowD))).bind dsort).map DV.lst = _
  show (dsort (L.map rowD)).map DV.lst = _
  rw [sorted_rows]; rfl
theorem nil_eq : cmpD .eq (.lst []) (.lst []) = some true := by
  rw [cmpD_eq (by simp [eqOk, eqOks]) (by simp [eqOk, eqOks])]
  simp [deq, deqs]
theorem ne_nil {xs : List DV} (h : eqOks 63 xs = true) : cmpD .ne (.lst xs) (.lst []) = some (!xs.isEmpty) := by
  rw [cmpD_ne (by simpa [eqOk] using h) (by simp [eqOk, eqOks])]
  cases xs <;> simp [deq, deqs]
theorem cut_to {α : Type} (xs : List α) {k : Nat} (h : k ≤ xs.length) : cut xs none (some (k : Int)) = xs.take k := by
  unfold cut sIx
  rw [HT.sIx_none, HT.sIx_nat, List.drop_zero, Nat.sub_zero, Nat.min_eq_left h]
theorem cut_from {α : Type} (xs : List α) {k : Nat} (h : k ≤ xs.length) : cut xs (some (k : Int)) none = xs.drop k := by
  unfold cut sIx
  rw [HT.sIx_none, HT.sIx_nat, Nat.min_eq_left h, ← List.length_drop, List.take_length]
/-! ### sums, by themselves -/
def nOf : DV → Int
  | .tup [.int n, _] => n
  | _ => 0
def rowV : DV → T → Int
  | .tup [.tup [.str a, .str b], .int c], t => if (a, b) = t then c else 0
  | _, _ => 0
def rowsV : List DV → T → Int
  | [], _ => 0
  | r :: rs, t => rowV r t + rowsV rs t
def fOf : DV → T → Int
  | .tup [_, .kt rows], t => rowsV rows t
  | _, _ => 0
theorem rowsV_eq (L : List (T × Int)) (t : T) : rowsV (L.map rowD) t = val L t := by
  induction L with
  | nil => rfl
  | cons r L ih => rw [List.map_cons, rowsV, val, ih]; rfl
theorem IsSum.nOf {k : Nat} {d : DV} {n : Int} {f : T → Int} (h : IsSum k d n f) : SU.nOf d = n := by
  obtain ⟨L, _, rfl⟩ := h; rfl
theorem IsSum.fOf {k : Nat} {d : DV} {n : Int} {f : T → Int} (h : IsSum k d n f) (t : T) : SU.fOf d t = f t := by
  obtain ⟨L, hL, rfl⟩ := h
  show rowsV (L.map rowD) t = f t
  rw [rowsV_eq, hL.v]
abbrev G (k : Nat) (d : DV) : Prop := IsSum k d (nOf d) (fOf d)
theorem IsSum.g {k : Nat} {d : DV} {n : Int} {f : T → Int} (h : IsSum k d n f) : G k d := h.cg h.nOf.symm fun t => (h.fOf t).symm
def sN : List DV → Int
  | [] => 0
  | x :: xs => nOf x + sN xs
def sF : List DV → T → Int
  | [], _ => 0
  | x :: xs, t => fOf x t + sF xs t
theorem sN_app : ∀ {xs ys : List DV}, sN (xs ++ ys) = sN xs + sN ys
  | [], ys => by simp [sN]
  | x :: xs, ys => by rw [List.cons_append, sN, sN, sN_app]; omega
theorem sF_app {t : T} : ∀ {xs ys : List DV}, sF (xs ++ ys) t = sF xs t + sF ys t
  | [], ys => by simp [sF]
  | x :: xs, ys => by rw [List.cons_append, sF, sF, sF_app]; omega
theorem sN_perm {xs ys : List DV} (h : xs.Perm ys) : sN xs = sN ys := by
  induction h with
  | nil => rfl
  | cons x _ ih => rw [sN, sN, ih]
  | swap x y l => simp only [sN]; omega
  | trans _ _ i1 i2 => exact i1.trans i2
theorem sF_perm {xs ys : List DV} (h : xs.Perm ys) (t : T) : sF xs t = sF ys t := by
  induction h with
  | nil => rfl
  | cons x _ ih => rw [sF, sF, ih]
  | swap x y l => simp only [sF]; omega
  | trans _ _ i1 i2 => exact i1.trans i2
/-! ### parts -/
abbrev Pt := Option T × Int
def partD : Pt → DV
  | (none, c) => .tup [.non, .int c]
  | (some t, c) => .tup [tD t, .int c]
def sel (ps : List Pt) : List (T × Int) := ps.filterMap fun p => p.1.map fun t => (t, p.2)
def pN : List Pt → Int
  | [] => 0
  | p :: ps => (match p.1 with
    | none => p.2
    | some _ => 0) + pN ps
theorem pN_app : ∀ {xs ys : List Pt}, pN (xs ++ ys) = pN xs + pN ys
  | [], ys => by simp [pN]
  | x :: xs, ys => by rw [List.cons_append, pN, pN, pN_app]; omega
theorem sel_app {xs ys : List Pt} : sel (xs ++ ys) = sel xs ++ sel ys := by unfold sel; rw [List.filterMap_append]
theorem sel_len (ps : List Pt) : (sel ps).length ≤ ps.length := List.length_filterMap_le _ _
theorem part_nr (p : Pt) : noRef (partD p) = true := by
  obtain ⟨o, c⟩ := p
  cases o <;> simp [partD, noRefs, tD]
theorem sel_take {ps : List Pt} {i : Nat} {p : Pt} (h : ps[i]? = some p) : sel (ps.take (i + 1)) = sel (ps.take i) ++ (match p.1 with
    | none => []
    | some t => [(t, p.2)]) ∧ pN (ps.take (i + 1)) = pN (ps.take i) + (match p.1 with
    | none => p.2
    | some _ => 0) := by
  have ht : ps.take (i + 1) = ps.take i ++ [p] := by rw [List.take_add_one, h]; rfl
  rw [ht, sel_app, pN_app]
  obtain ⟨o, c⟩ := p
  cases o <;> simp [sel, pN]
theorem addAll_app {D L M : List (T × Int)} : addAll D (L ++ M) = addAll (addAll D L) M := by unfold addAll; rw [List.foldl_append]
/-- a dict's number at a term's datum -/
def vv (D : List (T × Int)) (d : DV) : Int := match look (dks D) (dvs D) ((ktOf d).getD []) with
  | some (.int c) => c
  | _ => 0
theorem vv_eq {D : List (T × Int)} {t : T} (h : ND D) (ht : t ∈ keys D) : vv D (tD t) = val D t := by
  unfold vv
  rw [kt_tD]
  show (match look (dks D) (dvs D) (tK t) with
  | some (.int c) => c
  | _ => 0) = _
  rw [look_at h ht]
theorem keys_rows {D : List (T × Int)} (h : ND D) : (((keys D).map tD).filter fun d => decide (vv D d ≠ 0)).map (fun d => DV.tup [d, .int (vv D d)]) = (nz D).map rowD := by
  have e : (keys D).map tD = D.map fun r => tD r.1 := by unfold keys; rw [List.map_map]; rfl
  have q : ∀ r ∈ D, vv D (tD r.1) = r.2 := fun r hr => by rw [vv_eq h (List.mem_map.mpr ⟨r, hr, rfl⟩), val_mem h hr]
  rw [e, List.filter_map, List.map_map]
  have e2 : D.filter ((fun d => decide (vv D d ≠ 0)) ∘ fun r => tD r.1) = nz D := List.filter_congr fun r hr => by simp only [Function.comp]; rw [q r hr]
  rw [e2]
  refine List.map_congr_left fun r hr => ?_
  simp only [Function.comp]
  rw [q r (List.mem_filter.mp hr).1]
  rfl
theorem dt_keys (D : List (T × Int)) : ((dks D).map fun k => DV.tup (k.map ofKa)) = (keys D).map tD := by
  unfold dks keys
  rw [List.map_map, List.map_map]; rfl
end SU
end Ev

set_option Elab.async false
set_option linter.all false
set_option maxRecDepth 100000
set_option maxHeartbeats 4000000
namespace K58
open PySem PySem.Spec PyProof.Rows L2 Ev
def topS (i : Nat) : Stmt := PySem.Challenge.pw_stagesworn_k58_told_papers_of_what_is_al.main.body.getD i (.Pass ⟨0, 0, 0, 0⟩)
def d_plus : Fn := { keep := false, np := 2, nn := 5, body := [.asg (.v 2) (.primM .dictT [.sub (.var 0) (.int 1)]),
    .for none (.t [.v 3, .v 4]) (.seq (.sub (.var 1) (.int 1))) [.asg (.sub (.var 2) (.var 3)) (.bin .add (.meth .get2 (.var 2) [.var 3, .int 0]) (.var 4))],
    .ret (.tup [.bin .add (.sub (.var 0) (.int 0)) (.sub (.var 1) (.int 0)), .prim .tuple1 [.prim .sorted [.comp (some 2) false [3, 4] (.t [.v 3, .v 4]) (.items (.var 2)) [.val (.cmp .ne (.var 4) (.int 0))] (.tup [.var 3, .var 4])]]])] }
def i_plus : DefI := { x := "plus", st := topS 1, ps := ["one", "other"], N := ["one", "other", "told", "term", "many"], fn := d_plus }
def d_times : Fn := { keep := false, np := 2, nn := 4, body := [.ret (.tup [.bin .mul (.sub (.var 0) (.int 0)) (.var 1), .ite (.val (.cmp .ne (.var 1) (.int 0))) (.prim .tuple1 [.comp none false [2, 3] (.t [.v 2, .v 3]) (.seq (.sub (.var 0) (.int 1))) [] (.tup [.var 2, .bin .mul (.var 3) (.var 1)])]) (.tupK [])])] }
def i_times : DefI := { x := "times", st := topS 2, ps := ["one", "by"], N := ["one", "by", "term", "many"], fn := d_times }
def d_shows : Fn := { keep := false, np := 3, nn := 7, body := [.ite (.or (.val (.cmp .eq (.bin .mod (.prim .len [.var 2]) (.int 2)) (.int 0))) (.or (.not (.val (.prim .all [.comp (some 2) false [6] (.v 6) (.seq (.var 2)) [] (.isi (.var 6) .tInt [])]))) (.val (.cmp .lt (.sub (.var 2) (.int 0)) (.int 1))))) [.ret (.bl false)] [],
    .asg (.v 3) (.call 1 [.var 1, .sub (.var 2) (.int 0)]),
    .for none (.t [.v 4, .v 5]) (.zip (.step (.var 2) 1) (.step (.var 2) 2)) [.ite (.or (.not (.val (.chain .le .lt (.int 0) (.var 4) (.prim .len [.var 0])))) (.val (.cmp .lt (.var 5) (.int 0)))) [.ret (.bl false)] [],
    .asg (.v 3) (.call 0 [.var 3, .call 1 [.sub (.var 0) (.var 4), .neg (.var 5)]])],
    .ret (.and (.cmp .eq (.prim .len [.sub (.var 3) (.int 1)]) (.int 0)) (.cmp .gt (.sub (.var 3) (.int 0)) (.neg (.sub (.var 2) (.int 0)))))] }
def i_shows : DefI := { x := "shows", st := topS 3, ps := ["facts", "goal", "paper"], N := ["facts", "goal", "paper", "left", "number", "many", "one"], fn := d_shows }
def d_told_paper : Fn := { keep := false, np := 2, nn := 12, body := [.par [2, 3] [.lstM [.tup [.var 1, .tupK []]], .int 0],
    .whl (.and (.val (.cmp .gt (.prim .len [.var 2]) (.int 0))) (.val (.cmp .lt (.var 3) (.int 300)))) [.asg (.t [.v 4, .v 5]) (.meth .pop0 (.var 2) []),
    .aug 3 .add (.int 1),
    .ite (.and (.val (.cmp .eq (.prim .len [.sub (.var 4) (.int 1)]) (.int 0))) (.val (.cmp .ge (.sub (.var 4) (.int 0)) (.int 0)))) [.ret (.bin .add (.tup [.int 1]) (.var 5))] [],
    .ite (.and (.val (.cmp .gt (.prim .len [.sub (.var 4) (.int 1)]) (.int 0))) (.val (.cmp .lt (.prim .len [.var 5]) (.int 14)))) [.asg (.t [.v 7, .v 8]) (.sub (.sub (.var 4) (.int 1)) (.int 0)),
    .asg (.v 6) (.lstM []),
    .for (some 0) (.t [.v 9, .v 10]) (.enum (.var 0)) [.asg (.v 11) (.meth .get2 (.primM .dictT [.sub (.var 10) (.int 1)]) [.var 7, .int 0]),
    .ite (.and (.val (.cmp .ne (.var 11) (.int 0))) (.and (.val (.cmp .eq (.bin .mod (.var 8) (.var 11)) (.int 0))) (.val (.cmp .gt (.bin .fdiv (.var 8) (.var 11)) (.int 0))))) [.ex (.meth .append (.var 6) [.tup [.call 0 [.var 4, .call 1 [.var 10, .neg (.bin .fdiv (.var 8) (.var 11))]], .bin .add (.var 5) (.tup [.var 9, .bin .fdiv (.var 8) (.var 11)])]])] []],
    .asg (.v 2) (.primM .cat [.var 2, .un1 .rev (.var 6)])] []],
    .ret (.non)] }
def i_told_paper : DefI := { x := "told_paper", st := topS 4, ps := ["facts", "goal"], N := ["facts", "goal", "left", "many_seen", "here", "paper", "more", "term", "many", "number", "fact", "some"], fn := d_told_paper }
def d_law_state : Fn := { keep := true, np := 1, nn := 3, body := [.asg (.v 1) (.int 7),
    .for (some 0) (.v 2) (.seq (.var 0)) [.asg (.v 1) (.bin .mod (.prim .int1 [.bin .add (.bin .mul (.var 1) (.int 31)) (.var 2)]) (.int 1000003))],
    .ret (.lstM [.comp (some 0) true [2] (.v 2) (.seq (.var 0)) [] (.prim .abs [.var 2]), .bin .add (.var 1) (.int 1)])] }
def i_law_state : DefI := { x := "_law_state", st := topS 6, ps := ["script"], N := ["script", "seed", "cell"], fn := d_law_state }
def d_law_draw : Fn := { keep := false, np := 2, nn := 5, body := [.asg (.v 2) (.sub (.var 0) (.int 0)),
    .whl (.and (.val (.cmp .gt (.prim .len [.var 2]) (.int 0))) (.val (.cmp .eq (.sub (.var 2) (.int 0)) (.int 0)))) [.ex (.meth .popAt (.var 2) [.int 0])],
    .ite (.val (.cmp .gt (.prim .len [.var 2]) (.int 0))) [.asg (.v 4) (.sub (.var 2) (.int 0)),
    .asg (.sub (.var 2) (.int 0)) (.bin .fdiv (.var 4) (.var 1)),
    .ret (.bin .mod (.prim .int1 [.var 4]) (.var 1))] [],
    .asg (.v 3) (.bin .mod (.prim .int1 [.bin .add (.bin .mul (.sub (.var 0) (.int 1)) (.int 48271)) (.int 12345)]) (.int 2147483647)),
    .asg (.sub (.var 0) (.int 1)) (.var 3),
    .ret (.bin .mod (.prim .int1 [.bin .fdiv (.var 3) (.int 64)]) (.var 1))] }
def i_law_draw : DefI := { x := "_law_draw", st := topS 7, ps := ["state", "many"], N := ["state", "many", "cells", "mixed", "value"], fn := d_law_draw }
def d_law_pick : Fn := { keep := false, np := 2, nn := 2, body := [.ret (.sub (.var 1) (.call 5 [.var 0, .prim .len [.var 1]]))] }
def i_law_pick : DefI := { x := "_law_pick", st := topS 8, ps := ["state", "row"], N := ["state", "row"], fn := d_law_pick }
def d_law_eq : Fn := { keep := false, np := 2, nn := 3, body := [.ite (.or (.val (.isi (.var 1) .tList [])) (.val (.isi (.var 1) .tTuple []))) [.ite (.or (.val (.cmp .ne (.isi (.var 0) .tList []) (.isi (.var 1) .tList []))) (.val (.cmp .ne (.isi (.var 0) .tTuple []) (.isi (.var 1) .tTuple [])))) [.ret (.bl false)] [],
    .ite (.val (.cmp .ne (.prim .len [.var 0]) (.prim .len [.var 1]))) [.ret (.bl false)] [],
    .ret (.cmp .eq (.comp none false [2] (.v 2) (.rng1 (.prim .len [.var 1])) [.not (.val (.call 7 [.sub (.var 0) (.var 2), .sub (.var 1) (.var 2)]))] (.var 2)) (.lst []))] [],
    .ite (.val (.cmp .is (.var 1) (.non))) [.ret (.cmp .is (.var 0) (.non))] [],
    .ite (.val (.isi (.var 1) .tStr [])) [.ret (.and (.isi (.var 0) .tStr []) (.cmp .eq (.var 0) (.var 1)))] [],
    .ite (.val (.isi (.var 1) .tBool [])) [.ret (.and (.isi (.var 0) .tBool []) (.cmp .eq (.var 0) (.var 1)))] [],
    .ret (.and (.isi (.var 0) .tInt []) (.and (.not (.isi (.var 0) .tBool [])) (.cmp .eq (.var 0) (.var 1))))] }
def i_law_eq : DefI := { x := "_law_eq", st := topS 9, ps := ["told", "due"], N := ["told", "due", "k"], fn := d_law_eq }
def d_law_fact : Fn := { keep := false, np := 1, nn := 5, body := [.par [2, 3] [.dnew true, .lst [.str [120, 46, 48], .str [120, 46, 49], .str [120, 46, 50], .str [120, 46, 49, 48]]],
    .for none (.v 1) (.rng1 (.bin .add (.int 1) (.call 5 [.var 0, .int 2]))) [.asg (.v 4) (.tup [.call 6 [.var 0, .lst [.str [120], .str [108, 101, 110]]], .call 6 [.var 0, .var 3]]),
    .asg (.sub (.var 2) (.var 4)) (.call 6 [.var 0, .lst [.int 1, .neg (.int 1), .int 1, .int 2]])],
    .ret (.tup [.bin .sub (.call 5 [.var 0, .int 7]) (.int 2), .prim .tuple1 [.un1 .sitems (.var 2)]])] }
def i_law_fact : DefI := { x := "_law_fact", st := topS 10, ps := ["state"], N := ["state", "k", "told", "names", "term"], fn := d_law_fact }
def d_law_called : Fn := { keep := false, np := 1, nn := 4, body := [.ret (.tup [.sub (.var 0) (.int 0), .prim .tuple1 [.comp none false [1, 2, 3] (.t [.t [.v 2, .v 3], .v 1]) (.seq (.sub (.var 0) (.int 1))) [] (.tup [.tup [.var 2, .bin .add (.str [121]) (.var 3)], .var 1])]])] }
def i_law_called : DefI := { x := "_law_called", st := topS 11, ps := ["one"], N := ["one", "many", "sort", "name"], fn := d_law_called }
def d_law_is_whole : Fn := { keep := false, np := 3, nn := 4, body := [.ite (.or (.not (.val (.isi (.var 2) .tTuple []))) (.or (.val (.cmp .ne (.sub (.var 2) (.int 0)) (.int 1))) (.or (.val (.cmp .gt (.prim .len [.var 2]) (.int 15))) (.val (.cmp .eq (.bin .mod (.prim .len [.var 2]) (.int 2)) (.int 0)))))) [.ret (.bl false)] [],
    .ite (.val (.cmp .ne (.comp none false [3] (.v 3) (.seq (.step (.var 2) 2)) [.val (.cmp .lt (.var 3) (.int 1))] (.var 3)) (.lst []))) [.ret (.bl false)] [],
    .ret (.call 2 [.var 0, .var 1, .var 2])] }
def i_law_is_whole : DefI := { x := "_law_is_whole", st := topS 12, ps := ["facts", "goal", "told"], N := ["facts", "goal", "told", "many"], fn := d_law_is_whole }
def d_law : Fn := { keep := false, np := 1, nn := 12, body := [.asg (.v 1) (.call 4 [.var 0]),
    .for none (.v 2) (.rng1 (.int 30)) [.asg (.v 3) (.prim .tuple1 [.comp none false [5] (.v 5) (.rng1 (.bin .add (.int 1) (.call 5 [.var 1, .int 5]))) [] (.call 8 [.var 1])]),
    .asg (.v 4) (.tup [.call 5 [.var 1, .int 4], .tupK []]),
    .for none (.v 5) (.rng1 (.bin .add (.int 1) (.call 5 [.var 1, .int 3]))) [.asg (.v 4) (.call 0 [.var 4, .call 1 [.call 6 [.var 1, .var 3], .bin .add (.int 1) (.call 5 [.var 1, .int 2])]])],
    .asg (.v 4) (.call 0 [.var 4, .tup [.call 6 [.var 1, .lst [.int 0, .int 0, .int 1, .neg (.int 3)]], .tupK []]]),
    .asg (.t [.v 9, .v 10]) (.tup [.call 3 [.var 3, .var 4], .bin .add (.int 2) (.call 5 [.var 1, .int 5])]),
    .ite (.and (.val (.cmp .isnot (.var 9) (.non))) (.not (.val (.call 10 [.var 3, .var 4, .var 9])))) [.ret (.bl false)] [],
    .ite (.not (.val (.call 7 [.call 3 [.prim .tuple1 [.comp (some 3) false [11] (.v 11) (.seq (.var 3)) [] (.call 1 [.var 11, .var 10])], .call 1 [.var 4, .var 10]], .var 9]))) [.ret (.bl false)] [],
    .ite (.not (.val (.call 7 [.call 3 [.prim .tuple1 [.comp (some 3) false [11] (.v 11) (.seq (.var 3)) [] (.call 9 [.var 11])], .call 9 [.var 4]], .var 9]))) [.ret (.bl false)] [],
    .ite (.and (.val (.cmp .isnot (.var 9) (.non))) (.val (.cmp .is (.call 3 [.var 3, .call 0 [.var 4, .tup [.bin .add (.int 1) (.call 5 [.var 1, .int 5]), .tupK []]]]) (.non)))) [.ret (.bl false)] [],
    .asg (.v 6) (.bin .sub (.call 5 [.var 1, .int 5]) (.int 2)),
    .ite (.or (.not (.val (.call 7 [.call 3 [.var 3, .tup [.var 6, .tupK []]], .ite (.val (.cmp .ge (.var 6) (.int 0))) (.tup [.int 1]) (.non)]))) (.val (.cmp .ne (.call 3 [.tupK [], .var 4]) (.ite (.or (.val (.cmp .ne (.sub (.var 4) (.int 1)) (.tupK []))) (.val (.cmp .lt (.sub (.var 4) (.int 0)) (.int 0)))) (.non) (.tup [.int 1]))))) [.ret (.bl false)] []],
    .asg (.t [.v 7, .v 8]) (.tup [.tup [.neg (.int 3), .tupK [.tup [.tup [.str [108, 101, 110], .str [120, 46, 48]], .int 1]]], .tup [.int 3, .tupK [.tup [.tup [.str [108, 101, 110], .str [120, 46, 48]], .neg (.int 1)]]]]),
    .ret (.and (.call 7 [.call 3 [.tup [.var 8, .var 7], .tup [.neg (.int 2), .tupK [.tup [.tup [.str [108, 101, 110], .str [120, 46, 48]], .int 1]]]], .tup [.int 1, .int 1, .int 1]]) (.cmp .is (.call 3 [.tup [.var 8, .var 7], .tup [.neg (.int 4), .tupK [.tup [.tup [.str [108, 101, 110], .str [120, 46, 48]], .int 1]]]]) (.non)))] }
def i_law : DefI := { x := "law", st := topS 13, ps := ["script"], N := ["script", "state", "turn", "facts", "goal", "k", "number", "length", "other", "told", "by", "one"], fn := d_law }
def Ds : List DefI := [i_plus, i_times, i_shows, i_told_paper, i_law_state, i_law_draw, i_law_pick, i_law_eq, i_law_fact, i_law_called, i_law_is_whole, i_law]
def TT : TX := { N := [], bi := ["dict", "tuple", "sorted", "all", "isinstance", "int", "len", "zip", "enumerate", "abs", "list", "range", "str", "bool"], fns := ["plus", "times", "shows", "told_paper", "_law_state", "_law_draw", "_law_pick", "_law_eq", "_law_fact", "_law_called", "_law_is_whole", "law"], cons := [] }
theorem ok_plus : DefOk TT i_plus := ⟨⟨rfl, rfl, rfl, by decide +kernel, rfl, by decide +kernel, by decide +kernel⟩, rfl, rfl, by decide +kernel⟩
theorem ok_times : DefOk TT i_times := ⟨⟨rfl, rfl, rfl, by decide +kernel, rfl, by decide +kernel, by decide +kernel⟩, rfl, rfl, by decide +kernel⟩
theorem ok_shows : DefOk TT i_shows := ⟨⟨rfl, rfl, rfl, by decide +kernel, rfl, by decide +kernel, by decide +kernel⟩, rfl, rfl, by decide +kernel⟩
theorem ok_told_paper : DefOk TT i_told_paper := ⟨⟨rfl, rfl, rfl, by decide +kernel, rfl, by decide +kernel, by decide +kernel⟩, rfl, rfl, by decide +kernel⟩
theorem ok_law_state : DefOk TT i_law_state := ⟨⟨rfl, rfl, rfl, by decide +kernel, rfl, by decide +kernel, by decide +kernel⟩, rfl, rfl, by decide +kernel⟩
theorem ok_law_draw : DefOk TT i_law_draw := ⟨⟨rfl, rfl, rfl, by decide +kernel, rfl, by decide +kernel, by decide +kernel⟩, rfl, rfl, by decide +kernel⟩
theorem ok_law_pick : DefOk TT i_law_pick := ⟨⟨rfl, rfl, rfl, by decide +kernel, rfl, by decide +kernel, by decide +kernel⟩, rfl, rfl, by decide +kernel⟩
theorem ok_law_eq : DefOk TT i_law_eq := ⟨⟨rfl, rfl, rfl, by decide +kernel, rfl, by decide +kernel, by decide +kernel⟩, rfl, rfl, by decide +kernel⟩
theorem ok_law_fact : DefOk TT i_law_fact := ⟨⟨rfl, rfl, rfl, by decide +kernel, rfl, by decide +kernel, by decide +kernel⟩, rfl, rfl, by decide +kernel⟩
theorem ok_law_called : DefOk TT i_law_called := ⟨⟨rfl, rfl, rfl, by decide +kernel, rfl, by decide +kernel, by decide +kernel⟩, rfl, rfl, by decide +kernel⟩
theorem ok_law_is_whole : DefOk TT i_law_is_whole := ⟨⟨rfl, rfl, rfl, by decide +kernel, rfl, by decide +kernel, by decide +kernel⟩, rfl, rfl, by decide +kernel⟩
theorem ok_law : DefOk TT i_law := ⟨⟨rfl, rfl, rfl, by decide +kernel, rfl, by decide +kernel, by decide +kernel⟩, rfl, rfl, by decide +kernel⟩
end K58

set_option Elab.async false
set_option linter.all false
set_option maxRecDepth 100000
set_option maxHeartbeats 1000000
/-! The search for papers, in plain Lean: what it answers of facts that are alike. -/
namespace K58
open PySem Ev Ev.SU
abbrev Row := List (T × Int)
abbrev Su := Int × Row
abbrev Pr := Nat × Int
abbrev Nd := Su × List Pr
def plusR (L M : Row) : Row := srt (nz (addAll L M))
def scR (c : Int) (L : Row) : Row := L.map fun r => (r.1, r.2 * c)
def kid (nd : Nd) (t : T) (many : Int) (i : Nat) (f : Su) : Option Nd :=
  if val f.2 t ≠ 0 ∧ many.fmod (val f.2 t) = 0 ∧ 0 < many.fdiv (val f.2 t) then some ((nd.1.1 + f.1 * -(many.fdiv (val f.2 t)), plusR nd.1.2 (scR (-(many.fdiv (val f.2 t))) f.2)), nd.2 ++ [(i, many.fdiv (val f.2 t))])
  else none
def kidsF (nd : Nd) (t : T) (many : Int) : Nat → List Su → List Nd
  | _, [] => []
  | i, f :: fs => (kid nd t many i f).toList ++ kidsF nd t many (i + 1) fs
def kids (F : List Su) (nd : Nd) : List Nd := match nd.1.2 with
  | [] => []
  | r :: _ => if nd.2.length < 7 then kidsF nd r.1 r.2 0 F else []
def find (F : List Su) : Nat → List Nd → Option (List Pr)
  | 0, _ => none
  | _ + 1, [] => none
  | k + 1, nd :: S => if nd.1.2 = [] ∧ 0 ≤ nd.1.1 then some nd.2 else find F k (kids F nd ++ S)
theorem kidsF_app {nd : Nd} {t : T} {many : Int} : ∀ {A B : List Su} {i : Nat}, kidsF nd t many i (A ++ B) = kidsF nd t many i A ++ kidsF nd t many (i + A.length) B
  | [], B, i => by simp [kidsF]
  | f :: A, B, i => by
    rw [List.cons_append, kidsF, kidsF, kidsF_app, List.append_assoc, List.length_cons]
    rw [show i + 1 + A.length = i + (A.length + 1) by omega]
theorem kidsF_len {nd : Nd} {t : T} {many : Int} : ∀ {A : List Su} {i : Nat}, (kidsF nd t many i A).length ≤ A.length
  | [], i => by simp [kidsF]
  | f :: A, i => by
    have := kidsF_len (nd := nd) (t := t) (many := many) (A := A) (i := i + 1)
    rw [kidsF, List.length_append, List.length_cons]
    have : (kid nd t many i f).toList.length ≤ 1 := by cases kid nd t many i f <;> simp
    omega
theorem kidsF_mem {nd : Nd} {t : T} {many : Int} {x : Nd} : ∀ {A : List Su} {i : Nat}, x ∈ kidsF nd t many i A → ∃ (j : Nat) (f : Su), A[j]? = some f ∧ kid nd t many (i + j) f = some x
  | [], i, h => by simp [kidsF] at h
  | f :: A, i, h => by
    rw [kidsF, List.mem_append] at h
    rcases h with h | h
    · exact ⟨0, f, rfl, by simpa using h⟩
    · obtain ⟨j, g, h1, h2⟩ := kidsF_mem h
      exact ⟨j + 1, g, h1, by rw [← h2]; congr 1; omega⟩
/-! ### alike -/
structure Ps (ψ : T → T) : Prop where
  inj : ∀ s t, ψ s = ψ t → s = t
  le : ∀ s t, s ≠ t → ∀ x y : Int, leR (ψ s, x) (ψ t, y) = leR (s, x) (t, y)
def tr (ψ : T → T) (c : Int) (L : Row) : Row := L.map fun r => (ψ r.1, r.2 * c)
section
variable {ψ : T → T} {c : Int}
theorem tr_val (h : Ps ψ) : ∀ (L : Row) (t : T), val (tr ψ c L) (ψ t) = val L t * c
  | [], t => by simp [tr, val]
  | r :: L, t => by
    have ih := tr_val h L t
    show (if ψ r.1 = ψ t then r.2 * c else 0) + val (tr ψ c L) (ψ t) = _
    rw [ih, val, Int.add_mul]
    by_cases e : r.1 = t
    · rw [if_pos e, if_pos (by rw [e])]
    · rw [if_neg e, if_neg fun z => e (h.inj _ _ z)]; simp
theorem tr_mem (h : Ps ψ) {L : Row} {t : T} : ψ t ∈ keys (tr ψ c L) ↔ t ∈ keys L := by
  unfold keys tr
  rw [List.map_map]
  constructor
  · intro z
    obtain ⟨r, h1, h2⟩ := List.mem_map.mp z
    exact List.mem_map.mpr ⟨r, h1, h.inj _ _ h2⟩
  · intro z
    obtain ⟨r, h1, h2⟩ := List.mem_map.mp z
    exact List.mem_map.mpr ⟨r, h1, by simp only [Function.comp]; rw [h2]⟩
theorem tr_up (h : Ps ψ) {L : Row} {t : T} {x : Int} : up (tr ψ c L) (ψ t) (x * c) = tr ψ c (up L t x) := by
  unfold up
  by_cases e : t ∈ keys L
  · rw [if_pos e, if_pos ((tr_mem h).mpr e)]
    unfold tr
    rw [List.map_map, List.map_map]
    refine List.map_congr_left fun r _ => ?_
    simp only [Function.comp]
    by_cases e2 : r.1 = t
    · rw [if_pos e2, if_pos (by rw [e2])]
    · rw [if_neg e2, if_neg fun z => e2 (h.inj _ _ z)]
  · rw [if_neg e, if_neg fun z => e ((tr_mem h).mp z)]
    simp [tr]
theorem tr_addAll (h : Ps ψ) : ∀ {M L : Row}, addAll (tr ψ c L) (tr ψ c M) = tr ψ c (addAll L M)
  | [], L => rfl
  | r :: M, L => by
    have e : add (tr ψ c L) (ψ r.1, r.2 * c) = tr ψ c (add L r) := by
      unfold add
      simp only
      rw [tr_val h, ← Int.add_mul, tr_up h]
    show addAll (add (tr ψ c L) (ψ r.1, r.2 * c)) (tr ψ c M) = _
    rw [e, tr_addAll h]; rfl
theorem tr_nz (hc : 0 < c) (L : Row) : nz (tr ψ c L) = tr ψ c (nz L) := by
  unfold nz tr
  rw [List.filter_map]
  congr 1
  refine List.filter_congr fun r _ => ?_
  simp only [Function.comp]
  by_cases e : r.2 = 0
  · simp [e]
  · have : r.2 * c ≠ 0 := Int.mul_ne_zero e (by omega)
    simp [e, this]
theorem leR_refl (a : T × Int) : leR a a = true := by
  have := leR_total a a
  simpa using this
theorem tr_srt (h : Ps ψ) {L : Row} (hn : ND L) : srt (tr ψ c L) = tr ψ c (srt L) := by
  unfold srt tr
  refine (List.map_mergeSort (r := leR) (s := leR) (f := fun r => (ψ r.1, r.2 * c)) fun a ha b hb => ?_).symm
  by_cases e : a.1 = b.1
  · have e2 : a = b := by
      have h1 := val_mem hn ha
      have h2 := val_mem hn hb
      rw [e, h2] at h1
      exact Prod.ext e h1.symm
    rw [e2, leR_refl, leR_refl]
  · rw [h.le _ _ e]
    exact leR_any e a.2 b.2 _ _
theorem tr_plus (h : Ps ψ) (hc : 0 < c) {L M : Row} (hn : ND L) : plusR (tr ψ c L) (tr ψ c M) = tr ψ c (plusR L M) := by
  unfold plusR
  rw [tr_addAll h, tr_nz hc, tr_srt h (nz_nd (addAll_ok M hn).1)]
theorem plusR_nd {L M : Row} (hn : ND L) : ND (plusR L M) := nd_perm (srt_perm _).symm (nz_nd (addAll_ok M hn).1)
theorem tr_sc {x : Int} (M : Row) : scR x (tr ψ c M) = tr ψ c (scR x M) := by
  unfold scR tr
  rw [List.map_map, List.map_map]
  refine List.map_congr_left fun r _ => ?_
  simp only [Function.comp]
  rw [Int.mul_right_comm]
def trN (ψ : T → T) (c a : Int) (nd : Nd) : Nd := ((nd.1.1 * c + a, tr ψ c nd.1.2), nd.2)
def trF (ψ : T → T) (c : Int) (f : Su) : Su := (f.1 * c, tr ψ c f.2)
theorem tr_kid (h : Ps ψ) (hc : 0 < c) {a : Int} {nd : Nd} (hn : ND nd.1.2) (t : T) (many : Int) (i : Nat) (f : Su) : kid (trN ψ c a nd) (ψ t) (many * c) i (trF ψ c f) = (kid nd t many i f).map (trN ψ c a) := by
  have e1 : val (trF ψ c f).2 (ψ t) = val f.2 t * c := tr_val h _ _
  have e2 : (many * c).fdiv (val f.2 t * c) = many.fdiv (val f.2 t) := Int.mul_fdiv_mul_of_pos_left _ _ hc
  have e3 : (many * c).fmod (val f.2 t * c) = many.fmod (val f.2 t) * c := by
    rw [Int.fmod_def, Int.fmod_def, e2, Int.sub_mul, Int.mul_right_comm]
  unfold kid
  rw [e1, e2, e3]
  have c1 : (val f.2 t * c ≠ 0 ∧ many.fmod (val f.2 t) * c = 0 ∧ 0 < many.fdiv (val f.2 t)) ↔ (val f.2 t ≠ 0 ∧ many.fmod (val f.2 t) = 0 ∧ 0 < many.fdiv (val f.2 t)) := by
    have hz : ∀ x : Int, x * c = 0 ↔ x = 0 := fun x => ⟨fun z => by rcases Int.mul_eq_zero.mp z with z | z; exact z; omega, fun z => by rw [z]; simp⟩
    simp only [ne_eq, hz]
  by_cases hk : val f.2 t ≠ 0 ∧ many.fmod (val f.2 t) = 0 ∧ 0 < many.fdiv (val f.2 t)
  · rw [if_pos (c1.mpr hk), if_pos hk]
    show some _ = some _
    congr 1
    unfold trN trF
    simp only
    rw [tr_sc, tr_plus h hc hn, Int.mul_right_comm, Int.add_mul]
    congr 2
    omega
  · rw [if_neg fun z => hk (c1.mp z), if_neg hk]; rfl
theorem tr_kidsF (h : Ps ψ) (hc : 0 < c) {a : Int} {nd : Nd} (hn : ND nd.1.2) (t : T) (many : Int) : ∀ (F : List Su) (i : Nat), kidsF (trN ψ c a nd) (ψ t) (many * c) i (F.map (trF ψ c)) = (kidsF nd t many i F).map (trN ψ c a)
  | [], i => rfl
  | f :: F, i => by
    rw [List.map_cons, kidsF, kidsF, List.map_append, tr_kidsF h hc hn t many F, tr_kid h hc hn]
    congr 1
    cases kid nd t many i f <;> rfl
theorem tr_kids (h : Ps ψ) (hc : 0 < c) {a : Int} {nd : Nd} (hn : ND nd.1.2) (F : List Su) : kids (F.map (trF ψ c)) (trN ψ c a nd) = (kids F nd).map (trN ψ c a) := by
  obtain ⟨⟨n, L⟩, ps⟩ := nd
  cases L with
  | nil => rfl
  | cons r L =>
    show (if ps.length < 7 then kidsF (trN ψ c a ((n, r :: L), ps)) (ψ r.1) (r.2 * c) 0 (F.map (trF ψ c)) else []) = (if ps.length < 7 then kidsF ((n, r :: L), ps) r.1 r.2 0 F else []).map (trN ψ c a)
    by_cases e : ps.length < 7
    · rw [if_pos e, if_pos e, tr_kidsF h hc hn]
    · rw [if_neg e, if_neg e]; rfl
theorem kid_nd {nd x : Nd} {t : T} {many : Int} {i : Nat} {f : Su} (hn : ND nd.1.2) (h : kid nd t many i f = some x) : ND x.1.2 := by
  unfold kid at h
  split at h
  · cases h; exact plusR_nd hn
  · cases h
theorem kids_nd {F : List Su} {nd x : Nd} (hn : ND nd.1.2) (h : x ∈ kids F nd) : ND x.1.2 := by
  unfold kids at h
  split at h
  · cases h
  · split at h
    · obtain ⟨j, f, _, h2⟩ := kidsF_mem h
      exact kid_nd hn h2
    · cases h
theorem tr_empty (L : Row) : tr ψ c L = [] ↔ L = [] := by unfold tr; exact List.map_eq_nil_iff
theorem find_tr (h : Ps ψ) (hc : 0 < c) (F : List Su) : ∀ (k : Nat) (S : List Nd), (∀ nd ∈ S, ND nd.1.2) → find (F.map (trF ψ c)) k (S.map (trN ψ c 0)) = find F k S
  | 0, S, _ => by cases S <;> rfl
  | k + 1, [], _ => rfl
  | k + 1, nd :: S, hS => by
    have hn := hS nd List.mem_cons_self
    have c1 : ((trN ψ c 0 nd).1.2 = [] ∧ 0 ≤ (trN ψ c 0 nd).1.1) ↔ (nd.1.2 = [] ∧ 0 ≤ nd.1.1) := by
      show (tr ψ c nd.1.2 = [] ∧ 0 ≤ nd.1.1 * c + 0) ↔ _
      rw [tr_empty, Int.add_zero]
      refine and_congr_right fun _ => ⟨fun z => ?_, fun z => Int.mul_nonneg z (by omega)⟩
      exact Int.le_of_mul_le_mul_right (by simpa using z) hc
    rw [List.map_cons, find, find]
    by_cases e : nd.1.2 = [] ∧ 0 ≤ nd.1.1
    · rw [if_pos (c1.mpr e), if_pos e]; rfl
    · rw [if_neg fun z => e (c1.mp z), if_neg e, tr_kids h hc hn, ← List.map_append]
      refine find_tr h hc F k _ fun x hx => ?_
      rcases List.mem_append.mp hx with hx | hx
      · exact kids_nd hn hx
      · exact hS x (List.mem_cons_of_mem _ hx)
theorem find_more (h : Ps ψ) (hc : 0 < c) {a : Int} (ha : 0 ≤ a) (F : List Su) : ∀ (k : Nat) (S : List Nd), (∀ nd ∈ S, ND nd.1.2) → find F k S ≠ none → find (F.map (trF ψ c)) k (S.map (trN ψ c a)) ≠ none
  | 0, S, _, hf => absurd (by cases S <;> rfl) hf
  | k + 1, [], _, hf => absurd rfl hf
  | k + 1, nd :: S, hS, hf => by
    have hn := hS nd List.mem_cons_self
    rw [List.map_cons, find]
    split
    · simp
    · rename_i e
      have e2 : ¬ (nd.1.2 = [] ∧ 0 ≤ nd.1.1) := fun z => e ⟨(tr_empty _).mpr z.1, by
        show 0 ≤ nd.1.1 * c + a
        have := Int.mul_nonneg z.2 (show 0 ≤ c by omega)
        omega⟩
      rw [find, if_neg e2] at hf
      rw [tr_kids h hc hn, ← List.map_append]
      refine find_more h hc ha F k _ (fun x hx => ?_) hf
      rcases List.mem_append.mp hx with hx | hx
      · exact kids_nd hn hx
      · exact hS x (List.mem_cons_of_mem _ hx)
end
theorem ps_id : Ps id := ⟨fun _ _ h => h, fun s t h x y => rfl⟩
def ren (t : T) : T := (t.1, 121 :: t.2)
theorem lt_cons (a b : List Nat) : PyProof.Rows.itemLt (.inr (121 :: a)) (.inr (121 :: b)) = PyProof.Rows.itemLt (.inr a) (.inr b) := by
  simp [PyProof.Rows.itemLt]
theorem ps_ren : Ps ren := by
  refine ⟨fun s t h => ?_, fun s t h x y => ?_⟩
  · obtain ⟨s1, s2⟩ := s
    obtain ⟨t1, t2⟩ := t
    simp [ren] at h
    simp [h]
  · obtain ⟨s1, s2⟩ := s
    obtain ⟨t1, t2⟩ := t
    unfold leR dlt ren
    rw [toks_row, toks_row, toks_row, toks_row]
    show (!lx _ _) = (!lx _ _)
    simp only [lexI, lt_cons]
end K58

set_option Elab.async false
set_option linter.all false
set_option maxRecDepth 100000
set_option maxHeartbeats 4000000
namespace K58
open PySem Ev Ev.DA Ev.SU
abbrev P : List Fn := Ds.map (·.fn)
abbrev cs : List DV := []
theorem P0 : P[0]? = some d_plus := rfl
theorem P1 : P[1]? = some d_times := rfl
theorem P2 : P[2]? = some d_shows := rfl
theorem P3 : P[3]? = some d_told_paper := rfl
theorem P4 : P[4]? = some stateFn := rfl
theorem P5 : P[5]? = some drawFn := rfl
theorem P6 : P[6]? = some (oneFn 5) := rfl
theorem P7 : P[7]? = some d_law_eq := rfl
theorem P8 : P[8]? = some d_law_fact := rfl
theorem P9 : P[9]? = some d_law_called := rfl
theorem P10 : P[10]? = some d_law_is_whole := rfl
theorem P11 : P[11]? = some d_law := rfl
def PlJ (n1 n2 : Int) (L M : List (T × Int)) (m : Mem) (i : Nat) (env : Env') (mm : Mem) : Prop := ∃ e3 e4, env = [some (sumD n1 L), some (sumD n2 M), some (.ref m.length), e3, e4] ∧ mm = m ++ [.c (.dt (dks (addAll L (M.take i))) (dvs (addAll L (M.take i))))]
theorem plus_eq {k j : Nat} {n1 n2 : Int} {L M : List (T × Int)} {f g : T → Int} (hL : Can k L f) (hM : Can j M g) (hk : k + j ≤ 1000) (d b : Nat) (m : Mem) : evCall cs P (d + 1) 0 [sumD n1 L, sumD n2 M] b m = .ok (sumD (n1 + n2) (srt (nz (addAll L M)))) m := by
  refine call_rule (Q := fun r => r = .ok _ m) P0 rfl rfl ?_
  simp [-WB_cons, d_plus]
  rw [WB_cons]
  simp [-WB_cons, sumD, hL.mk_dt]
  rw [WB_cons]
  simp
  refine for_rule (PlJ n1 n2 L M m) ⟨none, none, rfl, by simp [addAll]⟩ ?_ ?_
  · rintro i dv env mm hi ⟨e3, e4, rfl, rfl⟩
    rw [List.getElem?_map] at hi
    obtain ⟨⟨t, c⟩, hr, rfl⟩ := Option.map_eq_some_iff.mp hi
    obtain ⟨a1, a2, a3⟩ := addAll_ok (M.take i) hL.nd
    have hlen : (addAll L (M.take i)).length < 10000000 := by
      have := hL.l; have := hM.l; have : (M.take i).length ≤ M.length := by rw [List.length_take]; omega
      omega
    simp [rowD, sumD, get_dt, look_val t a1, set_dt hlen]
    refine ⟨_, _, rfl, ?_⟩
    rw [addAll_take hr]; rfl
  · rintro env mm ⟨e3, e4, rfl, rfl⟩
    rw [List.length_map, List.take_length]
    obtain ⟨a1, a2, a3⟩ := addAll_ok M hL.nd
    simp [sumD]
    rw [dD_pairs]
    refine comp_pure (fun d => decide (rowC d ≠ 0)) id (fun dv hd => ?_) ?_
    · obtain ⟨⟨t, c⟩, _, rfl⟩ := List.mem_map.mp hd
      simp [rowD]
      by_cases h : c = 0 <;> simp [h]
    · rw [filt_rows, List.map_id]
      simp [sorted_rows', rows_nr]
theorem times_eq {k : Nat} {n c : Int} {L : List (T × Int)} {f : T → Int} (hL : Can k L f) (hc : c ≠ 0) (h1 : -(2 ^ 64) < c) (h2 : c < 2 ^ 64) (d b : Nat) (m : Mem) : evCall cs P (d + 1) 1 [sumD n L, .int c] b m = .ok (sumD (n * c) (L.map fun r => (r.1, r.2 * c))) m := by
  refine call_rule (Q := fun r => r = .ok _ m) P1 rfl rfl ?_
  simp [d_times, sumD, hc, cmul_r h1 h2]
  refine comp_map (rowF (· * c)) (fun dv hd => ?_) ?_
  · obtain ⟨⟨t, x⟩, _, rfl⟩ := List.mem_map.mp hd
    simp [rowD, cmul_r h1 h2]
  · rw [map_rows]
    simp [rows_nr]
theorem times_0 {n : Int} {L : List (T × Int)} (d b : Nat) (m : Mem) : evCall cs P (d + 1) 1 [sumD n L, .int 0] b m = .ok (sumD 0 []) m := by
  refine call_rule (Q := fun r => r = .ok _ m) P1 rfl rfl ?_
  have h0 : L2.CMul n 0 := .inr (by decide)
  simp [d_times, sumD, h0]
/-! ### by what sums mean -/
theorem plus_sum {k j : Nat} {x y : DV} {n1 n2 : Int} {f g : T → Int} (hx : IsSum k x n1 f) (hy : IsSum j y n2 g) (hk : k + j ≤ 1000) (d : Nat) : ∃ z, (∀ (b : Nat) (m : Mem), evCall cs P (d + 1) 0 [x, y] b m = .ok z m) ∧ IsSum (k + j) z (n1 + n2) fun t => f t + g t := by
  obtain ⟨L, hL, rfl⟩ := hx
  obtain ⟨M, hM, rfl⟩ := hy
  obtain ⟨a1, a2, a3⟩ := addAll_ok M hL.nd
  refine ⟨_, fun b m => plus_eq hL hM hk d b m, _, Can.of a1 (fun t => by rw [a2, hL.v, hM.v]) ?_, rfl⟩
  have := hL.l; have := hM.l; omega
theorem times_sum {k : Nat} {x : DV} {n c : Int} {f : T → Int} (hx : IsSum k x n f) (h1 : -(2 ^ 64) < c) (h2 : c < 2 ^ 64) (d : Nat) : ∃ z, (∀ (b : Nat) (m : Mem), evCall cs P (d + 1) 1 [x, .int c] b m = .ok z m) ∧ IsSum k z (n * c) fun t => f t * c := by
  obtain ⟨L, hL, rfl⟩ := hx
  by_cases hc : c = 0
  · subst hc
    refine ⟨_, fun b m => times_0 d b m, IsSum.cg (n := 0) (f := fun _ => 0) ⟨[], Can.nil k, rfl⟩ (by omega) (fun t => by simp)⟩
  · exact ⟨_, fun b m => times_eq hL hc h1 h2 d b m, _, hL.scale hc, rfl⟩
/-! ### papers -/
def pD (p : Pr) : DV := .tup [.int (p.1 : Int), .int p.2]
def flat : List Pr → List DV
  | [] => []
  | p :: ps => .int (p.1 : Int) :: .int p.2 :: flat ps
def paperD (q : Int) (ps : List Pr) : DV := .tup (.int q :: flat ps)
theorem flat_len : ∀ ps : List Pr, (flat ps).length = 2 * ps.length
  | [] => rfl
  | p :: ps => by simp only [flat, List.length_cons, flat_len ps]; omega
theorem flat_app : ∀ ps qs : List Pr, flat (ps ++ qs) = flat ps ++ flat qs
  | [], _ => rfl
  | p :: ps, qs => by simp only [flat, List.cons_append, flat_app ps qs]
theorem ev2_flat : ∀ ps : List Pr, ev2 (flat ps) = ps.map fun p => DV.int (p.1 : Int)
  | [] => rfl
  | p :: ps => by simp only [flat, ev2, ev2_flat ps, List.map_cons]
theorem ev2_flat1 : ∀ ps : List Pr, ev2 ((flat ps).drop 1) = ps.map fun p => DV.int p.2
  | [] => rfl
  | [p] => rfl
  | p :: q :: ps => by
    have ih := ev2_flat1 (q :: ps)
    simp only [flat, List.drop_succ_cons, List.drop_zero, ev2, List.map_cons] at ih ⊢
    rw [ih]
theorem ev2_flatt (ps : List Pr) : ev2 (flat ps).tail = ps.map fun p => DV.int p.2 := by
  rw [← ev2_flat1, List.drop_one]
theorem zip_ps (ps : List Pr) : pairs (ps.map fun p => DV.int (p.1 : Int)) (ps.map fun p => DV.int p.2) = ps.map pD := by
  unfold pairs
  rw [List.zip_map', List.map_map]; rfl
def fAt (F : List DV) (i : Nat) : DV := (F[i]?).getD .non
def lN (F : List DV) : List Pr → Int
  | [] => 0
  | p :: ps => nOf (fAt F p.1) * p.2 + lN F ps
def lF (F : List DV) : List Pr → T → Int
  | [], _ => 0
  | p :: ps, t => fOf (fAt F p.1) t * p.2 + lF F ps t
theorem lN_app (F : List DV) : ∀ ps qs : List Pr, lN F (ps ++ qs) = lN F ps + lN F qs
  | [], qs => by simp [lN]
  | p :: ps, qs => by rw [List.cons_append, lN, lN, lN_app]; omega
theorem lF_app (F : List DV) (t : T) : ∀ ps qs : List Pr, lF F (ps ++ qs) t = lF F ps t + lF F qs t
  | [], qs => by simp [lF]
  | p :: ps, qs => by rw [List.cons_append, lF, lF, lF_app]; omega
/-- facts, as a tuple of one kind or the other -/
structure Fv (fv : DV) (F : List DV) : Prop where
  e : fv = .kt F ∨ fv = .tup F
  g : ∀ x ∈ F, G 8 x
  l : F.length ≤ 20
def Ok (F : List DV) (ps : List Pr) : Prop := (∀ p ∈ ps, p.1 < F.length ∧ 0 ≤ p.2 ∧ p.2 ≤ 1000000000000000000) ∧ ps.length ≤ 20
theorem fAt_get {F : List DV} {i : Nat} (h : i < F.length) : F[i]? = some (fAt F i) := by
  unfold fAt
  rw [List.getElem?_eq_getElem h]; rfl
theorem Fv.at {fv : DV} {F : List DV} (h : Fv fv F) {i : Nat} (hi : i < F.length) : G 8 (fAt F i) := h.g _ (List.mem_of_getElem? (fAt_get hi))
theorem Fv.nr {fv : DV} {F : List DV} (h : Fv fv F) : noRef fv = true := by
  have : noRefs F = true := noRefs_all fun x hx => (h.g x hx).nr
  rcases h.e with e | e <;> rw [e, noRef] <;> exact this
theorem Fv.len {fv : DV} {F : List DV} (h : Fv fv F) : primD .len [fv] = some (.int F.length) := by rcases h.e with e | e <;> rw [e] <;> rfl
theorem Fv.sub {fv : DV} {F : List DV} (h : Fv fv F) {i : Nat} (hi : i < F.length) : subD fv (.int (i : Int)) = some (fAt F i) := by
  rw [← fAt_get hi, ← atI_nat]
  rcases h.e with e | e <;> rw [e] <;> rfl
theorem take_p {α : Type} {ps : List α} {i : Nat} {p : α} (h : ps[i]? = some p) : ps.take (i + 1) = ps.take i ++ [p] := by rw [List.take_add_one, h]; rfl
theorem bls_true : ∀ w : List DV, ∃ bs, blsD (w.map fun _ => DV.bl true) = some bs ∧ bs.all id = true
  | [] => ⟨[], rfl, rfl⟩
  | x :: w => by
    obtain ⟨bs, h1, h2⟩ := bls_true w
    refine ⟨true :: bs, ?_, by simpa using h2⟩
    show (blsD (w.map fun _ => DV.bl true)).map (true :: ·) = _
    rw [h1]; rfl
theorem all_true (w : List DV) : primD .all [.lst (w.map fun _ => DV.bl true)] = some (.bl true) := by
  obtain ⟨bs, h1, h2⟩ := bls_true w
  show ((lstD (DV.lst _)).bind blsD).map _ = _
  show (blsD _).map _ = _
  rw [h1, Option.map_some, h2]
def ShJ (fv : DV) (F : List DV) (goal : DV) (q : Int) (ps : List Pr) (kg : Nat) (n : Int) (f : T → Int) (m : Mem) (i : Nat) (env : Env') (mm : Mem) : Prop := ∃ left e4 e5 e6, IsSum (kg + 8 * i) left (n * q - lN F (ps.take i)) (fun t => f t * q - lF F (ps.take i) t) ∧ env = [some fv, some goal, some (paperD q ps), some left, e4, e5, e6] ∧ mm = m
theorem flat_int : ∀ ps : List Pr, ∀ x ∈ flat ps, ∃ i, x = DV.int i
  | [], x, hx => by cases hx
  | p :: ps, x, hx => by
    simp only [flat, List.mem_cons] at hx
    rcases hx with rfl | rfl | hx
    · exact ⟨_, rfl⟩
    · exact ⟨_, rfl⟩
    · exact flat_int ps x hx
def ShQ (F : List DV) (q n : Int) (f : T → Int) (ps : List Pr) (m : Mem) (r : Out DV) : Prop := ((∀ t, f t * q = lF F ps t) → r = .ok (.bl (decide (-q < n * q - lN F ps))) m) ∧ ((∃ t, f t * q ≠ lF F ps t) → r = .ok (.bl false) m)
theorem zero_rows {k : Nat} {L : List (T × Int)} {f : T → Int} (h : Can k L f) : (∀ t, f t = 0) ↔ L = [] := by
  constructor
  · intro h0
    cases L with
    | nil => rfl
    | cons r L =>
      have := val_mem h.nd (List.mem_cons_self (a := r) (l := L))
      rw [h.v, h0] at this
      exact absurd this.symm (h.nz r List.mem_cons_self)
  · rintro rfl t
    rw [← h.v]; rfl
theorem shows_ok {fv goal : DV} {F : List DV} {q n : Int} {ps : List Pr} {kg : Nat} {f : T → Int} (hF : Fv fv F) (hg : IsSum kg goal n f) (hk : kg ≤ 500) (h0 : 1 ≤ q) (h1 : q ≤ 1000) (hp : Ok F ps) (d b : Nat) (m : Mem) :
    ShQ F q n f ps m (evCall cs P (d + 2) 2 [fv, goal, paperD q ps] b m) := by
  refine call_rule P2 rfl rfl ?_
  have hmod : ((flat ps).length + 1 : Int).fmod 2 = 1 := by
    rw [flat_len, Int.fmod_eq_emod_of_nonneg _ (by decide)]; omega
  have hx : ∀ m, rs m fv = fv := fun m => xrs_nr hF.nr
  obtain ⟨z, z1, z2⟩ := times_sum hg (c := q) (by omega) (by omega) d
  simp [-WB_cons, d_shows, paperD]
  rw [WB_cons]
  simp [-WB_cons, hmod]
  refine comp_map (fun _ => .bl true) (fun dv hd => ?_) ?_
  · obtain ⟨i, rfl⟩ : ∃ i, dv = DV.int i := by
      rcases List.mem_cons.mp hd with rfl | hd
      · exact ⟨_, rfl⟩
      · exact flat_int ps dv hd
    simp [isiD, isTy]
  · have hall : primD .all [.lst (.bl true :: List.map (fun _ => DV.bl true) (flat ps))] = some (.bl true) := all_true (DV.int q :: flat ps)
    simp [-WB_cons, hall, show ¬ (q < 1) by omega]
    rw [WB_cons]
    simp [-WB_cons, z1, z2.nr]
    rw [WB_cons]
    simp [ev2_flat, ev2_flatt, zip_ps]
    refine for_rule (ShJ fv F goal q ps kg n f m) ⟨z, none, none, none, (z2.mono (by omega)).cg (by simp [lN]) (fun t => by simp [lF]), by simp [paperD], rfl⟩ ?_ ?_
    · rintro i dv env mm hi ⟨left, e4, e5, e6, hl, rfl, rfl⟩
      rw [List.getElem?_map] at hi
      obtain ⟨⟨j, c⟩, hr, rfl⟩ := Option.map_eq_some_iff.mp hi
      have hil := (List.getElem?_eq_some_iff.mp hr).1
      have hpl := hp.2
      obtain ⟨hj, c0, c1⟩ := hp.1 _ (List.mem_of_getElem? hr)
      simp only at hj c0 c1
      obtain ⟨y, y1, y2⟩ := times_sum (hF.at hj) (c := -c) (by omega) (by omega) d
      obtain ⟨u, u1, u2⟩ := plus_sum hl y2 (by omega) d
      have hjl : (j : Int) < F.length := by omega
      simp [pD, hF.len, hF.sub hj, hx, hj, c0, y1, u1, show ¬ (c < 0) by omega, hjl, u2.nr]
      refine ⟨_, _, _, _, (u2.mono (by omega)).cg ?_ (fun t => ?_), rfl, rfl⟩
      · rw [take_p hr, lN_app]; simp [lN]; rw [Int.mul_neg]; omega
      · rw [take_p hr, lF_app]; simp [lF]; rw [Int.mul_neg]; omega
    · rintro env mm ⟨left, e4, e5, e6, hl, rfl, rfl⟩
      rw [List.length_map, List.take_length] at hl
      obtain ⟨L, hL, rfl⟩ := hl
      have hz := zero_rows hL
      by_cases e : L = []
      · have h0' := hz.mpr e
        subst e
        simp [sumD, ShQ, paperD]
        exact fun x y z => absurd (by have := h0' (x, y); omega) z
      · have : L.length ≠ 0 := fun z => e (List.eq_nil_of_length_eq_zero z)
        simp [sumD, e, ShQ]
        exact fun z => absurd (hz.mp fun t => by have : f t * q = lF F ps t := z t.1 t.2; omega) e
end K58

set_option Elab.async false
set_option linter.all false
set_option maxRecDepth 100000
set_option maxHeartbeats 1000000
namespace K58
open PySem Ev Ev.DA Ev.SU
def sD (s : Su) : DV := sumD s.1 s.2
theorem nOf_sD (s : Su) : nOf (sD s) = s.1 := rfl
theorem fOf_sD (s : Su) (t : T) : fOf (sD s) t = val s.2 t := rowsV_eq _ _
theorem fAt_sD {F : List Su} {i : Nat} {f : Su} (h : F[i]? = some f) : fAt (F.map sD) i = sD f := by
  unfold fAt
  rw [List.getElem?_map, h]; rfl
def bnd : Nat → Int
  | 0 => 100
  | k + 1 => 13 * bnd k
theorem bnd_pos : ∀ k, 100 ≤ bnd k
  | 0 => by simp [bnd]
  | k + 1 => by have := bnd_pos k; simp only [bnd]; omega
theorem bnd_7 {k : Nat} (h : k ≤ 7) : bnd k ≤ 6274851700 := by
  match k, h with
  | 0, _ => decide
  | 1, _ => decide
  | 2, _ => decide
  | 3, _ => decide
  | 4, _ => decide
  | 5, _ => decide
  | 6, _ => decide
  | 7, _ => decide
/-- a fact as it is drawn -/
structure GF (f : Su) : Prop where
  can : Can 8 f.2 (val f.2)
  b : ∀ t, -12 ≤ val f.2 t ∧ val f.2 t ≤ 12
structure GN (F : List Su) (g : Su) (nd : Nd) : Prop where
  can : Can (100 + 8 * nd.2.length) nd.1.2 (val nd.1.2)
  b : ∀ t, -bnd nd.2.length ≤ val nd.1.2 t ∧ val nd.1.2 t ≤ bnd nd.2.length
  l : nd.2.length ≤ 7
  n : nd.1.1 = g.1 - lN (F.map sD) nd.2
  f : ∀ t, val nd.1.2 t = val g.2 t - lF (F.map sD) nd.2 t
  p : ∀ p ∈ nd.2, p.1 < F.length ∧ 1 ≤ p.2 ∧ p.2 ≤ 6274851700
theorem plusR_can {k j : Nat} {L M : Row} {f g : T → Int} (hL : Can k L f) (hM : Can j M g) : Can (k + j) (plusR L M) fun t => f t + g t := by
  obtain ⟨a1, a2, a3⟩ := addAll_ok M hL.nd
  refine Can.of a1 (fun t => by rw [a2, hL.v, hM.v]) ?_
  have := hL.l; have := hM.l; omega
theorem Can.self {k : Nat} {L : Row} {f : T → Int} (h : Can k L f) : Can k L (val L) := { h with v := fun _ => rfl }
theorem q_bnd {many s q : Int} {B : Int} (h : many = s * q) (hs : s ≠ 0) (hq : 0 < q) (h1 : -B ≤ many) (h2 : many ≤ B) : q ≤ B := by
  by_cases hp : 0 < s
  · have : 1 * q ≤ s * q := Int.mul_le_mul_of_nonneg_right (by omega) (by omega)
    omega
  · have : 1 * q ≤ -s * q := Int.mul_le_mul_of_nonneg_right (by omega) (by omega)
    rw [Int.neg_mul] at this
    omega
theorem kid_ok {F : List Su} {g : Su} {nd x : Nd} {r : T × Int} {R : Row} {i : Nat} {f : Su} (hn : GN F g nd) (hl : nd.2.length < 7) (hr : nd.1.2 = r :: R) (hf : GF f) (hi : F[i]? = some f) (h : kid nd r.1 r.2 i f = some x) : GN F g x ∧ 0 < r.2.fdiv (val f.2 r.1) ∧ r.2.fdiv (val f.2 r.1) ≤ 6274851700 := by
  unfold kid at h
  split at h
  · rename_i hc
    obtain ⟨c1, c2, c3⟩ := hc
    cases h
    have hm : r.2 = val nd.1.2 r.1 := (val_mem hn.can.nd (by rw [hr]; exact List.mem_cons_self)).symm
    generalize hs : val f.2 r.1 = s at *
    generalize hq : r.2.fdiv s = q at *
    have e1 : r.2 = s * q := by
      rw [Int.fmod_def, hq] at c2
      omega
    have hB := hn.b r.1
    rw [← hm] at hB
    have q1 : q ≤ bnd nd.2.length := q_bnd e1 c1 c3 hB.1 hB.2
    have q2 := bnd_7 hn.l
    have hsc : Can 8 (scR (-q) f.2) fun t => val f.2 t * -q := hf.can.scale (by omega)
    have hp := plusR_can hn.can hsc
    have hv : ∀ t, val (plusR nd.1.2 (scR (-q) f.2)) t = val nd.1.2 t + val f.2 t * -q := hp.v
    have hlen : (nd.2 ++ [(i, q)]).length = nd.2.length + 1 := by simp
    refine ⟨⟨?_, fun t => ?_, ?_, ?_, fun t => ?_, fun p hp => ?_⟩, c3, by omega⟩
    · show Can (100 + 8 * (nd.2 ++ [(i, q)]).length) (plusR nd.1.2 (scR (-q) f.2)) (val (plusR nd.1.2 (scR (-q) f.2)))
      rw [hlen]
      have := Can.self hp
      exact { this with l := by have := this.l; omega }
    · show -bnd (nd.2 ++ [(i, q)]).length ≤ val (plusR nd.1.2 (scR (-q) f.2)) t ∧ val (plusR nd.1.2 (scR (-q) f.2)) t ≤ bnd (nd.2 ++ [(i, q)]).length
      rw [hlen, hv, Int.mul_neg]
      have b1 := hn.b t
      have b2 := hf.b t
      have b3 : val f.2 t * q ≤ 12 * q := Int.mul_le_mul_of_nonneg_right b2.2 (by omega)
      have b4 : -12 * q ≤ val f.2 t * q := Int.mul_le_mul_of_nonneg_right b2.1 (by omega)
      simp only [bnd]
      omega
    · show (nd.2 ++ [(i, q)]).length ≤ 7
      omega
    · show nd.1.1 + f.1 * -q = g.1 - lN (F.map sD) (nd.2 ++ [(i, q)])
      rw [lN_app, lN, lN, hn.n, fAt_sD hi, nOf_sD, Int.mul_neg]
      simp only
      omega
    · show val (plusR nd.1.2 (scR (-q) f.2)) t = val g.2 t - lF (F.map sD) (nd.2 ++ [(i, q)]) t
      rw [lF_app, lF, lF, hv, hn.f, fAt_sD hi, fOf_sD, Int.mul_neg]
      simp only
      omega
    · rcases List.mem_append.mp hp with hp | hp
      · exact hn.p p hp
      · rw [List.mem_singleton.mp hp]
        exact ⟨(List.getElem?_eq_some_iff.mp hi).1, by simp only; omega, by simp only; omega⟩
  · cases h
theorem kids_ok {F : List Su} {g : Su} {nd x : Nd} (hF : ∀ f ∈ F, GF f) (hn : GN F g nd) (h : x ∈ kids F nd) : GN F g x := by
  unfold kids at h
  split at h
  · cases h
  · rename_i r R hr
    split at h
    · rename_i hl
      obtain ⟨j, f, h1, h2⟩ := kidsF_mem h
      rw [Nat.zero_add] at h2
      exact (kid_ok hn hl hr (hF f (List.mem_of_getElem? h1)) h1 h2).1
    · cases h
theorem find_ok {F : List Su} {g : Su} (hF : ∀ f ∈ F, GF f) {ps : List Pr} : ∀ {k : Nat} {S : List Nd}, (∀ nd ∈ S, GN F g nd) → find F k S = some ps → ∃ nd, GN F g nd ∧ nd.2 = ps ∧ nd.1.2 = [] ∧ 0 ≤ nd.1.1
  | 0, S, _, h => by cases S <;> cases h
  | k + 1, [], _, h => by cases h
  | k + 1, nd :: S, hS, h => by
    rw [find] at h
    split at h
    · rename_i e
      cases h
      exact ⟨nd, hS nd List.mem_cons_self, rfl, e.1, e.2⟩
    · refine find_ok hF (fun x hx => ?_) h
      rcases List.mem_append.mp hx with hx | hx
      · exact kids_ok hF (hS nd List.mem_cons_self) hx
      · exact hS x (List.mem_cons_of_mem _ hx)
theorem GN.start {F : List Su} {g : Su} (h : Can 100 g.2 (val g.2)) (hb : ∀ t, -100 ≤ val g.2 t ∧ val g.2 t ≤ 100) : GN F g (g, []) := ⟨h, hb, by simp, by simp [lN], fun t => by simp [lF], by simp⟩
theorem find_none (F : List Su) : ∀ k, find F k [] = none
  | 0 => rfl
  | _ + 1 => rfl
/-- no rows -/
theorem find_num (F : List Su) (n : Int) : find F 300 [((n, []), [])] = if 0 ≤ n then some [] else none := by
  rw [find]
  by_cases h : 0 ≤ n
  · rw [if_pos ⟨rfl, h⟩, if_pos h]
  · rw [if_neg fun z => h z.2, if_neg h]
    exact find_none F 299
/-- no facts -/
theorem find_nof (g : Su) : find [] 300 [(g, [])] = if g.2 = [] ∧ 0 ≤ g.1 then some [] else none := by
  rw [find]
  by_cases h : g.2 = [] ∧ 0 ≤ g.1
  · rw [if_pos h, if_pos h]
  · rw [if_neg h, if_neg h]
    have : kids [] (g, []) = [] := by
      unfold kids
      cases g.2 <;> rfl
    rw [this]
    exact find_none [] 299
end K58

set_option Elab.async false
set_option linter.all false
set_option maxRecDepth 100000
set_option maxHeartbeats 4000000
namespace K58
open PySem Ev Ev.DA Ev.SU
def pdD (ps : List Pr) : DV := if ps = [] then .kt [] else .tup (flat ps)
def ndD (nd : Nd) : DV := .tup [sD nd.1, pdD nd.2]
def resD : Option (List Pr) → DV
  | none => .non
  | some ps => paperD 1 ps
theorem flat_nr (ps : List Pr) : noRefs (flat ps) = true := noRefs_all fun x hx => by obtain ⟨i, rfl⟩ := flat_int _ x hx; rfl
theorem paper_nr (q : Int) (ps : List Pr) : noRef (paperD q ps) = true := by
  rw [paperD, noRef, noRefs, flat_nr]; rfl
theorem pd_len (ps : List Pr) : primD .len [pdD ps] = some (.int ((2 * ps.length : Nat) : Int)) := by
  unfold pdD
  by_cases h : ps = []
  · subst h; rfl
  · rw [if_neg h, ← flat_len]; rfl
theorem flat_ne {ps : List Pr} (h : ps ≠ []) : flat ps ≠ [] := by
  cases ps with
  | nil => exact absurd rfl h
  | cons p ps => simp [flat]
theorem pd_app {ps : List Pr} (i : Nat) (q : Int) (hl : ps.length ≤ 1000) : op2 .add (pdD ps) (.tup [.int (i : Int), .int q]) = some (pdD (ps ++ [(i, q)])) := by
  unfold pdD
  have h2 : ps ++ [(i, q)] ≠ [] := by simp
  rw [if_neg h2]
  by_cases h : ps = []
  · subst h; rfl
  · rw [if_neg h, flat_app]
    show (if (flat ps).length + 2 ≤ SL then _ else _) = _
    rw [if_pos (by rw [flat_len]; show 2 * ps.length + 2 ≤ 10000000; omega)]
    rfl
theorem one_pd {ps : List Pr} (hl : ps.length ≤ 1000) : op2 .add (.tup [.int 1]) (pdD ps) = some (paperD 1 ps) := by
  unfold pdD
  by_cases h : ps = []
  · subst h; rfl
  · rw [if_neg h]
    show (if 1 + (flat ps).length ≤ SL then _ else _) = _
    rw [if_pos (by rw [flat_len]; show 1 + 2 * ps.length ≤ 10000000; omega)]
    rfl
theorem pd_nr (ps : List Pr) : noRef (pdD ps) = true := by
  unfold pdD
  split
  · rfl
  · rw [noRef]; exact flat_nr ps
theorem sD_nr (s : Su) : noRef (sD s) = true := by simp [sD, sumD, noRefs, noRef, rows_nr]
theorem nd_nr (nd : Nd) : noRef (ndD nd) = true := by simp [ndD, noRefs, noRef, sD_nr, pd_nr]
theorem GF.dt {f : Su} (h : GF f) : mkDt (f.2.map rowD) [] [] = some (.dt (dks f.2) (dvs f.2)) := h.can.mk_dt
def WJ (fv gd : DV) (F : List Su) (g : Su) (m : Mem) (k : Nat) (env : Env') (mm : Mem) : Prop := ∃ (S : List Nd) (jk : Mem) (seen : Int) (e4 e5 e6 e7 e8 e9 e10 e11 : Option DV), seen + k = 300 ∧ S.length + 20 * k ≤ 6001 ∧ (∀ nd ∈ S, GN F g nd) ∧ find F k S = find F 300 [(g, [])] ∧
  env = [some fv, some gd, some (.ref (m.length + jk.length)), some (.int seen), e4, e5, e6, e7, e8, e9, e10, e11] ∧ mm = m ++ (jk ++ [.c (.lst (S.map ndD).reverse)])
def KJ (fv gd : DV) (F : List Su) (m jk : Mem) (seen : Int) (nd : Nd) (t : T) (c : Int) (R : Row) (S : List Nd) (i : Nat) (env : Env') (mm : Mem) : Prop := ∃ (jk' : Mem) (e9 e10 e11 : Option DV),
  env = [some fv, some gd, some (.ref (m.length + jk.length)), some (.int seen), some (.tup [.int nd.1.1, .kt (.tup [tD t, .int c] :: R.map rowD)]), some (pdD nd.2), some (.ref (m.length + (jk.length + 1))), some (tD t), some (.int c), e9, e10, e11] ∧
  mm = m ++ (jk ++ (.c (.lst (S.map ndD).reverse) :: .c (.lst ((kidsF nd t c 0 (F.take i)).map ndD)) :: jk'))
theorem told_kt {F : List Su} {g : Su} (hF : ∀ f ∈ F, GF f) (hFl : F.length ≤ 20) (hg : Can 100 g.2 (val g.2)) (hb : ∀ t, -100 ≤ val g.2 t ∧ val g.2 t ≤ 100) (d b : Nat) (m : Mem) : evCall cs P (d + 2) 3 [.kt (F.map sD), sD g] b m = .ok (resD (find F 300 [(g, [])])) m := by
  refine call_rule (Q := fun r => r = .ok _ m) P3 rfl rfl ?_
  have hgn := sD_nr g
  have hfn : noRefs (F.map sD) = true := noRefs_all fun x hx => by obtain ⟨f, _, rfl⟩ := List.mem_map.mp hx; exact sD_nr f
  obtain ⟨gd, hgd⟩ : ∃ gd, gd = sD g := ⟨_, rfl⟩
  rw [← hgd] at hgn ⊢
  simp [-WB_cons, d_told_paper]
  rw [WB_cons]
  simp [-WB_cons, hgn, xrs_nr hgn]
  rw [WB_cons]
  refine whl_rule (WJ (.kt (F.map sD)) gd F g m) 300 (by omega) ⟨[(g, [])], [], 0, none, none, none, none, none, none, none, none, by omega, by simp, fun nd h => by rw [List.mem_singleton.mp h]; exact GN.start hg hb, rfl, by simp, by simp [ndD, pdD, hgd]⟩ ?_
  rintro k env mm ⟨S, jk, seen, e4, e5, e6, e7, e8, e9, e10, e11, h1, h2, h3, h4, rfl, rfl⟩
  cases S with
  | nil =>
    have h5 := (find_none F k).symm.trans h4
    simp
    rw [← h5]; rfl
  | cons nd S =>
    cases k with
    | zero =>
      have h5 : none = find F 300 [(g, [])] := h4
      have hs : seen = 300 := by omega
      subst hs
      simp
      rw [← h5]; rfl
    | succ k =>
      have hsl : seen < 300 := by omega
      have hnd := h3 nd List.mem_cons_self
      obtain ⟨⟨n, L⟩, ps⟩ := nd
      have hpn := pd_nr ps
      simp [-WB_cons, hsl]
      rw [WB_cons]
      simp [-WB_cons, ndD]
      rw [WB_cons]
      simp [-WB_cons]
      rw [WB_cons]
      rw [find] at h4
      have hw : ∀ nd ∈ S, GN F g nd := fun nd h => h3 nd (List.mem_cons_of_mem _ h)
      have hsn : seen + 1 + (k : Int) = 300 := by omega
      cases L with
      | nil =>
        by_cases hn0 : 0 ≤ n
        · rw [if_pos ⟨rfl, hn0⟩] at h4
          have hpl : ps.length ≤ 1000 := by have := hnd.l; simp only at this; omega
          simp [sD, sumD, hn0, one_pd hpl, paper_nr, xrs_nr hpn]
          rw [← h4]; rfl
        · rw [if_neg fun z => hn0 z.2] at h4
          simp [sD, sumD, hn0]
          refine ⟨k, by omega, S, jk, seen + 1, _, _, _, _, _, _, _, _, hsn, by simp at h2; omega, hw, h4, rfl, by simp⟩
      | cons r R =>
        obtain ⟨t, c⟩ := r
        rw [if_neg fun z => by simp at z] at h4
        have z1 : ¬ ((R.length : Int) + 1 = 0) := by omega
        have z2 : (0 : Int) < (R.length : Int) + 1 := by omega
        by_cases hl : ps.length < 7
        · have hl2 : 2 * (ps.length : Int) < 14 := by omega
          have hk : kids F ((n, (t, c) :: R), ps) = kidsF ((n, (t, c) :: R), ps) t c 0 F := by
            show (if ps.length < 7 then _ else _) = _
            rw [if_pos hl]
          rw [hk] at h4
          simp [-WB_cons, sD, sumD, z1]
          rw [WB_cons]
          simp [-WB_cons, z2, pd_len, hl2, xrs_nr hpn]
          rw [WB_cons]
          simp [-WB_cons, rowD]
          rw [WB_cons]
          simp [-WB_cons]
          rw [WB_cons]
          simp [-WB_cons]
          refine for_rule (KJ (.kt (F.map sD)) gd F m jk (seen + 1) ((n, (t, c) :: R), ps) t c R S) ⟨[], _, _, _, rfl, by simp [kidsF]⟩ ?_ ?_
          · rintro i dv env mm hi ⟨jk', e9, e10, e11, rfl, rfl⟩
            rw [enum_get, List.getElem?_map] at hi
            obtain ⟨x, hx, rfl⟩ := Option.map_eq_some_iff.mp hi
            obtain ⟨f, hfi, rfl⟩ := Option.map_eq_some_iff.mp hx
            have hf := hF f (List.mem_of_getElem? hfi)
            have hil := (List.getElem?_eq_some_iff.mp hfi).1
            have hlk : (look (dks f.2) (dvs f.2) (tK t)).getD (.int 0) = .int (val f.2 t) := look_val t hf.can.nd
            have hbt := hf.b t
            have htk : kidsF ((n, (t, c) :: R), ps) t c 0 (F.take (i + 1)) = kidsF ((n, (t, c) :: R), ps) t c 0 (F.take i) ++ (kid ((n, (t, c) :: R), ps) t c i f).toList := by
              have e : F.take (i + 1) = F.take i ++ [f] := by rw [List.take_add_one, hfi]; rfl
              have e2 : (F.take i).length = i := by rw [List.length_take]; omega
              rw [e, kidsF_app, e2, Nat.zero_add]
              simp [kidsF]
            obtain ⟨s, hs⟩ : ∃ s, s = val f.2 t := ⟨_, rfl⟩
            rw [← hs] at hlk hbt
            have hkid : kid ((n, (t, c) :: R), ps) t c i f = if s ≠ 0 ∧ c.fmod s = 0 ∧ 0 < c.fdiv s then some ((n + f.1 * -(c.fdiv s), plusR ((t, c) :: R) (scR (-(c.fdiv s)) f.2)), ps ++ [(i, c.fdiv s)]) else none := by rw [hs]; rfl
            simp [-WB_cons, sD, sumD]
            rw [WB_cons]
            simp [-WB_cons, hf.dt, get_dt, hlk]
            rw [WB_cons]
            by_cases c1 : s = 0
            · rw [if_neg fun z => z.1 c1] at hkid
              simp [c1]
              exact ⟨jk' ++ [.c (.dt (dks f.2) (dvs f.2))], _, _, _, rfl, by rw [htk, hkid]; simp⟩
            by_cases c2 : ¬ c.fmod s = 0
            · rw [if_neg fun z => c2 z.2.1] at hkid
              simp [c1, c2]
              exact ⟨jk' ++ [.c (.dt (dks f.2) (dvs f.2))], _, _, _, rfl, by rw [htk, hkid]; simp⟩
            have c2 : c.fmod s = 0 := Classical.not_not.mp c2
            have hdv : L2.CDivN c s := ⟨c1, by omega⟩
            by_cases c3 : ¬ 0 < c.fdiv s
            · rw [if_neg fun z => c3 z.2.2] at hkid
              simp [c1, c2, c3, hdv]
              exact ⟨jk' ++ [.c (.dt (dks f.2) (dvs f.2))], _, _, _, rfl, by rw [htk, hkid]; simp⟩
            have c3 : 0 < c.fdiv s := Classical.not_not.mp c3
            rw [if_pos ⟨c1, c2, c3⟩] at hkid
            have hko := kid_ok hnd hl rfl hf hfi hkid
            have hqb : c.fdiv s ≤ 6274851700 := by rw [hs]; exact hko.2.2
            obtain ⟨q, hq⟩ : ∃ q, c.fdiv s = q := ⟨_, rfl⟩
            rw [hq] at hkid c3 hqb
            have hsc : Can 8 (scR (-q) f.2) fun t => val f.2 t * -q := hf.can.scale (by omega)
            have hpl := hnd.l
            simp only at hpl
            have T1 : ∀ b m, evCall cs P (d + 1) 1 [.tup [.int f.1, .kt (f.2.map rowD)], .int (-q)] b m = .ok (.tup [.int (f.1 * -q), .kt ((scR (-q) f.2).map rowD)]) m := fun b m => times_eq hf.can (by omega) (by omega) (by omega) d b m
            have T2 : ∀ b m, evCall cs P (d + 1) 0 [.tup [.int n, .kt (.tup [tD t, .int c] :: R.map rowD)], .tup [.int (f.1 * -q), .kt ((scR (-q) f.2).map rowD)]] b m = .ok (.tup [.int (n + f.1 * -q), .kt ((plusR ((t, c) :: R) (scR (-q) f.2)).map rowD)]) m := fun b m => plus_eq hnd.can hsc (by simp only; omega) d b m
            have hrn := rows_nr (plusR ((t, c) :: R) (scR (-q) f.2))
            have hll : (kidsF ((n, (t, c) :: R), ps) t c 0 (F.take i)).length < 10000000 := by
              have := kidsF_len (nd := ((n, (t, c) :: R), ps)) (t := t) (many := c) (A := F.take i) (i := 0)
              rw [List.length_take] at this
              omega
            have hpa := pd_app (ps := ps) i q (by omega)
            have hpn2 := pd_nr (ps ++ [(i, q)])
            obtain ⟨n2, hn2⟩ : ∃ n2, n2 = f.1 * -q := ⟨_, rfl⟩
            rw [← hn2] at T1 T2
            simp [c1, c2, c3, hdv, hq, T1, T2, hpa, xrs_nr hpn, hll, mayPut, noRefs, hrn, hpn2]
            exact ⟨jk' ++ [.c (.dt (dks f.2) (dvs f.2))], _, _, _, rfl, by rw [htk, hkid, ← hn2]; simp [ndD, sD, sumD]⟩
          · rintro env mm ⟨jk', e9, e10, e11, rfl, rfl⟩
            have hel : (enumD 0 (F.map sD)).length = F.length := by rw [enum_len, List.length_map]
            rw [hel, List.take_length]
            have hkl := kidsF_len (nd := ((n, (t, c) :: R), ps)) (t := t) (many := c) (A := F) (i := 0)
            have hkm : ∀ x ∈ kidsF ((n, (t, c) :: R), ps) t c 0 F, GN F g x := fun x hx => kids_ok hF hnd (by rw [hk]; exact hx)
            generalize kidsF ((n, (t, c) :: R), ps) t c 0 F = K at *
            simp at h2
            have hcat : primND .cat [.lst (S.map ndD).reverse, .lst (K.map ndD).reverse] = some (.lst ((S.map ndD).reverse ++ (K.map ndD).reverse)) := by
              show (if _ ≤ SL then _ else _) = _
              rw [if_pos (by rw [List.length_reverse, List.length_reverse, List.length_map, List.length_map]; show S.length + K.length ≤ 10000000; omega)]
            obtain ⟨jk2, hjk⟩ : ∃ jk2 : Mem, jk2 = jk ++ (.c (.lst (S.map ndD).reverse) :: .c (.lst (K.map ndD)) :: jk') := ⟨_, rfl⟩
            have hm2 : m ++ (jk ++ (.c (.lst (S.map ndD).reverse) :: .c (.lst (K.map ndD)) :: jk')) = m ++ jk2 := by rw [hjk]
            simp [hcat]
            have hlen : m.length + (jk.length + (jk'.length + 1 + 1)) = m.length + jk2.length := by rw [hjk]; simp
            rw [hlen]
            refine ⟨k, by omega, K ++ S, jk2, seen + 1, _, _, _, _, _, _, _, _, hsn, by rw [List.length_append]; omega, fun nd h => ?_, h4, rfl, ?_⟩
            · rcases List.mem_append.mp h with h | h
              · exact hkm nd h
              · exact hw nd h
            · rw [hjk]; simp
        · have hk : kids F ((n, (t, c) :: R), ps) = [] := by
            show (if ps.length < 7 then _ else _) = _
            rw [if_neg hl]
          rw [hk] at h4
          have hl2 : ¬ 2 * (ps.length : Int) < 14 := by omega
          simp [sD, sumD, pd_len, hl2, xrs_nr hpn, z1, z2]
          exact ⟨k, by omega, S, jk, seen + 1, _, _, _, _, _, _, _, _, hsn, by simp at h2; omega, hw, h4, rfl, by simp⟩
theorem told_tup {F : List Su} {g : Su} (hF : ∀ f ∈ F, GF f) (hFl : F.length ≤ 20) (hg : Can 100 g.2 (val g.2)) (hb : ∀ t, -100 ≤ val g.2 t ∧ val g.2 t ≤ 100) (d b : Nat) (m : Mem) : evCall cs P (d + 2) 3 [.tup (F.map sD), sD g] b m = .ok (resD (find F 300 [(g, [])])) m := by
  refine call_rule (Q := fun r => r = .ok _ m) P3 rfl rfl ?_
  have hgn := sD_nr g
  have hfn : noRefs (F.map sD) = true := noRefs_all fun x hx => by obtain ⟨f, _, rfl⟩ := List.mem_map.mp hx; exact sD_nr f
  obtain ⟨gd, hgd⟩ : ∃ gd, gd = sD g := ⟨_, rfl⟩
  rw [← hgd] at hgn ⊢
  simp [-WB_cons, d_told_paper]
  rw [WB_cons]
  simp [-WB_cons, hgn, xrs_nr hgn]
  rw [WB_cons]
  refine whl_rule (WJ (.tup (F.map sD)) gd F g m) 300 (by omega) ⟨[(g, [])], [], 0, none, none, none, none, none, none, none, none, by omega, by simp, fun nd h => by rw [List.mem_singleton.mp h]; exact GN.start hg hb, rfl, by simp, by simp [ndD, pdD, hgd]⟩ ?_
  rintro k env mm ⟨S, jk, seen, e4, e5, e6, e7, e8, e9, e10, e11, h1, h2, h3, h4, rfl, rfl⟩
  cases S with
  | nil =>
    have h5 := (find_none F k).symm.trans h4
    simp
    rw [← h5]; rfl
  | cons nd S =>
    cases k with
    | zero =>
      have h5 : none = find F 300 [(g, [])] := h4
      have hs : seen = 300 := by omega
      subst hs
      simp
      rw [← h5]; rfl
    | succ k =>
      have hsl : seen < 300 := by omega
      have hnd := h3 nd List.mem_cons_self
      obtain ⟨⟨n, L⟩, ps⟩ := nd
      have hpn := pd_nr ps
      simp [-WB_cons, hsl]
      rw [WB_cons]
      simp [-WB_cons, ndD]
      rw [WB_cons]
      simp [-WB_cons]
      rw [WB_cons]
      rw [find] at h4
      have hw : ∀ nd ∈ S, GN F g nd := fun nd h => h3 nd (List.mem_cons_of_mem _ h)
      have hsn : seen + 1 + (k : Int) = 300 := by omega
      cases L with
      | nil =>
        by_cases hn0 : 0 ≤ n
        · rw [if_pos ⟨rfl, hn0⟩] at h4
          have hpl : ps.length ≤ 1000 := by have := hnd.l; simp only at this; omega
          simp [sD, sumD, hn0, one_pd hpl, paper_nr, xrs_nr hpn]
          rw [← h4]; rfl
        · rw [if_neg fun z => hn0 z.2] at h4
          simp [sD, sumD, hn0]
          refine ⟨k, by omega, S, jk, seen + 1, _, _, _, _, _, _, _, _, hsn, by simp at h2; omega, hw, h4, rfl, by simp⟩
      | cons r R =>
        obtain ⟨t, c⟩ := r
        rw [if_neg fun z => by simp at z] at h4
        have z1 : ¬ ((R.length : Int) + 1 = 0) := by omega
        have z2 : (0 : Int) < (R.length : Int) + 1 := by omega
        by_cases hl : ps.length < 7
        · have hl2 : 2 * (ps.length : Int) < 14 := by omega
          have hk : kids F ((n, (t, c) :: R), ps) = kidsF ((n, (t, c) :: R), ps) t c 0 F := by
            show (if ps.length < 7 then _ else _) = _
            rw [if_pos hl]
          rw [hk] at h4
          simp [-WB_cons, sD, sumD, z1]
          rw [WB_cons]
          simp [-WB_cons, z2, pd_len, hl2, xrs_nr hpn]
          rw [WB_cons]
          simp [-WB_cons, rowD]
          rw [WB_cons]
          simp [-WB_cons]
          rw [WB_cons]
          simp [-WB_cons]
          refine for_rule (KJ (.tup (F.map sD)) gd F m jk (seen + 1) ((n, (t, c) :: R), ps) t c R S) ⟨[], _, _, _, rfl, by simp [kidsF]⟩ ?_ ?_
          · rintro i dv env mm hi ⟨jk', e9, e10, e11, rfl, rfl⟩
            rw [enum_get, List.getElem?_map] at hi
            obtain ⟨x, hx, rfl⟩ := Option.map_eq_some_iff.mp hi
            obtain ⟨f, hfi, rfl⟩ := Option.map_eq_some_iff.mp hx
            have hf := hF f (List.mem_of_getElem? hfi)
            have hil := (List.getElem?_eq_some_iff.mp hfi).1
            have hlk : (look (dks f.2) (dvs f.2) (tK t)).getD (.int 0) = .int (val f.2 t) := look_val t hf.can.nd
            have hbt := hf.b t
            have htk : kidsF ((n, (t, c) :: R), ps) t c 0 (F.take (i + 1)) = kidsF ((n, (t, c) :: R), ps) t c 0 (F.take i) ++ (kid ((n, (t, c) :: R), ps) t c i f).toList := by
              have e : F.take (i + 1) = F.take i ++ [f] := by rw [List.take_add_one, hfi]; rfl
              have e2 : (F.take i).length = i := by rw [List.length_take]; omega
              rw [e, kidsF_app, e2, Nat.zero_add]
              simp [kidsF]
            obtain ⟨s, hs⟩ : ∃ s, s = val f.2 t := ⟨_, rfl⟩
            rw [← hs] at hlk hbt
            have hkid : kid ((n, (t, c) :: R), ps) t c i f = if s ≠ 0 ∧ c.fmod s = 0 ∧ 0 < c.fdiv s then some ((n + f.1 * -(c.fdiv s), plusR ((t, c) :: R) (scR (-(c.fdiv s)) f.2)), ps ++ [(i, c.fdiv s)]) else none := by rw [hs]; rfl
            simp [-WB_cons, sD, sumD]
            rw [WB_cons]
            simp [-WB_cons, hf.dt, get_dt, hlk]
            rw [WB_cons]
            by_cases c1 : s = 0
            · rw [if_neg fun z => z.1 c1] at hkid
              simp [c1]
              exact ⟨jk' ++ [.c (.dt (dks f.2) (dvs f.2))], _, _, _, rfl, by rw [htk, hkid]; simp⟩
            by_cases c2 : ¬ c.fmod s = 0
            · rw [if_neg fun z => c2 z.2.1] at hkid
              simp [c1, c2]
              exact ⟨jk' ++ [.c (.dt (dks f.2) (dvs f.2))], _, _, _, rfl, by rw [htk, hkid]; simp⟩
            have c2 : c.fmod s = 0 := Classical.not_not.mp c2
            have hdv : L2.CDivN c s := ⟨c1, by omega⟩
            by_cases c3 : ¬ 0 < c.fdiv s
            · rw [if_neg fun z => c3 z.2.2] at hkid
              simp [c1, c2, c3, hdv]
              exact ⟨jk' ++ [.c (.dt (dks f.2) (dvs f.2))], _, _, _, rfl, by rw [htk, hkid]; simp⟩
            have c3 : 0 < c.fdiv s := Classical.not_not.mp c3
            rw [if_pos ⟨c1, c2, c3⟩] at hkid
            have hko := kid_ok hnd hl rfl hf hfi hkid
            have hqb : c.fdiv s ≤ 6274851700 := by rw [hs]; exact hko.2.2
            obtain ⟨q, hq⟩ : ∃ q, c.fdiv s = q := ⟨_, rfl⟩
            rw [hq] at hkid c3 hqb
            have hsc : Can 8 (scR (-q) f.2) fun t => val f.2 t * -q := hf.can.scale (by omega)
            have hpl := hnd.l
            simp only at hpl
            have T1 : ∀ b m, evCall cs P (d + 1) 1 [.tup [.int f.1, .kt (f.2.map rowD)], .int (-q)] b m = .ok (.tup [.int (f.1 * -q), .kt ((scR (-q) f.2).map rowD)]) m := fun b m => times_eq hf.can (by omega) (by omega) (by omega) d b m
            have T2 : ∀ b m, evCall cs P (d + 1) 0 [.tup [.int n, .kt (.tup [tD t, .int c] :: R.map rowD)], .tup [.int (f.1 * -q), .kt ((scR (-q) f.2).map rowD)]] b m = .ok (.tup [.int (n + f.1 * -q), .kt ((plusR ((t, c) :: R) (scR (-q) f.2)).map rowD)]) m := fun b m => plus_eq hnd.can hsc (by simp only; omega) d b m
            have hrn := rows_nr (plusR ((t, c) :: R) (scR (-q) f.2))
            have hll : (kidsF ((n, (t, c) :: R), ps) t c 0 (F.take i)).length < 10000000 := by
              have := kidsF_len (nd := ((n, (t, c) :: R), ps)) (t := t) (many := c) (A := F.take i) (i := 0)
              rw [List.length_take] at this
              omega
            have hpa := pd_app (ps := ps) i q (by omega)
            have hpn2 := pd_nr (ps ++ [(i, q)])
            obtain ⟨n2, hn2⟩ : ∃ n2, n2 = f.1 * -q := ⟨_, rfl⟩
            rw [← hn2] at T1 T2
            simp [c1, c2, c3, hdv, hq, T1, T2, hpa, xrs_nr hpn, hll, mayPut, noRefs, hrn, hpn2]
            exact ⟨jk' ++ [.c (.dt (dks f.2) (dvs f.2))], _, _, _, rfl, by rw [htk, hkid, ← hn2]; simp [ndD, sD, sumD]⟩
          · rintro env mm ⟨jk', e9, e10, e11, rfl, rfl⟩
            have hel : (enumD 0 (F.map sD)).length = F.length := by rw [enum_len, List.length_map]
            rw [hel, List.take_length]
            have hkl := kidsF_len (nd := ((n, (t, c) :: R), ps)) (t := t) (many := c) (A := F) (i := 0)
            have hkm : ∀ x ∈ kidsF ((n, (t, c) :: R), ps) t c 0 F, GN F g x := fun x hx => kids_ok hF hnd (by rw [hk]; exact hx)
            generalize kidsF ((n, (t, c) :: R), ps) t c 0 F = K at *
            simp at h2
            have hcat : primND .cat [.lst (S.map ndD).reverse, .lst (K.map ndD).reverse] = some (.lst ((S.map ndD).reverse ++ (K.map ndD).reverse)) := by
              show (if _ ≤ SL then _ else _) = _
              rw [if_pos (by rw [List.length_reverse, List.length_reverse, List.length_map, List.length_map]; show S.length + K.length ≤ 10000000; omega)]
            obtain ⟨jk2, hjk⟩ : ∃ jk2 : Mem, jk2 = jk ++ (.c (.lst (S.map ndD).reverse) :: .c (.lst (K.map ndD)) :: jk') := ⟨_, rfl⟩
            have hm2 : m ++ (jk ++ (.c (.lst (S.map ndD).reverse) :: .c (.lst (K.map ndD)) :: jk')) = m ++ jk2 := by rw [hjk]
            simp [hcat]
            have hlen : m.length + (jk.length + (jk'.length + 1 + 1)) = m.length + jk2.length := by rw [hjk]; simp
            rw [hlen]
            refine ⟨k, by omega, K ++ S, jk2, seen + 1, _, _, _, _, _, _, _, _, hsn, by rw [List.length_append]; omega, fun nd h => ?_, h4, rfl, ?_⟩
            · rcases List.mem_append.mp h with h | h
              · exact hkm nd h
              · exact hw nd h
            · rw [hjk]; simp
        · have hk : kids F ((n, (t, c) :: R), ps) = [] := by
            show (if ps.length < 7 then _ else _) = _
            rw [if_neg hl]
          rw [hk] at h4
          have hl2 : ¬ 2 * (ps.length : Int) < 14 := by omega
          simp [sD, sumD, pd_len, hl2, xrs_nr hpn, z1, z2]
          exact ⟨k, by omega, S, jk, seen + 1, _, _, _, _, _, _, _, _, hsn, by simp at h2; omega, hw, h4, rfl, by simp⟩
end K58

set_option Elab.async false
set_option linter.all false
set_option maxRecDepth 100000
set_option maxHeartbeats 4000000
namespace K58
open PySem Ev Ev.DA Ev.SU
theorem pk_ints {p : SA} {is : List Int} (h : is ≠ []) : ∃ i ∈ is, pk p (is.map .int) = .int i := by
  obtain ⟨i, h1, h2⟩ := List.mem_map.mp (pk_mem (p := p) (xs := is.map DV.int) (by simpa using h))
  exact ⟨i, h1, h2.symm⟩
theorem pk_strs {p : SA} {is : List (List Nat)} (h : is ≠ []) : ∃ i ∈ is, pk p (is.map .str) = .str i := by
  obtain ⟨i, h1, h2⟩ := List.mem_map.mp (pk_mem (p := p) (xs := is.map DV.str) (by simpa using h))
  exact ⟨i, h1, h2.symm⟩
/-! ### _law_eq -/
theorem eq_int (i : Int) (d b : Nat) (m : Mem) : evCall cs P (d + 1) 7 [.int i, .int i] b m = .ok (.bl true) m := by
  refine call_rule (Q := fun r => r = .ok _ m) P7 rfl rfl ?_
  simp [d_law_eq, isiD, isTy]
theorem eq_ints {xs : List DV} (h : ∀ x ∈ xs, ∃ i, x = DV.int i) (hl : xs.length ≤ 1000000) (d b : Nat) (m : Mem) : evCall cs P (d + 2) 7 [.tup xs, .tup xs] b m = .ok (.bl true) m := by
  refine call_rule (Q := fun r => r = .ok _ m) P7 rfl rfl ?_
  simp [d_law_eq, isiD, isTy, show (xs.length : Int) ≤ 10000000 by omega, show (-4611686018427387904 : Int) ≤ (xs.length : Int) by omega]
  refine comp_pure (fun _ => false) id (fun dv hd => ?_) ?_
  · obtain ⟨i, hi, rfl⟩ := rngI_mem hd
    have e : xs[i]? = some xs[i] := List.getElem?_eq_getElem hi
    obtain ⟨z, hz⟩ := h _ (List.getElem_mem hi)
    rw [hz] at e
    have q := eq_int z d m.length m
    simp [e, q]
  · rw [show (rngI 0 xs.length).filter (fun _ => false) = [] from List.filter_eq_nil_iff.mpr (by simp)]
    simp [nil_eq]
theorem eq_non (d b : Nat) (m : Mem) : evCall cs P (d + 1) 7 [.non, .non] b m = .ok (.bl true) m := by
  refine call_rule (Q := fun r => r = .ok _ m) P7 rfl rfl ?_
  simp [d_law_eq, isiD, isTy]
theorem eq_res {r : Option (List Pr)} (h : ∀ ps, r = some ps → ps.length ≤ 1000) (d b : Nat) (m : Mem) : evCall cs P (d + 2) 7 [resD r, resD r] b m = .ok (.bl true) m := by
  cases r with
  | none => exact eq_non (d + 1) b m
  | some ps =>
    refine eq_ints (fun x hx => ?_) ?_ d b m
    · rcases List.mem_cons.mp hx with rfl | hx
      · exact ⟨_, rfl⟩
      · exact flat_int ps x hx
    · rw [List.length_cons, flat_len]
      have := h ps rfl
      omega
/-! ### sums that are bounded -/
structure GB (k : Nat) (B : Int) (s : Su) : Prop where
  can : Can k s.2 (val s.2)
  b : ∀ t, -B ≤ val s.2 t ∧ val s.2 t ≤ B
  l : ∀ t, val s.2 t ≠ 0 → t.2.length ≤ 5
theorem GB.gf {k : Nat} {s : Su} (h : GB k 12 s) (hk : k ≤ 8) : GF s := ⟨{ h.can with l := Nat.le_trans h.can.l hk }, h.b⟩
theorem GB.mono {k j : Nat} {B C : Int} {s : Su} (h : GB k B s) (hk : k ≤ j) (hb : B ≤ C) : GB j C s := ⟨{ h.can with l := Nat.le_trans h.can.l hk }, fun t => by have := h.b t; omega, h.l⟩
theorem tr_keys {ψ : T → T} {c : Int} (L : Row) : keys (tr ψ c L) = (keys L).map ψ := by
  unfold keys tr
  rw [List.map_map, List.map_map]; rfl
theorem nodup_map {ψ : T → T} (h : Ps ψ) : ∀ {l : List T}, l.Nodup → (l.map ψ).Nodup
  | [], _ => by simp
  | a :: l, hn => by
    rw [List.nodup_cons] at hn
    rw [List.map_cons, List.nodup_cons]
    refine ⟨fun z => ?_, nodup_map h hn.2⟩
    obtain ⟨b, hb, e⟩ := List.mem_map.mp z
    exact hn.1 (h.inj _ _ e ▸ hb)
theorem tr_can {ψ : T → T} (h : Ps ψ) {c : Int} (hc : 0 < c) {k : Nat} {L : Row} {f : T → Int} (a : Can k L f) : Can k (tr ψ c L) (val (tr ψ c L)) where
  nd := by unfold ND; rw [tr_keys]; exact nodup_map h a.nd
  nz := fun r hr => by
    obtain ⟨q, hq, rfl⟩ := List.mem_map.mp hr
    exact Int.mul_ne_zero (a.nz q hq) (by omega)
  so := by rw [tr_srt h a.nd, a.so]
  v := fun _ => rfl
  l := by unfold tr; rw [List.length_map]; exact a.l
theorem tr_val_or {ψ : T → T} (h : Ps ψ) {c : Int} (L : Row) (t : T) : val (tr ψ c L) t = 0 ∨ ∃ s, t = ψ s ∧ val (tr ψ c L) t = val L s * c := by
  by_cases e : t ∈ keys (tr ψ c L)
  · rw [tr_keys] at e
    obtain ⟨s, _, rfl⟩ := List.mem_map.mp e
    exact .inr ⟨s, rfl, tr_val h L s⟩
  · exact .inl (val_out e)
theorem tr_b {ψ : T → T} (h : Ps ψ) {c : Int} (hc : 0 < c) {k : Nat} {B : Int} {s : Su} (g : GB k B s) (hB : 0 ≤ B) (t : T) : -(B * c) ≤ val (tr ψ c s.2) t ∧ val (tr ψ c s.2) t ≤ B * c := by
  rcases tr_val_or h (c := c) s.2 t with e | ⟨u, _, e⟩
  · rw [e]
    have := Int.mul_nonneg hB (show 0 ≤ c by omega)
    omega
  · rw [e]
    have b := g.b u
    have h1 : val s.2 u * c ≤ B * c := Int.mul_le_mul_of_nonneg_right b.2 (by omega)
    have h2 : -B * c ≤ val s.2 u * c := Int.mul_le_mul_of_nonneg_right b.1 (by omega)
    rw [Int.neg_mul] at h2
    omega
theorem GB.plus {k j : Nat} {B C : Int} {s u : Su} (a : GB k B s) (b : GB j C u) : GB (k + j) (B + C) (s.1 + u.1, plusR s.2 u.2) := by
  have hp := plusR_can a.can b.can
  have hv : ∀ t, val (plusR s.2 u.2) t = val s.2 t + val u.2 t := hp.v
  refine ⟨Can.self hp, fun t => ?_, fun t ht => ?_⟩
  · show -(B + C) ≤ val (plusR s.2 u.2) t ∧ val (plusR s.2 u.2) t ≤ B + C
    rw [hv]
    have := a.b t; have := b.b t; omega
  · have ht : val (plusR s.2 u.2) t ≠ 0 := ht
    rw [hv] at ht
    by_cases h1 : val s.2 t = 0
    · exact b.l t (by omega)
    · exact a.l t h1
theorem GB.times {k : Nat} {B c : Int} {s : Su} (a : GB k B s) (hc : 0 < c) (hB : 0 ≤ B) : GB k (B * c) (trF id c s) := by
  refine ⟨tr_can ps_id hc a.can, tr_b ps_id hc a hB, fun t ht => ?_⟩
  rcases tr_val_or ps_id (c := c) s.2 t with e | ⟨u, e1, e2⟩
  · exact absurd e ht
  · have ht : val (tr id c s.2) t ≠ 0 := ht
    rw [e2] at ht
    rw [e1]
    exact a.l u fun z => ht (by rw [z]; simp)
/-! ### _law_fact -/
def namesD : DV := .lst [.str [120, 46, 48], .str [120, 46, 49], .str [120, 46, 50], .str [120, 46, 49, 48]]
theorem up_mem {L : List (T × Int)} {t : T} {c : Int} {r : T × Int} (hr : r ∈ up L t c) : r ∈ L ∨ r = (t, c) := by
  unfold up at hr
  split at hr
  · obtain ⟨s, hs, rfl⟩ := List.mem_map.mp hr
    split
    · rename_i e; rw [e]; exact .inr rfl
    · exact .inl hs
  · rcases List.mem_append.mp hr with hr | hr
    · exact .inl hr
    · exact .inr (List.mem_singleton.mp hr)
theorem sitems_rows (D : List (T × Int)) : unD .sitems (.dt (dks D) (dvs D)) = some (.lst ((srt D).map rowD)) := by
  show (dsort (pairs ((dks D).map fun k => DV.tup (k.map ofKa)) (dvs D))).map DV.lst = _
  rw [dD_pairs, sorted_rows]; rfl
def RowOk (r : T × Int) : Prop := r.2 ≠ 0 ∧ -2 ≤ r.2 ∧ r.2 ≤ 2 ∧ r.1.2.length ≤ 5
def FaJ (m : Mem) (i : Nat) (env : Env') (mm : Mem) : Prop := ∃ (p : SA) (D : List (T × Int)) (e1 e4 : Option DV), ND D ∧ D.length ≤ i ∧ (∀ r ∈ D, RowOk r) ∧ env = [some (.ref 1), e1, some (.ref (m.length + 1 + 1)), some namesD, e4] ∧ mm = c0 p :: c1 p :: (m ++ [.c (.dt (dks D) (dvs D))])
def FaQ (m : Mem) (z : Out DV) : Prop := ∃ (p : SA) (s : Su), GB 2 2 s ∧ z = .ok (sD s) (c0 p :: c1 p :: m)
theorem fact_ex (d : Nat) (p : SA) (b : Nat) (m : Mem) : FaQ m (evCall cs P (d + 3) 8 [.ref 1] b (c0 p :: c1 p :: m)) := by
  refine call_rule P8 rfl rfl ?_
  have D3 := draw_eq (cs := cs) (P := P) P5 (d + 1) p (size := 2) (by decide) (by decide)
  have g1 := got_nn (p := p) (size := 2) (by decide)
  have g2 := got_lt (p := p) (size := 2) (by decide)
  simp [-WB_cons, d_law_fact]
  rw [WB_cons]
  simp [-WB_cons]
  rw [WB_cons]
  simp [-WB_cons, D3, show 1 + got p 2 ≤ 10000000 by omega, show -4611686018427387904 ≤ 1 + got p 2 by omega]
  refine for_rule (FaJ m) ⟨nxt p 2, [], none, none, by simp [ND, keys], by simp, by simp, rfl, by simp [dks, dvs]⟩ ?_ ?_
  · rintro i dv env mm hi ⟨p, D, e1, e4, h1, h2, h3, rfl, rfl⟩
    have hil := (List.getElem?_eq_some_iff.mp hi).1
    simp at hil
    have D1 := one_eq (cs := cs) (P := P) P5 P6 d p (xs := [[120], [108, 101, 110]].map DV.str) (by simp) (by simp) (by simp [noRefs])
    obtain ⟨s1, hs1, es1⟩ := pk_strs (p := p) (is := [[120], [108, 101, 110]]) (by simp)
    simp at D1 es1
    rw [es1] at D1
    generalize nxt p 2 = p1 at D1
    have D2 := one_eq (cs := cs) (P := P) P5 P6 d p1 (xs := [[120, 46, 48], [120, 46, 49], [120, 46, 50], [120, 46, 49, 48]].map DV.str) (by simp) (by simp) (by simp [noRefs])
    obtain ⟨s2, hs2, es2⟩ := pk_strs (p := p1) (is := [[120, 46, 48], [120, 46, 49], [120, 46, 50], [120, 46, 49, 48]]) (by simp)
    simp at D2 es2
    rw [es2] at D2
    generalize nxt p1 4 = p2 at D2
    have D4 := one_eq (cs := cs) (P := P) P5 P6 d p2 (xs := [1, -1, 1, 2].map DV.int) (by simp) (by simp) (by simp [noRefs])
    obtain ⟨c, hc, ec⟩ := pk_ints (p := p2) (is := [1, -1, 1, 2]) (by simp)
    simp at D4 ec
    rw [ec] at D4
    generalize nxt p2 4 = p3 at D4
    have hc0 : RowOk ((s1, s2), c) := by
      simp at hc hs2
      refine ⟨by simp only; omega, by simp only; omega, by simp only; omega, ?_⟩
      rcases hs2 with rfl | rfl | rfl | rfl <;> simp
    have hset := set_dt (b := m.length + 1 + 1) (n := m.length + 1 + 1) (m := c0 p3 :: c1 p3 :: (m ++ [.c (.dt (dks D) (dvs D))])) (D := D) (t := (s1, s2)) (c := c) (by omega)
    simp [tD] at hset
    simp [D1, D2, D4, namesD, hset]
    refine ⟨p3, up D (s1, s2) c, _, _, up_nd h1, by have := up_len (L := D) (t := (s1, s2)) (c := c); omega, fun r hr => ?_, rfl, rfl⟩
    rcases up_mem hr with hr | rfl
    · exact h3 r hr
    · exact hc0
  · rintro env mm ⟨p, D, e1, e4, h1, h2, h3, rfl, rfl⟩
    simp at h2
    have D9 := draw_eq (cs := cs) (P := P) P5 (d + 1) p (size := 7) (by decide) (by decide)
    simp [D9, sitems_rows, rows_nr, noRefs]
    have hv : ∀ t, val (srt D) t = val D t := fun t => val_perm (srt_perm _) t
    refine ⟨nxt p 7, (got p 7 - 2, srt D), ⟨⟨nd_perm (srt_perm _).symm h1, fun r hr => (h3 r ((srt_perm _).mem_iff.mp hr)).1, srt_srt _, fun _ => rfl, by rw [(srt_perm _).length_eq]; omega⟩, fun t => ?_, fun t ht => ?_⟩, rfl⟩
    · show -2 ≤ val (srt D) t ∧ val (srt D) t ≤ 2
      rw [hv]
      by_cases e : val D t = 0
      · rw [e]; decide
      · obtain ⟨c, hc⟩ := mem_val e
        have := val_mem h1 hc
        simp only at this
        rw [this]
        exact ⟨(h3 _ hc).2.1, (h3 _ hc).2.2.1⟩
    · have ht : val (srt D) t ≠ 0 := ht
      rw [hv] at ht
      obtain ⟨c, hc⟩ := mem_val ht
      exact (h3 _ hc).2.2.2
/-! ### _law_called -/
def renD : DV → DV
  | .tup [.tup [.str a, .str b], .int c] => .tup [.tup [.str a, .str (121 :: b)], .int c]
  | d => d
theorem ren_rows (L : Row) : (L.map rowD).map renD = (tr ren 1 L).map rowD := by
  unfold tr
  rw [List.map_map, List.map_map]
  refine List.map_congr_left fun r _ => ?_
  simp only [Function.comp, rowD, tD, renD, ren, Int.mul_one]
theorem called_eq {k : Nat} {B : Int} {s : Su} (h : GB k B s) (d b : Nat) (m : Mem) : evCall cs P (d + 1) 9 [sD s] b m = .ok (sD (trF ren 1 s)) m := by
  refine call_rule (Q := fun r => r = .ok _ m) P9 rfl rfl ?_
  simp [d_law_called, sD, sumD]
  refine comp_map renD (fun dv hd => ?_) ?_
  · obtain ⟨r, hr, rfl⟩ := List.mem_map.mp hd
    have hv := val_mem h.can.nd hr
    have hl := h.l r.1 (by rw [hv]; exact h.can.nz r hr)
    simp [rowD, tD, renD, show 1 + r.1.2.length ≤ 10000000 by omega]
  · rw [ren_rows]
    simp [rows_nr, trF]
/-! ### _law_is_whole -/
theorem fv_of {F : List Su} (hF : ∀ f ∈ F, GF f) (hl : F.length ≤ 20) : Fv (.kt (F.map sD)) (F.map sD) := ⟨.inl rfl, fun x hx => by
  obtain ⟨f, hf, rfl⟩ := List.mem_map.mp hx
  exact IsSum.g ⟨f.2, (hF f hf).can, rfl⟩, by rw [List.length_map]; exact hl⟩
theorem whole_eq {F : List Su} {g : Su} {ps : List Pr} (hF : ∀ f ∈ F, GF f) (hl : F.length ≤ 20) (hg : Can 100 g.2 (val g.2)) (hb : ∀ t, -100 ≤ val g.2 t ∧ val g.2 t ≤ 100) (hf : find F 300 [(g, [])] = some ps) (d b : Nat) (m : Mem) : evCall cs P (d + 3) 10 [.kt (F.map sD), sD g, paperD 1 ps] b m = .ok (.bl true) m := by
  obtain ⟨nd, n1, n2, n3, n4⟩ := find_ok hF (fun nd h => by rw [List.mem_singleton.mp h]; exact GN.start hg hb) hf
  have hpl := n1.l
  have hp := n1.p
  have hn := n1.n
  have hv := n1.f
  rw [n2] at hpl hp hn hv
  rw [n3] at hv
  have hsh : evCall cs P (d + 2) 2 [.kt (F.map sD), sD g, paperD 1 ps] m.length m = .ok (.bl true) m := by
    have hok : Ok (F.map sD) ps := ⟨fun p h => by
      obtain ⟨a1, a2, a3⟩ := hp p h
      exact ⟨by rw [List.length_map]; exact a1, by omega, by omega⟩, by omega⟩
    have := (shows_ok (fv_of hF hl) (goal := sD g) (kg := 100) (n := g.1) ⟨g.2, hg, rfl⟩ (by omega) (q := 1) (by omega) (by omega) hok d m.length m).1 (fun t => by
      have := hv t
      simp only [val] at this
      omega)
    rw [this, decide_eq_true (by omega)]
  have hfn : noRefs (F.map sD) = true := noRefs_all fun x hx => by obtain ⟨f, _, rfl⟩ := List.mem_map.mp hx; exact sD_nr f
  have hgn := sD_nr g
  have hfl : (flat ps).length = 2 * ps.length := flat_len ps
  refine call_rule (Q := fun r => r = .ok _ m) P10 rfl rfl ?_
  generalize sD g = gd at *
  have hmod : (2 * (ps.length : Int) + 1).fmod 2 = 1 := by
    rw [Int.fmod_eq_emod_of_nonneg _ (by decide)]; omega
  simp [-WB_cons, d_law_is_whole, paperD, isiD, isTy]
  rw [WB_cons]
  simp [-WB_cons, isiD, isTy, hfl, hmod, show ¬ (15 < 2 * (ps.length : Int) + 1) by omega]
  rw [WB_cons]
  simp [ev2_flatt]
  rw [paperD] at hsh
  have hne : cmpD .ne (.lst []) (.lst []) = some false := by rw [ne_nil (xs := []) rfl]; rfl
  refine comp_pure (fun _ => false) id (fun dv hd => ?_) ?_
  · obtain ⟨p, h, rfl⟩ := List.mem_map.mp hd
    have := hp p h
    simp [show ¬ (p.2 < 1) by omega]
  · rw [show (ps.map fun p => DV.int p.2).filter (fun _ => false) = [] from List.filter_eq_nil_iff.mpr (by simp)]
    simp [hne, hsh, flat_nr, hfn, xrs_nr hgn]
end K58

set_option Elab.async false
set_option linter.all false
set_option maxRecDepth 100000
set_option maxHeartbeats 8000000
namespace K58
open PySem Ev Ev.DA Ev.SU
theorem one_kt (d : Nat) (p : SA) {xs : List DV} (h : xs ≠ []) (h2 : xs.length < 2 ^ 30) (hn : noRefs xs = true) (b : Nat) (m : Mem) :
    evCall cs P (d + 2) 6 [.ref 1, .kt xs] b (c0 p :: c1 p :: m) = .ok (pk p xs) (c0 (nxt p xs.length) :: c1 (nxt p xs.length) :: m) := by
  have hl : 0 < (xs.length : Int) := by have := List.length_pos_iff.mpr h; omega
  have D := draw_eq (cs := cs) (P := P) P5 d p (size := xs.length) hl (by omega)
  refine call_rule (Q := fun r => r = .ok _ (c0 (nxt p xs.length) :: c1 (nxt p xs.length) :: m)) P6 rfl rfl ?_
  have h1 := got_nn (p := p) hl
  have h3 : noRef (pk p xs) = true := noRefs_mem hn _ (pk_mem h)
  simp [oneFn, D, atI_nn h1, pk_at h, h3]
theorem sDs_nr (F : List Su) : noRefs (F.map sD) = true := noRefs_all fun x hx => by obtain ⟨f, _, rfl⟩ := List.mem_map.mp hx; exact sD_nr f
theorem pick_ex {F : List Su} (h : F ≠ []) (hl : F.length ≤ 20) (d : Nat) (p : SA) : ∃ (f : Su) (p2 : SA), f ∈ F ∧ ∀ (b : Nat) (m : Mem), evCall cs P (d + 2) 6 [.ref 1, .kt (F.map sD)] b (c0 p :: c1 p :: m) = .ok (sD f) (c0 p2 :: c1 p2 :: m) := by
  have hne : F.map sD ≠ [] := fun z => h (List.map_eq_nil_iff.mp z)
  obtain ⟨f, hf, e⟩ := List.mem_map.mp (pk_mem (p := p) hne)
  refine ⟨f, nxt p (F.map sD).length, hf, fun b m => ?_⟩
  rw [one_kt d p hne (by rw [List.length_map]; omega) (sDs_nr F), ← e]
theorem times_s {k : Nat} {B c : Int} {f : Su} (h : GB k B f) (h0 : 0 < c) (h1 : c < 1000) (d b : Nat) (m : Mem) : evCall cs P (d + 1) 1 [sD f, .int c] b m = .ok (sD (trF id c f)) m :=
  times_eq h.can (by omega) (by omega) (by omega) d b m
theorem plus_s {k j : Nat} {B C : Int} {g u : Su} (hg : GB k B g) (hu : GB j C u) (hk : k + j ≤ 1000) (d b : Nat) (m : Mem) : evCall cs P (d + 1) 0 [sD g, sD u] b m = .ok (sD (g.1 + u.1, plusR g.2 u.2)) m :=
  plus_eq hg.can hu.can hk d b m
theorem plus_nil {k : Nat} {L : Row} {f : T → Int} (h : Can k L f) : srt (nz (addAll L [])) = L := by
  have : nz L = L := List.filter_eq_self.mpr fun r hr => by have := h.nz r hr; simpa using this
  show srt (nz L) = L
  rw [this, h.so]
theorem plus_num {k : Nat} {B : Int} {g : Su} (hg : GB k B g) (hk : k ≤ 1000) (x : Int) (d b : Nat) (m : Mem) : evCall cs P (d + 1) 0 [sD g, .tup [.int x, .kt []]] b m = .ok (sD (g.1 + x, g.2)) m := by
  have := plus_eq (n1 := g.1) (n2 := x) hg.can (Can.nil 0) (by omega) d b m
  rw [plus_nil hg.can] at this
  exact this
theorem tr_one (L : Row) : tr id 1 L = L := by
  unfold tr
  have : ∀ r ∈ L, (fun r : T × Int => (id r.1, r.2 * 1)) r = r := fun r _ => by simp
  rw [List.map_congr_left this, List.map_id']
theorem trF_one (F : List Su) : F.map (trF id 1) = F := by
  have : ∀ f ∈ F, trF id 1 f = f := fun f _ => by unfold trF; rw [tr_one, Int.mul_one]
  rw [List.map_congr_left this, List.map_id']
theorem ne_nilK {xs : List DV} (h : eqOks 63 xs = true) : cmpD .ne (.kt xs) (.kt []) = some (!xs.isEmpty) := by
  rw [cmpD_ne (by simpa [eqOk] using h) (by simp [eqOk, eqOks])]
  cases xs <;> simp [deq, deqs]
theorem _root_.Ev.SU.Can.self {k : Nat} {L : Row} {f : T → Int} (h : Can k L f) : Can k L (val L) := K58.Can.self h
def tx : T := ([108, 101, 110], [120, 46, 48])
def Fx : List Su := [(3, [(tx, -1)]), (-3, [(tx, 1)])]
theorem px : plusR [(tx, 1)] [(tx, -1)] = [] := by
  have : nz (addAll [(tx, 1)] [(tx, -1)]) = [] := by decide
  unfold plusR
  rw [this]; simp [srt]
theorem kx (n : Int) : kids Fx ((n, [(tx, 1)]), []) = [((n + 3, []), [(1, 1)])] := by
  have e : (n + 3 : Int) = n + -3 * -(1 : Int).fdiv 1 := by
    have : (1 : Int).fdiv 1 = 1 := by decide
    rw [this]; omega
  have k0 : kid ((n, [(tx, 1)]), []) tx 1 0 (3, [(tx, -1)]) = none := by
    unfold kid
    rw [if_neg (by decide)]
  have k1 : kid ((n, [(tx, 1)]), []) tx 1 1 (-3, [(tx, 1)]) = some ((n + 3, []), [(1, 1)]) := by
    unfold kid
    rw [if_pos (by decide), e]
    have h1 : val [(tx, (1 : Int))] tx = 1 := by decide
    have h2 : scR (-(1 : Int).fdiv 1) [(tx, (1 : Int))] = [(tx, -1)] := by decide
    simp only [h1, h2, px]
    rfl
  show (kid ((n, [(tx, 1)]), []) tx 1 0 (3, [(tx, -1)])).toList ++ ((kid ((n, [(tx, 1)]), []) tx 1 1 (-3, [(tx, 1)])).toList ++ []) = _
  rw [k0, k1]; rfl
theorem find_x1 : find Fx 300 [((-2, [(tx, 1)]), [])] = some [(1, 1)] := by
  rw [find, if_neg (by simp), kx, List.append_nil]
  rfl
theorem find_x2 : find Fx 300 [((-4, [(tx, 1)]), [])] = none := by
  rw [find, if_neg (by simp), kx, List.append_nil]
  rfl
/-! ### the law -/
def FsJ (i : Nat) (acc : List DV) (mm : Mem) : Prop := ∃ (p : SA) (F : List Su), acc = F.map sD ∧ F.length = i ∧ (∀ f ∈ F, GB 2 2 f) ∧ mm = [c0 p, c1 p]
def MpJ (h : Su → Su) (F : List Su) (m0 : Mem) (i : Nat) (acc : List DV) (mm : Mem) : Prop := acc = ((F.take i).map h).map sD ∧ mm = m0
def GoJ (sc : DV) (F : List Su) (e2 e6 e7 e8 e9 e10 e11 : Option DV) (i : Nat) (env : Env') (mm : Mem) : Prop := ∃ (p : SA) (g : Su) (e5 : Option DV), GB (2 * i) (4 * (i : Int)) g ∧ env = [some sc, some (.ref 1), e2, some (.kt (F.map sD)), some (sD g), e5, e6, e7, e8, e9, e10, e11] ∧ mm = [c0 p, c1 p]
def LJ (sc : DV) (i : Nat) (env : Env') (mm : Mem) : Prop := ∃ (p : SA) (e2 e3 e4 e5 e6 e7 e8 e9 e10 e11 : Option DV), env = [some sc, some (.ref 1), e2, e3, e4, e5, e6, e7, e8, e9, e10, e11] ∧ mm = [c0 p, c1 p]
def LawQ (z : Out DV) : Prop := ∃ m, z = .ok (.bl true) m
theorem law_ok {ns : List Int} (hn : ns.length ≤ 63) (D : Nat) : LawQ (evCall cs P (D + 41) 11 [.kl (ns.map .int)] 0 []) := by
  refine call_rule P11 rfl rfl ?_
  obtain ⟨p0, hp0⟩ := state_ex (cs := cs) (P := P) P4 hn (D + 39) 0
  simp [-WB_cons, d_law]
  rw [WB_cons]
  simp [-WB_cons, hp0]
  rw [WB_cons]
  simp [-WB_cons]
  refine for_rule (LJ (.kl (ns.map .int))) ⟨p0, none, none, none, none, none, none, none, none, none, none, rfl, rfl⟩ ?_ ?_
  · rintro i dv env mm hi ⟨p, e2, e3, e4, e5, e6, e7, e8, e9, e10, e11, rfl, rfl⟩
    have D5 := draw_eq (cs := cs) (P := P) P5 (D + 39) p (size := 5) (by decide) (by decide)
    have g1 := got_nn (p := p) (size := 5) (by decide)
    have g2 := got_lt (p := p) (size := 5) (by decide)
    simp [-WB_cons]
    rw [WB_cons]
    simp [-WB_cons, D5, show 1 + got p 5 ≤ 10000000 by omega, show -4611686018427387904 ≤ 1 + got p 5 by omega]
    refine comp_rule FsJ ⟨nxt p 5, [], rfl, rfl, by simp, rfl⟩ ?_ ?_
    · rintro i dv acc mm hi ⟨p, F, rfl, a1, a2, rfl⟩
      obtain ⟨p2, x, x1, x2⟩ := fact_ex (D + 37) p 0 []
      simp [x2]
      refine ⟨p2, F ++ [x], by simp, by simp [a1], fun y hy => ?_, rfl⟩
      rcases List.mem_append.mp hy with hy | hy
      · exact a2 y hy
      · rw [List.mem_singleton.mp hy]; exact x1
    rintro acc mm ⟨p, F, rfl, a1, a2, rfl⟩
    simp at a1
    have hFl : F.length ≤ 5 := by omega
    have hFne : F ≠ [] := fun z => by rw [z] at a1; simp at a1; omega
    have hnr := sDs_nr F
    have D4 := draw_eq (cs := cs) (P := P) P5 (D + 39) p (size := 4) (by decide) (by decide)
    generalize nxt p 4 = p1 at D4
    generalize got p 4 = x0 at D4
    have D3 := draw_eq (cs := cs) (P := P) P5 (D + 39) p1 (size := 3) (by decide) (by decide)
    have g3 := got_nn (p := p1) (size := 3) (by decide)
    have g4 := got_lt (p := p1) (size := 3) (by decide)
    simp [-WB_cons, hnr]
    rw [WB_cons]
    simp [-WB_cons, D4]
    rw [WB_cons]
    simp [-WB_cons, D3, show 1 + got p1 3 ≤ 10000000 by omega, show -4611686018427387904 ≤ 1 + got p1 3 by omega]
    refine for_rule (GoJ (.kl (ns.map .int)) F (some dv) e6 e7 e8 e9 e10 e11) ⟨nxt p1 3, (x0, []), e5, ⟨Can.nil 0, fun t => by simp [val], fun t ht => absurd rfl ht⟩, by simp [sD, sumD], rfl⟩ ?_ ?_
    · rintro i dv env mm hi ⟨p, g, e5, h1, rfl, rfl⟩
      have hil := (List.getElem?_eq_some_iff.mp hi).1
      simp at hil
      obtain ⟨f, p2, hf, hpk⟩ := pick_ex hFne (by omega) (D + 38) p
      have hgn := sD_nr g
      have hfn := sD_nr f
      have D2 := draw_eq (cs := cs) (P := P) P5 (D + 39) p2 (size := 2) (by decide) (by decide)
      have g3 := got_nn (p := p2) (size := 2) (by decide)
      have g4 := got_lt (p := p2) (size := 2) (by decide)
      obtain ⟨c, hc⟩ : ∃ c, c = 1 + got p2 2 := ⟨_, rfl⟩
      have T1 := times_s (a2 f hf) (c := c) (by omega) (by omega) (D + 39)
      have ht : GB 2 4 (trF id c f) := ((a2 f hf).times (c := c) (by omega) (by omega)).mono (by omega) (by
        have : 2 * c ≤ 4 := by omega
        exact this)
      have T2 := plus_s h1 ht (by omega) (D + 39)
      have hzn := sD_nr (g.1 + (trF id c f).1, plusR g.2 (trF id c f).2)
      simp [hpk, D2, ← hc, T1, T2, hzn, xrs_nr hgn]
      exact ⟨_, _, _, (h1.plus ht).mono (by omega) (by omega), rfl, rfl⟩
    rintro env mm ⟨p, g, e5, h1, rfl, rfl⟩
    simp at h1
    have h1 : GB 6 12 g := h1.mono (by omega) (by omega)
    have hgn := sD_nr g
    have D4 := one_eq (cs := cs) (P := P) P5 P6 (D + 38) p (xs := [0, 0, 1, -3].map DV.int) (by simp) (by simp) (by simp [noRefs])
    obtain ⟨c, hc, ec⟩ := pk_ints (p := p) (is := [0, 0, 1, -3]) (by simp)
    simp at D4 ec
    rw [ec] at D4
    generalize nxt p 4 = p2 at D4
    have T1 := plus_num h1 (by omega) c (D + 39)
    obtain ⟨G, hG⟩ : ∃ G : Su, G = (g.1 + c, g.2) := ⟨_, rfl⟩
    rw [← hG] at T1
    have h2 : GB 6 12 G := by rw [hG]; exact ⟨h1.can, h1.b, h1.l⟩
    have hGn := sD_nr G
    simp [-WB_cons]
    rw [WB_cons]
    simp [-WB_cons, D4, T1, hGn, xrs_nr hgn]
    have hFg : ∀ f ∈ F, GF f := fun f hf => ((a2 f hf).mono (by omega) (by omega)).gf (k := 2) (by omega)
    have hGc : Can 100 G.2 (val G.2) := { h2.can with l := by have := h2.can.l; omega }
    have hGb : ∀ t, -100 ≤ val G.2 t ∧ val G.2 t ≤ 100 := fun t => by have := h2.b t; omega
    have R1 := told_kt hFg (by omega) hGc hGb (D + 38)
    obtain ⟨res, hres⟩ : ∃ res, res = find F 300 [(G, [])] := ⟨_, rfl⟩
    rw [← hres] at R1
    have hpl : ∀ ps, res = some ps → ps.length ≤ 1000 := fun ps h => by
      obtain ⟨nd, n1, n2, _, _⟩ := find_ok hFg (fun nd h => by rw [List.mem_singleton.mp h]; exact GN.start hGc hGb) (hres.symm.trans h)
      have := n1.l
      rw [n2] at this
      omega
    obtain ⟨told, htold⟩ : ∃ told, told = resD res := ⟨_, rfl⟩
    have hI : cmpD .isnot told .non = some res.isSome := by rw [htold]; cases res <;> rfl
    have hW : res.isSome = true → ∀ b m, evCall cs P (D + 40) 10 [.kt (F.map sD), sD G, told] b m = .ok (.bl true) m := fun h b m => by
      obtain ⟨ps, hps⟩ := Option.isSome_iff_exists.mp h
      have := whole_eq hFg (by omega) hGc hGb (hres.symm.trans hps) (D + 37) b m
      rw [htold, hps]
      exact this
    have hE := eq_res hpl (D + 38)
    have htn : noRef told = true := by rw [htold]; cases res with
      | none => rfl
      | some ps => exact paper_nr 1 ps
    rw [← htold] at R1 hE
    have D5 := draw_eq (cs := cs) (P := P) P5 (D + 39) p2 (size := 5) (by decide) (by decide)
    have g5 := got_nn (p := p2) (size := 5) (by decide)
    have g6 := got_lt (p := p2) (size := 5) (by decide)
    generalize nxt p2 5 = p3 at D5
    obtain ⟨by_, hby⟩ : ∃ by_, by_ = 2 + got p2 5 := ⟨_, rfl⟩
    rw [WB_cons]
    simp [-WB_cons, R1, D5, ← hby, hGn, xrs_nr hGn, noRefs, htn, xrs_nr htn]
    refine mid_rule (fun env m => env = [some (.kl (ns.map .int)), some (.ref 1), some dv, some (.kt (F.map sD)), some (sD G), e5, e6, e7, e8, some told, some (.int by_), e11] ∧ m = [c0 p3, c1 p3]) ?_ ?_
    · cases hs : res.isSome with
      | false =>
        rw [hs] at hI
        simp [hI, xrs_nr htn]
      | true =>
        rw [hs] at hI
        simp [hI, xrs_nr htn, hW hs, xrs_nr hGn]
    rintro env m ⟨rfl, rfl⟩
    -- the scaled
    have hby1 : 0 < by_ := by omega
    have hby2 : by_ ≤ 6 := by omega
    have hND : ∀ nd ∈ [((G, []) : Nd)], ND nd.1.2 := fun nd h => by rw [List.mem_singleton.mp h]; exact hGc.nd
    have hF1 : ∀ f ∈ F.map (trF id by_), GF f := fun f hf => by
      obtain ⟨f', hf', rfl⟩ := List.mem_map.mp hf
      exact (((a2 f' hf').times hby1 (by omega)).mono (by omega) (by omega)).gf (k := 2) (by omega)
    have hG1 : GB 6 (12 * by_) (trF id by_ G) := h2.times hby1 (by omega)
    have R2 := told_kt (g := trF id by_ G) hF1 (by rw [List.length_map]; omega) { hG1.can with l := by have := hG1.can.l; omega } (fun t => by have := hG1.b t; omega) (D + 38)
    have E2 : find (F.map (trF id by_)) 300 [(trF id by_ G, [])] = res := by
      have := find_tr ps_id hby1 F 300 [(G, [])] hND
      rw [← hres] at this
      rw [← this]
      simp only [List.map_cons, List.map_nil, trN, trF, Int.add_zero]
    rw [E2, ← htold] at R2
    have T3 := times_s h2 hby1 (by omega) (D + 39)
    have hG1n := sD_nr (trF id by_ G)
    rw [WB_cons]
    simp [-WB_cons, xrs_nr hGn, xrs_nr htn]
    refine comp_rule (MpJ (trF id by_) F [c0 p3, c1 p3]) ⟨rfl, rfl⟩ ?_ ?_
    · rintro i dv acc mm hi ⟨rfl, rfl⟩
      rw [List.getElem?_map] at hi
      obtain ⟨f, hf, rfl⟩ := Option.map_eq_some_iff.mp hi
      have hfn := sD_nr f
      have T := times_s (a2 f (List.mem_of_getElem? hf)) hby1 (by omega) (D + 39)
      simp [T, xrs_nr hfn]
      exact ⟨by rw [List.take_add_one, hf]; simp, rfl⟩
    rintro acc mm ⟨rfl, rfl⟩
    rw [List.length_map, List.take_length]
    generalize hF1e : (F.map (trF id by_)).map sD = fs1 at *
    simp [-WB_cons, T3, R2, hE, xrs_nr hGn, xrs_nr htn]
    -- the renamed
    have hF2 : ∀ f ∈ F.map (trF ren 1), GF f := fun f hf => by
      obtain ⟨f', hf', rfl⟩ := List.mem_map.mp hf
      have h := a2 f' hf'
      exact ⟨{ tr_can ps_ren (c := 1) (by omega) h.can with l := by have := (tr_can ps_ren (c := 1) (by omega) h.can).l; show (tr ren 1 f'.2).length ≤ 8; omega }, fun t => by have := tr_b ps_ren (c := 1) (by omega) h (by omega) t; show -12 ≤ val (tr ren 1 f'.2) t ∧ val (tr ren 1 f'.2) t ≤ 12; omega⟩
    have hG2 := tr_can ps_ren (c := 1) (by omega) h2.can
    have R3 := told_kt (g := trF ren 1 G) hF2 (by rw [List.length_map]; omega) { hG2 with l := by have := hG2.l; show (tr ren 1 G.2).length ≤ 100; omega } (fun t => by have := tr_b ps_ren (c := 1) (by omega) h2 (by omega) t; show -100 ≤ val (tr ren 1 G.2) t ∧ val (tr ren 1 G.2) t ≤ 100; omega) (D + 38)
    have E3 : find (F.map (trF ren 1)) 300 [(trF ren 1 G, [])] = res := by
      have := find_tr ps_ren (c := 1) (by omega) F 300 [(G, [])] hND
      rw [← hres] at this
      rw [← this]
      simp only [List.map_cons, List.map_nil, trN, trF, Int.add_zero]
    rw [E3, ← htold] at R3
    have T4 := called_eq h2 (D + 39)
    rw [WB_cons]
    simp [-WB_cons, xrs_nr hGn, xrs_nr htn]
    refine comp_rule (MpJ (trF ren 1) F [c0 p3, c1 p3]) ⟨rfl, rfl⟩ ?_ ?_
    · rintro i dv acc mm hi ⟨rfl, rfl⟩
      rw [List.getElem?_map] at hi
      obtain ⟨f, hf, rfl⟩ := Option.map_eq_some_iff.mp hi
      have hfn := sD_nr f
      have T := called_eq (a2 f (List.mem_of_getElem? hf)) (D + 39)
      simp [T, xrs_nr hfn]
      exact ⟨by rw [List.take_add_one, hf]; simp, rfl⟩
    rintro acc mm ⟨rfl, rfl⟩
    rw [List.length_map, List.take_length]
    generalize hF2e : (F.map (trF ren 1)).map sD = fs2 at *
    simp [-WB_cons, T4, R3, hE, xrs_nr hGn, xrs_nr htn]
    -- a greater constant
    have D5 := draw_eq (cs := cs) (P := P) P5 (D + 39) p3 (size := 5) (by decide) (by decide)
    have g7 := got_nn (p := p3) (size := 5) (by decide)
    generalize nxt p3 5 = p4 at D5
    obtain ⟨k4, hk4⟩ : ∃ k4, k4 = 1 + got p3 5 := ⟨_, rfl⟩
    have T5 := plus_num h2 (by omega) k4 (D + 39)
    have R4 := told_kt (g := (G.1 + k4, G.2)) hFg (by omega) hGc hGb (D + 38)
    have E4 : res.isSome = true → isNonD (resD (find F 300 [((G.1 + k4, G.2), [])])) = false := fun h => by
      have := find_more ps_id (c := 1) (by omega) (a := k4) (by omega) F 300 [(G, [])] hND (by rw [← hres]; intro z; rw [z] at h; cases h)
      rw [trF_one] at this
      simp only [List.map_cons, List.map_nil, trN, Int.mul_one, tr_one] at this
      cases hq : find F 300 [((G.1 + k4, G.2), [])] with
      | none => exact absurd hq this
      | some ps => rfl
    have hr4 : noRef (resD (find F 300 [((G.1 + k4, G.2), [])])) = true := by
      cases find F 300 [((G.1 + k4, G.2), [])] with
      | none => rfl
      | some ps => exact paper_nr 1 ps
    generalize resD (find F 300 [((G.1 + k4, G.2), [])]) = r4 at *
    refine mid_rule (fun env m => ∃ p : SA, env = [some (.kl (ns.map .int)), some (.ref 1), some dv, some (.kt (F.map sD)), some (sD G), e5, e6, e7, e8, some told, some (.int by_), e11] ∧ m = [c0 p, c1 p]) ?_ ?_
    · cases hs : res.isSome with
      | false =>
        rw [hs] at hI
        simp [hI, xrs_nr htn]
        exact ⟨p3, rfl, rfl⟩
      | true =>
        rw [hs] at hI
        simp [hI, xrs_nr htn, xrs_nr hGn, D5, ← hk4, T5, R4, E4 hs, xrs_nr hr4]
        exact ⟨p4, rfl, rfl⟩
    rintro env m ⟨p5, rfl, rfl⟩
    -- a number alone
    have D5 := draw_eq (cs := cs) (P := P) P5 (D + 39) p5 (size := 5) (by decide) (by decide)
    generalize nxt p5 5 = p6 at D5
    obtain ⟨x6, hx6⟩ : ∃ x6, x6 = got p5 5 - 2 := ⟨_, rfl⟩
    have R5 : ∀ b m, evCall cs P (D + 40) 3 [.kt (F.map sD), .tup [.int x6, .kt []]] b m = .ok (resD (if 0 ≤ x6 then some [] else none)) m := fun b m => by
      have := told_kt (g := (x6, [])) hFg (by omega) ((Can.nil 100).self) (fun t => by simp [val]) (D + 38) b m
      rw [find_num] at this
      exact this
    have R6 : ∀ b m, evCall cs P (D + 40) 3 [.kt [], sD G] b m = .ok (resD (if G.2 = [] ∧ 0 ≤ G.1 then some [] else none)) m := fun b m => by
      have := told_kt (F := []) (g := G) (by simp) (by simp) hGc hGb (D + 38) b m
      rw [find_nof] at this
      exact this
    have s0 : subD (sD G) (.int 0) = some (.int G.1) := rfl
    have s1 : subD (sD G) (.int 1) = some (.kt (G.2.map rowD)) := rfl
    have cK : cmpD .ne (.kt (G.2.map rowD)) (.kt []) = some (!(G.2.map rowD).isEmpty) := ne_nilK (rows_ok G.2 61)
    have c1' : cmpD .ne .non .non = some false := by
      rw [cmpD_ne (by simp [eqOk]) (by simp [eqOk])]; simp [deq]
    have c2' : cmpD .ne (.tup [.int 1]) (.tup [.int 1]) = some false := by
      rw [cmpD_ne (by simp [eqOk, eqOks]) (by simp [eqOk, eqOks])]; simp [deq, deqs]
    have Q1 : ∀ b m, evCall cs P (D + 40) 7 [.tup [.int 1], .tup [.int 1]] b m = .ok (.bl true) m := eq_res (r := some []) (fun ps h => by cases h; simp) (D + 38)
    have Q2 : ∀ b m, evCall cs P (D + 40) 7 [.non, .non] b m = .ok (.bl true) m := eq_res (r := none) (fun ps h => by cases h) (D + 38)
    have r1 : resD (some []) = .tup [.int 1] := rfl
    have r0 : resD none = .non := rfl
    have hrn := rows_nr G.2
    rw [WB_cons]
    simp [-WB_cons, D5, ← hx6]
    rw [WB_cons]
    by_cases h6 : 0 ≤ x6
    · rw [if_pos h6, r1] at R5
      by_cases h7 : G.2 = []
      · by_cases h8 : 0 ≤ G.1
        · rw [if_pos ⟨h7, h8⟩, r1] at R6
          rw [h7] at cK s1
          simp at cK s1
          simp [R5, R6, Q1, h6, xrs_nr hGn, s0, s1, cK, show ¬ G.1 < 0 by omega, c2']
          exact ⟨p6, _, _, _, _, _, _, _, _, _, _, rfl, rfl⟩
        · rw [if_neg fun z => h8 z.2, r0] at R6
          rw [h7] at cK s1
          simp at cK s1
          simp [R5, R6, Q1, h6, xrs_nr hGn, s0, s1, cK, show G.1 < 0 by omega, c1']
          exact ⟨p6, _, _, _, _, _, _, _, _, _, _, rfl, rfl⟩
      · rw [if_neg fun z => h7 z.1, r0] at R6
        have cK : cmpD .ne (.kt (G.2.map rowD)) (.kt []) = some true := by
          rw [cK]
          cases hq : G.2 with
          | nil => exact absurd hq h7
          | cons => rfl
        simp [R5, R6, Q1, h6, xrs_nr hGn, s0, s1, cK, c1']
        exact ⟨p6, _, _, _, _, _, _, _, _, _, _, rfl, rfl⟩
    · rw [if_neg h6, r0] at R5
      by_cases h7 : G.2 = []
      · by_cases h8 : 0 ≤ G.1
        · rw [if_pos ⟨h7, h8⟩, r1] at R6
          rw [h7] at cK s1
          simp at cK s1
          simp [R5, R6, Q2, h6, xrs_nr hGn, s0, s1, cK, show ¬ G.1 < 0 by omega, c2']
          exact ⟨p6, _, _, _, _, _, _, _, _, _, _, rfl, rfl⟩
        · rw [if_neg fun z => h8 z.2, r0] at R6
          rw [h7] at cK s1
          simp at cK s1
          simp [R5, R6, Q2, h6, xrs_nr hGn, s0, s1, cK, show G.1 < 0 by omega, c1']
          exact ⟨p6, _, _, _, _, _, _, _, _, _, _, rfl, rfl⟩
      · rw [if_neg fun z => h7 z.1, r0] at R6
        have cK : cmpD .ne (.kt (G.2.map rowD)) (.kt []) = some true := by
          rw [cK]
          cases hq : G.2 with
          | nil => exact absurd hq h7
          | cons => rfl
        simp [R5, R6, Q2, h6, xrs_nr hGn, s0, s1, cK, c1']
        exact ⟨p6, _, _, _, _, _, _, _, _, _, _, rfl, rfl⟩
  · rintro env mm ⟨p, e2, e3, e4, e5, e6, e7, e8, e9, e10, e11, rfl, rfl⟩
    have hx1 : ∀ c : Int, c ≠ 0 → Can 1 [(tx, c)] (val [(tx, c)]) := fun c hc => (Can.one hc).self
    have hxb : ∀ (c : Int) (t : T), -1 ≤ c → c ≤ 1 → -1 ≤ val [(tx, c)] t ∧ val [(tx, c)] t ≤ 1 := fun c t h1 h2 => by
      simp only [val]
      split <;> omega
    have hFx : ∀ f ∈ Fx, GF f := fun f hf => by
      simp [Fx] at hf
      rcases hf with rfl | rfl
      · exact ⟨{ hx1 (-1) (by decide) with l := by simp }, fun t => by have := hxb (-1) t (by omega) (by omega); simp only; omega⟩
      · exact ⟨{ hx1 1 (by decide) with l := by simp }, fun t => by have := hxb 1 t (by omega) (by omega); simp only; omega⟩
    have R7 := told_tup (F := Fx) (g := (-2, [(tx, 1)])) hFx (by decide) { hx1 1 (by decide) with l := by simp } (fun t => by have := hxb 1 t (by omega) (by omega); simp only; omega) (D + 38)
    have R8 := told_tup (F := Fx) (g := (-4, [(tx, 1)])) hFx (by decide) { hx1 1 (by decide) with l := by simp } (fun t => by have := hxb 1 t (by omega) (by omega); simp only; omega) (D + 38)
    rw [find_x1] at R7
    rw [find_x2] at R8
    have Q3 := eq_res (r := some [(1, 1)]) (fun ps h => by cases h; simp) (D + 38)
    simp [resD, paperD, flat, Fx, sD, sumD, rowD, tD, tx] at R7 R8 Q3
    simp [R7, R8, Q3]
    exact ⟨_, rfl⟩
end K58

set_option Elab.async false
set_option linter.all false
set_option maxRecDepth 100000
set_option maxHeartbeats 4000000
namespace K58
open PySem PySem.Spec PyProof.Rows L2 Ev
theorem plain (ns : List Int) (hl : ns.length ≤ 63) : ∃ m, evCall [] (Ds.map (·.fn)) 61 11 [.kl (ns.map .int)] 0 [] = .ok (.bl true) m := law_ok hl 20
theorem text_mk {l : PySem.W.OpenLaw} {w : World} {K : PySem.W.Frag} {h : Heap} {mg : Str → Option Value} {fa f0 f1 f2 f3 f4 f5 f6 f7 f8 f9 f10 f11 : Addr} (X : K.In h) (G : h.Ns mainGlobals mg) (hfa : mg "law" = some (.ref fa))
    {od0 an0 : Option Addr} {sl0 : Array (Option Value)} {oc0 kV0 dc0 pm0 cd0 ct0 : Value}
    (a0 : PySem.W.nsIn K mainGlobals "plus" = some (some (.ref f0))) (l0 : K.lookup f0 = some ⟨oc0, od0, .func (PySem.W.fnOf "plus" "plus" (defArgs i_plus.st) (defBody i_plus.st) (defScope i_plus.st) .none kV0 dc0 pm0 an0 cd0 ct0), sl0⟩) (c0 : PySem.W.codeIn K cd0 "plus" = true) (k0 : PySem.W.keepIn K (.ref f0) = true)
    {od1 an1 : Option Addr} {sl1 : Array (Option Value)} {oc1 kV1 dc1 pm1 cd1 ct1 : Value}
    (a1 : PySem.W.nsIn K mainGlobals "times" = some (some (.ref f1))) (l1 : K.lookup f1 = some ⟨oc1, od1, .func (PySem.W.fnOf "times" "times" (defArgs i_times.st) (defBody i_times.st) (defScope i_times.st) .none kV1 dc1 pm1 an1 cd1 ct1), sl1⟩) (c1 : PySem.W.codeIn K cd1 "times" = true) (k1 : PySem.W.keepIn K (.ref f1) = true)
    {od2 an2 : Option Addr} {sl2 : Array (Option Value)} {oc2 kV2 dc2 pm2 cd2 ct2 : Value}
    (a2 : PySem.W.nsIn K mainGlobals "shows" = some (some (.ref f2))) (l2 : K.lookup f2 = some ⟨oc2, od2, .func (PySem.W.fnOf "shows" "shows" (defArgs i_shows.st) (defBody i_shows.st) (defScope i_shows.st) .none kV2 dc2 pm2 an2 cd2 ct2), sl2⟩) (c2 : PySem.W.codeIn K cd2 "shows" = true) (k2 : PySem.W.keepIn K (.ref f2) = true)
    {od3 an3 : Option Addr} {sl3 : Array (Option Value)} {oc3 kV3 dc3 pm3 cd3 ct3 : Value}
    (a3 : PySem.W.nsIn K mainGlobals "told_paper" = some (some (.ref f3))) (l3 : K.lookup f3 = some ⟨oc3, od3, .func (PySem.W.fnOf "told_paper" "told_paper" (defArgs i_told_paper.st) (defBody i_told_paper.st) (defScope i_told_paper.st) .none kV3 dc3 pm3 an3 cd3 ct3), sl3⟩) (c3 : PySem.W.codeIn K cd3 "told_paper" = true) (k3 : PySem.W.keepIn K (.ref f3) = true)
    {od4 an4 : Option Addr} {sl4 : Array (Option Value)} {oc4 kV4 dc4 pm4 cd4 ct4 : Value}
    (a4 : PySem.W.nsIn K mainGlobals "_law_state" = some (some (.ref f4))) (l4 : K.lookup f4 = some ⟨oc4, od4, .func (PySem.W.fnOf "_law_state" "_law_state" (defArgs i_law_state.st) (defBody i_law_state.st) (defScope i_law_state.st) .none kV4 dc4 pm4 an4 cd4 ct4), sl4⟩) (c4 : PySem.W.codeIn K cd4 "_law_state" = true) (k4 : PySem.W.keepIn K (.ref f4) = true)
    {od5 an5 : Option Addr} {sl5 : Array (Option Value)} {oc5 kV5 dc5 pm5 cd5 ct5 : Value}
    (a5 : PySem.W.nsIn K mainGlobals "_law_draw" = some (some (.ref f5))) (l5 : K.lookup f5 = some ⟨oc5, od5, .func (PySem.W.fnOf "_law_draw" "_law_draw" (defArgs i_law_draw.st) (defBody i_law_draw.st) (defScope i_law_draw.st) .none kV5 dc5 pm5 an5 cd5 ct5), sl5⟩) (c5 : PySem.W.codeIn K cd5 "_law_draw" = true) (k5 : PySem.W.keepIn K (.ref f5) = true)
    {od6 an6 : Option Addr} {sl6 : Array (Option Value)} {oc6 kV6 dc6 pm6 cd6 ct6 : Value}
    (a6 : PySem.W.nsIn K mainGlobals "_law_pick" = some (some (.ref f6))) (l6 : K.lookup f6 = some ⟨oc6, od6, .func (PySem.W.fnOf "_law_pick" "_law_pick" (defArgs i_law_pick.st) (defBody i_law_pick.st) (defScope i_law_pick.st) .none kV6 dc6 pm6 an6 cd6 ct6), sl6⟩) (c6 : PySem.W.codeIn K cd6 "_law_pick" = true) (k6 : PySem.W.keepIn K (.ref f6) = true)
    {od7 an7 : Option Addr} {sl7 : Array (Option Value)} {oc7 kV7 dc7 pm7 cd7 ct7 : Value}
    (a7 : PySem.W.nsIn K mainGlobals "_law_eq" = some (some (.ref f7))) (l7 : K.lookup f7 = some ⟨oc7, od7, .func (PySem.W.fnOf "_law_eq" "_law_eq" (defArgs i_law_eq.st) (defBody i_law_eq.st) (defScope i_law_eq.st) .none kV7 dc7 pm7 an7 cd7 ct7), sl7⟩) (c7 : PySem.W.codeIn K cd7 "_law_eq" = true) (k7 : PySem.W.keepIn K (.ref f7) = true)
    {od8 an8 : Option Addr} {sl8 : Array (Option Value)} {oc8 kV8 dc8 pm8 cd8 ct8 : Value}
    (a8 : PySem.W.nsIn K mainGlobals "_law_fact" = some (some (.ref f8))) (l8 : K.lookup f8 = some ⟨oc8, od8, .func (PySem.W.fnOf "_law_fact" "_law_fact" (defArgs i_law_fact.st) (defBody i_law_fact.st) (defScope i_law_fact.st) .none kV8 dc8 pm8 an8 cd8 ct8), sl8⟩) (c8 : PySem.W.codeIn K cd8 "_law_fact" = true) (k8 : PySem.W.keepIn K (.ref f8) = true)
    {od9 an9 : Option Addr} {sl9 : Array (Option Value)} {oc9 kV9 dc9 pm9 cd9 ct9 : Value}
    (a9 : PySem.W.nsIn K mainGlobals "_law_called" = some (some (.ref f9))) (l9 : K.lookup f9 = some ⟨oc9, od9, .func (PySem.W.fnOf "_law_called" "_law_called" (defArgs i_law_called.st) (defBody i_law_called.st) (defScope i_law_called.st) .none kV9 dc9 pm9 an9 cd9 ct9), sl9⟩) (c9 : PySem.W.codeIn K cd9 "_law_called" = true) (k9 : PySem.W.keepIn K (.ref f9) = true)
    {od10 an10 : Option Addr} {sl10 : Array (Option Value)} {oc10 kV10 dc10 pm10 cd10 ct10 : Value}
    (a10 : PySem.W.nsIn K mainGlobals "_law_is_whole" = some (some (.ref f10))) (l10 : K.lookup f10 = some ⟨oc10, od10, .func (PySem.W.fnOf "_law_is_whole" "_law_is_whole" (defArgs i_law_is_whole.st) (defBody i_law_is_whole.st) (defScope i_law_is_whole.st) .none kV10 dc10 pm10 an10 cd10 ct10), sl10⟩) (c10 : PySem.W.codeIn K cd10 "_law_is_whole" = true) (k10 : PySem.W.keepIn K (.ref f10) = true)
    {od11 an11 : Option Addr} {sl11 : Array (Option Value)} {oc11 kV11 dc11 pm11 cd11 ct11 : Value}
    (a11 : PySem.W.nsIn K mainGlobals "law" = some (some (.ref f11))) (l11 : K.lookup f11 = some ⟨oc11, od11, .func (PySem.W.fnOf "law" "law" (defArgs i_law.st) (defBody i_law.st) (defScope i_law.st) .none kV11 dc11 pm11 an11 cd11 ct11), sl11⟩) (c11 : PySem.W.codeIn K cd11 "law" = true) (k11 : PySem.W.keepIn K (.ref f11) = true)
    (z0 : PySem.W.nsIn K mainGlobals "dict" = some none)
    (z1 : PySem.W.nsIn K mainGlobals "tuple" = some none)
    (z2 : PySem.W.nsIn K mainGlobals "sorted" = some none)
    (z3 : PySem.W.nsIn K mainGlobals "all" = some none)
    (z4 : PySem.W.nsIn K mainGlobals "isinstance" = some none)
    (z5 : PySem.W.nsIn K mainGlobals "int" = some none)
    (z6 : PySem.W.nsIn K mainGlobals "len" = some none)
    (z7 : PySem.W.nsIn K mainGlobals "zip" = some none)
    (z8 : PySem.W.nsIn K mainGlobals "enumerate" = some none)
    (z9 : PySem.W.nsIn K mainGlobals "abs" = some none)
    (z10 : PySem.W.nsIn K mainGlobals "list" = some none)
    (z11 : PySem.W.nsIn K mainGlobals "range" = some none)
    (z12 : PySem.W.nsIn K mainGlobals "str" = some none)
    (z13 : PySem.W.nsIn K mainGlobals "bool" = some none)
    : Text K mg TT Ds ([] : List DV) ∧ ∃ fd : FuncData, Fun K "law" "law" i_law.st fa fd ∧ ∀ (s : Shared) (v : Value), BindsTo s fd ⟨[v], []⟩ [("script", v)] := by
  have e := hfa.symm.trans (PySem.W.mg_of X G a11)
  cases e
  have F0 := fun_mk (st := i_plus.st) l0 c0 k0
  have b0 := F0.binds (ps := i_plus.ps) fun _ _ _ _ _ _ us hl => match us, hl with | [_, _], _ => rfl
  have F1 := fun_mk (st := i_times.st) l1 c1 k1
  have b1 := F1.binds (ps := i_times.ps) fun _ _ _ _ _ _ us hl => match us, hl with | [_, _], _ => rfl
  have F2 := fun_mk (st := i_shows.st) l2 c2 k2
  have b2 := F2.binds (ps := i_shows.ps) fun _ _ _ _ _ _ us hl => match us, hl with | [_, _, _], _ => rfl
  have F3 := fun_mk (st := i_told_paper.st) l3 c3 k3
  have b3 := F3.binds (ps := i_told_paper.ps) fun _ _ _ _ _ _ us hl => match us, hl with | [_, _], _ => rfl
  have F4 := fun_mk (st := i_law_state.st) l4 c4 k4
  have b4 := F4.binds (ps := i_law_state.ps) fun _ _ _ _ _ _ us hl => match us, hl with | [_], _ => rfl
  have F5 := fun_mk (st := i_law_draw.st) l5 c5 k5
  have b5 := F5.binds (ps := i_law_draw.ps) fun _ _ _ _ _ _ us hl => match us, hl with | [_, _], _ => rfl
  have F6 := fun_mk (st := i_law_pick.st) l6 c6 k6
  have b6 := F6.binds (ps := i_law_pick.ps) fun _ _ _ _ _ _ us hl => match us, hl with | [_, _], _ => rfl
  have F7 := fun_mk (st := i_law_eq.st) l7 c7 k7
  have b7 := F7.binds (ps := i_law_eq.ps) fun _ _ _ _ _ _ us hl => match us, hl with | [_, _], _ => rfl
  have F8 := fun_mk (st := i_law_fact.st) l8 c8 k8
  have b8 := F8.binds (ps := i_law_fact.ps) fun _ _ _ _ _ _ us hl => match us, hl with | [_], _ => rfl
  have F9 := fun_mk (st := i_law_called.st) l9 c9 k9
  have b9 := F9.binds (ps := i_law_called.ps) fun _ _ _ _ _ _ us hl => match us, hl with | [_], _ => rfl
  have F10 := fun_mk (st := i_law_is_whole.st) l10 c10 k10
  have b10 := F10.binds (ps := i_law_is_whole.ps) fun _ _ _ _ _ _ us hl => match us, hl with | [_, _, _], _ => rfl
  have F11 := fun_mk (st := i_law.st) l11 c11 k11
  have b11 := F11.binds (ps := i_law.ps) fun _ _ _ _ _ _ us hl => match us, hl with | [_], _ => rfl
  refine ⟨⟨rfl, fun x hx => ?_, fun D hD => ?_, fun D hD => ?_, fun g x hg => ?con⟩, ⟨_, F11, fun s v => .of_eq rfl⟩⟩
  · have hx : x ∈ (["dict", "tuple", "sorted", "all", "isinstance", "int", "len", "zip", "enumerate", "abs", "list", "range", "str", "bool"] : List Str) := hx
    simp only [List.mem_cons, List.not_mem_nil, or_false] at hx
    rcases hx with rfl | rfl | rfl | rfl | rfl | rfl | rfl | rfl | rfl | rfl | rfl | rfl | rfl | rfl
    · exact PySem.W.mg_none_of X G z0
    · exact PySem.W.mg_none_of X G z1
    · exact PySem.W.mg_none_of X G z2
    · exact PySem.W.mg_none_of X G z3
    · exact PySem.W.mg_none_of X G z4
    · exact PySem.W.mg_none_of X G z5
    · exact PySem.W.mg_none_of X G z6
    · exact PySem.W.mg_none_of X G z7
    · exact PySem.W.mg_none_of X G z8
    · exact PySem.W.mg_none_of X G z9
    · exact PySem.W.mg_none_of X G z10
    · exact PySem.W.mg_none_of X G z11
    · exact PySem.W.mg_none_of X G z12
    · exact PySem.W.mg_none_of X G z13
  · simp only [Ds, List.mem_cons, List.not_mem_nil, or_false] at hD
    rcases hD with rfl | rfl | rfl | rfl | rfl | rfl | rfl | rfl | rfl | rfl | rfl | rfl
    · exact ok_plus
    · exact ok_times
    · exact ok_shows
    · exact ok_told_paper
    · exact ok_law_state
    · exact ok_law_draw
    · exact ok_law_pick
    · exact ok_law_eq
    · exact ok_law_fact
    · exact ok_law_called
    · exact ok_law_is_whole
    · exact ok_law
  · simp only [Ds, List.mem_cons, List.not_mem_nil, or_false] at hD
    rcases hD with rfl | rfl | rfl | rfl | rfl | rfl | rfl | rfl | rfl | rfl | rfl | rfl
    · exact ⟨_, _, PySem.W.mg_of X G a0, F0, b0⟩
    · exact ⟨_, _, PySem.W.mg_of X G a1, F1, b1⟩
    · exact ⟨_, _, PySem.W.mg_of X G a2, F2, b2⟩
    · exact ⟨_, _, PySem.W.mg_of X G a3, F3, b3⟩
    · exact ⟨_, _, PySem.W.mg_of X G a4, F4, b4⟩
    · exact ⟨_, _, PySem.W.mg_of X G a5, F5, b5⟩
    · exact ⟨_, _, PySem.W.mg_of X G a6, F6, b6⟩
    · exact ⟨_, _, PySem.W.mg_of X G a7, F7, b7⟩
    · exact ⟨_, _, PySem.W.mg_of X G a8, F8, b8⟩
    · exact ⟨_, _, PySem.W.mg_of X G a9, F9, b9⟩
    · exact ⟨_, _, PySem.W.mg_of X G a10, F10, b10⟩
    · exact ⟨_, _, PySem.W.mg_of X G a11, F11, b11⟩
  case con => cases hg
theorem all_mk {l : PySem.W.OpenLaw} {w : World} {K : PySem.W.Frag} {mg : Str → Option Value} {fa : Addr} (hfa : mg "law" = some (.ref fa)) (T : Text K mg TT Ds ([] : List DV) ∧ ∃ fd : FuncData, Fun K "law" "law" i_law.st fa fd ∧ ∀ (s : Shared) (v : Value), BindsTo s fd ⟨[v], []⟩ [("script", v)]) :
    ∃ fd : FuncData, (∀ (s : Shared) (v : Value), BindsTo s fd ⟨[v], []⟩ [("script", v)]) ∧ ∀ base : Heap, K.In base → base.Ns mainGlobals mg → FnOk l.prog w K mg base CX0 61 fa fd ["script"] (spOf K 1 (evCall ([] : List DV) (Ds.map (·.fn)) 61 11)) := by
  obtain ⟨X, fd, F, hb⟩ := T
  exact ⟨fd, hb, fun base _ _ => defs_ok X 61 11 i_law rfl fa fd hfa F⟩
end K58
open PySem PySem.W PyProof.Rows
set_option maxHeartbeats 0 in
theorem PySem.Challenge.cw_stagesworn_k58_told_papers_of_what_is_al_holds : PySem.Challenge.rw_stagesworn_k58_told_papers_of_what_is_al.Holds := by
  w_on; o_law; k_head; (case hw => w_witness2)
  k_fill
  refine L2.walk_of (l := PySem.Challenge.rw_stagesworn_k58_told_papers_of_what_is_al) (n := 63) (k := 61) (x := "script") (CX := fun _ => L2.CX0) (sp := fun w => Ev.spOf _ 1 (Ev.evCall ([]) (K58.Ds.map (·.fn)) 61 11)) rfl (by decide) rfl ⟨rfl, by decide, by decide⟩ (fun w h Y => PySem.W.kIn_of Y) ?F (fun _ _ a ns hl _ hS => Ev.law_sp hS (Nat.le_trans hl (by decide)) (K58.plain ns hl)) (fun _ _ _ _ _ h => h)
  case F =>
    intro w mg fa h KX G hmg
    refine' K58.all_mk hmg (K58.text_mk (l := PySem.Challenge.rw_stagesworn_k58_told_papers_of_what_is_al) (w := w) KX G hmg ?a0 ?l0 ?c0 ?k0 ?a1 ?l1 ?c1 ?k1 ?a2 ?l2 ?c2 ?k2 ?a3 ?l3 ?c3 ?k3 ?a4 ?l4 ?c4 ?k4 ?a5 ?l5 ?c5 ?k5 ?a6 ?l6 ?c6 ?k6 ?a7 ?l7 ?c7 ?k7 ?a8 ?l8 ?c8 ?k8 ?a9 ?l9 ?c9 ?k9 ?a10 ?l10 ?c10 ?k10 ?a11 ?l11 ?c11 ?k11 ?z0 ?z1 ?z2 ?z3 ?z4 ?z5 ?z6 ?z7 ?z8 ?z9 ?z10 ?z11 ?z12 ?z13)
    (case a0 => k_is); (case l0 => k_is); (case c0 => k_is); (case k0 => k_is); (case a1 => k_is); (case l1 => k_is); (case c1 => k_is); (case k1 => k_is); (case a2 => k_is); (case l2 => k_is); (case c2 => k_is); (case k2 => k_is); (case a3 => k_is); (case l3 => k_is); (case c3 => k_is); (case k3 => k_is); (case a4 => k_is); (case l4 => k_is); (case c4 => k_is); (case k4 => k_is); (case a5 => k_is); (case l5 => k_is); (case c5 => k_is); (case k5 => k_is); (case a6 => k_is); (case l6 => k_is); (case c6 => k_is); (case k6 => k_is); (case a7 => k_is); (case l7 => k_is); (case c7 => k_is); (case k7 => k_is); (case a8 => k_is); (case l8 => k_is); (case c8 => k_is); (case k8 => k_is); (case a9 => k_is); (case l9 => k_is); (case c9 => k_is); (case k9 => k_is); (case a10 => k_is); (case l10 => k_is); (case c10 => k_is); (case k10 => k_is); (case a11 => k_is); (case l11 => k_is); (case c11 => k_is); (case k11 => k_is); (case z0 => k_is); (case z1 => k_is); (case z2 => k_is); (case z3 => k_is); (case z4 => k_is); (case z5 => k_is); (case z6 => k_is); (case z7 => k_is); (case z8 => k_is); (case z9 => k_is); (case z10 => k_is); (case z11 => k_is); (case z12 => k_is); (case z13 => k_is)
