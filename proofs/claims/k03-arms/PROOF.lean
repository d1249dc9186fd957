import PyProof.Rows.All
import Wide.All
import OpenK.AllK
import Wide.FinOn
import KE.DataEq
import KE.LtData
import HandS.ForMost
import HandS.Exc
import HandS.TryOnly
import HandS.ExcOwn
import HandS.WordsExc
import HandS.ExcInit
import HandS.ExcField
import HandS.Wide
import HandS.TupMul
import KE.DataCmp
import KE.DataFind
import HandS.TupAny
import KE.DataMinMax
import KE.KTupSum
import KE.SortData
import HandS.SortInts
import HandS.Style
import HandS.Conv
import HandS.IsInst
import HandS.SetFor
import HandS.Strs
import HandS.Rev
import HandS.Zip
import KE.GoesMore
import KE.GoesEnum
import PyProof.Rows.ChunkLeaf
import HandS.Ends
import HandS.Defaults
import KE.KStateDown
import KE.KExcInit
import HandS.Head0
import HandS.Head1
import HandS.Head2
import HandS.HeadEnd
import HandS.HeadHook1
import HandS.HeadHook2
import PySem.Challenge.RW_shapeworks_k03_whole_arms_legs_and_edges
set_option Elab.async false
set_option linter.all false
set_option maxRecDepth 100000
/-! PV: a small functional reading of Python: data as trees, a def's slots as a list of cells; `ev`, `exec` run a body. -/
namespace PV
open PySem
abbrev D := PyData

inductive Res (α : Type) where
  | ok (a : α) | exc (c : Nat) (code place : D) | stuck
def Res.bind {α β : Type} (x : Res α) (f : α → Res β) : Res β := match x with
  | .ok a => f a
  | .exc c k p => .exc c k p
  | .stuck => .stuck
instance : Monad Res where
  pure := Res.ok
  bind := Res.bind
@[simp] theorem bind_ok {α β : Type} (a : α) (f : α → Res β) : (Res.ok a >>= f) = f a := rfl
@[simp] theorem bind_exc {α β : Type} (c : Nat) (k p : D) (f : α → Res β) : ((Res.exc c k p : Res α) >>= f) = Res.exc c k p := rfl
@[simp] theorem bind_stuck {α β : Type} (f : α → Res β) : ((Res.stuck : Res α) >>= f) = Res.stuck := rfl
@[simp] theorem pure_eq {α : Type} (a : α) : (pure a : Res α) = Res.ok a := rfl

mutual
/-- no list and no dict within -/
def imm : D → Bool
  | .list _ => false
  | .dict _ => false
  | .tuple xs => immAll xs
  | .none => true
  | .bool _ => true
  | .int _ => true
  | .str _ => true
def immAll : List D → Bool
  | [] => true
  | x :: xs => imm x && immAll xs
end

/-- own: its lists are this cell's alone; fz: its lists are nobody's to change; bor: to be read as long as nothing is changed; scr: the law's own script -/
inductive Cell where
  | own (d : D) | fz (d : D) | bor (d : D) | scr (l : List Int)
def Cell.d : Cell → D
  | .own d => d | .fz d => d | .bor d => d | .scr _ => .none
def Cell.noBor : Cell → Bool
  | .bor _ => false
  | _ => true
abbrev Env := List (Option Cell)
def get (ρ : Env) (i : Nat) : Option Cell := match ρ[i]? with
  | some c => c
  | none => none
def noBor (ρ : Env) : Bool := ρ.all fun c => match c with
  | some c => c.noBor
  | none => true

inductive O2 where
  | add | sub | mul | fdiv | mod | pow | eq | ne | lt | le | gt | ge | inn | nin | isN | ntN
inductive O1 where
  | neg | nt
inductive Bi where
  | len | sum | all | any | max1 | min1 | max2 | min2 | abs | int | tup | lst | sorted
inductive Mt where
  | count | index

mutual
inductive E where
  | var (i : Nat) | int (n : Int) | str (s : Str) | bl (b : Bool) | non
  | op2 (o : O2) (a b : E) | op1 (o : O1) (a : E)
  | and (a b : E) | or (a b : E) | ite (c a b : E)
  | cmp3 (o p : O2) (a b c : E)
  | bi (f : Bi) (as : Es) | mt (m : Mt) (o : E) (as : Es)
  | sub (o i : E) | slc (o : E) (lo hi : Oe) | rev (o : E)
  | tup (es : Es) | lst (es : Es)
  | call (f : Nat) (as : Es)
  | ref (i : Nat) | scr (i : Nat) | scrL (i : Nat)
  | pop0 (i : Nat) | pop1 (i : Nat) (e : E)
  | comp (elt : E) (tgt : List Nat) (single : Bool) (it : It) (cnd : Es) (own : List Nat)
  | rng (a b : E) | rng1 (b : E)          -- list(range(a, b)), list(range(b))
  | isBool (e : E) | isTup (e : E) | isInt (e : E)
  | sset (e : E)                          -- sorted(set(e))
inductive Es where
  | nil | cons (e : E) (r : Es)
inductive Oe where
  | none | some (e : E)
inductive It where
  | scr (i : Nat) | seq (e : E) | r1 (a : E) | r2 (a b : E) | r3 (a b c : E) | enum (e : E) | zip (a b : E) | rv (e : E)
end

mutual
inductive S where
  | asg (i : Nat) (e : E)
  | asgT (is : List Nat) (e : E)
  | setv (i : Nat) (ix e : E)
  | set2 (i : Nat) (ix jx e : E)
  | app (i : Nat) (e : E)
  | app1 (i : Nat) (ix e : E)
  | ext (i : Nat) (e : E)
  | ex (e : E)
  | iff (c : E) (a b : Ss)
  | for (tgt : List Nat) (single : Bool) (it : It) (b : Ss)
  | whl (c : E) (b : Ss)
  | ret (e : E) | retN
  | raise1 (c : Nat) (code : Str) | raise2 (c : Nat) (code : Str) (place : E)
  | try_ (i : Nat) (b : Ss) (hs : List (Nat × Nat))
  | brk | cnt | pass
inductive Ss where
  | nil | cons (s : S) (r : Ss)
end

/-! ### the operations, by values -/
def noExc {α : Type} : Res α → Res α
  | .exc _ _ _ => .stuck
  | x => x
@[simp] theorem noExc_ok {α : Type} (a : α) : noExc (Res.ok a) = .ok a := rfl
@[simp] theorem noExc_stuck {α : Type} : noExc (Res.stuck : Res α) = .stuck := rfl
theorem noExc_inv {α : Type} {x : Res α} {a : α} (h : noExc x = .ok a) : x = .ok a := by cases x <;> first | exact h | cases h
theorem noExc_not {α : Type} {x : Res α} {c : Nat} {k p : D} (h : noExc x = .exc c k p) : False := by cases x <;> cases h
/-- together below a million bits -/
def mulOk (a b : Int) : Bool := (decide (-(2 ^ 64) < a ∧ a < 2 ^ 64)) || (decide (-(2 ^ 64) < b ∧ b < 2 ^ 64)) || decide (a.natAbs < 2 ^ 4000 ∧ b.natAbs < 2 ^ 4000)
def divOk (b : Int) : Bool := decide (b ≠ 0 ∧ b.natAbs < 1073741824) || decide (0 < b ∧ b < 2 ^ 9000)
def lenOk (n : Nat) : Bool := decide (n ≤ sizeLine)
def ixN (n : Nat) (i : Int) : Option Nat := if 0 ≤ i then (if i < n then some i.toNat else none) else if -(n : Int) ≤ i then some (i + n).toNat else none
def atD (xs : List D) (i : Int) : Res D := match ixN xs.length i with
  | some j => match xs[j]? with
    | some d => .ok d
    | none => .stuck
  | none => .stuck
/-- a == b -/
def eqD (a b : D) : Res Bool := if min a.depth b.depth ≤ 60 then .ok (PyData.eqv a b) else .stuck
def ltOk (a b : D) : Bool := PySem.W.alike a b && decide (min a.depth b.depth ≤ 60) && (match a with | .none => false | _ => true)
def inD (x : D) (ys : List D) : Res Bool := if min x.depth (PyData.depthAll ys) ≤ 60 then .ok (ys.any fun y => PyData.eqv y x) else .stuck
def op2 : O2 → D → D → Res D
  | .add, .int a, .int b => .ok (.int (a + b))
  | .add, .str a, .str b => if lenOk (a.length + b.length) then .ok (.str (a ++ b)) else .stuck
  | .add, .tuple a, .tuple b => if lenOk (a.length + b.length) then .ok (.tuple (a ++ b)) else .stuck
  | .add, .list a, .list b => if lenOk (a.length + b.length) then .ok (.list (a ++ b)) else .stuck
  | .sub, .int a, .int b => .ok (.int (a - b))
  | .mul, .int a, .int b => if mulOk a b then .ok (.int (a * b)) else .stuck
  | .mul, .list a, .int k => if lenOk (a.length * k.toNat) && decide (-(2 ^ 63) ≤ k ∧ k < 2 ^ 63) then .ok (.list (List.replicate k.toNat a).flatten) else .stuck
  | .mul, .tuple a, .int k => if decide (a.length ≤ 1000 ∧ -(2 ^ 63) ≤ k ∧ k ≤ 1000) then .ok (.tuple (List.replicate k.toNat a).flatten) else .stuck
  | .fdiv, .int a, .int b => if divOk b then .ok (.int (a.fdiv b)) else .stuck
  | .mod, .int a, .int b => if b = 0 then .stuck else .ok (.int (a.fmod b))
  | .pow, .int a, .int b => if 0 ≤ b ∧ b ≤ 1000000 ∧ a.natAbs < 2 ^ 64 then .ok (.int (a ^ b.toNat)) else .stuck
  | .eq, a, b => do .ok (.bool (← eqD a b))
  | .ne, a, b => do .ok (.bool (!(← eqD a b)))
  | .lt, .int a, .int b => .ok (.bool (decide (a < b)))
  | .le, .int a, .int b => .ok (.bool (decide (a ≤ b)))
  | .gt, .int a, .int b => .ok (.bool (decide (b < a)))
  | .ge, .int a, .int b => .ok (.bool (decide (b ≤ a)))
  | .lt, a, b => if ltOk a b then .ok (.bool (PySem.W.dataLt a b)) else .stuck
  | .le, a, b => if ltOk a b then .ok (.bool (!PySem.W.dataLt b a)) else .stuck
  | .gt, a, b => if ltOk a b then .ok (.bool (PySem.W.dataLt b a)) else .stuck
  | .ge, a, b => if ltOk a b then .ok (.bool (!PySem.W.dataLt a b)) else .stuck
  | .inn, x, .list ys => do .ok (.bool (← inD x ys))
  | .inn, x, .tuple ys => do .ok (.bool (← inD x ys))
  | .inn, .str x, .str y => .ok (.bool (!(Builtin.Str.occurrences y x 0 y.length 1).isEmpty))
  | .nin, x, .list ys => do .ok (.bool (!(← inD x ys)))
  | .nin, x, .tuple ys => do .ok (.bool (!(← inD x ys)))
  | .nin, .str x, .str y => .ok (.bool (!(!(Builtin.Str.occurrences y x 0 y.length 1).isEmpty)))
  | .isN, a, .none => .ok (.bool (match a with | .none => true | _ => false))
  | .ntN, a, .none => .ok (.bool (match a with | .none => false | _ => true))
  | _, _, _ => .stuck
def op1 : O1 → D → Res D
  | .neg, .int a => .ok (.int (-a))
  | .nt, .bool b => .ok (.bool (!b))
  | _, _ => .stuck
def intsOf : List D → Option (List Int)
  | [] => some []
  | .int i :: r => match intsOf r with
    | some l => some (i :: l)
    | none => none
  | _ :: _ => none
def boolsOf : List D → Option (List Bool)
  | [] => some []
  | .bool i :: r => match boolsOf r with
    | some l => some (i :: l)
    | none => none
  | _ :: _ => none
def alikeAll2 (xs : List D) : Bool := xs.all fun x => xs.all fun y => PySem.W.alike x y
def maxD (x : D) (xs : List D) : D := xs.foldl (fun a y => if PySem.W.dataLt a y then y else a) x
def minD (x : D) (xs : List D) : D := xs.foldl (fun a y => if PySem.W.dataLt y a then y else a) x
def max1 : List D → Res D
  | [] => .stuck
  | x :: r => if immAll (x :: r) && alikeAll2 (x :: r) && decide (PyData.depthAll (x :: r) ≤ 60) && (x :: r).all (fun y => match y with | .none => false | _ => true) then .ok (maxD x r) else .stuck
def min1 : List D → Res D
  | [] => .stuck
  | x :: r => if immAll (x :: r) && alikeAll2 (x :: r) && decide (PyData.depthAll (x :: r) ≤ 60) && (x :: r).all (fun y => match y with | .none => false | _ => true) then .ok (minD x r) else .stuck
/-- the order of sorted -/
def leD (a b : D) : Bool := !PySem.W.dataLt b a
/-- can they be sorted? -/
def sortB (xs : List D) : Bool := immAll xs && alikeAll2 xs && decide (PyData.depthAll xs ≤ 50) && lenOk xs.length &&
  (decide (xs.length ≤ 1) || xs.all (fun y => match y with | .tuple (_ :: _) => true | _ => false) || xs.all (fun y => match y with | .none => false | .tuple _ => false | _ => true))
/-- no list deeper than the top -/
def flat : D → Bool
  | .list l => immAll l
  | d => imm d
/-- a built-in of its arguments: the flag tells whether its lists are new, deep down -/
def bi : Bi → List D → Res D
  | .len, [.str x] => if lenOk x.length then .ok (.int x.length) else .stuck
  | .len, [.list xs] => .ok (.int xs.length)
  | .len, [.tuple xs] => .ok (.int xs.length)
  | .sum, [.list xs] => match intsOf xs with | some l => .ok (.int l.sum) | none => .stuck
  | .sum, [.tuple xs] => match intsOf xs with | some l => .ok (.int l.sum) | none => .stuck
  | .all, [.list xs] => match boolsOf xs with | some l => .ok (.bool (l.all id)) | none => .stuck
  | .any, [.list xs] => match boolsOf xs with | some l => .ok (.bool (l.any id)) | none => .stuck
  | .max1, [.list xs] => max1 xs
  | .max1, [.tuple xs] => max1 xs
  | .min1, [.list xs] => min1 xs
  | .min1, [.tuple xs] => min1 xs
  | .max2, [.int a, .int b] => .ok (.int (if b > a then b else a))
  | .min2, [.int a, .int b] => .ok (.int (if b < a then b else a))
  | .abs, [.int a] => .ok (.int (if a < 0 then -a else a))
  | .int, [.int a] => .ok (.int a)
  | .int, [.bool b] => .ok (.int (if b then 1 else 0))
  | .tup, [.list xs] => .ok (.tuple xs)
  | .tup, [.tuple xs] => .ok (.tuple xs)
  | .lst, [.list xs] => .ok (.list xs)
  | .lst, [.tuple xs] => .ok (.list xs)
  | .sorted, [.list xs] => if sortB xs then .ok (.list (xs.mergeSort leD)) else .stuck
  | _, _ => .stuck
def mt : Mt → D → List D → Res D
  | .count, .list xs, [x] => if min (PyData.depthAll xs) x.depth ≤ 60 then .ok (.int (xs.countP fun y => PyData.eqv y x)) else .stuck
  | _, _, _ => .stuck
def sIx (n d : Nat) : Option Int → Nat
  | none => d
  | some i => if i < 0 then (i + n).toNat else min i.toNat n
def cut {α : Type} (xs : List α) (lo hi : Option Int) : List α := (xs.drop (sIx xs.length 0 lo)).take (sIx xs.length xs.length hi - sIx xs.length 0 lo)
def slc : D → Option Int → Option Int → Res D
  | .list xs, lo, hi => .ok (.list (cut xs lo hi))
  | .tuple xs, lo, hi => .ok (.tuple (cut xs lo hi))
  | .str s, lo, hi => if lenOk s.length then .ok (.str ⟨(cut s.cps.toList lo hi).toArray⟩) else .stuck
  | _, _, _ => .stuck
def rev : D → Res D
  | .list xs => .ok (.list xs.reverse)
  | .tuple xs => .ok (.tuple xs.reverse)
  | _ => .stuck
def sub : D → D → Res D
  | .list xs, .int i => atD xs i
  | .tuple xs, .int i => atD xs i
  | .str s, .int i => if lenOk s.length then (match (ixN s.cps.toList.length i).bind fun j => s.cps.toList[j]? with
    | some c => .ok (.str ⟨#[c]⟩)
    | none => .stuck) else .stuck
  | _, _ => .stuck

/-! ### the environment -/
/-- a result: its lists are new, deep down (or it has none); the tree -/
abbrev R := Bool × D
/-- what a name holds, to be read -/
def rd (ρ : Env) (i : Nat) : Res R := match get ρ i with
  | some (.scr _) => .stuck
  | some c => .ok (imm c.d, c.d)
  | none => .stuck
def mkCell (r : R) : Cell := if r.1 || imm r.2 then .own r.2 else .bor r.2
/-- slot i is nobody's to change from now on -/
def freeze (ρ : Env) (i : Nat) : Env := match get ρ i with
  | some (.own d) => if imm d then ρ else ρ.set i (some (.fz d))
  | _ => ρ
/-- .. as a cell -/
def frzC : Option Cell → Option Cell
  | some (.own d) => if imm d then some (.own d) else some (.fz d)
  | c => c
def freezes (ρ : Env) : List Nat → Env
  | [] => ρ
  | i :: r => freezes (freeze ρ i) r
def putAll (ρ : Env) : List Nat → List Cell → Option Env
  | [], [] => some ρ
  | i :: is, c :: cs => putAll (ρ.set i (some c)) is cs
  | _, _ => none
/-- the cells of a target: one name, or as many as the tuple has -/
def cellOf (k : D → Cell) (d : D) : Cell := if imm d then .own d else k d
def bindT (k : D → Cell) (tgt : List Nat) (single : Bool) (d : D) (ρ : Env) : Res Env :=
  if single then match tgt with
    | [i] => .ok (ρ.set i (some (cellOf k d)))
    | _ => .stuck
  else match d with
    | .tuple ds => match putAll ρ tgt (ds.map (cellOf k)) with
      | some ρ' => .ok ρ'
      | none => .stuck
    | _ => .stuck
def wipe (ρ : Env) : List Nat → Env
  | [] => ρ
  | i :: r => (wipe ρ r).set i none
def immAt (ρ : Env) (i : Nat) : Bool := match get ρ i with
  | some c => imm c.d
  | none => true
/-- the comprehension's own names get back what they held -/
def restore (ρ0 ρ : Env) : List Nat → Env
  | [] => ρ
  | i :: r => (restore ρ0 ρ r).set i (get ρ0 i)

mutual
/-- the names that an expression reads -/
def vars : E → List Nat
  | .var i => [i]
  | .ref i => [i]
  | .scr i => [i]
  | .scrL i => [i]
  | .op2 _ a b => vars a ++ vars b
  | .op1 _ a => vars a
  | .and a b => vars a ++ vars b
  | .or a b => vars a ++ vars b
  | .ite c a b => vars c ++ vars a ++ vars b
  | .cmp3 _ _ a b c => vars a ++ vars b ++ vars c
  | .bi _ as => varss as
  | .mt _ o as => vars o ++ varss as
  | .sub o i => vars o ++ vars i
  | .slc o lo hi => vars o ++ varso lo ++ varso hi
  | .rev o => vars o
  | .tup es => varss es
  | .lst es => varss es
  | .call _ as => varss as
  | .pop0 i => [i]
  | .pop1 i e => i :: vars e
  | .comp elt _ _ it cnd _ => vars elt ++ varsi it ++ varss cnd
  | .rng a b => vars a ++ vars b
  | .rng1 b => vars b
  | .isBool e => vars e
  | .isTup e => vars e
  | .isInt e => vars e
  | .sset e => vars e
  | .int _ => [] | .str _ => [] | .bl _ => [] | .non => []
def varss : Es → List Nat
  | .nil => []
  | .cons e r => vars e ++ varss r
def varso : Oe → List Nat
  | .none => []
  | .some e => vars e
def varsi : It → List Nat
  | .scr _ => []
  | .seq e => vars e
  | .r1 _ => []
  | .r2 _ _ => []
  | .r3 _ _ _ => []
  | .enum e => vars e
  | .zip a b => vars a ++ vars b
  | .rv e => vars e
end
mutual
/-- does it change anything that stands? -/
def eff : E → Bool
  | .var _ => false
  | .ref _ => true
  | .scr _ => false
  | .scrL _ => false
  | .op2 _ a b => eff a || eff b
  | .op1 _ a => eff a
  | .and a b => eff a || eff b
  | .or a b => eff a || eff b
  | .ite c a b => eff c || eff a || eff b
  | .cmp3 _ _ a b c => eff a || eff b || eff c
  | .bi _ as => effs as
  | .mt _ o as => eff o || effs as
  | .sub o i => eff o || eff i
  | .slc o lo hi => eff o || effo lo || effo hi
  | .rev o => eff o
  | .tup es => effs es
  | .lst es => effs es
  | .call _ as => effs as
  | .pop0 _ => true
  | .pop1 _ _ => true
  | .comp elt _ _ it cnd _ => eff elt || effi it || effs cnd
  | .rng a b => eff a || eff b
  | .rng1 b => eff b
  | .isBool e => eff e
  | .isTup e => eff e
  | .isInt e => eff e
  | .sset e => eff e
  | .int _ => false | .str _ => false | .bl _ => false | .non => false
def effs : Es → Bool
  | .nil => false
  | .cons e r => eff e || effs r
def effo : Oe → Bool
  | .none => false
  | .some e => eff e
def effi : It → Bool
  | .scr _ => false
  | .seq e => eff e
  | .r1 a => eff a
  | .r2 a b => eff a || eff b
  | .r3 a b c => eff a || eff b || eff c
  | .enum e => eff e
  | .zip a b => eff a || eff b
  | .rv e => eff e
end

def ownList (ρ : Env) (i : Nat) : Res (List D) := match get ρ i with
  | some (.own (.list ds)) => .ok ds
  | _ => .stuck
def listOf : D → Res (List D)
  | .list ds => .ok ds
  | _ => .stuck
/-- may it wait while what is behind it runs? -/
def keeps (r : R) (e : Bool) : Bool := r.1 || !e || imm r.2
/-- a call of a def: its number, the cells of its parameters; the answer and the cells of its parameters behind it -/
abbrev CF := Nat → List Cell → Res (R × List (Option Cell))
/-- an argument: a value, or a name handed over -/
inductive Ar where
  | val (r : R) | ref (i : Nat) | scr (i : Nat)
def arCells (ρ : Env) : List Ar → Option (List Cell)
  | [] => some []
  | .val r :: as => match arCells ρ as with
    | some cs => some ((if imm r.2 then .own r.2 else .fz r.2) :: cs)
    | none => none
  | .ref i :: as => match get ρ i, arCells ρ as with
    | some (.own d), some cs => some (.own d :: cs)
    | _, _ => none
  | .scr i :: as => match get ρ i, arCells ρ as with
    | some (.scr l), some cs => some (.scr l :: cs)
    | _, _ => none
def arBack (ρ : Env) : List Ar → List (Option Cell) → Option Env
  | [], _ => some ρ
  | .val _ :: as, _ :: cs => arBack ρ as cs
  | .scr _ :: as, _ :: cs => arBack ρ as cs
  | .ref i :: as, some (.own d) :: cs => arBack (ρ.set i (some (.own d))) as cs
  | _, _ => none
def arVals : List Ar → List D
  | [] => []
  | .val r :: as => r.2 :: arVals as
  | .ref _ :: as => arVals as
  | .scr _ :: as => arVals as
def hasRef : List Ar → Bool
  | [] => false
  | .val _ :: as => hasRef as
  | .scr _ :: as => hasRef as
  | .ref _ :: _ => true
def arRefs : List Ar → List Nat
  | [] => []
  | .val _ :: as => arRefs as
  | .scr _ :: as => arRefs as
  | .ref i :: as => i :: arRefs as
/-- the names handed over -/
def refsE : Es → List Nat
  | .nil => []
  | .cons (.ref i) r => i :: refsE r
  | .cons _ r => refsE r
/-- what the other arguments read -/
def valsV : Es → List Nat
  | .nil => []
  | .cons (.ref _) r => valsV r
  | .cons (.scr _) r => valsV r
  | .cons e r => vars e ++ valsV r
/-- no argument reads what is handed over -/
def sepE (es : Es) : Bool := (refsE es).all fun i => !(valsV es).contains i
def callA (cf : CF) (f : Nat) (sp : Bool) (as : List Ar) (ρ : Env) : Res (R × Env) :=
  if hasRef as && !(noBor ρ && ((arVals as).all imm || sp) && decide (arRefs as).Nodup) then .stuck else
  match arCells ρ as with
  | none => .stuck
  | some cs => do
    let (r, outs) ← cf f cs
    match arBack ρ as outs with
    | some ρ' => .ok (r, ρ')
    | none => .stuck
/-- a name whose lists are nobody's to change -/
def isFz (ρ : Env) : E → Bool
  | .var j => match get ρ j with
    | some (.fz _) => true
    | _ => false
  | _ => false
def asInt : D → Res Int
  | .int i => .ok i
  | _ => .stuck
def asBool : D → Res Bool
  | .bool b => .ok b
  | _ => .stuck
def smallI (i : Int) : Bool := decide (-(2 ^ 62) ≤ i ∧ i < 2 ^ 62)
def rangeD (lo hi : Int) : List D := (List.range (hi - lo).toNat).map fun k => .int (lo + (k : Nat))
def rangeC (lo c : Int) (n : Nat) : List D := (List.range n).map fun k => .int (lo + (k : Nat) * c)
def isTupD : D → Bool
  | .tuple _ => true
  | _ => false
def isIntD : D → Bool
  | .int _ => true
  | .bool _ => true
  | _ => false
/-- into an ascending row, once -/
def insS (x : Int) : List Int → List Int
  | [] => [x]
  | y :: r => if x < y then x :: y :: r else if x = y then y :: r else y :: insS x r
def ssort : List Int → List Int
  | [] => []
  | x :: l => insS x (ssort l)
/-- sorted(set(t)) of a tuple of ints -/
def ssetD : D → Res D
  | .tuple xs => match intsOf xs with
    | some l => if l.length < 64 then .ok (.list ((ssort l).map .int)) else .stuck
    | none => .stuck
  | _ => .stuck
def isBoolD : D → Bool
  | .bool _ => true
  | _ => false
def stepsOf (lo hi c : Int) : Nat := (Builtin.Range.rangeSize lo hi c).toNat
def itemsOf : D → Res (List D)
  | .list xs => .ok xs
  | .tuple xs => .ok xs
  | _ => .stuck
/-- a text's signs -/
def signsD (s : Str) : List D := s.cps.toList.map fun c => .str ⟨#[c]⟩
/-- .. a text's signs too -/
def itemsS : D → Res (List D)
  | .list xs => .ok xs
  | .tuple xs => .ok xs
  | .str s => .ok (signsD s)
  | _ => .stuck
def enumD (k : Nat) : List D → List D
  | [] => []
  | x :: r => .tuple [.int k, x] :: enumD (k + 1) r
def zipD : List D → List D → List D
  | x :: xs, y :: ys => .tuple [x, y] :: zipD xs ys
  | _, _ => []
/-- two lists or two tuples, side by side -/
def zipV : D → D → Res (List D)
  | .list a, .list b => .ok (zipD a b)
  | .tuple a, .tuple b => .ok (zipD a b)
  | _, _ => .stuck
def lastD (ds : List D) : Res D := match ds.getLast? with
  | some d => .ok d
  | none => .stuck
def ixD (ds : List D) (i : Int) : Res Nat := match ixN ds.length i with
  | some j => .ok j
  | none => .stuck
/-- a comprehension's turns that change things -/
def compL (body : D → Env → Res (Option R × Env)) (own : List Nat) : List D → Env → Res (List D × Env)
  | [], ρ => .ok ([], ρ)
  | d :: ds, ρ => do
    let (o, ρ1) ← body d ρ
    let ρ2 := wipe ρ1 own
    if noBor ρ2 then
      let (l, ρ3) ← compL body own ds ρ2
      match o with
      | none => .ok (l, ρ3)
      | some r => if r.1 || imm r.2 then .ok (r.2 :: l, ρ3) else .stuck
    else .stuck
/-- .. that change nothing -/
def compP (body : D → Env → Res (Option R × Env)) (ρ : Env) : List D → Res (Bool × List D)
  | [] => .ok (true, [])
  | d :: ds => do
    let (o, _) ← body d ρ
    let (k, l) ← compP body ρ ds
    match o with
    | none => .ok (k, l)
    | some r => .ok (k && (r.1 || imm r.2), r.2 :: l)
def setAt (ds : List D) (i : Int) (d : D) : Res (List D) := match ixN ds.length i with
  | some j => .ok (ds.set j d)
  | none => .stuck

mutual
def ev (cf : CF) : E → Env → Res (R × Env)
  | .var i, ρ => do .ok ((← rd ρ i), ρ)
  | .int n, ρ => .ok ((true, .int n), ρ)
  | .str s, ρ => .ok ((true, .str s), ρ)
  | .bl b, ρ => .ok ((true, .bool b), ρ)
  | .non, ρ => .ok ((true, .none), ρ)
  | .op2 o a b, ρ => do
    let (x, ρ1) ← ev cf a ρ
    let (y, ρ2) ← ev cf b ρ1
    if keeps x (eff b) then
      let d ← noExc (op2 o x.2 y.2)
      .ok ((flat d, d), ρ2)
    else .stuck
  | .op1 o a, ρ => do
    let (x, ρ1) ← ev cf a ρ
    let d ← noExc (op1 o x.2)
    .ok ((true, d), ρ1)
  | .and a b, ρ => do
    let (x, ρ1) ← ev cf a ρ
    if ← asBool x.2 then ev cf b ρ1 else .ok ((true, .bool false), ρ1)
  | .or a b, ρ => do
    let (x, ρ1) ← ev cf a ρ
    if ← asBool x.2 then .ok ((true, .bool true), ρ1) else ev cf b ρ1
  | .ite c a b, ρ => do
    let (x, ρ1) ← ev cf c ρ
    if ← asBool x.2 then ev cf a ρ1 else ev cf b ρ1
  | .cmp3 o p a b c, ρ => do
    let (x, ρ1) ← ev cf a ρ
    let (y, ρ2) ← ev cf b ρ1
    if keeps x (eff b || eff c) && keeps y (eff c) then
      let d ← noExc (op2 o x.2 y.2)
      if ← asBool d then
        let (z, ρ3) ← ev cf c ρ2
        let d2 ← noExc (op2 p y.2 z.2)
        .ok ((true, .bool (← asBool d2)), ρ3)
      else .ok ((true, .bool false), ρ2)
    else .stuck
  | .bi f as, ρ => do
    let (xs, ρ1) ← evs cf as ρ
    let d ← noExc (bi f (xs.map (·.2)))
    .ok ((flat d, d), ρ1)
  | .mt m o as, ρ => do
    let (x, ρ1) ← ev cf o ρ
    let _ ← listOf x.2
    let (xs, ρ2) ← evs cf as ρ1
    if keeps x (effs as) then
      let d ← noExc (mt m x.2 (xs.map (·.2)))
      .ok ((imm d, d), ρ2)
    else .stuck
  | .sub o i, ρ => do
    let (x, ρ1) ← ev cf o ρ
    let (y, ρ2) ← ev cf i ρ1
    if keeps x (eff i) || isFz ρ o then
      let d ← noExc (sub x.2 y.2)
      .ok ((imm d, d), ρ2)
    else .stuck
  | .slc o lo hi, ρ => do
    let (x, ρ1) ← ev cf o ρ
    let (l, ρ2) ← evo cf lo ρ1
    let (h, ρ3) ← evo cf hi ρ2
    if keeps x (effo lo || effo hi) then
      let d ← noExc (slc x.2 l h)
      .ok ((flat d, d), ρ3)
    else .stuck
  | .rev o, ρ => do
    let (x, ρ1) ← ev cf o ρ
    let d ← noExc (rev x.2)
    .ok ((flat d, d), ρ1)
  | .tup es, ρ => do
    let (xs, ρ1) ← evs cf es ρ
    if lenOk xs.length then .ok ((xs.all (fun x => x.1 || imm x.2), .tuple (xs.map (·.2))), ρ1) else .stuck
  | .lst es, ρ => do
    let (xs, ρ1) ← evs cf es ρ
    if lenOk xs.length then .ok ((xs.all (fun x => x.1 || imm x.2), .list (xs.map (·.2))), ρ1) else .stuck
  | .call f as, ρ => do
    let (xs, ρ1) ← eva cf as ρ
    callA cf f (sepE as) xs ρ1
  | .ref _, _ => .stuck
  | .scr _, _ => .stuck
  | .scrL i, ρ => match get ρ i with
    | some (.scr l) => if lenOk l.length then .ok ((true, .list (l.map .int)), ρ) else .stuck
    | _ => .stuck
  | .pop0 i, ρ => do
    let ds ← ownList ρ i
    let d ← lastD ds
    if noBor ρ && imm d then .ok ((true, d), ρ.set i (some (.own (.list ds.dropLast)))) else .stuck
  | .pop1 i e, ρ => do
    let _ ← ownList ρ i
    let (x, ρ1) ← ev cf e ρ
    let ds ← ownList ρ1 i
    let k ← asInt x.2
    let j ← ixD ds k
    let d ← atD ds k
    if noBor ρ1 && imm d && smallI k then .ok ((true, d), ρ1.set i (some (.own (.list (ds.eraseIdx j))))) else .stuck
  | .comp elt tgt single it cnd own, ρ => do
    let (ds, ρ1) ← evi cf it ρ
    let body : D → Env → Res (Option R × Env) := fun d σ => do
      let σ1 ← bindT .bor tgt single d σ
      let (c, σ2) ← tests cf cnd σ1
      if c then
        let (r, σ3) ← ev cf elt σ2
        .ok (some r, σ3)
      else .ok (none, σ2)
    if own.all (fun i => immAt ρ1 i && decide (i < ρ1.length)) then
      if eff elt || effs cnd then
        if ds.all imm && noBor ρ1 then
          let (l, ρ3) ← noExc <| compL body own ds (wipe (freezes ρ1 (varsi it)) own)
          if lenOk l.length && decide (ρ3.length = ρ1.length) then .ok ((true, .list l), restore ρ1 ρ3 own) else .stuck
        else .stuck
      else
        let (k, l) ← noExc <| compP body (wipe ρ1 own) ds
        if lenOk l.length then .ok ((k, .list l), ρ1) else .stuck
    else .stuck
  | .rng a b, ρ => do
    let (x, ρ1) ← ev cf a ρ
    let (y, ρ2) ← ev cf b ρ1
    let i ← asInt x.2
    let j ← asInt y.2
    if smallI i && smallI j && lenOk (j - i).toNat then .ok ((true, .list (rangeD i j)), ρ2) else .stuck
  | .rng1 b, ρ => do
    let (y, ρ1) ← ev cf b ρ
    let j ← asInt y.2
    if smallI j && lenOk j.toNat then .ok ((true, .list (rangeD 0 j)), ρ1) else .stuck
  | .isBool e, ρ => do
    let (x, ρ1) ← ev cf e ρ
    .ok ((true, .bool (isBoolD x.2)), ρ1)
  | .isTup e, ρ => do
    let (x, ρ1) ← ev cf e ρ
    .ok ((true, .bool (isTupD x.2)), ρ1)
  | .isInt e, ρ => do
    let (x, ρ1) ← ev cf e ρ
    .ok ((true, .bool (isIntD x.2)), ρ1)
  | .sset e, ρ => do
    let (x, ρ1) ← ev cf e ρ
    let d ← noExc (ssetD x.2)
    .ok ((true, d), ρ1)
def evs (cf : CF) : Es → Env → Res (List R × Env)
  | .nil, ρ => .ok ([], ρ)
  | .cons e r, ρ => do
    let (x, ρ1) ← ev cf e ρ
    let (xs, ρ2) ← evs cf r ρ1
    if keeps x (effs r) then .ok (x :: xs, ρ2) else .stuck
def eva (cf : CF) : Es → Env → Res (List Ar × Env)
  | .nil, ρ => .ok ([], ρ)
  | .cons (.ref i) r, ρ => if (get ρ i).isSome then do
    let (xs, ρ2) ← eva cf r ρ
    .ok (.ref i :: xs, ρ2)
    else .stuck
  | .cons (.scr i) r, ρ => if (get ρ i).isSome then do
    let (xs, ρ2) ← eva cf r ρ
    .ok (.scr i :: xs, ρ2)
    else .stuck
  | .cons e r, ρ => do
    let (x, ρ1) ← ev cf e ρ
    let (xs, ρ2) ← eva cf r ρ1
    if keeps x (effs r) then .ok (.val x :: xs, ρ2) else .stuck
def evo (cf : CF) : Oe → Env → Res (Option Int × Env)
  | .none, ρ => .ok (none, ρ)
  | .some e, ρ => do
    let (x, ρ1) ← ev cf e ρ
    .ok (some (← asInt x.2), ρ1)
def tests (cf : CF) : Es → Env → Res (Bool × Env)
  | .nil, ρ => .ok (true, ρ)
  | .cons e r, ρ => do
    let (x, ρ1) ← ev cf e ρ
    if ← asBool x.2 then tests cf r ρ1 else .ok (false, ρ1)
/-- what is walked: its items -/
def evi (cf : CF) : It → Env → Res (List D × Env)
  | .scr i, ρ => match get ρ i with
    | some (.scr l) => .ok (l.map .int, ρ)
    | _ => .stuck
  | .seq e, ρ => do
    let (x, ρ1) ← ev cf e ρ
    .ok (← itemsS x.2, ρ1)
  | .r1 a, ρ => do
    let (x, ρ1) ← ev cf a ρ
    let i ← asInt x.2
    if smallI i then .ok (rangeD 0 i, ρ1) else .stuck
  | .r2 a b, ρ => do
    let (x, ρ1) ← ev cf a ρ
    let (y, ρ2) ← ev cf b ρ1
    let i ← asInt x.2
    let j ← asInt y.2
    if smallI i && smallI j then .ok (rangeD i j, ρ2) else .stuck
  | .r3 a b c, ρ => do
    let (x, ρ1) ← ev cf a ρ
    let (y, ρ2) ← ev cf b ρ1
    let (z, ρ3) ← ev cf c ρ2
    let i ← asInt x.2
    let j ← asInt y.2
    let k ← asInt z.2
    if Builtin.Range.small i j k && decide (k ≠ 0 ∧ k.natAbs < 1000000) then .ok (rangeC i k (stepsOf i j k), ρ3) else .stuck
  | .enum e, ρ => do
    let (x, ρ1) ← ev cf e ρ
    .ok (enumD 0 (← itemsS x.2), ρ1)
  | .zip a b, ρ => do
    let (x, ρ1) ← ev cf a ρ
    let (y, ρ2) ← ev cf b ρ1
    if keeps x (eff b) then .ok (← zipV x.2 y.2, ρ2) else .stuck
  | .rv e, ρ => do
    let (x, ρ1) ← ev cf e ρ
    .ok ((← itemsOf x.2).reverse, ρ1)
end

mutual
/-- in a place that takes what it names: a list that a name owns goes over to it -/
def evX (cf : CF) : E → Env → Res (R × Env)
  | .var i, ρ => match get ρ i with
    | some (.own d) => if imm d then .ok ((true, d), ρ) else .ok ((true, d), ρ.set i none)
    | some (.scr _) => .stuck
    | some c => .ok ((imm c.d, c.d), ρ)
    | none => .stuck
  | .tup es, ρ => do
    let (xs, ρ1) ← evXs cf es ρ
    if lenOk xs.length then .ok ((xs.all (fun x => x.1 || imm x.2), .tuple (xs.map (·.2))), ρ1) else .stuck
  | .lst es, ρ => do
    let (xs, ρ1) ← evXs cf es ρ
    if lenOk xs.length then .ok ((xs.all (fun x => x.1 || imm x.2), .list (xs.map (·.2))), ρ1) else .stuck
  | e, ρ => ev cf e ρ
def evXs (cf : CF) : Es → Env → Res (List R × Env)
  | .nil, ρ => .ok ([], ρ)
  | .cons e r, ρ => do
    let (x, ρ1) ← evX cf e ρ
    let (xs, ρ2) ← evXs cf r ρ1
    if x.1 || imm x.2 then .ok (x :: xs, ρ2) else .stuck
end

inductive Out where
  | nx | ret (d : D) | brk | cnt
/-- a loop's turns -/
def forL (body : D → Env → Res (Out × Env)) : List D → Env → Res (Out × Env)
  | [], ρ => .ok (.nx, ρ)
  | d :: ds, ρ => do
    let (o, ρ1) ← body d ρ
    match o with
    | .ret r => .ok (.ret r, ρ1)
    | .brk => .ok (.nx, ρ1)
    | _ => forL body ds ρ1
def whileL (c : Env → Res (Bool × Env)) (body : Env → Res (Out × Env)) : Nat → Env → Res (Out × Env)
  | 0, _ => .stuck
  | n + 1, ρ => do
    let (b, ρ1) ← c ρ
    if b then
      let (o, ρ2) ← body ρ1
      match o with
      | .ret r => .ok (.ret r, ρ2)
      | .brk => .ok (.nx, ρ2)
      | _ => whileL c body n ρ2
    else .ok (.nx, ρ1)
/-- turns of a while at most -/
def fuel : Nat := 1000000
def store (ρ : Env) (i : Nat) (r : R) (vs : List Nat) : Env :=
  if r.1 || imm r.2 then ρ.set i (some (.own r.2)) else (freezes ρ vs).set i (some (.fz r.2))
def hd (k : Nat) (code place : D) : D := match k with
  | 0 => code
  | 1 => .tuple [code, place]
  | _ => .bool false
def handle (c : Nat) (code place : D) : List (Nat × Nat) → Option D
  | [] => none
  | (c', k) :: r => if c' = c then some (hd k code place) else handle c code place r

mutual
def exec (cf : CF) : S → Env → Res (Out × Env)
  | .asg i e, ρ => do
    let (r, ρ1) ← evX cf e ρ
    if noBor ρ1 then .ok (.nx, store ρ1 i r (vars e)) else .stuck
  | .asgT is e, ρ => do
    let (r, ρ1) ← evX cf e ρ
    if imm r.2 then .ok (.nx, ← bindT .bor is false r.2 ρ1) else .stuck
  | .setv i ix e, ρ => do
    let (r, ρ1) ← evX cf e ρ
    let _ ← ownList ρ1 i
    let (k, ρ2) ← ev cf ix ρ1
    if (r.1 || imm r.2) && noBor ρ2 then
      let ds ← ownList ρ2 i
      .ok (.nx, ρ2.set i (some (.own (.list (← setAt ds (← asInt k.2) r.2)))))
    else .stuck
  | .set2 i ix jx e, ρ => do
    let (r, ρ1) ← evX cf e ρ
    let _ ← ownList ρ1 i
    let (k, ρ2) ← ev cf ix ρ1
    let (l, ρ3) ← ev cf jx ρ2
    if (r.1 || imm r.2) && noBor ρ3 && !(eff ix || eff jx) then
      let ds ← ownList ρ3 i
      let es ← listOf (← atD ds (← asInt k.2))
      .ok (.nx, ρ3.set i (some (.own (.list (← setAt ds (← asInt k.2) (.list (← setAt es (← asInt l.2) r.2)))))))
    else .stuck
  | .app i e, ρ => do
    let _ ← ownList ρ i
    let (r, ρ1) ← evX cf e ρ
    if (r.1 || imm r.2) && noBor ρ1 then
      let ds ← ownList ρ1 i
      if ds.length < sizeLine then .ok (.nx, ρ1.set i (some (.own (.list (ds ++ [r.2]))))) else .stuck
    else .stuck
  | .app1 i ix e, ρ => do
    let _ ← ownList ρ i
    let (k, ρ1) ← ev cf ix ρ
    let ds1 ← ownList ρ1 i
    let _ ← listOf (← atD ds1 (← asInt k.2))
    let (r, ρ2) ← ev cf e ρ1
    if (r.1 || imm r.2) && noBor ρ2 && !eff ix && !eff e then
      let ds ← ownList ρ2 i
      let es ← listOf (← atD ds (← asInt k.2))
      if es.length < sizeLine then .ok (.nx, ρ2.set i (some (.own (.list (← setAt ds (← asInt k.2) (.list (es ++ [r.2]))))))) else .stuck
    else .stuck
  | .ext i e, ρ => do
    let _ ← ownList ρ i
    let (r, ρ1) ← ev cf e ρ
    let ds ← ownList ρ1 i
    let es ← listOf r.2
    if immAll es && noBor ρ1 && lenOk (ds.length + es.length) then .ok (.nx, ρ1.set i (some (.own (.list (ds ++ es))))) else .stuck
  | .ex e, ρ => do
    let (_, ρ1) ← ev cf e ρ
    .ok (.nx, ρ1)
  | .iff c a b, ρ => do
    let (x, ρ1) ← ev cf c ρ
    if ← asBool x.2 then execs cf a ρ1 else execs cf b ρ1
  | .for tgt single it b, ρ => do
    let (ds, ρ1) ← evi cf it ρ
    forL (fun d σ => do
      let σ1 ← bindT .fz tgt single d σ
      execs cf b σ1) ds (freezes ρ1 (varsi it))
  | .whl c b, ρ => whileL (fun σ => do
      let (x, σ1) ← ev cf c σ
      .ok (← asBool x.2, σ1)) (fun σ => execs cf b σ) fuel ρ
  | .ret e, ρ => do
    let (r, ρ1) ← evX cf e ρ
    if r.1 || imm r.2 then .ok (.ret r.2, ρ1) else .stuck
  | .retN, ρ => .ok (.ret .none, ρ)
  | .raise1 c code, _ => .exc c (.str code) (.int 0)
  | .raise2 c code p, ρ => do
    let (r, _) ← ev cf p ρ
    if imm r.2 && !eff p then .exc c (.str code) r.2 else .stuck
  | .try_ i b hs, ρ => match execs cf b ρ with
    | .exc c k p => match handle c k p hs with
      | some d => if i < ρ.length then .ok (.ret d, ρ.map fun _ => none) else .stuck
      | none => .stuck
    | x => x
  | .brk, ρ => .ok (.brk, ρ)
  | .cnt, ρ => .ok (.cnt, ρ)
  | .pass, ρ => .ok (.nx, ρ)
def execs (cf : CF) : Ss → Env → Res (Out × Env)
  | .nil, ρ => .ok (.nx, ρ)
  | .cons s r, ρ => do
    let (o, ρ1) ← exec cf s ρ
    match o with
    | .nx => execs cf r ρ1
    | o => .ok (o, ρ1)
end
/-- a def: how many parameters, how many slots, the body -/
structure Fn where
  params : Nat
  slots : Nat
  body : Ss
/-- the call of a def, at most so many calls deep -/
def runF (fs : List Fn) : Nat → CF
  | 0, _, _ => .stuck
  | n + 1, f, cs => match fs[f]? with
    | none => .stuck
    | some F => if cs.length = F.params then do
        let (o, ρ) ← execs (runF fs n) F.body (cs.map some ++ List.replicate (F.slots - F.params) none)
        match o with
        | .ret d => .ok ((true, d), ρ.take F.params)
        | .nx => .ok ((true, .none), ρ.take F.params)
        | _ => .stuck
      else .stuck
end PV
set_option Elab.async false
set_option linter.all false
set_option maxRecDepth 100000
set_option maxHeartbeats 1000000
/-! PV1: what stands for a tree in the abstract heap; what a step may change. -/
namespace PV
open PySem PySem.Spec PyProof.Rows L2

/-- a list that is not the program's to change: locked, or of the written part -/
def ExtL (K : PySem.W.Frag) (H : Hp) (a : Addr) (xs : List V) : Prop :=
  (∃ o, H a = some (.frz o (.lst xs))) ∨
    ∃ (o : Obj) (its : Array Value) (n : Nat), K.lookup a = some o ∧ o.cls = .type "list" ∧ o.dict = none ∧ o.data = .seq its n ∧ its.size ≤ sizeLine ∧ Vals xs its.toList
theorem ExtL.seq {K : PySem.W.Frag} {H : Hp} {a : Addr} {xs : List V} (h : ExtL K H a xs) : SqL K H a xs := by
  rcases h with ⟨o, h⟩ | h
  · exact .inl (.inr ⟨o, h⟩)
  · exact .inr h

mutual
/-- v stands for the tree d; as: the addresses of its tracked lists -/
inductive DpR (K : PySem.W.Frag) (H : Hp) : V → D → List Addr → Prop
  | non : DpR K H .non .none []
  | bl (b : Bool) : DpR K H (.bl b) (.bool b) []
  | int (i : Int) : DpR K H (.int i) (.int i) []
  | str (x : Str) : DpR K H (.str x) (.str x) []
  | lst {a : Addr} {xs : List V} {ds : List D} {as : List Addr} : H a = some (.lst xs) → DpRs K H xs ds as → DpR K H (.ref a) (.list ds) (a :: as)
  | tup {a : Addr} {xs : List V} {ds : List D} {as : List Addr} : SqT K H a xs → DpRs K H xs ds as → DpR K H (.ref a) (.tuple ds) as
inductive DpRs (K : PySem.W.Frag) (H : Hp) : List V → List D → List Addr → Prop
  | nil : DpRs K H [] [] []
  | cons {v : V} {vs : List V} {d : D} {ds : List D} {as bs : List Addr} : DpR K H v d as → DpRs K H vs ds bs → DpRs K H (v :: vs) (d :: ds) (as ++ bs)
end

/-- tuples and locked things stay -/
def Fix (H H' : Hp) : Prop := (∀ a xs, H a = some (.tup xs) → H' a = some (.tup xs)) ∧ ∀ a o u, H a = some (.frz o u) → H' a = some (.frz o u)
theorem Fix.of {H H' : Hp} (s : Same H H') : Fix H H' := ⟨fun a xs h => s a _ h, fun a o u h => s a _ h⟩
theorem Fix.sqT {K : PySem.W.Frag} {H H' : Hp} (f : Fix H H') {a : Addr} {xs : List V} (h : SqT K H a xs) : SqT K H' a xs := by
  rcases h with (h | ⟨o, h⟩) | h
  · exact .inl (.inl (f.1 _ _ h))
  · exact .inl (.inr ⟨o, f.2 _ _ _ h⟩)
  · exact .inr h
theorem Fix.extL {K : PySem.W.Frag} {H H' : Hp} (f : Fix H H') {a : Addr} {xs : List V} (h : ExtL K H a xs) : ExtL K H' a xs := by
  rcases h with ⟨o, h⟩ | h
  · exact .inl ⟨o, f.2 _ _ _ h⟩
  · exact .inr h

mutual
theorem DpR.keep {K : PySem.W.Frag} {H H' : Hp} (f : Fix H H') : ∀ {v : V} {d : D} {as : List Addr}, DpR K H v d as → (∀ a ∈ as, ∀ xs, H a = some (.lst xs) → H' a = some (.lst xs)) → DpR K H' v d as
  | _, _, _, .non, _ => .non
  | _, _, _, .bl b, _ => .bl b
  | _, _, _, .int i, _ => .int i
  | _, _, _, .str x, _ => .str x
  | _, _, _, .lst h r, k => .lst (k _ List.mem_cons_self _ h) (DpRs.keep f r fun a ha => k a (List.mem_cons_of_mem _ ha))
  | _, _, _, .tup h r, k => .tup (f.sqT h) (DpRs.keep f r k)
theorem DpRs.keep {K : PySem.W.Frag} {H H' : Hp} (f : Fix H H') : ∀ {v : List V} {d : List D} {as : List Addr}, DpRs K H v d as → (∀ a ∈ as, ∀ xs, H a = some (.lst xs) → H' a = some (.lst xs)) → DpRs K H' v d as
  | _, _, _, .nil, _ => .nil
  | _, _, _, .cons r s, k => .cons (DpR.keep f r fun a ha => k a (List.mem_append_left _ ha)) (DpRs.keep f s fun a ha => k a (List.mem_append_right _ ha))
end
mutual
/-- a tree without lists -/
theorem DpR.imm {K : PySem.W.Frag} {H : Hp} : ∀ {v : V} {d : D} {as : List Addr}, DpR K H v d as → PV.imm d = true → as = []
  | _, _, _, .non, _ => rfl
  | _, _, _, .bl b, _ => rfl
  | _, _, _, .int i, _ => rfl
  | _, _, _, .str x, _ => rfl
  | _, _, _, .lst h r, e => by simp [PV.imm] at e
  | _, _, _, .tup h r, e => by
    simp only [PV.imm] at e
    exact DpRs.imm r e
theorem DpRs.imm {K : PySem.W.Frag} {H : Hp} : ∀ {v : List V} {d : List D} {as : List Addr}, DpRs K H v d as → PV.immAll d = true → as = []
  | _, _, _, .nil, _ => rfl
  | _, _, _, .cons r s, e => by
    simp only [PV.immAll, Bool.and_eq_true] at e
    rw [DpR.imm r e.1, DpRs.imm s e.2]
    rfl
end
mutual
/-- its lists are tracked -/
theorem DpR.trk {K : PySem.W.Frag} {H : Hp} : ∀ {v : V} {d : D} {as : List Addr}, DpR K H v d as → ∀ a ∈ as, ∃ xs, H a = some (.lst xs)
  | _, _, _, .non, _, h => by simp at h
  | _, _, _, .bl b, _, h => by simp at h
  | _, _, _, .int i, _, h => by simp at h
  | _, _, _, .str x, _, h => by simp at h
  | _, _, _, .lst h r, a, ha => by
    rcases List.mem_cons.mp ha with e | ha
    · rw [e]; exact ⟨_, h⟩
    · exact DpRs.trk r a ha
  | _, _, _, .tup h r, a, ha => DpRs.trk r a ha
theorem DpRs.trk {K : PySem.W.Frag} {H : Hp} : ∀ {v : List V} {d : List D} {as : List Addr}, DpRs K H v d as → ∀ a ∈ as, ∃ xs, H a = some (.lst xs)
  | _, _, _, .nil, _, h => by simp at h
  | _, _, _, .cons r s, a, ha => by
    rcases List.mem_append.mp ha with ha | ha
    · exact DpR.trk r a ha
    · exact DpRs.trk s a ha
end
mutual
/-- as the hand layer's data -/
theorem DpR.dp {K : PySem.W.Frag} {H : Hp} : ∀ {v : V} {d : D} {as : List Addr}, DpR K H v d as → Dp K H v d
  | _, _, _, .non => .non
  | _, _, _, .bl b => .bl b
  | _, _, _, .int i => .int i
  | _, _, _, .str x => .str x
  | _, _, _, .lst h r => .lst (SqL.of h) (DpRs.dp r)
  | _, _, _, .tup h r => .tup h (DpRs.dp r)
theorem DpRs.dp {K : PySem.W.Frag} {H : Hp} : ∀ {v : List V} {d : List D} {as : List Addr}, DpRs K H v d as → DpAll K H v d
  | _, _, _, .nil => .nil
  | _, _, _, .cons r s => .cons (DpR.dp r) (DpRs.dp s)
end
mutual
theorem DpR.plain {K : PySem.W.Frag} {H : Hp} : ∀ {v : V} {d : D} {as : List Addr}, DpR K H v d as → d.plain = true
  | _, _, _, .non => rfl
  | _, _, _, .bl b => rfl
  | _, _, _, .int i => rfl
  | _, _, _, .str x => rfl
  | _, _, _, .lst h r => by simp only [PyData.plain]; exact DpRs.plain r
  | _, _, _, .tup h r => by simp only [PyData.plain]; exact DpRs.plain r
theorem DpRs.plain {K : PySem.W.Frag} {H : Hp} : ∀ {v : List V} {d : List D} {as : List Addr}, DpRs K H v d as → PyData.plainAll d = true
  | _, _, _, .nil => rfl
  | _, _, _, .cons r s => by simp only [PyData.plainAll, DpR.plain r, DpRs.plain s, Bool.and_self]
end
theorem DpRs.length {K : PySem.W.Frag} {H : Hp} : ∀ {v : List V} {d : List D} {as : List Addr}, DpRs K H v d as → v.length = d.length
  | _, _, _, .nil => rfl
  | _, _, _, .cons _ s => by simp [DpRs.length s]
/-- an item -/
theorem DpRs.at {K : PySem.W.Frag} {H : Hp} : ∀ {v : List V} {d : List D} {as : List Addr} {i : Nat} {x : V}, DpRs K H v d as → v[i]? = some x → ∃ y bs, d[i]? = some y ∧ DpR K H x y bs ∧ bs.Sublist as
  | _, _, _, _, _, .nil, h => by simp at h
  | _, _, _, 0, x, .cons r s, h => by
    simp at h
    subst h
    exact ⟨_, _, rfl, r, List.sublist_append_left _ _⟩
  | _, _, _, i + 1, x, .cons r s, h => by
    obtain ⟨y, bs, h1, h2, h3⟩ := DpRs.at (i := i) s (by simpa using h)
    exact ⟨y, bs, by simpa using h1, h2, h3.trans (List.sublist_append_right _ _)⟩
theorem DpRs.atD {K : PySem.W.Frag} {H : Hp} {v : List V} {d : List D} {as : List Addr} {i : Nat} {y : D} (r : DpRs K H v d as) (h : d[i]? = some y) : ∃ x bs, v[i]? = some x ∧ DpR K H x y bs ∧ bs.Sublist as := by
  obtain ⟨hi, _⟩ := List.getElem?_eq_some_iff.mp h
  have hv : i < v.length := by rw [r.length]; exact hi
  obtain ⟨y', bs, h1, h2, h3⟩ := r.at (List.getElem?_eq_getElem hv)
  rw [h] at h1
  cases h1
  exact ⟨_, bs, List.getElem?_eq_getElem hv, h2, h3⟩
theorem DpRs.app {K : PySem.W.Frag} {H : Hp} : ∀ {v w : List V} {d e : List D} {as bs : List Addr}, DpRs K H v d as → DpRs K H w e bs → DpRs K H (v ++ w) (d ++ e) (as ++ bs)
  | _, _, _, _, _, _, .nil, s => s
  | _, _, _, _, _, _, .cons r q, s => by
    rw [List.append_assoc]
    exact .cons r (DpRs.app q s)
theorem DpRs.one {K : PySem.W.Frag} {H : Hp} {v : V} {d : D} {as : List Addr} (r : DpR K H v d as) : DpRs K H [v] [d] as := by
  have h := DpRs.cons r (DpRs.nil (K := K) (H := H))
  rwa [List.append_nil] at h
theorem DpRs.ofAll {K : PySem.W.Frag} {H : Hp} : ∀ {v : List V} {d : List D} {N : Addr → Prop}, Paired (fun v d => ∃ as, DpR K H v d as ∧ ∀ a ∈ as, N a) v d → ∃ as, DpRs K H v d as ∧ ∀ a ∈ as, N a
  | _, _, _, .nil => ⟨[], .nil, fun _ h => by simp at h⟩
  | _, _, _, .cons ⟨as, r, h⟩ s => by
    obtain ⟨bs, r2, h2⟩ := DpRs.ofAll s
    exact ⟨as ++ bs, .cons r r2, fun a ha => (List.mem_append.mp ha).elim (h a) (h2 a)⟩
theorem DpRs.toAll {K : PySem.W.Frag} {H : Hp} : ∀ {v : List V} {d : List D} {as : List Addr}, DpRs K H v d as → Paired (fun v d => ∃ bs, DpR K H v d bs ∧ ∀ a ∈ bs, a ∈ as) v d
  | _, _, _, .nil => .nil
  | _, _, _, .cons r s => .cons ⟨_, r, fun a h => List.mem_append_left _ h⟩ (L2.Paired.mapP (DpRs.toAll s) fun v d ⟨bs, r, h⟩ => ⟨bs, r, fun a ha => List.mem_append_right _ (h a ha)⟩)

/-! ### the state -/
/-- what each name owns; what is nobody's to change -/
structure Own where
  sl : Nat → List Addr
  fr : List Addr
instance : CoeFun Own (fun _ => Nat → List Addr) := ⟨Own.sl⟩
def Bd (A : Own) (a : Addr) : Prop := ∃ i, a ∈ A i
/-- S: the names whose lists a borrowed value may hold -/
def CellOk (K : PySem.W.Frag) (H : Hp) (S : List Nat) (A : Own) (i : Nat) (v : V) : Cell → Prop
  | .own d => DpR K H v d (A i) ∧ (A i).Nodup
  | .fz d => ∃ as, DpR K H v d as ∧ ∀ a ∈ as, a ∈ A.fr
  | .bor d => ∃ as, DpR K H v d as ∧ ∀ a ∈ as, ∀ j, j ∉ S → a ∉ A j
  | .scr l => ∃ a, v = .ref a ∧ ExtL K H a (l.map V.int)
structure Rep (K : PySem.W.Frag) (H : Hp) (S : List Nat) (σ : L2.St) (ρ : Env) (A : Own) : Prop where
  cell : ∀ i c, PV.get ρ i = some c → ∃ v, σ[i]? = some (some v) ∧ CellOk K H S A i v c
  disj : ∀ i j a, a ∈ A i → a ∈ A j → i = j
  trk : ∀ i a, a ∈ A i → ∃ xs, H a = some (.lst xs)
  fdis : ∀ a, a ∈ A.fr → ¬ Bd A a
  ftrk : ∀ a, a ∈ A.fr → ∃ xs, H a = some (.lst xs)
  emp : ∀ i, i < ρ.length → (∀ d, PV.get ρ i ≠ some (.own d)) → A i = []
  len : ρ.length ≤ σ.length
/-- what a step may do: it may change what the names own, and make new things -/
structure Stp (H : Hp) (A : Own) (H' : Hp) (A' : Own) : Prop where
  own : ∀ a, Bd A' a → Bd A a ∨ H a = none
  keep : ∀ a o, H a = some o → ¬ Bd A a → H' a = some o
  the : ∀ a, H' a = none → H a = none
  fr : ∀ a, a ∈ A.fr → a ∈ A'.fr
  fro : ∀ a, a ∈ A'.fr → a ∈ A.fr ∨ Bd A a ∨ H a = none
theorem Stp.there {H H' : Hp} {A A' : Own} (s : Stp H A H' A') {K : PySem.W.Frag} {S : List Nat} {σ : L2.St} {ρ : Env} (r : Rep K H S σ ρ A) {a : Addr} (h : H' a = none) : H a = none := s.the a h
theorem Stp.fix {H H' : Hp} {A A' : Own} (s : Stp H A H' A') {K : PySem.W.Frag} {S : List Nat} {σ : L2.St} {ρ : Env} (r : Rep K H S σ ρ A) : Fix H H' := by
  refine ⟨fun a xs h => s.keep a _ h fun ⟨i, hi⟩ => ?_, fun a o u h => s.keep a _ h fun ⟨i, hi⟩ => ?_⟩
  · obtain ⟨ys, e⟩ := r.trk i a hi
    rw [h] at e
    cases e
  · obtain ⟨ys, e⟩ := r.trk i a hi
    rw [h] at e
    cases e
theorem Stp.refl (H : Hp) (A : Own) : Stp H A H A := ⟨fun a h => .inl h, fun a o h _ => h, fun _ h => h, fun _ h => h, fun _ h => .inl h⟩
theorem Stp.trans {K : PySem.W.Frag} {H H1 H2 : Hp} {A A1 A2 : Own} {S : List Nat} {σ : L2.St} {ρ : Env} (r : Rep K H S σ ρ A) (s : Stp H A H1 A1) (t : Stp H1 A1 H2 A2) : Stp H A H2 A2 where
  own := fun a h => (t.own a h).elim (s.own a) fun e => .inr (s.there r e)
  keep := fun a o h n => t.keep a o (s.keep a o h n) fun b => (s.own a b).elim n fun e => by rw [h] at e; cases e
  the := fun a h => s.the a (t.the a h)
  fr := fun a h => t.fr a (s.fr a h)
  fro := fun a h => (t.fro a h).elim (s.fro a) fun h => .inr (h.elim (s.own a) fun e => .inr (s.there r e))
/-- a step that only makes new things -/
theorem same_there {H H' : Hp} (s : Same H H') {a : Addr} (h : H' a = none) : H a = none := by
  cases e : H a with
  | none => rfl
  | some o => have := s a o e; rw [h] at this; cases this
theorem Stp.new {H H' : Hp} {A : Own} (s : Same H H') : Stp H A H' A := ⟨fun a h => .inl h, fun a o h _ => s a o h, fun a h => same_there s h, fun _ h => h, fun _ h => .inl h⟩
/-- what a statement may do -/
structure Stp0 (H : Hp) (A : Own) (H' : Hp) (A' : Own) : Prop where
  own : ∀ a, Bd A' a → Bd A a ∨ H a = none
  keep : ∀ a o, H a = some o → ¬ Bd A a → H' a = some o
  the : ∀ a, H' a = none → H a = none
theorem Stp.z {H H' : Hp} {A A' : Own} (s : Stp H A H' A') : Stp0 H A H' A' := ⟨s.own, s.keep, s.the⟩
theorem Stp0.trans {H H1 H2 : Hp} {A A1 A2 : Own} (s : Stp0 H A H1 A1) (t : Stp0 H1 A1 H2 A2) : Stp0 H A H2 A2 where
  own := fun a h => (t.own a h).elim (s.own a) fun e => .inr (s.the a e)
  keep := fun a o h n => t.keep a o (s.keep a o h n) fun b => (s.own a b).elim n fun e => by rw [h] at e; cases e
  the := fun a h => s.the a (t.the a h)
theorem Stp0.fix {H H' : Hp} {A A' : Own} (s : Stp0 H A H' A') {K : PySem.W.Frag} {S : List Nat} {σ : L2.St} {ρ : Env} (r : Rep K H S σ ρ A) : Fix H H' := by
  refine ⟨fun a xs h => s.keep a _ h fun ⟨i, hi⟩ => ?_, fun a o u h => s.keep a _ h fun ⟨i, hi⟩ => ?_⟩
  · obtain ⟨ys, e⟩ := r.trk i a hi
    rw [h] at e
    cases e
  · obtain ⟨ys, e⟩ := r.trk i a hi
    rw [h] at e
    cases e
theorem Rep.new {K : PySem.W.Frag} {H H' : Hp} {S : List Nat} {σ : L2.St} {ρ : Env} {A : Own} (r : Rep K H S σ ρ A) (s : Same H H') : Rep K H' S σ ρ A where
  cell := fun i c h => by
    obtain ⟨v, e, k⟩ := r.cell i c h
    refine ⟨v, e, ?_⟩
    cases c with
    | own d => exact ⟨k.1.keep (Fix.of s) fun a _ xs h => s a _ h, k.2⟩
    | fz d =>
      obtain ⟨as, k1, k2⟩ := k
      exact ⟨as, k1.keep (Fix.of s) fun a _ xs h => s a _ h, k2⟩
    | bor d =>
      obtain ⟨as, k1, k2⟩ := k
      exact ⟨as, k1.keep (Fix.of s) (fun a _ xs h => s a _ h), k2⟩
    | scr l =>
      obtain ⟨a, e1, k1⟩ := k
      exact ⟨a, e1, (Fix.of s).extL k1⟩
  disj := r.disj
  trk := fun i a h => by
    obtain ⟨xs, e⟩ := r.trk i a h
    exact ⟨xs, s a _ e⟩
  fdis := r.fdis
  ftrk := fun a h => by
    obtain ⟨xs, e⟩ := r.ftrk a h
    exact ⟨xs, s a _ e⟩
  emp := r.emp
  len := r.len
/-- what an expression hands back -/
def RVal (K : PySem.W.Frag) (H : Hp) (A : Own) (H' : Hp) (A' : Own) (vs : List Nat) (v : V) (r : R) : Prop :=
  (r.1 = true ∧ ∃ as, DpR K H' v r.2 as ∧ as.Nodup ∧ (∀ a ∈ as, ¬ Bd A' a ∧ a ∉ A'.fr) ∧ ∀ a ∈ as, Bd A a ∨ H a = none) ∨
  (r.1 = false ∧ ∃ as, DpR K H' v r.2 as ∧ ∀ a ∈ as, ∀ i, i ∉ vs → a ∉ A' i)
theorem RVal.any {K : PySem.W.Frag} {H H' : Hp} {A A' : Own} {vs : List Nat} {v : V} {r : R} (h : RVal K H A H' A' vs v r) : ∃ as, DpR K H' v r.2 as ∧ ∀ a ∈ as, ∀ i, i ∉ vs → a ∉ A' i := by
  rcases h with ⟨_, as, h1, _, h3, _⟩ | ⟨_, h⟩
  · exact ⟨as, h1, fun a ha i _ hi => (h3 a ha).1 ⟨i, hi⟩⟩
  · exact h
/-- a value without lists -/
theorem RVal.of_imm {K : PySem.W.Frag} {H H' : Hp} {A A' : Own} {vs : List Nat} {v : V} {b : Bool} {d : D} {as : List Addr} (h : DpR K H' v d as) (hi : imm d = true) : RVal K H A H' A' vs v (b, d) := by
  have e := h.imm hi
  subst e
  cases b with
  | true => exact .inl ⟨rfl, [], h, .nil, fun _ h => by simp at h, fun _ h => by simp at h⟩
  | false => exact .inr ⟨rfl, [], h, fun _ h => by simp at h⟩
end PV
set_option Elab.async false
set_option linter.all false
set_option maxRecDepth 100000
set_option maxHeartbeats 4000000
/-! PVT: tuple * int, all cases. -/
namespace PV
open PySem PySem.Spec PyProof.Rows L2
theorem tuple_mulS (l : Addr) (items : Array Value) (n : Nat) (dd : Option Addr) (sl : Array (Option Value)) (x : Int) (u : Tok) (c0 : (decide (x < -(2 ^ 63)) || decide (x ≥ 2 ^ 63)) = false) (c1 : (items.isEmpty || x == 1) = true) :
    Meets (Builtin.«tuple.__mul__» ⟨[.ref l, .int x u], []⟩) (fun _ R s => s.heap.get? l = some { cls := .type "tuple", dict := dd, data := .seq items n, slots := sl } ∧ R (.ok (.ret (Value.ref l))) s) :=
  .of_wp fun prog w A R s h => by
    obtain ⟨hp, g, d, tk, os⟩ := s
    obtain ⟨hl, h⟩ := h
    have f1 := AutoSeq1.idx_int
    wp_walk using wpAny_loadPart' hl
    repeat (first
      | (refine wpAny_ite_false (decide_eq_false (by rw [c0]; exact Bool.false_ne_true)) ?_; wp_walk using wpAny_loadPart' hl)
      | (refine wpAny_ite_true (decide_eq_true (by rw [c1])) ?_; wp_walk using wpAny_loadPart' hl))
    exact ⟨_, rfl, h⟩
theorem tuple_mul0 (l : Addr) (items : Array Value) (n : Nat) (dd : Option Addr) (sl : Array (Option Value)) (x : Int) (u : Tok) (c0 : (decide (x < -(2 ^ 63)) || decide (x ≥ 2 ^ 63)) = false) (c1 : (items.isEmpty || x == 1) = false) (c2 : (decide (x ≤ 0) || items.isEmpty) = true) :
    Meets (Builtin.«tuple.__mul__» ⟨[.ref l, .int x u], []⟩) (fun _ R s => s.heap.get? l = some { cls := .type "tuple", dict := dd, data := .seq items n, slots := sl } ∧
      R (.ok (.ret (Value.ref s.heap.objs.size))) { s with heap := s.heap.push { cls := Value.type "tuple", data := Data.seq #[] }, toks := s.toks }) :=
  .of_wp fun prog w A R s h => by
    obtain ⟨hp, g, d, tk, os⟩ := s
    obtain ⟨hl, h⟩ := h
    have f1 := AutoSeq1.idx_int
    wp_walk using wpAny_loadPart' hl
    repeat (first
      | (refine wpAny_ite_false (decide_eq_false (by rw [c0]; exact Bool.false_ne_true)) ?_; wp_walk using wpAny_loadPart' hl)
      | (refine wpAny_ite_false (decide_eq_false (by rw [c1]; exact Bool.false_ne_true)) ?_; wp_walk using wpAny_loadPart' hl)
      | (refine wpAny_ite_true (decide_eq_true (by rw [c2])) ?_; wp_walk using wpAny_loadPart' hl))
    exact ⟨_, rfl, h⟩
def rRepA (K : PySem.W.Frag) : R2 := fun x y H Q => ∃ l k xs, x = .ref l ∧ y = .int k ∧ SqT K H l xs ∧ -(2 ^ 63) ≤ k ∧ k ≤ 1000 ∧ xs.length ≤ 1000 ∧ ((xs = [] ∨ k = 1) → Q (.ref l) H) ∧ (¬ (xs = [] ∨ k = 1) → ∀ p, H p = none → Q (.ref p) (upd H p (.tup (List.replicate k.toNat xs).flatten)))
theorem op_repA {X : Cx} : OpR X (binaryOp .Mult) (rRepA X.K) := by
  intro pins s σ H x y v u Q I rx ry h
  obtain ⟨l, k, xs, rfl, rfl, hT, hk0, h2, hz, qs, qn⟩ := h
  by_cases hb : 2 ≤ k ∧ xs ≠ []
  · exact op_repT pins s σ H _ _ v u Q I rx ry ⟨l, k, xs, rfl, rfl, hT, hb.2, hb.1, h2, hz, qn (fun q => q.elim hb.2 (by omega))⟩
  have rx' := rx
  cases rx
  obtain ⟨t, rfl⟩ := ry
  obtain ⟨its, r, ⟨⟨cls, dd, data, sl⟩, ho, hc, n, hd⟩, hs⟩ := I.tuple hT
  simp only at hc hd
  subst hc hd
  have hle : its.length = xs.length := r.length.symm
  have c0 : (decide (k < -(2 ^ 63)) || decide (k ≥ 2 ^ 63)) = false := by
    rw [decide_eq_false (by omega), decide_eq_false (by omega)] <;> rfl
  by_cases hs1 : xs = [] ∨ k = 1
  · have c1 : (its.toArray.isEmpty || k == 1) = true := by
      rcases hs1 with e | e
      · subst e
        have : its = [] := List.eq_nil_of_length_eq_zero hle
        subst this
        rfl
      · subst e
        simp
    refine wpAny_binaryOp_repeat_ref (T := "tuple") (U := "int") (by decide) ⟨_, ho, rfl⟩ (fun s' => typeIs_int s' k t) noFill_tuple_mul F.fills_int_mul F.slot_int_rmul repeat_tuple F.slot_int_index.lookup
      (call_meets F.slot_int_rmul (typeIs_int s k t) F.entry_int_rmul (F.args_int_rmul_2 _ _) (int_rmul_tuple k t l its.toArray n dd sl)
        ⟨ho, rfl, ⟨_, ho, rfl⟩, call_meets F.slot_tuple_mul ⟨_, ho, rfl⟩ F.entry_tuple_mul (F.args_tuple_mul_2 _ _) (tuple_mulS l its.toArray n dd sl k t c0 c1) ⟨ho, ?_⟩⟩)
    exact ⟨.ref l, _, I, rx', qs hs1⟩
  · have hk1 : k ≤ 0 := by
      by_cases hx : xs = []
      · exact absurd (.inl hx) hs1
      · have : k ≠ 1 := fun e => hs1 (.inr e)
        have : ¬ 2 ≤ k := fun e => hb ⟨e, hx⟩
        omega
    have hn : its ≠ [] := fun e => hs1 (.inl (by
      rw [e] at hle
      exact List.eq_nil_of_length_eq_zero hle.symm))
    have hi : its.toArray.isEmpty = false := by
      cases its with
      | nil => exact absurd rfl hn
      | cons a b => rfl
    have c1 : (its.toArray.isEmpty || k == 1) = false := by
      rw [hi, Bool.false_or]
      exact beq_eq_false_iff_ne.mpr (by omega)
    have c2 : (decide (k ≤ 0) || its.toArray.isEmpty) = true := by
      rw [decide_eq_true hk1, Bool.true_or]
    have k0 : k.toNat = 0 := by omega
    refine wpAny_binaryOp_repeat_ref (T := "tuple") (U := "int") (by decide) ⟨_, ho, rfl⟩ (fun s' => typeIs_int s' k t) noFill_tuple_mul F.fills_int_mul F.slot_int_rmul repeat_tuple F.slot_int_index.lookup
      (call_meets F.slot_int_rmul (typeIs_int s k t) F.entry_int_rmul (F.args_int_rmul_2 _ _) (int_rmul_tuple k t l its.toArray n dd sl)
        ⟨ho, rfl, ⟨_, ho, rfl⟩, call_meets F.slot_tuple_mul ⟨_, ho, rfl⟩ F.entry_tuple_mul (F.args_tuple_mul_2 _ _) (tuple_mul0 l its.toArray n dd sl k t c0 c1 c2) ⟨ho, ?_⟩⟩)
    have qn' := qn hs1
    rw [k0] at qn'
    refine ⟨.ref s.heap.objs.size, _, I.laid (t' := s.toks) (o := .tup []) (fun b ob q => Heap.get?_push_of_some _ q) (Nat.le_refl _) ?_, rfl, qn' _ (I.hok.fresh (Nat.le_refl _))⟩
    exact ⟨by simp, _, .nil, IsTup.new _ _⟩
end PV
set_option Elab.async false
set_option linter.all false
set_option maxRecDepth 100000
set_option maxHeartbeats 1000000
/-! PV2: the operations by values hold in the model. -/
namespace PV
open PySem PySem.Spec PyProof.Rows L2

/-- what an operation hands back: new, or made of the operands' lists -/
def OpV (K : PySem.W.Frag) (H H' : Hp) (N : Addr → Prop) (z : V) (d : D) : Prop :=
  (flat d = true ∧ ∃ cs, DpR K H' z d cs ∧ cs.Nodup ∧ ∀ a ∈ cs, H a = none) ∨ (flat d = false ∧ ∃ cs, DpR K H' z d cs ∧ ∀ a ∈ cs, N a ∨ H a = none)
def OpQ (K : PySem.W.Frag) (H : Hp) (N : Addr → Prop) (d : D) (Q : VK) : Prop := ∀ z H', Same H H' → OpV K H H' N z d → Q z H'
theorem OpV.imm {K : PySem.W.Frag} {H H' : Hp} {N : Addr → Prop} {z : V} {d : D} {as : List Addr} (h : DpR K H' z d as) (hi : PV.imm d = true) : OpV K H H' N z d := by
  have hf : flat d = true := by cases d <;> first | exact hi | (simp [PV.imm] at hi)
  exact .inl ⟨hf, [], by rw [← h.imm hi]; exact h, .nil, fun _ h => by simp at h⟩
theorem OpQ.int {K : PySem.W.Frag} {H : Hp} {N : Addr → Prop} {i : Int} {Q : VK} (h : OpQ K H N (.int i) Q) : Q (.int i) H := h _ H (Same.refl H) (.imm (.int i) rfl)
theorem OpQ.bl {K : PySem.W.Frag} {H : Hp} {N : Addr → Prop} {i : Bool} {Q : VK} (h : OpQ K H N (.bool i) Q) : Q (.bl i) H := h _ H (Same.refl H) (.imm (.bl i) rfl)
theorem OpQ.str {K : PySem.W.Frag} {H : Hp} {N : Addr → Prop} {i : Str} {Q : VK} (h : OpQ K H N (.str i) Q) : Q (.str i) H := h _ H (Same.refl H) (.imm (.str i) rfl)
theorem same_upd {H : Hp} {p : Addr} {o : HO} (h : H p = none) : Same H (upd H p o) := fun b x e => by
  rw [upd_ne (ne_of_none e h)]
  exact e
theorem DpRs.new {K : PySem.W.Frag} {H : Hp} {p : Addr} {o : HO} (h : H p = none) {v : List V} {d : List D} {as : List Addr} (r : DpRs K H v d as) : DpRs K (upd H p o) v d as :=
  r.keep (Fix.of (same_upd h)) fun a _ xs e => same_upd h a _ e
theorem DpR.new {K : PySem.W.Frag} {H : Hp} {p : Addr} {o : HO} (h : H p = none) {v : V} {d : D} {as : List Addr} (r : DpR K H v d as) : DpR K (upd H p o) v d as :=
  r.keep (Fix.of (same_upd h)) fun a _ xs e => same_upd h a _ e
/-- a new list of items -/
theorem OpQ.lst {K : PySem.W.Frag} {H : Hp} {N : Addr → Prop} {ds : List D} {Q : VK} (h : OpQ K H N (.list ds) Q) {vs : List V} {as : List Addr} (r : DpRs K H vs ds as) (hn : ∀ a ∈ as, N a) :
    ∀ p, H p = none → Q (.ref p) (upd H p (.lst vs)) := fun p hp => by
  refine h _ _ (same_upd hp) ?_
  by_cases hi : immAll ds = true
  · have e := r.imm hi
    subst e
    refine .inl ⟨hi, [p], ?_, by simp, fun a ha => ?_⟩
    · exact .lst upd_same (r.new hp)
    · simp at ha; rw [ha]; exact hp
  · refine .inr ⟨by simpa [flat] using hi, p :: as, .lst upd_same (r.new hp), fun a ha => ?_⟩
    rcases List.mem_cons.mp ha with e | ha
    · rw [e]; exact .inr hp
    · exact .inl (hn a ha)
/-- a new tuple of items -/
theorem OpQ.tup {K : PySem.W.Frag} {H : Hp} {N : Addr → Prop} {ds : List D} {Q : VK} (h : OpQ K H N (.tuple ds) Q) {vs : List V} {as : List Addr} (r : DpRs K H vs ds as) (hn : ∀ a ∈ as, N a) :
    ∀ p, H p = none → Q (.ref p) (upd H p (.tup vs)) := fun p hp => by
  refine h _ _ (same_upd hp) ?_
  have r3 : DpR K (upd H p (.tup vs)) (.ref p) (.tuple ds) as := .tup (.inl (.inl upd_same)) (r.new hp)
  by_cases hi : immAll ds = true
  · exact .imm r3 hi
  · exact .inr ⟨by simpa [flat, imm] using hi, as, r3, fun a ha => .inl (hn a ha)⟩
/-- a value that stands already -/
theorem OpQ.old {K : PySem.W.Frag} {H : Hp} {N : Addr → Prop} {d : D} {Q : VK} (h : OpQ K H N d Q) {v : V} {as : List Addr} (r : DpR K H v d as) (hn : ∀ a ∈ as, N a) (hd : ∀ l, d ≠ .list l) : Q v H := by
  refine h _ H (Same.refl H) ?_
  by_cases hi : imm d = true
  · exact .imm r hi
  · refine .inr ⟨?_, as, r, fun a ha => .inl (hn a ha)⟩
    cases d with
    | list l => exact absurd rfl (hd l)
    | tuple l => simpa [flat] using hi
    | none => exact absurd rfl hi
    | bool b => exact absurd rfl hi
    | int b => exact absurd rfl hi
    | str b => exact absurd rfl hi
    | dict b => cases r

/-- an operation on two operands, by their trees -/
def r2 (K : PySem.W.Frag) (o : D → D → Res D) : R2 := fun x y H Q => ∃ dx dy as bs d, DpR K H x dx as ∧ DpR K H y dy bs ∧ o dx dy = .ok d ∧ OpQ K H (fun a => a ∈ as ∨ a ∈ bs) d Q
theorem sl_of {X : Cx} {pins : List (Addr × Obj)} {σ : L2.St} {H : Hp} {s : Shared} {v : V} {u : Value} {d : D} {as : List Addr} (I : Inv X pins σ H s) (r : DpR X.K H v d as) (e : RelV v u) : ∃ as, Reads s.heap u d as := Dp.reads I d v u r.dp e
theorem DpR.tuple_inv {K : PySem.W.Frag} {H : Hp} {v : V} {ds : List D} {as : List Addr} (r : DpR K H v (.tuple ds) as) : ∃ a xs, v = .ref a ∧ SqT K H a xs ∧ DpRs K H xs ds as := by
  cases r with
  | tup h r => exact ⟨_, _, rfl, h, r⟩
theorem DpR.list_inv {K : PySem.W.Frag} {H : Hp} {v : V} {ds : List D} {as : List Addr} (r : DpR K H v (.list ds) as) :
    ∃ a xs bs, v = .ref a ∧ DpRs K H xs ds bs ∧ H a = some (.lst xs) ∧ as = a :: bs := by
  cases r with
  | lst h r => exact ⟨_, _, _, rfl, r, h, rfl⟩

section
variable {X : Cx}
/-- a list laid as new from two lists (the library's own rule wants both tracked): + -/
theorem o_add : OpR X (binaryOp .Add) (r2 X.K (op2 .add)) := by
  intro pins s σ H x y v u Q I rx ry ⟨dx, dy, as, bs, d, hx, hy, ho, q⟩
  cases dx <;> cases dy <;> try (simp only [op2] at ho; cases ho; done)
  · -- ints
    cases hx; cases hy; simp only [op2] at ho; cases ho
    exact op_add pins s σ H _ _ v u Q I rx ry ⟨_, _, rfl, rfl, q.int⟩
  · -- texts
    cases hx; cases hy; simp only [op2] at ho
    split at ho
    · rename_i hl
      cases ho
      exact op_add_str pins s σ H _ _ v u Q I rx ry ⟨_, _, rfl, rfl, by simpa [lenOk] using hl, q.str⟩
    · cases ho
  · -- lists
    rename_i l1 l2
    simp only [op2] at ho
    split at ho
    · rename_i hl
      cases ho
      obtain ⟨a, xs, b1, rfl, r1, h1, e1⟩ := hx.list_inv
      obtain ⟨b, ys, b2, rfl, r2', h2, e2⟩ := hy.list_inv
      refine op_cat pins s σ H _ _ v u Q I rx ry ⟨a, b, xs, ys, rfl, rfl, h1, h2, ?_, ?_⟩
      · rw [r1.length, r2'.length]; simpa [lenOk] using hl
      · refine q.lst (r1.app r2') fun c hc => ?_
        rw [e1, e2]
        rcases List.mem_append.mp hc with hc | hc
        · exact .inl (List.mem_cons_of_mem _ hc)
        · exact .inr (List.mem_cons_of_mem _ hc)
    · cases ho
  · -- tuples
    rename_i l1 l2
    simp only [op2] at ho
    split at ho
    · rename_i hl
      cases ho
      obtain ⟨a, xs, rfl, h1, r1⟩ := hx.tuple_inv
      obtain ⟨b, ys, rfl, h2, r2'⟩ := hy.tuple_inv
      refine op_catA pins s σ H _ _ v u Q I rx ry ⟨a, b, xs, ys, rfl, rfl, h1, h2, ?_, fun e => ?_, fun _ e => ?_, fun _ _ => ?_⟩
      · rw [r1.length, r2'.length]; simpa [lenOk] using hl
      · subst e
        cases r1
        simp only [List.nil_append] at q
        exact q.old hy (fun c hc => .inr hc) (fun l e => by cases e)
      · subst e
        cases r2'
        simp only [List.append_nil] at q
        exact q.old hx (fun c hc => .inl hc) (fun l e => by cases e)
      · refine q.tup (r1.app r2') fun c hc => List.mem_append.mp hc
    · cases ho
theorem o_sub : OpR X (binaryOp .Sub) (r2 X.K (op2 .sub)) := by
  intro pins s σ H x y v u Q I rx ry ⟨dx, dy, as, bs, d, hx, hy, ho, q⟩
  cases dx <;> cases dy <;> try (simp only [op2] at ho; cases ho; done)
  cases hx; cases hy; simp only [op2] at ho; cases ho
  exact op_sub pins s σ H _ _ v u Q I rx ry ⟨_, _, rfl, rfl, q.int⟩
theorem log2_of {n k : Nat} (h : n < 2 ^ k) (hk : 0 < k) : n.log2 < k := PySem.Flt.log2_lt_of hk h
theorem o_mul : OpR X (binaryOp .Mult) (r2 X.K (op2 .mul)) := by
  intro pins s σ H x y v u Q I rx ry ⟨dx, dy, as, bs, d, hx, hy, ho, q⟩
  cases dx <;> cases dy <;> try (simp only [op2] at ho; cases ho; done)
  · cases hx; cases hy; simp only [op2] at ho
    split at ho
    · rename_i hm
      cases ho
      simp only [mulOk, Bool.or_eq_true, decide_eq_true_eq] at hm
      rcases hm with (hm | hm) | hm
      · exact op_mul pins s σ H _ _ v u Q I rx ry ⟨_, _, rfl, rfl, .inl hm, q.int⟩
      · exact op_mul pins s σ H _ _ v u Q I rx ry ⟨_, _, rfl, rfl, .inr hm, q.int⟩
      · refine op_mulW pins s σ H _ _ v u Q I rx ry ⟨_, _, rfl, rfl, ?_, q.int⟩
        exact wide_mul hm.1 hm.2 (by decide) (by decide) (by decide)
    · cases ho
  · rename_i l k
    cases hy; simp only [op2] at ho
    split at ho
    · rename_i hl
      cases ho
      obtain ⟨a, xs, b1, rfl, r1, h1, e1⟩ := hx.list_inv
      simp only [Bool.and_eq_true, lenOk, decide_eq_true_eq] at hl
      have len := r1.length
      refine op_rep pins s σ H _ _ v u Q I rx ry ⟨a, k, xs, rfl, rfl, h1, hl.2.1, hl.2.2, by rw [len]; exact hl.1, ?_⟩
      have rep : ∀ n : Nat, ∃ cs, DpRs X.K H (List.replicate n xs).flatten (List.replicate n l).flatten cs ∧ ∀ a ∈ cs, a ∈ b1 := fun n => by
        induction n with
        | zero => exact ⟨[], .nil, fun _ h => by simp at h⟩
        | succ n ih =>
          obtain ⟨cs, h1, h2⟩ := ih
          simp only [List.replicate_succ, List.flatten_cons]
          exact ⟨b1 ++ cs, r1.app h1, fun a ha => (List.mem_append.mp ha).elim id (h2 a)⟩
      obtain ⟨cs, r3, h3⟩ := rep k.toNat
      exact q.lst r3 fun a ha => .inl (by rw [e1]; exact List.mem_cons_of_mem _ (h3 a ha))
    · cases ho
  · rename_i l k
    cases hy; simp only [op2] at ho
    split at ho
    · rename_i hl
      cases ho
      obtain ⟨a, xs, rfl, h1, r1⟩ := hx.tuple_inv
      simp only [decide_eq_true_eq] at hl
      have len := r1.length
      refine op_repA pins s σ H _ _ v u Q I rx ry ⟨a, k, xs, rfl, rfl, h1, hl.2.1, hl.2.2, by omega, fun e => ?_, fun _ => ?_⟩
      · have e2 : (List.replicate k.toNat l).flatten = l := by
          rcases e with e | e
          · subst e
            have : l = [] := List.eq_nil_of_length_eq_zero len.symm
            subst this
            simp
          · subst e; simp
        rw [e2] at q
        exact q.old hx (fun c hc => .inl hc) (fun l e => by cases e)
      have rep : ∀ n : Nat, ∃ cs, DpRs X.K H (List.replicate n xs).flatten (List.replicate n l).flatten cs ∧ ∀ a ∈ cs, a ∈ as := fun n => by
        induction n with
        | zero => exact ⟨[], .nil, fun _ h => by simp at h⟩
        | succ n ih =>
          obtain ⟨cs, h1, h2⟩ := ih
          simp only [List.replicate_succ, List.flatten_cons]
          exact ⟨as ++ cs, r1.app h1, fun a ha => (List.mem_append.mp ha).elim id (h2 a)⟩
      obtain ⟨cs, r3, h3⟩ := rep k.toNat
      exact q.tup r3 fun a ha => .inl (h3 a ha)
    · cases ho
theorem o_fdiv : OpR X (binaryOp .FloorDiv) (r2 X.K (op2 .fdiv)) := by
  intro pins s σ H x y v u Q I rx ry ⟨dx, dy, as, bs, d, hx, hy, ho, q⟩
  cases dx <;> cases dy <;> try (simp only [op2] at ho; cases ho; done)
  rename_i i j
  cases hx; cases hy; simp only [op2] at ho
  split at ho
  · rename_i hm
    cases ho
    simp only [divOk, Bool.or_eq_true, decide_eq_true_eq] at hm
    rcases hm with hm | hm
    · exact op_fdivN pins s σ H _ _ v u Q I rx ry ⟨_, _, rfl, rfl, hm, q.int⟩
    · refine op_fdivW pins s σ H _ _ v u Q I rx ry ⟨_, _, rfl, rfl, wide_div (b := 9000) hm.1 ?_ (by decide) (by decide), ?_⟩
      · have h9 : ((2 : Int) ^ 9000) = ((2 ^ 9000 : Nat) : Int) := by norm_cast
        rw [h9] at hm
        have := hm.2
        omega
      · have := q.int
        rwa [Int.fdiv_eq_ediv_of_nonneg _ (Int.le_of_lt hm.1)] at this
  · cases ho
theorem o_mod : OpR X (binaryOp .Mod) (r2 X.K (op2 .mod)) := by
  intro pins s σ H x y v u Q I rx ry ⟨dx, dy, as, bs, d, hx, hy, ho, q⟩
  cases dx <;> cases dy <;> try (simp only [op2] at ho; cases ho; done)
  cases hx; cases hy; simp only [op2] at ho
  split at ho
  · cases ho
  · rename_i hm
    cases ho
    exact op_modN pins s σ H _ _ v u Q I rx ry ⟨_, _, rfl, rfl, hm, q.int⟩
theorem o_pow : OpR X (binaryOp .Pow) (r2 X.K (op2 .pow)) := by
  intro pins s σ H x y v u Q I rx ry ⟨dx, dy, as, bs, d, hx, hy, ho, q⟩
  cases dx <;> cases dy <;> try (simp only [op2] at ho; cases ho; done)
  cases hx; cases hy; simp only [op2] at ho
  split at ho
  · rename_i hm
    cases ho
    exact op_pow pins s σ H _ _ v u Q I rx ry ⟨_, _, rfl, rfl, hm, q.int⟩
  · cases ho
theorem ep_bl {pins : List (Addr × Obj)} {σ : L2.St} {H : Hp} {s : Shared} {Q : VK} {k : Bool} (I : Inv X pins σ H s) (q : Q (.bl k) H) : EP X pins σ Q (.bool k) s := ⟨.bl k, H, I, rfl, q⟩
variable (hu : X.A.units + 64 < cLine)
include hu
theorem o_eq : OpR X (compareOp .Eq) (r2 X.K (op2 .eq)) := by
  intro pins s σ H x y v u Q I rx ry ⟨dx, dy, as, bs, d, hx, hy, ho, q⟩
  simp only [op2, eqD] at ho
  split at ho
  · rename_i hd
    cases ho
    obtain ⟨c1, R1⟩ := sl_of I hx rx
    obtain ⟨c2, R2⟩ := sl_of I hy ry
    exact PySem.SeqAt.eq_plain R1 R2 hx.plain hy.plain (by omega) (ep_bl I q.bl)
  · cases ho
theorem o_ne : OpR X (compareOp .NotEq) (r2 X.K (op2 .ne)) := by
  intro pins s σ H x y v u Q I rx ry ⟨dx, dy, as, bs, d, hx, hy, ho, q⟩
  simp only [op2, eqD] at ho
  split at ho
  · rename_i hd
    cases ho
    obtain ⟨c1, R1⟩ := sl_of I hx rx
    obtain ⟨c2, R2⟩ := sl_of I hy ry
    exact PySem.SeqAt.ne_plain R1 R2 hx.plain hy.plain (by omega) (ep_bl I q.bl)
  · cases ho
theorem ltOk_inv {a b : D} (h : ltOk a b = true) : PySem.W.alike a b = true ∧ a ≠ .none ∧ min a.depth b.depth ≤ 60 := by
  simp only [ltOk, Bool.and_eq_true, decide_eq_true_eq] at h
  refine ⟨h.1.1, fun e => ?_, h.1.2⟩
  subst e
  exact absurd h.2 (by decide)
theorem o_lt : OpR X (compareOp .Lt) (r2 X.K (op2 .lt)) := by
  intro pins s σ H x y v u Q I rx ry ⟨dx, dy, as, bs, d, hx, hy, ho, q⟩
  have go : (if ltOk dx dy then Res.ok (PyData.bool (PySem.W.dataLt dx dy)) else .stuck) = .ok d → wpAny (model X.prog X.w) X.A (compareOp .Lt v u) (EP X pins σ Q) X.xe s := fun ho => by
    split at ho
    · rename_i hd
      cases ho
      obtain ⟨h1, h2, h3⟩ := ltOk_inv hu hd
      obtain ⟨c1, R1⟩ := sl_of I hx rx
      obtain ⟨c2, R2⟩ := sl_of I hy ry
      exact PySem.W.lt_data R1 R2 h1 h2 (by omega) (ep_bl I q.bl)
    · cases ho
  cases dx <;> cases dy <;> first | (exact go ho) | skip
  cases hx; cases hy; simp only [op2] at ho; cases ho
  exact op_lt pins s σ H _ _ v u Q I rx ry ⟨_, _, rfl, rfl, q.bl⟩
theorem o_gt : OpR X (compareOp .Gt) (r2 X.K (op2 .gt)) := by
  intro pins s σ H x y v u Q I rx ry ⟨dx, dy, as, bs, d, hx, hy, ho, q⟩
  have go : (if ltOk dx dy then Res.ok (PyData.bool (PySem.W.dataLt dy dx)) else .stuck) = .ok d → wpAny (model X.prog X.w) X.A (compareOp .Gt v u) (EP X pins σ Q) X.xe s := fun ho => by
    split at ho
    · rename_i hd
      cases ho
      obtain ⟨h1, h2, h3⟩ := ltOk_inv hu hd
      obtain ⟨c1, R1⟩ := sl_of I hx rx
      obtain ⟨c2, R2⟩ := sl_of I hy ry
      exact PySem.W.gt_data R1 R2 h1 h2 (by omega) (ep_bl I q.bl)
    · cases ho
  cases dx <;> cases dy <;> first | (exact go ho) | skip
  cases hx; cases hy; simp only [op2] at ho; cases ho
  exact op_gt pins s σ H _ _ v u Q I rx ry ⟨_, _, rfl, rfl, q.bl⟩
theorem o_le : OpR X (compareOp .LtE) (r2 X.K (op2 .le)) := by
  intro pins s σ H x y v u Q I rx ry ⟨dx, dy, as, bs, d, hx, hy, ho, q⟩
  have go : (if ltOk dx dy then Res.ok (PyData.bool (!PySem.W.dataLt dy dx)) else .stuck) = .ok d → wpAny (model X.prog X.w) X.A (compareOp .LtE v u) (EP X pins σ Q) X.xe s := fun ho => by
    split at ho
    · rename_i hd
      cases ho
      obtain ⟨h1, h2, h3⟩ := ltOk_inv hu hd
      obtain ⟨c1, R1⟩ := sl_of I hx rx
      obtain ⟨c2, R2⟩ := sl_of I hy ry
      exact PySem.W.le_data R1 R2 h1 h2 (by omega) (ep_bl I q.bl)
    · cases ho
  cases dx <;> cases dy <;> first | (exact go ho) | skip
  cases hx; cases hy; simp only [op2] at ho; cases ho
  exact op_le pins s σ H _ _ v u Q I rx ry ⟨_, _, rfl, rfl, q.bl⟩
theorem o_ge : OpR X (compareOp .GtE) (r2 X.K (op2 .ge)) := by
  intro pins s σ H x y v u Q I rx ry ⟨dx, dy, as, bs, d, hx, hy, ho, q⟩
  have go : (if ltOk dx dy then Res.ok (PyData.bool (!PySem.W.dataLt dx dy)) else .stuck) = .ok d → wpAny (model X.prog X.w) X.A (compareOp .GtE v u) (EP X pins σ Q) X.xe s := fun ho => by
    split at ho
    · rename_i hd
      cases ho
      obtain ⟨h1, h2, h3⟩ := ltOk_inv hu hd
      obtain ⟨c1, R1⟩ := sl_of I hx rx
      obtain ⟨c2, R2⟩ := sl_of I hy ry
      exact PySem.W.ge_data R1 R2 h1 h2 (by omega) (ep_bl I q.bl)
    · cases ho
  cases dx <;> cases dy <;> first | (exact go ho) | skip
  cases hx; cases hy; simp only [op2] at ho; cases ho
  exact op_ge pins s σ H _ _ v u Q I rx ry ⟨_, _, rfl, rfl, q.bl⟩
theorem o_in : OpR X (compareOp .In) (r2 X.K (op2 .inn)) := by
  intro pins s σ H x y v u Q I rx ry ⟨dx, dy, as, bs, d, hx, hy, ho, q⟩
  obtain ⟨c1, R1⟩ := sl_of I hx rx
  cases dy with
  | list ys =>
    have ho : (do Res.ok (PyData.bool (← inD dx ys))) = .ok d := by cases dx <;> exact ho
    simp only [inD] at ho
    split at ho
    · cases ho
      obtain ⟨c2, R2⟩ := sl_of I hy ry
      exact PySem.SeqAt.in_list_data R2 R1 (by have := hy.plain; simpa [PyData.plain] using this) hx.plain (by omega) (ep_bl I q.bl)
    · cases ho
  | tuple ys =>
    have ho : (do Res.ok (PyData.bool (← inD dx ys))) = .ok d := by cases dx <;> exact ho
    simp only [inD] at ho
    split at ho
    · cases ho
      obtain ⟨c2, R2⟩ := sl_of I hy ry
      exact PySem.SeqAt.in_tuple_data R2 R1 (by have := hy.plain; simpa [PyData.plain] using this) hx.plain (by omega) (ep_bl I q.bl)
    · cases ho
  | str b =>
    cases dx <;> try (simp only [op2] at ho; cases ho; done)
    cases hx; cases hy; simp only [op2] at ho; cases ho
    exact op_in_str pins s σ H _ _ v u Q I rx ry ⟨_, _, rfl, rfl, q.bl⟩
  | _ => cases dx <;> (simp only [op2] at ho; cases ho; done)
theorem o_nin : OpR X (compareOp .NotIn) (r2 X.K (op2 .nin)) := by
  intro pins s σ H x y v u Q I rx ry ⟨dx, dy, as, bs, d, hx, hy, ho, q⟩
  obtain ⟨c1, R1⟩ := sl_of I hx rx
  cases dy with
  | list ys =>
    have ho : (do Res.ok (PyData.bool (!(← inD dx ys)))) = .ok d := by cases dx <;> exact ho
    simp only [inD] at ho
    split at ho
    · cases ho
      obtain ⟨c2, R2⟩ := sl_of I hy ry
      exact PySem.SeqAt.notIn_list_data R2 R1 (by have := hy.plain; simpa [PyData.plain] using this) hx.plain (by omega) (ep_bl I q.bl)
    · cases ho
  | tuple ys =>
    have ho : (do Res.ok (PyData.bool (!(← inD dx ys)))) = .ok d := by cases dx <;> exact ho
    simp only [inD] at ho
    split at ho
    · cases ho
      obtain ⟨c2, R2⟩ := sl_of I hy ry
      exact PySem.SeqAt.notIn_tuple_data R2 R1 (by have := hy.plain; simpa [PyData.plain] using this) hx.plain (by omega) (ep_bl I q.bl)
    · cases ho
  | str b =>
    cases dx <;> try (simp only [op2] at ho; cases ho; done)
    cases hx; cases hy; simp only [op2] at ho; cases ho
    exact op_notin_str pins s σ H _ _ v u Q I rx ry ⟨_, _, rfl, rfl, q.bl⟩
  | _ => cases dx <;> (simp only [op2] at ho; cases ho; done)
omit hu
theorem o_isN : OpR X (compareOp .Is) (r2 X.K (op2 .isN)) := by
  intro pins s σ H x y v u Q I rx ry ⟨dx, dy, as, bs, d, hx, hy, ho, q⟩
  cases dy <;> try (cases dx <;> (simp only [op2] at ho; cases ho; done))
  cases hy
  refine op_isN pins s σ H _ _ v u Q I rx ry ⟨rfl, ?_⟩
  cases hx <;> (simp only [op2] at ho; cases ho; first | exact q.bl | (simp; exact q.bl))
theorem o_ntN : OpR X (compareOp .IsNot) (r2 X.K (op2 .ntN)) := by
  intro pins s σ H x y v u Q I rx ry ⟨dx, dy, as, bs, d, hx, hy, ho, q⟩
  cases dy <;> try (cases dx <;> (simp only [op2] at ho; cases ho; done))
  cases hy
  refine op_notN pins s σ H _ _ v u Q I rx ry ⟨rfl, ?_⟩
  cases hx <;> (simp only [op2] at ho; cases ho; first | exact q.bl | (simp; exact q.bl))
end
end PV
set_option Elab.async false
set_option linter.all false
set_option maxRecDepth 100000
set_option maxHeartbeats 1000000
/-! PV3: built-ins, methods, subscripts, slices by values. -/
namespace PV
open PySem PySem.Spec PyProof.Rows L2

theorem ints_of {K : PySem.W.Frag} {H : Hp} : ∀ {ds : List D} {l : List Int} {vs : List V} {as : List Addr}, intsOf ds = some l → DpRs K H vs ds as → vs = l.map V.int ∧ as = []
  | [], l, vs, as, h, r => by
    cases r
    simp only [intsOf] at h
    cases h
    exact ⟨rfl, rfl⟩
  | d :: ds, l, vs, as, h, r => by
    cases r with
    | cons r s =>
      cases d <;> simp only [intsOf] at h <;> try (cases h; done)
      split at h
      · rename_i l' e
        cases h
        cases r
        obtain ⟨h1, h2⟩ := ints_of e s
        subst h1 h2
        exact ⟨rfl, rfl⟩
      · cases h
theorem bools_of {K : PySem.W.Frag} {H : Hp} : ∀ {ds : List D} {l : List Bool} {vs : List V} {as : List Addr}, boolsOf ds = some l → DpRs K H vs ds as → vs = l.map V.bl ∧ as = []
  | [], l, vs, as, h, r => by
    cases r
    simp only [boolsOf] at h
    cases h
    exact ⟨rfl, rfl⟩
  | d :: ds, l, vs, as, h, r => by
    cases r with
    | cons r s =>
      cases d <;> simp only [boolsOf] at h <;> try (cases h; done)
      split at h
      · rename_i l' e
        cases h
        cases r
        obtain ⟨h1, h2⟩ := bools_of e s
        subst h1 h2
        exact ⟨rfl, rfl⟩
      · cases h
/-- a call of a built-in, by its arguments' trees -/
def rb (K : PySem.W.Frag) (o : List D → Res D) : List V → Hp → VK → Prop := fun xs H Q => ∃ ds as d, DpRs K H xs ds as ∧ o ds = .ok d ∧ OpQ K H (fun a => a ∈ as) d Q
theorem DpRs.one_inv {K : PySem.W.Frag} {H : Hp} {xs : List V} {d : D} {as : List Addr} (r : DpRs K H xs [d] as) : ∃ x, xs = [x] ∧ DpR K H x d as := by
  cases r with
  | cons r s =>
    cases s
    rw [List.append_nil]
    exact ⟨_, rfl, r⟩
theorem DpRs.two_inv {K : PySem.W.Frag} {H : Hp} {xs : List V} {d e : D} {as : List Addr} (r : DpRs K H xs [d, e] as) : ∃ x y bs cs, xs = [x, y] ∧ DpR K H x d bs ∧ DpR K H y e cs ∧ as = bs ++ cs := by
  cases r with
  | cons r s =>
    obtain ⟨y, e, s'⟩ := s.one_inv
    subst e
    exact ⟨_, _, _, _, rfl, r, s', rfl⟩
theorem vals1' {x : V} {us : List Value} (r : Vals [x] us) : ∃ u, us = [u] ∧ RelV x u := vals1 r
section
variable {X : Cx}
theorem b_len : CallR X (.builtin "len") (rb X.K (bi .len)) := by
  intro pins s σ H xs us Q I r ⟨ds, as, d, hd, ho, q⟩
  match ds, hd, ho with
  | [], hd, ho => simp only [bi] at ho; cases ho
  | [.str x], hd, ho =>
    obtain ⟨z, e, h⟩ := hd.one_inv
    subst e
    cases h
    simp only [bi] at ho
    split at ho
    · rename_i hl
      cases ho
      exact call_len_str pins s σ H _ us Q I r ⟨x, rfl, by simpa [lenOk] using hl, q.int⟩
    · cases ho
  | [.list l], hd, ho =>
    obtain ⟨z, e, h⟩ := hd.one_inv
    subst e
    simp only [bi] at ho
    cases ho
    obtain ⟨a, vs, bs, rfl, r1, h1, e1⟩ := h.list_inv
    refine call_len_seq pins s σ H _ us Q I r ⟨a, vs, rfl, .inl (SqL.of h1), ?_⟩
    rw [r1.length]
    exact q.int
  | [.tuple l], hd, ho =>
    obtain ⟨z, e, h⟩ := hd.one_inv
    subst e
    simp only [bi] at ho
    cases ho
    obtain ⟨a, vs, rfl, h1, r1⟩ := h.tuple_inv
    refine call_len_seq pins s σ H _ us Q I r ⟨a, vs, rfl, .inr h1, ?_⟩
    rw [r1.length]
    exact q.int
  | [.none], _, ho => simp only [bi] at ho; cases ho
  | [.bool _], _, ho => simp only [bi] at ho; cases ho
  | [.int _], _, ho => simp only [bi] at ho; cases ho
  | [.dict _], _, ho => simp only [bi] at ho; cases ho
  | _ :: _ :: _, _, ho => simp only [bi] at ho; cases ho
theorem sum_tup {A : Around} {E : Value → Shared → Prop} {prog : Program} {w : World} {s : Shared} {t : Addr} {vs : List Value} {ns : List Int} {Q : Value → Shared → Prop} (hh : A.handled = none) (ht : s.heap.IsTuple t vs.toArray) (hi : IntsAre vs ns)
    (h : ∀ h' tk t', (∀ b o, s.heap.get? b = some o → h'.get? b = some o) → Q (.int ns.sum t') { s with heap := h', toks := tk }) : wpAny (model prog w) A (call (.builtin "sum") [.ref t]) Q E s := by
  obtain ⟨xs, hx⟩ := hi.allInts.items
  have hn : PySem.numsOf vs.toArray.toList = ns := by rw [show vs.toArray.toList = vs from rfl, hi.numsOf]
  rw [hx] at ht hn
  rw [nums_intItems] at hn
  refine PySem.W.ktm_sumG hh ht fun h' tk t' hk => ?_
  have := h h' tk t' hk
  rw [preSum_eq, List.take_of_length_le (by simp), hn]
  exact this
theorem b_sum (hc : X.calm = true) : CallR X (.builtin "sum") (rb X.K (bi .sum)) := by
  intro pins s σ H xs us Q I r ⟨ds, as, d, hd, ho, q⟩
  match ds, hd, ho with
  | [], hd, ho => simp only [bi] at ho; cases ho
  | [.list l], hd, ho =>
    obtain ⟨z, e, h⟩ := hd.one_inv
    subst e
    simp only [bi] at ho
    split at ho
    · rename_i ns hn
      cases ho
      obtain ⟨a, vs, bs, rfl, r1, h1, e1⟩ := h.list_inv
      obtain ⟨e2, _⟩ := ints_of hn r1
      subst e2
      exact cr_sum hc pins s σ H _ us Q I r ⟨a, ns, rfl, SqL.of h1, q.int⟩
    · cases ho
  | [.tuple l], hd, ho =>
    obtain ⟨z, e, h⟩ := hd.one_inv
    subst e
    simp only [bi] at ho
    split at ho
    · rename_i ns hn
      cases ho
      obtain ⟨a, vs, rfl, h1, r1⟩ := h.tuple_inv
      obtain ⟨e2, _⟩ := ints_of hn r1
      subst e2
      obtain ⟨its, rv, hl, _⟩ := I.tuple h1
      rw [Vals.ref1 r]
      exact sum_tup (I.ok.hd hc) (show s.heap.IsTuple a its.toArray from hl) rv.ints fun h' tk t' hk => ⟨.int _, H, I.kept hk, ⟨_, rfl⟩, q.int⟩
    · cases ho
  | [.none], _, ho => simp only [bi] at ho; cases ho
  | [.bool _], _, ho => simp only [bi] at ho; cases ho
  | [.int _], _, ho => simp only [bi] at ho; cases ho
  | [.str _], _, ho => simp only [bi] at ho; cases ho
  | [.dict _], _, ho => simp only [bi] at ho; cases ho
  | _ :: _ :: _, _, ho => simp only [bi] at ho; cases ho
theorem b_all (hc : X.calm = true) : CallR X (.builtin "all") (rb X.K (bi .all)) := by
  intro pins s σ H xs us Q I r ⟨ds, as, d, hd, ho, q⟩
  match ds, hd, ho with
  | [], hd, ho => simp only [bi] at ho; cases ho
  | [.list l], hd, ho =>
    obtain ⟨z, e, h⟩ := hd.one_inv
    subst e
    simp only [bi] at ho
    split at ho
    · rename_i ns hn
      cases ho
      obtain ⟨a, vs, bs, rfl, r1, h1, e1⟩ := h.list_inv
      obtain ⟨e2, _⟩ := bools_of hn r1
      subst e2
      exact cr_all hc pins s σ H _ us Q I r ⟨a, ns, rfl, SqL.of h1, q.bl⟩
    · cases ho
  | [.none], _, ho => simp only [bi] at ho; cases ho
  | [.tuple _], _, ho => simp only [bi] at ho; cases ho
  | [.bool _], _, ho => simp only [bi] at ho; cases ho
  | [.int _], _, ho => simp only [bi] at ho; cases ho
  | [.str _], _, ho => simp only [bi] at ho; cases ho
  | [.dict _], _, ho => simp only [bi] at ho; cases ho
  | _ :: _ :: _, _, ho => simp only [bi] at ho; cases ho
theorem b_any (hc : X.calm = true) : CallR X (.builtin "any") (rb X.K (bi .any)) := by
  intro pins s σ H xs us Q I r ⟨ds, as, d, hd, ho, q⟩
  match ds, hd, ho with
  | [], hd, ho => simp only [bi] at ho; cases ho
  | [.list l], hd, ho =>
    obtain ⟨z, e, h⟩ := hd.one_inv
    subst e
    simp only [bi] at ho
    split at ho
    · rename_i ns hn
      cases ho
      obtain ⟨a, vs, bs, rfl, r1, h1, e1⟩ := h.list_inv
      obtain ⟨e2, _⟩ := bools_of hn r1
      subst e2
      exact cr_any hc pins s σ H _ us Q I r ⟨a, ns, rfl, SqL.of h1, q.bl⟩
    · cases ho
  | [.none], _, ho => simp only [bi] at ho; cases ho
  | [.tuple _], _, ho => simp only [bi] at ho; cases ho
  | [.bool _], _, ho => simp only [bi] at ho; cases ho
  | [.int _], _, ho => simp only [bi] at ho; cases ho
  | [.str _], _, ho => simp only [bi] at ho; cases ho
  | [.dict _], _, ho => simp only [bi] at ho; cases ho
  | _ :: _ :: _, _, ho => simp only [bi] at ho; cases ho
theorem b_abs : CallR X (.builtin "abs") (rb X.K (bi .abs)) := by
  intro pins s σ H xs us Q I r ⟨ds, as, d, hd, ho, q⟩
  match ds, hd, ho with
  | [], hd, ho => simp only [bi] at ho; cases ho
  | [.int i], hd, ho =>
    obtain ⟨z, e, h⟩ := hd.one_inv
    subst e
    cases h
    simp only [bi] at ho
    cases ho
    exact call_abs pins s σ H _ us Q I r ⟨i, rfl, q.int⟩
  | [.none], _, ho => simp only [bi] at ho; cases ho
  | [.tuple _], _, ho => simp only [bi] at ho; cases ho
  | [.list _], _, ho => simp only [bi] at ho; cases ho
  | [.bool _], _, ho => simp only [bi] at ho; cases ho
  | [.str _], _, ho => simp only [bi] at ho; cases ho
  | [.dict _], _, ho => simp only [bi] at ho; cases ho
  | _ :: _ :: _, _, ho => simp only [bi] at ho; cases ho
theorem b_int : CallR X (.type "int") (rb X.K (bi .int)) := by
  intro pins s σ H xs us Q I r ⟨ds, as, d, hd, ho, q⟩
  match ds, hd, ho with
  | [], hd, ho => simp only [bi] at ho; cases ho
  | [.int i], hd, ho =>
    obtain ⟨z, e, h⟩ := hd.one_inv
    subst e
    cases h
    simp only [bi] at ho
    cases ho
    exact call_int1 pins s σ H _ us Q I r (.inl ⟨i, rfl, q.int⟩)
  | [.bool i], hd, ho =>
    obtain ⟨z, e, h⟩ := hd.one_inv
    subst e
    cases h
    simp only [bi] at ho
    cases ho
    exact call_int1 pins s σ H _ us Q I r (.inr ⟨i, rfl, q.int⟩)
  | [.none], _, ho => simp only [bi] at ho; cases ho
  | [.tuple _], _, ho => simp only [bi] at ho; cases ho
  | [.list _], _, ho => simp only [bi] at ho; cases ho
  | [.str _], _, ho => simp only [bi] at ho; cases ho
  | [.dict _], _, ho => simp only [bi] at ho; cases ho
  | _ :: _ :: _, _, ho => simp only [bi] at ho; cases ho
theorem b_max2 (hc : X.calm = true) : CallR X (.builtin "max") (rb X.K (bi .max2)) := by
  intro pins s σ H xs us Q I r ⟨ds, as, d, hd, ho, q⟩
  match ds, hd, ho with
  | [.int i, .int j], hd, ho =>
    obtain ⟨x, y, bs, cs, e, h1, h2, _⟩ := hd.two_inv
    subst e
    cases h1
    cases h2
    simp only [bi] at ho
    cases ho
    exact call_max2 hc pins s σ H _ us Q I r ⟨i, j, rfl, q.int⟩
  | [], _, ho => simp only [bi] at ho; cases ho
  | [x], _, ho => cases x <;> (simp only [bi] at ho; cases ho)
  | x :: y :: z :: l, _, ho => cases x <;> cases y <;> (simp only [bi] at ho; cases ho)
  | [.none, y], _, ho => simp only [bi] at ho; cases ho
  | [.tuple _, y], _, ho => simp only [bi] at ho; cases ho
  | [.list _, y], _, ho => simp only [bi] at ho; cases ho
  | [.bool _, y], _, ho => simp only [bi] at ho; cases ho
  | [.str _, y], _, ho => simp only [bi] at ho; cases ho
  | [.dict _, y], _, ho => simp only [bi] at ho; cases ho
  | [.int _, .none], _, ho => simp only [bi] at ho; cases ho
  | [.int _, .tuple _], _, ho => simp only [bi] at ho; cases ho
  | [.int _, .list _], _, ho => simp only [bi] at ho; cases ho
  | [.int _, .bool _], _, ho => simp only [bi] at ho; cases ho
  | [.int _, .str _], _, ho => simp only [bi] at ho; cases ho
  | [.int _, .dict _], _, ho => simp only [bi] at ho; cases ho
theorem b_min2 (hc : X.calm = true) : CallR X (.builtin "min") (rb X.K (bi .min2)) := by
  intro pins s σ H xs us Q I r ⟨ds, as, d, hd, ho, q⟩
  match ds, hd, ho with
  | [.int i, .int j], hd, ho =>
    obtain ⟨x, y, bs, cs, e, h1, h2, _⟩ := hd.two_inv
    subst e
    cases h1
    cases h2
    simp only [bi] at ho
    cases ho
    exact call_min2 hc pins s σ H _ us Q I r ⟨i, j, rfl, q.int⟩
  | [], _, ho => simp only [bi] at ho; cases ho
  | [x], _, ho => cases x <;> (simp only [bi] at ho; cases ho)
  | x :: y :: z :: l, _, ho => cases x <;> cases y <;> (simp only [bi] at ho; cases ho)
  | [.none, y], _, ho => simp only [bi] at ho; cases ho
  | [.tuple _, y], _, ho => simp only [bi] at ho; cases ho
  | [.list _, y], _, ho => simp only [bi] at ho; cases ho
  | [.bool _, y], _, ho => simp only [bi] at ho; cases ho
  | [.str _, y], _, ho => simp only [bi] at ho; cases ho
  | [.dict _, y], _, ho => simp only [bi] at ho; cases ho
  | [.int _, .none], _, ho => simp only [bi] at ho; cases ho
  | [.int _, .tuple _], _, ho => simp only [bi] at ho; cases ho
  | [.int _, .list _], _, ho => simp only [bi] at ho; cases ho
  | [.int _, .bool _], _, ho => simp only [bi] at ho; cases ho
  | [.int _, .str _], _, ho => simp only [bi] at ho; cases ho
  | [.int _, .dict _], _, ho => simp only [bi] at ho; cases ho
theorem b_tup : CallR X (.type "tuple") (rb X.K (bi .tup)) := by
  intro pins s σ H xs us Q I r ⟨ds, as, d, hd, ho, q⟩
  match ds, hd, ho with
  | [], hd, ho => simp only [bi] at ho; cases ho
  | [.list l], hd, ho =>
    obtain ⟨z, e, h⟩ := hd.one_inv
    subst e
    simp only [bi] at ho
    cases ho
    obtain ⟨a, vs, bs, rfl, r1, h1, e1⟩ := h.list_inv
    exact call_tuple_of pins s σ H _ us Q I r ⟨a, vs, rfl, .inl ⟨SqL.of h1, q.tup r1 fun c hc => by rw [e1]; exact List.mem_cons_of_mem _ hc⟩⟩
  | [.tuple l], hd, ho =>
    obtain ⟨z, e, h⟩ := hd.one_inv
    subst e
    simp only [bi] at ho
    cases ho
    obtain ⟨a, vs, rfl, h1, r1⟩ := h.tuple_inv
    exact call_tuple_of pins s σ H _ us Q I r ⟨a, vs, rfl, .inr ⟨h1, q.old h (fun c hc => hc) (fun l e => by cases e)⟩⟩
  | [.none], _, ho => simp only [bi] at ho; cases ho
  | [.bool _], _, ho => simp only [bi] at ho; cases ho
  | [.int _], _, ho => simp only [bi] at ho; cases ho
  | [.str _], _, ho => simp only [bi] at ho; cases ho
  | [.dict _], _, ho => simp only [bi] at ho; cases ho
  | _ :: _ :: _, _, ho => simp only [bi] at ho; cases ho
theorem b_lst : CallR X (.type "list") (rb X.K (bi .lst)) := by
  intro pins s σ H xs us Q I r ⟨ds, as, d, hd, ho, q⟩
  match ds, hd, ho with
  | [], hd, ho => simp only [bi] at ho; cases ho
  | [.list l], hd, ho =>
    obtain ⟨z, e, h⟩ := hd.one_inv
    subst e
    simp only [bi] at ho
    cases ho
    obtain ⟨a, vs, bs, rfl, r1, h1, e1⟩ := h.list_inv
    exact call_list_of pins s σ H _ us Q I r ⟨a, vs, rfl, .inl (SqL.of h1), q.lst r1 fun c hc => by rw [e1]; exact List.mem_cons_of_mem _ hc⟩
  | [.tuple l], hd, ho =>
    obtain ⟨z, e, h⟩ := hd.one_inv
    subst e
    simp only [bi] at ho
    cases ho
    obtain ⟨a, vs, rfl, h1, r1⟩ := h.tuple_inv
    exact call_list_of pins s σ H _ us Q I r ⟨a, vs, rfl, .inr h1, q.lst r1 fun c hc => hc⟩
  | [.none], _, ho => simp only [bi] at ho; cases ho
  | [.bool _], _, ho => simp only [bi] at ho; cases ho
  | [.int _], _, ho => simp only [bi] at ho; cases ho
  | [.str _], _, ho => simp only [bi] at ho; cases ho
  | [.dict _], _, ho => simp only [bi] at ho; cases ho
  | _ :: _ :: _, _, ho => simp only [bi] at ho; cases ho
theorem ixN_eq (n : Nat) (i : Int) : PV.ixN n i = L2.ixN n i := rfl
/-- an item, by the trees -/
def rs (K : PySem.W.Frag) : R2 := fun x y H Q => ∃ dx dy as bs d, DpR K H x dx as ∧ DpR K H y dy bs ∧ sub dx dy = .ok d ∧ ∀ z cs, DpR K H z d cs → (∀ a ∈ cs, a ∈ as) → Q z H
theorem i_sub : IxR X (rs X.K) := by
  intro value slice pins s σ H x y v u Q I rx ry ⟨dx, dy, as, bs, d, hx, hy, ho, q⟩
  cases dx with
  | list l =>
    cases dy with
    | int i =>
      simp only [sub, atD] at ho
      split at ho
      · rename_i j hj
        split at ho
        · rename_i d' hd
          cases ho
          obtain ⟨a, vs, b1, rfl, r1, h1, e1⟩ := hx.list_inv
          cases hy
          obtain ⟨z, cs, hz, r3, sb⟩ := r1.atD hd
          refine ix_list value slice pins s σ H _ _ v u Q I rx ry ⟨a, vs, i, z, rfl, rfl, SqL.of h1, ?_, q z cs r3 fun c hc => ?_⟩
          · unfold atI
            rw [← ixN_eq, r1.length, hj]
            exact hz
          · rw [e1]; exact List.mem_cons_of_mem _ (sb.subset hc)
        · cases ho
      · cases ho
    | _ => simp only [sub] at ho; cases ho
  | tuple l =>
    cases dy with
    | int i =>
      simp only [sub, atD] at ho
      split at ho
      · rename_i j hj
        split at ho
        · rename_i d' hd
          cases ho
          obtain ⟨a, vs, rfl, h1, r1⟩ := hx.tuple_inv
          cases hy
          obtain ⟨z, cs, hz, r3, sb⟩ := r1.atD hd
          refine ix_tup value slice pins s σ H _ _ v u Q I rx ry ⟨a, vs, i, z, rfl, rfl, h1, ?_, q z cs r3 fun c hc => ?_⟩
          · unfold atI
            rw [← ixN_eq, r1.length, hj]
            exact hz
          · exact sb.subset hc
        · cases ho
      · cases ho
    | _ => simp only [sub] at ho; cases ho
  | str z =>
    cases dy with
    | int i =>
      simp only [sub] at ho
      split at ho
      · rename_i hl
        split at ho
        · rename_i c hc
          cases ho
          cases hx
          cases hy
          exact ix_str value slice pins s σ H _ _ v u Q I rx ry ⟨z, i, c, rfl, rfl, of_decide_eq_true hl, hc, q _ [] (.str _) fun _ h => by simp at h⟩
        · cases ho
      · cases ho
    | _ => simp only [sub] at ho; cases ho
  | _ => cases dy <;> (simp only [sub] at ho; cases ho)
theorem sIx_eq (n d : Nat) (i : Option Int) : PV.sIx n d i = HT.sIx n d i := by cases i <;> rfl
theorem DpRs.take {K : PySem.W.Frag} {H : Hp} : ∀ {v : List V} {d : List D} {as : List Addr} (n : Nat), DpRs K H v d as → ∃ bs, DpRs K H (v.take n) (d.take n) bs ∧ bs.Sublist as
  | _, _, _, 0, _ => ⟨[], by simpa using .nil, List.nil_sublist _⟩
  | _, _, _, n + 1, .nil => ⟨[], .nil, List.nil_sublist _⟩
  | _, _, _, n + 1, .cons r s => by
    obtain ⟨bs, h1, h2⟩ := DpRs.take n s
    exact ⟨_, .cons r h1, (List.append_sublist_append_left _).mpr h2⟩
theorem DpRs.drop {K : PySem.W.Frag} {H : Hp} : ∀ {v : List V} {d : List D} {as : List Addr} (n : Nat), DpRs K H v d as → ∃ bs, DpRs K H (v.drop n) (d.drop n) bs ∧ bs.Sublist as
  | _, _, _, 0, r => ⟨_, r, List.Sublist.refl _⟩
  | _, _, _, n + 1, .nil => ⟨[], .nil, List.nil_sublist _⟩
  | _, _, _, n + 1, .cons r s => by
    obtain ⟨bs, h1, h2⟩ := DpRs.drop n s
    exact ⟨bs, h1, h2.trans (List.sublist_append_right _ _)⟩
theorem DpRs.eraseIdx {K : PySem.W.Frag} {H : Hp} : ∀ {v : List V} {d : List D} {as : List Addr} (n : Nat), DpRs K H v d as → ∃ bs, DpRs K H (v.eraseIdx n) (d.eraseIdx n) bs ∧ bs.Sublist as
  | _, _, _, n, .nil => ⟨[], by simpa using .nil, List.nil_sublist _⟩
  | _, _, _, 0, .cons r s => ⟨_, s, List.sublist_append_right _ _⟩
  | _, _, _, n + 1, .cons r s => by
    obtain ⟨bs, h1, h2⟩ := DpRs.eraseIdx n s
    exact ⟨_, .cons r h1, (List.append_sublist_append_left _).mpr h2⟩
theorem DpRs.cut {K : PySem.W.Frag} {H : Hp} {v : List V} {d : List D} {as : List Addr} (lo hi : Option Int) (r : DpRs K H v d as) : ∃ bs, DpRs K H (cutV v lo hi) (PV.cut d lo hi) bs ∧ ∀ a ∈ bs, a ∈ as := by
  unfold cutV PV.cut
  rw [sIx_eq, sIx_eq, r.length]
  obtain ⟨bs, h1, h2⟩ := r.drop (HT.sIx d.length 0 lo)
  obtain ⟨cs, h3, h4⟩ := h1.take (HT.sIx d.length d.length hi - HT.sIx d.length 0 lo)
  exact ⟨cs, h3, fun a ha => h2.subset (h4.subset ha)⟩
def rsl (K : PySem.W.Frag) : V → Option Int → Option Int → Hp → VK → Prop := fun x lo hi H Q => ∃ dx as d, DpR K H x dx as ∧ slc dx lo hi = .ok d ∧ OpQ K H (fun a => a ∈ as) d Q
theorem s_slc : SlR X (rsl X.K) := by
  intro pins s σ H x v vl vu lo hi sl Q I rx hs pl pu ⟨dx, as, d, hx, ho, q⟩
  cases dx with
  | list l =>
    simp only [slc] at ho
    cases ho
    obtain ⟨a, vs, b1, rfl, r1, h1, e1⟩ := hx.list_inv
    obtain ⟨cs, r3, h3⟩ := r1.cut lo hi
    exact sl_list pins s σ H _ v vl vu lo hi sl Q I rx hs pl pu ⟨a, vs, rfl, SqL.of h1, q.lst r3 fun c hc => by rw [e1]; exact List.mem_cons_of_mem _ (h3 c hc)⟩
  | tuple l =>
    simp only [slc] at ho
    cases ho
    obtain ⟨a, vs, rfl, h1, r1⟩ := hx.tuple_inv
    obtain ⟨cs, r3, h3⟩ := r1.cut lo hi
    refine sl_tupA pins s σ H _ v vl vu lo hi sl Q I rx hs pl pu ⟨a, vs, rfl, h1, fun e => ?_, fun _ => q.tup r3 h3⟩
    have el : PV.cut l lo hi = l := by
      unfold PV.cut
      rw [sIx_eq, sIx_eq, ← r1.length, e.1, e.2, r1.length]
      simp
    rw [el] at q
    exact q.old hx (fun c hc => hc) (fun l e => by cases e)
  | str z =>
    simp only [slc] at ho
    split at ho
    · rename_i hl
      cases ho
      cases hx
      refine sl_str pins s σ H _ v vl vu lo hi sl Q I rx hs pl pu ⟨z, rfl, of_decide_eq_true hl, ?_⟩
      have e : cutS z lo hi = ⟨(PV.cut z.cps.toList lo hi).toArray⟩ := by
        unfold cutS PV.cut
        rw [sIx_eq, sIx_eq]
        rfl
      rw [e]
      exact q.str
    · cases ho
  | _ => simp only [slc] at ho; cases ho
end
end PV
set_option Elab.async false
set_option linter.all false
set_option maxRecDepth 100000
set_option maxHeartbeats 1000000
/-! PV4: the reading of a text's syntax as E, S; contexts; expressions. -/
namespace PV
open PySem PySem.Spec PyProof.Rows L2

structure Info where
  nm : Nat → Str
  io : Nat → List Nat
  cn : Nat → Str
  nf : Nat
  nc : Nat
  cat : Nat → Nat → Bool
  /-- the module's int constants -/
  gc : List (Str × Int) := []
def visB (sc : Scope) (x : Str) : Bool := match sc.names.lookup x with
  | some .local => true
  | some .cell => true
  | some .free => true
  | _ => false
def glB (sc : Scope) (x : Str) : Bool := match sc.names.lookup x with
  | some .globalImplicit => true
  | _ => false
def okName (x : Str) : Bool := !(x == ("__debug__" : Str)) && !(x == ("__classdict__" : Str)) && !(x == ("__name__" : Str))
def nameB (N : List Str) (sc : Scope) (i : Nat) (x : Str) : Bool := decide (N[i]? = some x) && visB sc x && okName x
/-- pairs are walked by a tuple of names only -/
def pairB (single : Bool) : It → Bool
  | .enum _ => !single
  | .zip _ _ => !single
  | _ => true
/-- an expression of a kind that this reading has -/
def plainX : Expr → Bool
  | .BoolOp .. | .BinOp .. | .UnaryOp .. | .IfExp .. | .ListComp .. | .Compare .. | .Call .. | .Constant .. | .Attribute .. | .Subscript .. | .Name .. | .List .. | .Tuple .. => true
  | _ => false
def plainAllB (xs : List Expr) : Bool := xs.all plainX
/-- a method's receiver -/
def recvX : Expr → Bool
  | .Constant .. | .Subscript .. | .Name .. | .List .. | .Tuple .. => true
  | _ => false
def lineB (a c : Pos) : Bool := a.endLine == c.line
def binOf : O2 → Option Operator
  | .add => some .Add | .sub => some .Sub | .mul => some .Mult | .fdiv => some .FloorDiv | .mod => some .Mod | .pow => some .Pow
  | _ => none
def cmpOf : O2 → Option CmpOp
  | .eq => some .Eq | .ne => some .NotEq | .lt => some .Lt | .le => some .LtE | .gt => some .Gt | .ge => some .GtE
  | .inn => some .In | .nin => some .NotIn | .isN => some .Is | .ntN => some .IsNot
  | _ => none
def biName : Bi → Str
  | .len => "len" | .sum => "sum" | .all => "all" | .any => "any" | .max1 => "max" | .min1 => "min" | .max2 => "max" | .min2 => "min"
  | .abs => "abs" | .int => "int" | .tup => "tuple" | .lst => "list" | .sorted => "sorted"
def mtName : Mt → Str
  | .count => "count" | .index => "index"
/-- fn: the captured names that may be set here -/
def tgtB (fn : Str → Bool) (N : List Str) (sc : Scope) (x : Expr) (i : Nat) : Bool := match x with
  | .Name x _ => decide (N[i]? = some x) && (match sc.names.lookup x with | some .local => true | some .cell => fn x | _ => false) && okName x
  | _ => false
def tgtsB (fn : Str → Bool) (N : List Str) (sc : Scope) : List Expr → List Nat → Bool
  | [], [] => true
  | x :: xs, i :: is => tgtB fn N sc x i && tgtsB fn N sc xs is
  | _, _ => false
def targetB (fn : Str → Bool) (N : List Str) (sc : Scope) (x : Expr) (is : List Nat) (single : Bool) : Bool := if single then match is with
    | [i] => tgtB fn N sc x i
    | _ => false
  else match x with
    | .Tuple xs _ _ => tgtsB fn N sc xs is
    | _ => false
def namesOf (N : List Str) (is : List Nat) : List (Str × Nat) := is.map fun i => (N.getD i ("" : Str), i)

mutual
def mE (J : Info) (N : List Str) : E → Scope → Expr → Bool
  | .var i, sc, e => match e with
    | .Name x _ => nameB N sc i x
    | _ => false
  | .ref i, sc, e => match e with
    | .Name x _ => nameB N sc i x
    | _ => false
  | .scr i, sc, e => match e with
    | .Name x _ => nameB N sc i x
    | _ => false
  | .scrL i, sc, e => match e with
    | .Call (.Name g _) [.Name x _] [] _ => decide (g = ("list" : Str)) && glB sc g && nameB N sc i x
    | _ => false
  | .int n, sc, e => match e with
    | .Constant (.int m) _ _ => decide (n = m)
    | .Name x _ => glB sc x && okName x && decide (J.gc.lookup x = some n)
    | _ => false
  | .str s, _, e => match e with
    | .Constant (.str m) _ _ => decide (s = m)
    | _ => false
  | .bl b, _, e => match e with
    | .Constant (.bool m) _ _ => decide (b = m)
    | _ => false
  | .non, _, e => match e with
    | .Constant .none _ _ => true
    | _ => false
  | .op2 o a b, sc, e => match e with
    | .BinOp x p y _ => decide (binOf o = some p) && mE J N a sc x && mE J N b sc y
    | .Compare x [p] [y] _ => decide (cmpOf o = some p) && plainX y && mE J N a sc x && mE J N b sc y
    | _ => false
  | .op1 o a, sc, e => match e, o with
    | .UnaryOp .USub x _, .neg => mE J N a sc x
    | .UnaryOp .Not x _, .nt => plainX x && mE J N a sc x
    | _, _ => false
  | .and a b, sc, e => match e with
    | .BoolOp .And [x, y] _ => plainX x && plainX y && mE J N a sc x && mE J N b sc y
    | .BoolOp .And (x :: y :: z :: r) p => plainX x && mE J N a sc x && mE J N b sc (.BoolOp .And (y :: z :: r) p)
    | _ => false
  | .or a b, sc, e => match e with
    | .BoolOp .Or [x, y] _ => plainX x && plainX y && mE J N a sc x && mE J N b sc y
    | .BoolOp .Or (x :: y :: z :: r) p => plainX x && mE J N a sc x && mE J N b sc (.BoolOp .Or (y :: z :: r) p)
    | _ => false
  | .ite c a b, sc, e => match e with
    | .IfExp x y z _ => plainX x && plainX y && plainX z && mE J N c sc x && mE J N a sc y && mE J N b sc z
    | _ => false
  | .cmp3 o p a b c, sc, e => match e with
    | .Compare x [q, r] [y, z] _ => decide (cmpOf o = some q) && decide (cmpOf p = some r) && plainX y && plainX z && mE J N a sc x && mE J N b sc y && mE J N c sc z
    | _ => false
  | .bi f as, sc, e => match e with
    | .Call (.Name g _) (x :: xs) [] _ => decide (g = biName f) && glB sc g && plainX x && plainAllB xs && mEs J N as sc (x :: xs)
    | _ => false
  | .mt .count o as, sc, e => match e with
    | .Call (.Attribute x g pa) [y] [] pc => decide (g = ("count" : Str)) && recvX x && lineB pa pc && plainX y && mE J N o sc x && mEs J N as sc [y]
    | _ => false
  | .mt .index _ _, _, _ => false
  | .sub o i, sc, e => match e with
    | .Subscript x y _ => plainX y && mE J N o sc x && mE J N i sc y
    | _ => false
  | .slc o lo hi, sc, e => match e with
    | .Subscript x (.Slice l h none _) _ => mE J N o sc x && mO J N lo sc l && mO J N hi sc h
    | _ => false
  | .rev o, sc, e => match e with
    | .Subscript x (.Slice none none (some (.UnaryOp .USub (.Constant (.int 1) _ _) _)) _) _ => mE J N o sc x
    | _ => false
  | .tup es, sc, e => match e with
    | .Tuple xs _ _ => mEs J N es sc xs
    | _ => false
  | .lst es, sc, e => match e with
    | .List xs _ => mEs J N es sc xs
    | _ => false
  | .call f as, sc, e => match e with
    | .Call (.Name g _) (x :: xs) [] _ => decide (f < J.nf) && decide (g = J.nm f) && glB sc g && okName g && plainX x && plainAllB xs && mEs J N as sc (x :: xs) && refsB (J.io f) 0 as
    | _ => false
  | .pop0 i, sc, e => match e with
    | .Call (.Attribute (.Name x _) g pa) [] [] pc => decide (g = ("pop" : Str)) && nameB N sc i x && lineB pa pc
    | _ => false
  | .pop1 i k, sc, e => match e with
    | .Call (.Attribute (.Name x _) g pa) [y] [] pc => decide (g = ("pop" : Str)) && nameB N sc i x && lineB pa pc && plainX y && mE J N k sc y
    | _ => false
  | .comp elt tgt single it cnd own, sc, e => match e with
    | .ListComp x [⟨t, i, ifs, 0⟩] scope _ => plainX x && blkC N sc scope (namesOf N own) && targetB (fun x => scope.names.lookup x == some .cell) N (relS scope sc) t tgt single && tgt.all (fun i => own.contains i) && pairB single it && mI J N it sc i && mCs J N cnd (relS scope sc) ifs && mE J N elt (relS scope sc) x
    | _ => false
  | .rng a b, sc, e => match e with
    | .Call (.Name g _) [.Call (.Name h _) [x, y] [] _] [] _ => decide (g = ("list" : Str)) && glB sc g && decide (h = ("range" : Str)) && glB sc h && plainX x && plainX y && mE J N a sc x && mE J N b sc y
    | _ => false
  | .rng1 b, sc, e => match e with
    | .Call (.Name g _) [.Call (.Name h _) [y] [] _] [] _ => decide (g = ("list" : Str)) && glB sc g && decide (h = ("range" : Str)) && glB sc h && plainX y && mE J N b sc y
    | _ => false
  | .isBool a, sc, e => match e with
    | .Call (.Name g _) [x, .Name h _] [] _ => decide (g = ("isinstance" : Str)) && glB sc g && decide (h = ("bool" : Str)) && glB sc h && plainX x && mE J N a sc x
    | _ => false
  | .isTup a, sc, e => match e with
    | .Call (.Name g _) [x, .Name h _] [] _ => decide (g = ("isinstance" : Str)) && glB sc g && decide (h = ("tuple" : Str)) && glB sc h && plainX x && mE J N a sc x
    | _ => false
  | .isInt a, sc, e => match e with
    | .Call (.Name g _) [x, .Name h _] [] _ => decide (g = ("isinstance" : Str)) && glB sc g && decide (h = ("int" : Str)) && glB sc h && plainX x && mE J N a sc x
    | _ => false
  | .sset a, sc, e => match e with
    | .Call (.Name g _) [.Call (.Name h _) [x] [] _] [] _ => decide (g = ("sorted" : Str)) && glB sc g && decide (h = ("set" : Str)) && glB sc h && plainX x && mE J N a sc x
    | _ => false
def mEs (J : Info) (N : List Str) : Es → Scope → List Expr → Bool
  | .nil, _, l => match l with
    | [] => true
    | _ => false
  | .cons e r, sc, l => match l with
    | x :: xs => plainX x && mE J N e sc x && mEs J N r sc xs
    | _ => false
def mO (J : Info) (N : List Str) : Oe → Scope → Option Expr → Bool
  | .none, _, l => match l with
    | none => true
    | _ => false
  | .some e, sc, l => match l with
    | some x => plainX x && mE J N e sc x
    | _ => false
/-- the tests of a comprehension: none or one -/
def mCs (J : Info) (N : List Str) : Es → Scope → List Expr → Bool
  | .nil, _, l => match l with
    | [] => true
    | _ => false
  | .cons e .nil, sc, l => match l with
    | [x] => plainX x && mE J N e sc x
    | _ => false
  | .cons _ (.cons _ _), _, _ => false
def mI (J : Info) (N : List Str) : It → Scope → Expr → Bool
  | .scr i, sc, e => match e with
    | .Name x _ => nameB N sc i x
    | _ => false
  | .seq a, sc, e => plainX e && mE J N a sc e
  | .r1 a, sc, e => match e with
    | .Call (.Name g _) [x] [] _ => decide (g = ("range" : Str)) && glB sc g && plainX x && mE J N a sc x
    | _ => false
  | .r2 a b, sc, e => match e with
    | .Call (.Name g _) [x, y] [] _ => decide (g = ("range" : Str)) && glB sc g && plainX x && plainX y && mE J N a sc x && mE J N b sc y
    | _ => false
  | .r3 a b c, sc, e => match e with
    | .Call (.Name g _) [x, y, z] [] _ => decide (g = ("range" : Str)) && glB sc g && plainX x && plainX y && plainX z && mE J N a sc x && mE J N b sc y && mE J N c sc z
    | _ => false
  | .enum a, sc, e => match e with
    | .Call (.Name g _) [x] [] _ => decide (g = ("enumerate" : Str)) && glB sc g && plainX x && mE J N a sc x
    | _ => false
  | .zip a b, sc, e => match e with
    | .Call (.Name g _) [x, y] [] _ => decide (g = ("zip" : Str)) && glB sc g && plainX x && plainX y && mE J N a sc x && mE J N b sc y
    | _ => false
  | .rv a, sc, e => match e with
    | .Call (.Name g _) [x] [] _ => decide (g = ("reversed" : Str)) && glB sc g && plainX x && mE J N a sc x
    | _ => false
/-- the names handed over stand where the def takes them so -/
def refsB (io : List Nat) : Nat → Es → Bool
  | _, .nil => true
  | k, .cons (.ref _) r => io.contains k && refsB io (k + 1) r
  | k, .cons _ r => refsB io (k + 1) r
end
end PV
set_option Elab.async false
set_option linter.all false
set_option maxRecDepth 100000
set_option maxHeartbeats 1000000
/-! PV5: contexts, what is promised of a def, the first expressions. -/
namespace PV
open PySem PySem.Spec PyProof.Rows L2

/-- an error is raised: its two fields -/
def ExQ (K : PySem.W.Frag) (ca : Nat → Addr) (H : Hp) (A : Own) (E : Value → Option Addr → Hp → Prop) (c : Nat) (k p : D) : Prop :=
  ∀ d H' cv pv, (∀ a o, H a = some o → ¬ Bd A a → H' a = some o) → (∀ a, H' a = none → H a = none) → H d = none → H' d = some (.xd [("place", pv), ("code", cv)]) → DpR K H' cv k [] → DpR K H' pv p [] → E (.ref (ca c)) (some d) H'
theorem ExQ.before {K : PySem.W.Frag} {ca : Nat → Addr} {H H1 : Hp} {A A1 : Own} {E : Value → Option Addr → Hp → Prop} {c : Nat} {k p : D} {S : List Nat} {σ : L2.St} {ρ : Env} (r : Rep K H S σ ρ A) (s : Stp H A H1 A1)
    (h : ExQ K ca H A E c k p) : ExQ K ca H1 A1 E c k p := fun d H' cv pv h1 h0 h2 h3 h4 h5 =>
  h d H' cv pv (fun a o e n => h1 a o (s.keep a o e n) fun b => (s.own a b).elim n fun q => by rw [e] at q; cases q) (fun a e => s.the a (h0 a e)) (s.there r h2) h3 h4 h5
theorem ExQ.imp {K : PySem.W.Frag} {ca : Nat → Addr} {H : Hp} {A : Own} {E E' : Value → Option Addr → Hp → Prop} {c : Nat} {k p : D} (h : ExQ K ca H A E c k p) (i : ∀ a b H', E a b H' → E' a b H') : ExQ K ca H A E' c k p :=
  fun d H' cv pv h1 h0 h2 h3 h4 h5 => i _ _ _ (h d H' cv pv h1 h0 h2 h3 h4 h5)

/-- what a def hands back -/
def FnQ (K : PySem.W.Frag) (io : List Nat) (vs : List V) (H : Hp) (A : Own) (r : R) (outs : List (Option Cell)) (Q : VK) : Prop :=
  ∀ v H' σ' A', Rep K H' [] σ' outs A' → (∀ j ∈ io, ∀ x, vs[j]? = some x → σ'[j]? = some (some x)) → Stp0 H A H' A' →
    (∃ as, DpR K H' v r.2 as ∧ as.Nodup ∧ (∀ a ∈ as, ¬ Bd A' a ∧ a ∉ A'.fr) ∧ ∀ a ∈ as, Bd A a ∨ H a = none) → Q v H'
/-- the promise of the def f, at most k calls deep -/
def spF (J : Info) (fs : List Fn) (ca : Nat → Addr) (K : PySem.W.Frag) (k f : Nat) : Sp := fun vs H Q E => ∃ cs A, Rep K H [] (vs.map some) (cs.map some) A ∧ vs.length = cs.length ∧ noBor (cs.map some) = true ∧ (∀ i, cs.length ≤ i → A i = []) ∧ match runF fs k f cs with
  | .ok (r, outs) => FnQ K (J.io f) vs H A r outs Q
  | .exc c k p => ExQ K ca H A E c k p
  | .stuck => False

/-- the names of built-ins that the reading knows -/
def blts : List Str := ["len", "sum", "all", "any", "max", "min", "abs", "int", "tuple", "list", "sorted", "range", "enumerate", "zip", "reversed", "isinstance", "bool", "set"]
structure Cxt (J : Info) (fs : List Fn) (ca : Nat → Addr) (k : Nat) (N : List Str) (sc : Scope) (W : WX) (X : Cx) : Prop where
  N : X.N = N
  sc : X.env.scope = sc
  calm : X.calm = true
  nd : X.N.Nodup
  room : Room (k + 2) X.A
  blt : ∀ x ∈ blts, X.mg x = none
  gc : ∀ x n, J.gc.lookup x = some n → ∃ t, X.mg x = some (.int n t)
  takes : Takes X W
  fn : ∀ f, f < J.nf → ∃ a fd ps, FnOk X.prog X.w X.K X.mg X.base (L2.CX X.prog X.w) (k + 2) a fd ps (spF J fs ca X.K k f) ∧ X.mg (J.nm f) = some (.ref a) ∧ PySem.W.keepIn X.K (.ref a) = true ∧ Binds X.K fd ps []
theorem Cxt.blk {J : Info} {fs : List Fn} {ca : Nat → Addr} {k : Nat} {N : List Str} {sc : Scope} {W : WX} {X : Cx} (C : Cxt J fs ca k N sc W X) (s : Shared) (H : Hp) (scope : Scope) (D : Addr) (cl : List (Str × Addr)) (fp : List Addr) :
    Cxt J fs ca k N (relS scope sc) (fun _ _ _ _ => False) (X.blk s H scope (compEnvC scope cl D X.env) fp) where
  N := C.N
  sc := by rw [← C.sc]; rfl
  calm := C.calm
  nd := C.nd
  room := C.room
  blt := C.blt
  gc := C.gc
  takes := takes0
  fn := C.fn

/-- what is wanted behind an expression -/
def Rn (K : PySem.W.Frag) (ca : Nat → Addr) (S : List Nat) (W : WX) (σ : L2.St) (vs : List Nat) (ef : Bool) (H : Hp) (A : Own) (res : Res (R × Env)) (Q : VK) : Prop := match res with
  | .ok (r, ρ') => ∀ v H' A', Rep K H' S σ ρ' A' → Stp H A H' A' → RVal K H A H' A' (vs ++ S) v r → (ef = false → A' = A ∧ Same H H') → Q v H'
  | .exc c k p => ExQ K ca H A (fun a b H' => W a b σ H') c k p
  | .stuck => False
/-- an expression's reading -/
def tS (K : PySem.W.Frag) (ca : Nat → Addr) (cf : CF) (S : List Nat) (W : WX) (e : E) : TE := fun σ H Q => ∃ ρ A, Rep K H S σ ρ A ∧ Rn K ca S W σ (vars e) (eff e) H A (ev cf e ρ) Q
/-- .. as a test -/
def RnT (K : PySem.W.Frag) (ca : Nat → Addr) (S : List Nat) (W : WX) (σ : L2.St) (ef : Bool) (H : Hp) (A : Own) (res : Res (R × Env)) (Q : Bool → Hp → Prop) : Prop := match res with
  | .ok ((_, .bool b), ρ') => ∀ H' A', Rep K H' S σ ρ' A' → Stp H A H' A' → (ef = false → A' = A ∧ Same H H') → Q b H'
  | .ok _ => False
  | .exc c k p => ExQ K ca H A (fun a b H' => W a b σ H') c k p
  | .stuck => False
def tT (K : PySem.W.Frag) (ca : Nat → Addr) (cf : CF) (S : List Nat) (W : WX) (e : E) : TT := fun σ H Q => ∃ ρ A, Rep K H S σ ρ A ∧ RnT K ca S W σ (eff e) H A (ev cf e ρ) Q
theorem _root_.L2.PE.weaken {X : Cx} {e : Expr} {t t' : TE} (h : PE X e t) (w : ∀ σ H Q, t' σ H Q → t σ H Q) : PE X e t' := ⟨fun pins s σ H Q I q => h.run pins s σ H Q I (w σ H Q q)⟩
theorem _root_.L2.PT.weaken {X : Cx} {e : Expr} {t t' : TT} (h : PT X e t) (w : ∀ σ H Q, t' σ H Q → t σ H Q) : PT X e t' := ⟨fun pins s σ H Q I q => h.run pins s σ H Q I (w σ H Q q)⟩
theorem _root_.L2.PE.any {X : Cx} {e : Expr} {t' : TE} (h : ∀ σ H Q, t' σ H Q → ∃ t, PE X e t ∧ t σ H Q) : PE X e t' := ⟨fun pins s σ H Q I q => by
  obtain ⟨t, h1, h2⟩ := h σ H Q q
  exact h1.run pins s σ H Q I h2⟩
theorem _root_.L2.PT.any {X : Cx} {e : Expr} {t' : TT} (h : ∀ σ H Q, t' σ H Q → ∃ t, PT X e t ∧ t σ H Q) : PT X e t' := ⟨fun pins s σ H Q I q => by
  obtain ⟨t, h1, h2⟩ := h σ H Q q
  exact h1.run pins s σ H Q I h2⟩

/-- a value waits while what is behind it runs -/
theorem RVal.later {K : PySem.W.Frag} {S : List Nat} {σ : L2.St} {ρ ρ1 : Env} {H H1 H2 : Hp} {A A1 A2 : Own} {vs : List Nat} {v : V} {r : R} {ef : Bool} (r0 : Rep K H S σ ρ A) (s : Stp H A H1 A1) (r1 : Rep K H1 S σ ρ1 A1) (t : Stp H1 A1 H2 A2)
    (he : ef = false → A2 = A1 ∧ Same H1 H2) (hk : keeps r ef = true) (h : RVal K H A H1 A1 vs v r) : RVal K H A H2 A2 vs v r := by
  rcases h with ⟨e, as, h1, h2, h3, h4⟩ | ⟨e, as, h1, h2⟩
  · refine .inl ⟨e, as, h1.keep (t.fix r1) fun a ha xs hx => t.keep a _ hx (h3 a ha).1, h2, fun a ha => ⟨fun b => ?_, fun b => ?_⟩, h4⟩
    · rcases t.own a b with b | b
      · exact (h3 a ha).1 b
      · obtain ⟨xs, q⟩ := h1.trk a ha
        rw [b] at q
        cases q
    · rcases t.fro a b with b | b | b
      · exact (h3 a ha).2 b
      · exact (h3 a ha).1 b
      · obtain ⟨xs, q⟩ := h1.trk a ha
        rw [b] at q
        cases q
  · by_cases hi : imm r.2 = true
    · have e' := h1.imm hi
      subst e'
      exact .inr ⟨e, [], h1.keep (t.fix r1) (fun a ha => by simp at ha), fun a ha => by simp at ha⟩
    · have ef0 : ef = false := by
        unfold keeps at hk
        rw [e] at hk
        cases ef with
        | false => rfl
        | true => simp [hi] at hk
      obtain ⟨ea, sm⟩ := he ef0
      subst ea
      exact .inr ⟨e, as, h1.keep (Fix.of sm) fun a ha xs hx => sm a _ hx, h2⟩
theorem RVal.sub {K : PySem.W.Frag} {H H' : Hp} {A A' : Own} {vs vs' : List Nat} {v : V} {r : R} (h : RVal K H A H' A' vs v r) (hs : ∀ i ∈ vs, i ∈ vs') : RVal K H A H' A' vs' v r := by
  rcases h with h | ⟨e, as, h1, h2⟩
  · exact .inl h
  · exact .inr ⟨e, as, h1, fun a ha i hi => h2 a ha i fun q => hi (hs i q)⟩
/-- .. counted from an earlier state -/
theorem RVal.since {K : PySem.W.Frag} {S : List Nat} {σ : L2.St} {ρ : Env} {H H1 H2 : Hp} {A A1 A2 : Own} {vs : List Nat} {v : V} {r : R} (r0 : Rep K H S σ ρ A) (s : Stp H A H1 A1) (h : RVal K H1 A1 H2 A2 vs v r) : RVal K H A H2 A2 vs v r := by
  rcases h with ⟨e, as, h1, h2, h3, h4⟩ | h
  · exact .inl ⟨e, as, h1, h2, h3, fun a ha => (h4 a ha).elim (s.own a) fun q => .inr (s.there r0 q)⟩
  · exact .inr h
theorem get_of {ρ : Env} {i : Nat} {c : Cell} (h : PV.get ρ i = some c) : ρ[i]? = some (some c) := by
  unfold PV.get at h
  split at h
  · rename_i c' e; rw [e, h]
  · cases h
/-- what a name holds -/
theorem rd_ok {K : PySem.W.Frag} {H : Hp} {S : List Nat} {σ : L2.St} {ρ : Env} {A : Own} {i : Nat} {r : R} (rep : Rep K H S σ ρ A) (h : PV.rd ρ i = .ok r) : ∃ v, σ[i]? = some (some v) ∧ r.1 = imm r.2 ∧ RVal K H A H A ([i] ++ S) v r := by
  unfold PV.rd at h
  split at h
  · cases h
  · rename_i c hc hs
    cases h
    obtain ⟨v, e, ok⟩ := rep.cell i c hs
    refine ⟨v, e, rfl, ?_⟩
    have fin : ∀ as, DpR K H v c.d as → (∀ a ∈ as, ∀ j, j ∉ [i] ++ S → a ∉ A j) → RVal K H A H A ([i] ++ S) v (imm c.d, c.d) := fun as r n => by
      by_cases hi : imm c.d = true
      · exact RVal.of_imm r hi
      · have hf : imm c.d = false := by simpa using hi
        exact .inr ⟨hf, as, r, n⟩
    cases c with
    | own d => exact fin _ ok.1 fun a ha j hj q => hj (by rw [rep.disj j i a q ha]; simp)
    | fz d =>
      obtain ⟨as, h1, h2⟩ := ok
      exact fin as h1 fun a ha j _ q => rep.fdis a (h2 a ha) ⟨j, q⟩
    | bor d =>
      obtain ⟨as, h1, h2⟩ := ok
      exact fin as h1 fun a ha j hj => h2 a ha j fun q => hj (by simp [q])
    | scr l => exact absurd rfl (hc l)
  · cases h
end PV
set_option Elab.async false
set_option linter.all false
set_option maxRecDepth 100000
set_option maxHeartbeats 1000000
/-! PV6: expressions, one by one. -/
namespace PV
open PySem PySem.Spec PyProof.Rows L2

section
variable {K : PySem.W.Frag} {ca : Nat → Addr} {cf : CF} {S : List Nat} {W : WX} {σ : L2.St} {H0 H : Hp} {A0 A : Own} {ρ0 ρ : Env} {vs : List Nat} {ef : Bool} {Q : VK}
/-- a part of an expression runs first -/
theorem tS_bind {a : E} {f : R × Env → Res (R × Env)} {Q1 : VK} (r0 : Rep K H0 S σ ρ0 A0) (s0 : Stp H0 A0 H A) (rep : Rep K H S σ ρ A) (h : Rn K ca S W σ vs ef H0 A0 (ev cf a ρ >>= f) Q)
    (hq : ∀ r ρ1 v H1 A1, Rep K H1 S σ ρ1 A1 → Stp H A H1 A1 → RVal K H A H1 A1 (vars a ++ S) v r → (eff a = false → A1 = A ∧ Same H H1) → Rn K ca S W σ vs ef H0 A0 (f (r, ρ1)) Q → Q1 v H1) : tS K ca cf S W a σ H Q1 := by
  refine ⟨ρ, A, rep, ?_⟩
  rcases e : ev cf a ρ with ⟨r, ρ1⟩ | ⟨c, k, p⟩ | _
  · rw [e] at h
    exact fun v H1 A1 r1 s1 rv ef1 => hq r ρ1 v H1 A1 r1 s1 rv ef1 h
  · rw [e] at h
    have h' : ExQ K ca H0 A0 (fun a b H' => W a b σ H') c k p := h
    exact ExQ.before r0 s0 h'
  · rw [e] at h
    exact h
theorem tT_bind {a : E} {f : Bool × Env → Res (R × Env)} {Q1 : Bool → Hp → Prop} (r0 : Rep K H0 S σ ρ0 A0) (s0 : Stp H0 A0 H A) (rep : Rep K H S σ ρ A) (h : Rn K ca S W σ vs ef H0 A0 (ev cf a ρ >>= fun x => asBool x.1.2 >>= fun b => f (b, x.2)) Q)
    (hq : ∀ b ρ1 H1 A1, Rep K H1 S σ ρ1 A1 → Stp H A H1 A1 → (eff a = false → A1 = A ∧ Same H H1) → Rn K ca S W σ vs ef H0 A0 (f (b, ρ1)) Q → Q1 b H1) : tT K ca cf S W a σ H Q1 := by
  refine ⟨ρ, A, rep, ?_⟩
  rcases e : ev cf a ρ with ⟨⟨o, d⟩, ρ1⟩ | ⟨c, k, p⟩ | _
  · rw [e] at h
    cases d <;> try exact h
    exact fun H1 A1 r1 s1 ef1 => hq _ ρ1 H1 A1 r1 s1 ef1 h
  · rw [e] at h
    have h' : ExQ K ca H0 A0 (fun a b H' => W a b σ H') c k p := h
    exact ExQ.before r0 s0 h'
  · rw [e] at h
    exact h
theorem DpR.bool_inv {H : Hp} {v : V} {b : Bool} {as : List Addr} (r : DpR K H v (.bool b) as) : v = .bl b := by cases r; rfl
theorem DpR.int_inv {H : Hp} {v : V} {b : Int} {as : List Addr} (r : DpR K H v (.int b) as) : v = .int b := by cases r; rfl
/-- an expression whose value is a bool, as a test -/
theorem tT_tB {e : E} {Q : Bool → Hp → Prop} (h : tT K ca cf S W e σ H Q) : tB (tS K ca cf S W e) σ H Q := by
  obtain ⟨ρ, A, rep, h⟩ := h
  refine ⟨ρ, A, rep, ?_⟩
  rcases e1 : ev cf e ρ with ⟨⟨o, d⟩, ρ1⟩ | ⟨c, k, p⟩ | _
  · rw [e1] at h
    cases d <;> try exact h.elim
    intro v H1 A1 r1 s1 rv ef1
    obtain ⟨as, q, _⟩ := rv.any
    exact ⟨_, q.bool_inv, h H1 A1 r1 s1 ef1⟩
  · rw [e1] at h
    exact h
  · rw [e1] at h
    exact h
/-- what an operation hands back, as an expression's value -/
theorem RVal.of_op {N : Addr → Prop} {z : V} {d : D} {H2 H' : Hp} {A2 : Own} {ρ2 : Env} (r0 : Rep K H0 S σ ρ0 A0) (s : Stp H0 A0 H2 A2) (r2 : Rep K H2 S σ ρ2 A2) (hn : ∀ a, N a → ∀ i, i ∉ vs → a ∉ A2 i) (h : OpV K H2 H' N z d) :
    RVal K H0 A0 H' A2 vs z (flat d, d) := by
  have new : ∀ a, H2 a = none → ¬ Bd A2 a := fun a e ⟨i, hi⟩ => by
    obtain ⟨xs, q⟩ := r2.trk i a hi
    rw [e] at q
    cases q
  have newf : ∀ a, H2 a = none → a ∉ A2.fr := fun a e hi => by
    obtain ⟨xs, q⟩ := r2.ftrk a hi
    rw [e] at q
    cases q
  rcases h with ⟨e, cs, h1, h2, h3⟩ | ⟨e, cs, h1, h2⟩
  · exact .inl ⟨e, cs, h1, h2, fun a ha => ⟨new a (h3 a ha), newf a (h3 a ha)⟩, fun a ha => .inr (s.there r0 (h3 a ha))⟩
  · exact .inr ⟨e, cs, h1, fun a ha i hi q => (h2 a ha).elim (fun m => hn a m i hi q) fun m => new a m ⟨i, q⟩⟩
theorem Stp.then_new {H1 H2 : Hp} {A1 : Own} (r0 : Rep K H0 S σ ρ0 A0) (s : Stp H0 A0 H1 A1) (n : Same H1 H2) : Stp H0 A0 H2 A1 := Stp.trans r0 s (Stp.new n)
theorem avoid_mono {A2 : Own} {us : List Nat} {as : List Addr} (n : ∀ a ∈ as, ∀ i, i ∉ us ++ S → a ∉ A2 i) (hv : ∀ i, i ∈ us → i ∈ vs) : ∀ a ∈ as, ∀ i, i ∉ vs ++ S → a ∉ A2 i :=
  fun a ha i hi => n a ha i fun m => hi ((List.mem_append.mp m).elim (fun q => List.mem_append_left _ (hv i q)) fun q => List.mem_append_right _ q)
/-- two operands, then an operation that makes at most new things -/
theorem w_op2 {a b : E} {o : D → D → Res D} (hv : ∀ i, i ∈ vars a → i ∈ vs) (hv2 : ∀ i, i ∈ vars b → i ∈ vs) (he : ef = false → eff a = false ∧ eff b = false) (rep : Rep K H S σ ρ A)
    (h : Rn K ca S W σ vs ef H A (ev cf a ρ >>= fun x => ev cf b x.2 >>= fun y => if keeps x.1 (eff b) = true then noExc (o x.1.2 y.1.2) >>= fun d => Res.ok ((flat d, d), y.2) else .stuck) Q) : tOp (r2 K o) (tS K ca cf S W a) (tS K ca cf S W b) σ H Q := by
  refine tS_bind rep (Stp.refl _ _) rep h fun x ρ1 v1 H1 A1 r1 s1 rv1 ef1 h => ?_
  refine tS_bind rep s1 r1 h fun y ρ2 v2 H2 A2 r2' s2 rv2 ef2 h => ?_
  dsimp only at h
  split at h
  · rename_i hk
    cases e3 : noExc (o x.2 y.2) with
    | ok d =>
      rw [e3] at h
      have rv1' := RVal.later rep s1 r1 s2 ef2 hk rv1
      obtain ⟨as, d1, n1⟩ := rv1'.any
      obtain ⟨bs, d2, n2⟩ := rv2.any
      have st := Stp.trans rep s1 s2
      refine ⟨_, _, as, bs, d, d1, d2, noExc_inv e3, fun z H' sm op => h z H' A2 (r2'.new sm) (st.then_new rep sm) (RVal.of_op rep st r2' (fun c hc i hi => ?_) op) fun e => ?_⟩
      · exact hc.elim (fun hc => avoid_mono n1 hv c hc i hi) fun hc => avoid_mono n2 hv2 c hc i hi
      · obtain ⟨ea, eb⟩ := he e
        obtain ⟨q1, m1⟩ := ef1 ea
        obtain ⟨q2, m2⟩ := ef2 eb
        exact ⟨q2.trans q1, (m1.trans m2).trans sm⟩
    | exc c k p => exact (noExc_not e3).elim
    | stuck => rw [e3] at h; exact h.elim
  · exact h.elim
end
section
variable {J : Info} {fs : List Fn} {ca : Nat → Addr} {k : Nat} {N : List Str} {sc : Scope} {W : WX} {X : Cx} {S : List Nat}
/-- the judgement -/
abbrev SE (ca : Nat → Addr) (fs : List Fn) (k : Nat) (S : List Nat) (W : WX) (X : Cx) (e : E) (x : Expr) : Prop := PE X x (tS X.K ca (runF fs k) S W e)
abbrev ST (ca : Nat → Addr) (fs : List Fn) (k : Nat) (S : List Nat) (W : WX) (X : Cx) (e : E) (x : Expr) : Prop := PT X x (tT X.K ca (runF fs k) S W e)
theorem Cxt.hu (C : Cxt J fs ca k N sc W X) : X.A.units + 64 < cLine := by have := C.room.un; omega
theorem vis_of {x : Str} (C : Cxt J fs ca k N sc W X) (h : visB sc x = true) : Vis X.env.scope x := by
  rw [C.sc]
  unfold visB at h
  split at h <;> rename_i e <;> first | exact .inl e | exact .inr (.inl e) | exact .inr (.inr e) | cases h
theorem gl_of {x : Str} (C : Cxt J fs ca k N sc W X) (h : glB sc x = true) : Gl X x := by
  show X.env.scope.names.lookup x = some .globalImplicit
  rw [C.sc]
  unfold glB at h
  split at h <;> rename_i e <;> first | exact e | cases h
theorem name_of {x : Str} {i : Nat} (C : Cxt J fs ca k N sc W X) (h : nameB N sc i x = true) : X.N[i]? = some x ∧ Vis X.env.scope x ∧ (x == ("__debug__" : Str)) = false ∧ (x == ("__classdict__" : Str)) = false := by
  simp only [nameB, okName, Bool.and_eq_true, decide_eq_true_eq, Bool.not_eq_true'] at h
  exact ⟨by rw [C.N]; exact h.1.1, vis_of C h.1.2, h.2.1.1, h.2.1.2⟩
theorem pe_nm {x : Str} {i : Nat} {p : Pos} (C : Cxt J fs ca k N sc W X) (h : nameB N sc i x = true) : PE X (.Name x p) (tVar i) := by
  obtain ⟨h1, h2, h3, h4⟩ := name_of C h
  exact pe_var h1 h2 h3 h4
theorem s_var {i : Nat} {x : Expr} (C : Cxt J fs ca k N sc W X) (h : mE J N (.var i) sc x = true) : SE ca fs k S W X (.var i) x := by
  simp only [mE] at h
  split at h <;> try (cases h; done)
  refine (pe_nm C h).weaken fun σ H Q ⟨ρ, A, rep, q⟩ => ?_
  simp only [ev] at q
  cases e : rd ρ i with
  | ok r =>
    rw [e] at q
    obtain ⟨v, ev1, _, rv⟩ := rd_ok rep e
    exact ⟨v, ev1, q v H A rep (Stp.refl _ _) rv fun _ => ⟨rfl, Same.refl _⟩⟩
  | exc c k p =>
    unfold rd at e
    split at e <;> cases e
  | stuck => rw [e] at q; exact q.elim
theorem rn_const {K : PySem.W.Frag} {vs : List Nat} {σ : L2.St} {H : Hp} {A : Own} {ρ : Env} {Q : VK} {b : Bool} {d : D} {v : V} (rep : Rep K H S σ ρ A) (r : DpR K H v d []) (hi : imm d = true) (q : Rn K ca S W σ vs false H A (.ok ((b, d), ρ)) Q) : Q v H :=
  q v H A rep (Stp.refl _ _) (RVal.of_imm r hi) fun _ => ⟨rfl, Same.refl _⟩
theorem s_int {n : Int} {x : Expr} (C : Cxt J fs ca k N sc W X) (h : mE J N (.int n) sc x = true) : SE ca fs k S W X (.int n) x := by
  simp only [mE] at h
  split at h <;> try (cases h; done)
  · simp only [decide_eq_true_eq] at h
    subst h
    exact pe_int.weaken fun σ H Q ⟨ρ, A, rep, q⟩ => rn_const rep (.int _) rfl q
  · simp only [Bool.and_eq_true, decide_eq_true_eq] at h
    obtain ⟨⟨h1, h2⟩, h3⟩ := h
    obtain ⟨t, ht⟩ := C.gc _ _ h3
    simp only [okName, Bool.and_eq_true, Bool.not_eq_true'] at h2
    exact (pe_glob (v := .int n) (gl_of C h1) ht ⟨t, rfl⟩ (hd := h2.1.1)).weaken fun σ H Q ⟨ρ, A, rep, q⟩ => rn_const rep (.int _) rfl q
theorem s_str {n : Str} {x : Expr} (h : mE J N (.str n) sc x = true) : SE ca fs k S W X (.str n) x := by
  simp only [mE] at h
  split at h <;> try (cases h; done)
  simp only [decide_eq_true_eq] at h
  subst h
  exact pe_str.weaken fun σ H Q ⟨ρ, A, rep, q⟩ => rn_const rep (.str _) rfl q
theorem s_bl {n : Bool} {x : Expr} (h : mE J N (.bl n) sc x = true) : SE ca fs k S W X (.bl n) x := by
  simp only [mE] at h
  split at h <;> try (cases h; done)
  simp only [decide_eq_true_eq] at h
  subst h
  exact pe_bl.weaken fun σ H Q ⟨ρ, A, rep, q⟩ => rn_const rep (.bl _) rfl q
theorem s_non {x : Expr} (h : mE J N .non sc x = true) : SE ca fs k S W X .non x := by
  simp only [mE] at h
  split at h <;> try (cases h; done)
  exact pe_non.weaken fun σ H Q ⟨ρ, A, rep, q⟩ => rn_const rep .non rfl q
theorem mark_of {b : Expr} {op : CmpOp} (h : plainX b = true) : behindInMarks op b = false := by
  cases b <;> first | rfl | (simp [plainX] at h)
theorem s_op2 {o : O2} {a b : E} {x : Expr} (C : Cxt J fs ca k N sc W X) (ia : ∀ x, mE J N a sc x = true → SE ca fs k S W X a x) (ib : ∀ x, mE J N b sc x = true → SE ca fs k S W X b x)
    (h : mE J N (.op2 o a b) sc x = true) : SE ca fs k S W X (.op2 o a b) x := by
  have wk : ∀ σ H Q, tS X.K ca (runF fs k) S W (.op2 o a b) σ H Q → tOp (r2 X.K (op2 o)) (tS X.K ca (runF fs k) S W a) (tS X.K ca (runF fs k) S W b) σ H Q := fun σ H Q ⟨ρ, A, rep, q⟩ => by
    simp only [ev] at q
    exact w_op2 (vs := vars (.op2 o a b)) (ef := eff (.op2 o a b)) (fun i hi => List.mem_append_left _ hi) (fun i hi => List.mem_append_right _ hi) (fun e => by simpa [eff] using e) rep q
  simp only [mE] at h
  split at h <;> try (cases h; done)
  · simp only [Bool.and_eq_true, decide_eq_true_eq] at h
    obtain ⟨⟨e, h1⟩, h2⟩ := h
    cases o <;> simp only [binOf] at e <;> cases e
    · exact (pe_op o_add (ia _ h1) (ib _ h2)).weaken wk
    · exact (pe_op o_sub (ia _ h1) (ib _ h2)).weaken wk
    · exact (pe_op o_mul (ia _ h1) (ib _ h2)).weaken wk
    · exact (pe_op o_fdiv (ia _ h1) (ib _ h2)).weaken wk
    · exact (pe_op o_mod (ia _ h1) (ib _ h2)).weaken wk
    · exact (pe_op o_pow (ia _ h1) (ib _ h2)).weaken wk
  · simp only [Bool.and_eq_true, decide_eq_true_eq] at h
    obtain ⟨⟨⟨e, pl⟩, h1⟩, h2⟩ := h
    cases o <;> simp only [cmpOf] at e <;> cases e
    · exact (pe_cmpR (o_eq C.hu) (ia _ h1) (ib _ h2) (mark_of pl)).weaken wk
    · exact (pe_cmpR (o_ne C.hu) (ia _ h1) (ib _ h2) (mark_of pl)).weaken wk
    · exact (pe_cmpR (o_lt C.hu) (ia _ h1) (ib _ h2) (mark_of pl)).weaken wk
    · exact (pe_cmpR (o_le C.hu) (ia _ h1) (ib _ h2) (mark_of pl)).weaken wk
    · exact (pe_cmpR (o_gt C.hu) (ia _ h1) (ib _ h2) (mark_of pl)).weaken wk
    · exact (pe_cmpR (o_ge C.hu) (ia _ h1) (ib _ h2) (mark_of pl)).weaken wk
    · exact (pe_cmpR (o_in C.hu) (ia _ h1) (ib _ h2) (mark_of pl)).weaken wk
    · exact (pe_cmpR (o_nin C.hu) (ia _ h1) (ib _ h2) (mark_of pl)).weaken wk
    · exact (pe_cmpR o_isN (ia _ h1) (ib _ h2) (mark_of pl)).weaken wk
    · exact (pe_cmpR o_ntN (ia _ h1) (ib _ h2) (mark_of pl)).weaken wk
/-- a comparison of two as a test -/
theorem t_op2 {o : O2} {a b : E} {x y : Expr} {p : CmpOp} {pos : Pos} (C : Cxt J fs ca k N sc W X) (ia : SE ca fs k S W X a x) (ib : SE ca fs k S W X b y) (pl : plainX y = true) (e : cmpOf o = some p) :
    ST ca fs k S W X (.op2 o a b) (.Compare x [p] [y] pos) := by
  have wk : ∀ σ H Q, tT X.K ca (runF fs k) S W (.op2 o a b) σ H Q → tTest (tOp (r2 X.K (op2 o)) (tS X.K ca (runF fs k) S W a) (tS X.K ca (runF fs k) S W b)) σ H Q := fun σ H Q q => by
    obtain ⟨ρ, A, rep, q⟩ := (tT_tB q : tB _ σ H Q)
    simp only [ev] at q
    exact w_op2 (vs := vars (.op2 o a b)) (ef := eff (.op2 o a b)) (fun i hi => List.mem_append_left _ hi) (fun i hi => List.mem_append_right _ hi) (fun e => by simpa [eff] using e) rep q
  cases o <;> simp only [cmpOf] at e <;> cases e
  · exact (pt_cmpR (o_eq C.hu) ia ib (mark_of pl)).weaken wk
  · exact (pt_cmpR (o_ne C.hu) ia ib (mark_of pl)).weaken wk
  · exact (pt_cmpR (o_lt C.hu) ia ib (mark_of pl)).weaken wk
  · exact (pt_cmpR (o_le C.hu) ia ib (mark_of pl)).weaken wk
  · exact (pt_cmpR (o_gt C.hu) ia ib (mark_of pl)).weaken wk
  · exact (pt_cmpR (o_ge C.hu) ia ib (mark_of pl)).weaken wk
  · exact (pt_cmpR (o_in C.hu) ia ib (mark_of pl)).weaken wk
  · exact (pt_cmpR (o_nin C.hu) ia ib (mark_of pl)).weaken wk
  · exact (pt_cmpR o_isN ia ib (mark_of pl)).weaken wk
  · exact (pt_cmpR o_ntN ia ib (mark_of pl)).weaken wk
end
end PV
set_option Elab.async false
set_option linter.all false
set_option maxRecDepth 100000
set_option maxHeartbeats 1000000
/-! PV7: expressions, further. -/
namespace PV
open PySem PySem.Spec PyProof.Rows L2
section
variable {J : Info} {fs : List Fn} {ca : Nat → Addr} {k : Nat} {N : List Str} {sc : Scope} {W : WX} {X : Cx} {S : List Nat}
/-- the last part of an expression -/
theorem tS_tail {K : PySem.W.Frag} {cf : CF} {σ : L2.St} {H0 H : Hp} {A0 A : Own} {ρ0 ρ : Env} {vs : List Nat} {ef : Bool} {Q : VK} {b : E} (r0 : Rep K H0 S σ ρ0 A0) (s0 : Stp H0 A0 H A) (rep : Rep K H S σ ρ A) (hv : ∀ i, i ∈ vars b → i ∈ vs)
    (he : ef = false → (A = A0 ∧ Same H0 H) ∧ eff b = false) (h : Rn K ca S W σ vs ef H0 A0 (ev cf b ρ) Q) : tS K ca cf S W b σ H Q := by
  have e : ev cf b ρ = (ev cf b ρ >>= fun z => .ok z) := by cases ev cf b ρ <;> rfl
  rw [e] at h
  refine tS_bind r0 s0 rep h fun r2 ρ2 v2 H2 A2 r2' s2 rv2 ef2 q => ?_
  refine q v2 H2 A2 r2' (Stp.trans r0 s0 s2) ((rv2.since r0 s0).sub fun i hi => ?_) fun e => ?_
  · exact (List.mem_append.mp hi).elim (fun m => List.mem_append_left _ (hv i m)) fun m => List.mem_append_right _ m
  · obtain ⟨⟨e1, m1⟩, e2⟩ := he e
    obtain ⟨e3, m2⟩ := ef2 e2
    exact ⟨e3.trans e1, m1.trans m2⟩
theorem tT_tail {K : PySem.W.Frag} {cf : CF} {σ : L2.St} {H0 H : Hp} {A0 A : Own} {ρ0 ρ : Env} {ef : Bool} {Q : Bool → Hp → Prop} {b : E} (r0 : Rep K H0 S σ ρ0 A0) (s0 : Stp H0 A0 H A) (rep : Rep K H S σ ρ A)
    (he : ef = false → (A = A0 ∧ Same H0 H) ∧ eff b = false) (h : RnT K ca S W σ ef H0 A0 (ev cf b ρ) Q) : tT K ca cf S W b σ H Q := by
  refine ⟨ρ, A, rep, ?_⟩
  rcases e : ev cf b ρ with ⟨⟨o, d⟩, ρ1⟩ | ⟨c, k, p⟩ | _
  · rw [e] at h
    cases d <;> try exact h
    intro H1 A1 r1 s1 ef1
    refine h H1 A1 r1 (Stp.trans r0 s0 s1) fun q => ?_
    obtain ⟨⟨e1, m1⟩, e2⟩ := he q
    obtain ⟨e3, m2⟩ := ef1 e2
    exact ⟨e3.trans e1, m1.trans m2⟩
  · rw [e] at h
    have h' : ExQ K ca H0 A0 (fun a b H' => W a b σ H') c k p := h
    exact ExQ.before r0 s0 h'
  · rw [e] at h
    exact h
/-- a test runs first -/
theorem tT_first {K : PySem.W.Frag} {cf : CF} {σ : L2.St} {H : Hp} {A : Own} {ρ : Env} {ef : Bool} {Q : Bool → Hp → Prop} {a : E} {f : Bool × Env → Res (R × Env)} {Q1 : Bool → Hp → Prop} (rep : Rep K H S σ ρ A)
    (h : RnT K ca S W σ ef H A (ev cf a ρ >>= fun x => asBool x.1.2 >>= fun b => f (b, x.2)) Q)
    (hq : ∀ b ρ1 H1 A1, Rep K H1 S σ ρ1 A1 → Stp H A H1 A1 → (eff a = false → A1 = A ∧ Same H H1) → RnT K ca S W σ ef H A (f (b, ρ1)) Q → Q1 b H1) : tT K ca cf S W a σ H Q1 := by
  refine ⟨ρ, A, rep, ?_⟩
  rcases e : ev cf a ρ with ⟨⟨o, d⟩, ρ1⟩ | ⟨c, k, p⟩ | _
  · rw [e] at h
    cases d <;> try exact h
    exact fun H1 A1 r1 s1 ef1 => hq _ ρ1 H1 A1 r1 s1 ef1 h
  · rw [e] at h
    exact h
  · rw [e] at h
    exact h
theorem st_of {e : E} {x : Expr} (h : SE ca fs k S W X e x) (he : ∀ whole, isTrue x X.env whole = (do let v ← whole; standAt x.pos; holding [v] (truthy v))) : ST ca fs k S W X e x := (pt_val h he).weaken fun _ _ _ q => tT_tB q
theorem pw_of {op : BoolOp} {l : List Expr} {p : Pos} {t : TT} (h : PT X (.BoolOp op l p) t) : PW X (.BoolOp op l p) t := ⟨fun wh pins s σ H Q I q => h.run pins s σ H Q I q⟩
theorem s_neg {a : E} {x : Expr} {p : Pos} (ia : SE ca fs k S W X a x) : SE ca fs k S W X (.op1 .neg a) (.UnaryOp .USub x p) := by
  refine (pe_un un_neg ia).weaken fun σ H Q ⟨ρ, A, rep, q⟩ => ?_
  simp only [ev] at q
  refine tS_bind rep (Stp.refl _ _) rep q fun r ρ1 v1 H1 A1 r1 s1 rv1 ef1 q => ?_
  obtain ⟨o, d⟩ := r
  dsimp only at q
  cases d <;> try (exact q.elim)
  obtain ⟨as, d1, _⟩ := rv1.any
  exact ⟨_, d1.int_inv, q _ H1 A1 r1 s1 (RVal.of_imm (.int _) rfl) ef1⟩
theorem s_nt {a : E} {x : Expr} {p : Pos} (ia : SE ca fs k S W X a x) : SE ca fs k S W X (.op1 .nt a) (.UnaryOp .Not x p) := by
  refine (pe_not ia).weaken fun σ H Q ⟨ρ, A, rep, q⟩ => ?_
  simp only [ev] at q
  refine tS_bind rep (Stp.refl _ _) rep q fun r ρ1 v1 H1 A1 r1 s1 rv1 ef1 q => ?_
  obtain ⟨o, d⟩ := r
  dsimp only at q
  cases d <;> try (exact q.elim)
  obtain ⟨as, d1, _⟩ := rv1.any
  exact ⟨_, d1.bool_inv, q _ H1 A1 r1 s1 (RVal.of_imm (.bl _) rfl) ef1⟩
theorem t_nt {a : E} {x : Expr} {p : Pos} (ia : ST ca fs k S W X a x) : ST ca fs k S W X (.op1 .nt a) (.UnaryOp .Not x p) := by
  refine (pt_not ia).weaken fun σ H Q ⟨ρ, A, rep, q⟩ => ?_
  refine ⟨ρ, A, rep, ?_⟩
  simp only [ev] at q
  rcases e : ev (runF fs k) a ρ with ⟨⟨o, d⟩, ρ1⟩ | ⟨c, k, p⟩ | _
  · rw [e] at q
    cases d <;> try exact q
  · rw [e] at q
    exact q
  · rw [e] at q
    exact q
theorem s_and {a b : E} {x y : Expr} {r : List Expr} {p : Pos} (ia : SE ca fs k S W X a x) (ib : PE X (.BoolOp .And (y :: r) p) (tS X.K ca (runF fs k) S W b)) : SE ca fs k S W X (.and a b) (.BoolOp .And (x :: y :: r) p) := by
  refine (pe_and ia ib).weaken fun σ H Q ⟨ρ, A, rep, q⟩ => ?_
  simp only [ev] at q
  refine tS_bind rep (Stp.refl _ _) rep q fun r ρ1 v1 H1 A1 r1 s1 rv1 ef1 q => ?_
  obtain ⟨o, d⟩ := r
  dsimp only at q
  cases d <;> try (exact q.elim)
  rename_i c
  obtain ⟨as, d1, _⟩ := rv1.any
  refine ⟨_, d1.bool_inv, ?_⟩
  cases c with
  | true =>
    rw [if_pos rfl]
    refine tS_tail rep s1 r1 (fun i hi => List.mem_append_right _ hi) (fun e => ?_) q
    simp only [eff, Bool.or_eq_false_iff] at e
    exact ⟨ef1 e.1, e.2⟩
  | false =>
    rw [if_neg (by decide)]
    refine q _ H1 A1 r1 s1 (RVal.of_imm (.bl false) rfl) fun e => ?_
    simp only [eff, Bool.or_eq_false_iff] at e
    exact ef1 e.1
theorem s_or {a b : E} {x y : Expr} {r : List Expr} {p : Pos} (ia : SE ca fs k S W X a x) (ib : PE X (.BoolOp .Or (y :: r) p) (tS X.K ca (runF fs k) S W b)) : SE ca fs k S W X (.or a b) (.BoolOp .Or (x :: y :: r) p) := by
  refine (pe_or ia ib).weaken fun σ H Q ⟨ρ, A, rep, q⟩ => ?_
  simp only [ev] at q
  refine tS_bind rep (Stp.refl _ _) rep q fun r ρ1 v1 H1 A1 r1 s1 rv1 ef1 q => ?_
  obtain ⟨o, d⟩ := r
  dsimp only at q
  cases d <;> try (exact q.elim)
  rename_i c
  obtain ⟨as, d1, _⟩ := rv1.any
  refine ⟨_, d1.bool_inv, ?_⟩
  cases c with
  | false =>
    rw [if_neg (by decide)]
    refine tS_tail rep s1 r1 (fun i hi => List.mem_append_right _ hi) (fun e => ?_) q
    simp only [eff, Bool.or_eq_false_iff] at e
    exact ⟨ef1 e.1, e.2⟩
  | true =>
    rw [if_pos rfl]
    refine q _ H1 A1 r1 s1 (RVal.of_imm (.bl true) rfl) fun e => ?_
    simp only [eff, Bool.or_eq_false_iff] at e
    exact ef1 e.1
theorem t_and {a b : E} {x y : Expr} {r : List Expr} {p : Pos} (ia : ST ca fs k S W X a x) (ib : PT X (.BoolOp .And (y :: r) p) (tT X.K ca (runF fs k) S W b)) : ST ca fs k S W X (.and a b) (.BoolOp .And (x :: y :: r) p) := by
  refine ((pw_and ia (pw_of ib)).pt).weaken fun σ H Q ⟨ρ, A, rep, q⟩ => ?_
  simp only [ev] at q
  refine tT_first (f := fun z => if z.1 = true then ev (runF fs k) b z.2 else .ok ((true, .bool false), z.2)) rep q fun c ρ1 H1 A1 r1 s1 ef1 q => ?_
  cases c with
  | true =>
    rw [if_pos rfl]
    refine tT_tail rep s1 r1 (fun e => ?_) q
    simp only [eff, Bool.or_eq_false_iff] at e
    exact ⟨ef1 e.1, e.2⟩
  | false =>
    rw [if_neg (by decide)]
    refine q H1 A1 r1 s1 fun e => ?_
    simp only [eff, Bool.or_eq_false_iff] at e
    exact ef1 e.1
theorem t_or {a b : E} {x y : Expr} {r : List Expr} {p : Pos} (ia : ST ca fs k S W X a x) (ib : PT X (.BoolOp .Or (y :: r) p) (tT X.K ca (runF fs k) S W b)) : ST ca fs k S W X (.or a b) (.BoolOp .Or (x :: y :: r) p) := by
  refine ((pw_or ia (pw_of ib)).pt).weaken fun σ H Q ⟨ρ, A, rep, q⟩ => ?_
  simp only [ev] at q
  refine tT_first (f := fun z => if z.1 = true then .ok ((true, .bool true), z.2) else ev (runF fs k) b z.2) rep q fun c ρ1 H1 A1 r1 s1 ef1 q => ?_
  cases c with
  | false =>
    rw [if_neg (by decide)]
    refine tT_tail rep s1 r1 (fun e => ?_) q
    simp only [eff, Bool.or_eq_false_iff] at e
    exact ⟨ef1 e.1, e.2⟩
  | true =>
    rw [if_pos rfl]
    refine q H1 A1 r1 s1 fun e => ?_
    simp only [eff, Bool.or_eq_false_iff] at e
    exact ef1 e.1
theorem s_ite {c a b : E} {x y z : Expr} {p : Pos} (ic : ST ca fs k S W X c x) (ia : SE ca fs k S W X a y) (ib : SE ca fs k S W X b z) : SE ca fs k S W X (.ite c a b) (.IfExp x y z p) := by
  refine (pe_ifExp ic ia ib).weaken fun σ H Q ⟨ρ, A, rep, q⟩ => ?_
  simp only [ev] at q
  refine tT_bind (f := fun z => if z.1 = true then ev (runF fs k) a z.2 else ev (runF fs k) b z.2) rep (Stp.refl _ _) rep q fun c ρ1 H1 A1 r1 s1 ef1 q => ?_
  cases c with
  | true =>
    rw [if_pos rfl]
    refine tS_tail rep s1 r1 (fun i hi => List.mem_append_left _ (List.mem_append_right _ hi)) (fun e => ?_) q
    simp only [eff, Bool.or_eq_false_iff] at e
    exact ⟨ef1 e.1.1, e.1.2⟩
  | false =>
    rw [if_neg (by decide)]
    refine tS_tail rep s1 r1 (fun i hi => List.mem_append_right _ hi) (fun e => ?_) q
    simp only [eff, Bool.or_eq_false_iff] at e
    exact ⟨ef1 e.1.1, e.2⟩
theorem t_ite {c a b : E} {x y z : Expr} {p : Pos} (ic : ST ca fs k S W X c x) (ia : ST ca fs k S W X a y) (ib : ST ca fs k S W X b z) : ST ca fs k S W X (.ite c a b) (.IfExp x y z p) := by
  refine ⟨fun pins s σ H Q I ⟨ρ, A, rep, q⟩ => ?_⟩
  simp only [ev] at q
  rw [PySem.isTrue]
  refine wpAny_bind (thn (ic.run pins s σ H _ I (tT_first (f := fun z => if z.1 = true then ev (runF fs k) a z.2 else ev (runF fs k) b z.2) (Q1 := fun d H1 => if d = true then tT X.K ca (runF fs k) S W a σ H1 Q else tT X.K ca (runF fs k) S W b σ H1 Q) rep q fun d ρ1 H1 A1 r1 s1 ef1 q => ?_)) fun d s1 ⟨H1, I1, q1⟩ => ?_)
  · cases d with
    | true =>
      rw [if_pos rfl]
      refine tT_tail rep s1 r1 (fun e => ?_) q
      simp only [eff, Bool.or_eq_false_iff] at e
      exact ⟨ef1 e.1.1, e.1.2⟩
    | false =>
      rw [if_neg (by decide)]
      refine tT_tail rep s1 r1 (fun e => ?_) q
      simp only [eff, Bool.or_eq_false_iff] at e
      exact ⟨ef1 e.1.1, e.2⟩
  · cases d with
    | true => exact ia.run pins s1 σ H1 Q I1 q1
    | false => exact ib.run pins s1 σ H1 Q I1 q1
theorem o_cmp {o : O2} {p : CmpOp} (C : Cxt J fs ca k N sc W X) (e : cmpOf o = some p) : OpR X (compareOp p) (r2 X.K (op2 o)) := by
  cases o <;> simp only [cmpOf] at e <;> cases e
  · exact o_eq C.hu
  · exact o_ne C.hu
  · exact o_lt C.hu
  · exact o_le C.hu
  · exact o_gt C.hu
  · exact o_ge C.hu
  · exact o_in C.hu
  · exact o_nin C.hu
  · exact o_isN
  · exact o_ntN
theorem OpV.bool {K : PySem.W.Frag} {H H' : Hp} {M : Addr → Prop} {z : V} {b : Bool} (h : OpV K H H' M z (.bool b)) : z = .bl b := by
  rcases h with ⟨_, _, h, _⟩ | ⟨_, _, h, _⟩ <;> exact h.bool_inv
theorem w_cmp3 {a b c : E} {o p : O2} {σ : L2.St} {H : Hp} {Q : VK} {K : PySem.W.Frag} {cf : CF} (h : tS K ca cf S W (.cmp3 o p a b c) σ H Q) : tChain (r2 K (op2 o)) (r2 K (op2 p)) (tS K ca cf S W a) (tS K ca cf S W b) (tS K ca cf S W c) σ H Q := by
  obtain ⟨ρ, A, rep, q⟩ := h
  simp only [ev] at q
  refine tS_bind rep (Stp.refl _ _) rep q fun x ρ1 v1 H1 A1 r1 s1 rv1 ef1 q => ?_
  refine tS_bind rep s1 r1 q fun y ρ2 v2 H2 A2 r2' s2 rv2 ef2 q => ?_
  dsimp only at q
  split at q
  · rename_i hk
    simp only [Bool.and_eq_true] at hk
    obtain ⟨k1, k2⟩ := hk
    have st := Stp.trans rep s1 s2
    cases e3 : noExc (op2 o x.2 y.2) with
    | exc c k p => exact (noExc_not e3).elim
    | stuck => rw [e3] at q; exact q.elim
    | ok d =>
      rw [e3] at q
      have kk : keeps x (eff b) = true := by
        unfold keeps at k1 ⊢
        cases hb : eff b <;> simp_all
      have rv1' := RVal.later rep s1 r1 s2 ef2 kk rv1
      obtain ⟨as, d1, n1⟩ := rv1'.any
      obtain ⟨bs, d2, n2⟩ := rv2.any
      refine ⟨_, _, as, bs, d, d1, d2, noExc_inv e3, fun z H3 sm op => ?_⟩
      simp only [bind_ok] at q
      cases d <;> try (exact q.elim)
      rename_i t
      refine ⟨t, op.bool, ?_⟩
      have r3 := r2'.new sm
      have st3 := st.then_new rep sm
      cases t with
      | false =>
        rw [if_neg (by decide)]
        refine q _ H3 A2 r3 st3 (RVal.of_imm (.bl false) rfl) fun e => ?_
        simp only [eff, Bool.or_eq_false_iff] at e
        obtain ⟨q1, m1⟩ := ef1 e.1.1
        obtain ⟨q2, m2⟩ := ef2 e.1.2
        exact ⟨q2.trans q1, (m1.trans m2).trans sm⟩
      | true =>
        rw [if_pos rfl]
        refine tS_bind rep st3 r3 q fun z' ρ4 v4 H4 A4 r4 s4 rv4 ef4 q => ?_
        dsimp only at q
        have sy : Stp H1 A1 H3 A2 := s2.then_new r1 sm
        have rv2s : RVal K H1 A1 H3 A2 (vars b ++ S) v2 y := by
          refine RVal.later r1 s2 r2' (Stp.new sm) (ef := false) (fun _ => ⟨rfl, sm⟩) ?_ rv2
          simp [keeps]
        have rv2' := RVal.later r1 sy r3 s4 ef4 k2 rv2s
        obtain ⟨cs, d5, n5⟩ := rv2'.any
        obtain ⟨ds, d6, n6⟩ := rv4.any
        cases e4 : noExc (op2 p y.2 z'.2) with
        | exc c k p => exact (noExc_not e4).elim
        | stuck => rw [e4] at q; exact q.elim
        | ok d' =>
          rw [e4] at q
          simp only [bind_ok] at q
          cases d' <;> try (exact q.elim)
          rename_i t
          refine ⟨_, _, cs, ds, _, d5, d6, noExc_inv e4, fun z2 H5 sm5 op5 => ?_⟩
          have e5 := op5.bool
          subst e5
          refine q _ H5 A4 (r4.new sm5) ((Stp.trans rep st3 s4).then_new rep sm5) (RVal.of_imm (.bl t) rfl) fun e => ?_
          simp only [eff, Bool.or_eq_false_iff] at e
          obtain ⟨q1, m1⟩ := ef1 e.1.1
          obtain ⟨q2, m2⟩ := ef2 e.1.2
          obtain ⟨q4, m4⟩ := ef4 e.2
          exact ⟨q4.trans (q2.trans q1), (((m1.trans m2).trans sm).trans m4).trans sm5⟩
  · exact q.elim
theorem s_cmp3 {o p : O2} {a b c : E} {x y z : Expr} {q r : CmpOp} {pos : Pos} (C : Cxt J fs ca k N sc W X) (e1 : cmpOf o = some q) (e2 : cmpOf p = some r) (py : plainX y = true) (pz : plainX z = true)
    (ia : SE ca fs k S W X a x) (ib : SE ca fs k S W X b y) (ic : SE ca fs k S W X c z) : SE ca fs k S W X (.cmp3 o p a b c) (.Compare x [q, r] [y, z] pos) :=
  (pe_chain (o_cmp C e1) (o_cmp C e2) ia ib ic (by show behindInMarks r z = false; exact mark_of pz)).weaken fun _ _ _ h => w_cmp3 h
theorem t_cmp3 {o p : O2} {a b c : E} {x y z : Expr} {q r : CmpOp} {pos : Pos} (C : Cxt J fs ca k N sc W X) (e1 : cmpOf o = some q) (e2 : cmpOf p = some r) (py : plainX y = true) (pz : plainX z = true)
    (ia : SE ca fs k S W X a x) (ib : SE ca fs k S W X b y) (ic : SE ca fs k S W X c z) : ST ca fs k S W X (.cmp3 o p a b c) (.Compare x [q, r] [y, z] pos) :=
  (pt_chain (o_cmp C e1) (o_cmp C e2) ia ib ic (by show behindInMarks r z = false; exact mark_of pz)).weaken fun _ _ _ h => w_cmp3 (tT_tB h)
end
end PV
set_option Elab.async false
set_option linter.all false
set_option maxRecDepth 100000
set_option maxHeartbeats 1000000
/-! PV8: argument lists, built-ins, subscripts, displays. -/
namespace PV
open PySem PySem.Spec PyProof.Rows L2
/-- what is wanted behind a piece, whatever it gives -/
def RG {α : Type} (K : PySem.W.Frag) (ca : Nat → Addr) (W : WX) (σ : L2.St) (H : Hp) (A : Own) (P : α → Prop) : Res α → Prop
  | .ok x => P x
  | .exc c k p => ExQ K ca H A (fun a b H' => W a b σ H') c k p
  | .stuck => False
/-- a piece that raises nothing -/
def NE {α : Type} (x : Res α) : Prop := ∀ c k p, x ≠ .exc c k p
theorem RG.pure {α β : Type} {K : PySem.W.Frag} {ca : Nat → Addr} {W : WX} {σ : L2.St} {H : Hp} {A : Own} {P : α → Prop} {x : Res β} {f : β → Res α} (hx : NE x) (h : RG K ca W σ H A P (x >>= f)) : ∃ b, x = .ok b ∧ RG K ca W σ H A P (f b) := by
  cases x with
  | ok b => exact ⟨b, rfl, h⟩
  | exc c k p => exact absurd rfl (hx c k p)
  | stuck => exact h.elim
theorem RG.ite {α : Type} {K : PySem.W.Frag} {ca : Nat → Addr} {W : WX} {σ : L2.St} {H : Hp} {A : Own} {P : α → Prop} {c : Bool} {x : Res α} (h : RG K ca W σ H A P (if c = true then x else .stuck)) : c = true ∧ RG K ca W σ H A P x := by
  cases c with
  | true => exact ⟨rfl, h⟩
  | false => exact h.elim
theorem ne_ok {α : Type} (a : α) : NE (Res.ok a) := fun _ _ _ e => by cases e
theorem ne_st {α : Type} : NE (Res.stuck : Res α) := fun _ _ _ e => by cases e
theorem ne_own (ρ : PV.Env) (i : Nat) : NE (ownList ρ i) := by unfold ownList; split <;> first | exact ne_ok _ | exact ne_st
theorem ne_lst (d : D) : NE (listOf d) := by unfold listOf; split <;> first | exact ne_ok _ | exact ne_st
theorem ne_int (d : D) : NE (asInt d) := by unfold asInt; split <;> first | exact ne_ok _ | exact ne_st
theorem ne_bool (d : D) : NE (asBool d) := by unfold asBool; split <;> first | exact ne_ok _ | exact ne_st
theorem ne_items (d : D) : NE (itemsOf d) := by unfold itemsOf; split <;> first | exact ne_ok _ | exact ne_st
theorem ne_last (d : List D) : NE (lastD d) := by unfold lastD; split <;> first | exact ne_ok _ | exact ne_st
theorem ne_ix (d : List D) (i : Int) : NE (ixD d i) := by unfold ixD; split <;> first | exact ne_ok _ | exact ne_st
theorem ne_at (d : List D) (i : Int) : NE (atD d i) := by
  unfold atD
  split
  · split <;> first | exact ne_ok _ | exact ne_st
  · exact ne_st
theorem ne_set (d : List D) (i : Int) (x : D) : NE (setAt d i x) := by unfold setAt; split <;> first | exact ne_ok _ | exact ne_st
theorem ne_no {α : Type} (x : Res α) : NE (noExc x) := fun _ _ _ e => noExc_not e
theorem own_inv {ρ : PV.Env} {i : Nat} {ds : List D} (h : ownList ρ i = .ok ds) : PV.get ρ i = some (.own (.list ds)) := by
  unfold ownList at h
  split at h
  · rename_i e; cases h; exact e
  · cases h
theorem int_inv {d : D} {i : Int} (h : asInt d = .ok i) : d = .int i := by cases d <;> simp only [asInt] at h <;> cases h; rfl
theorem bool_inv {d : D} {i : Bool} (h : asBool d = .ok i) : d = .bool i := by cases d <;> simp only [asBool] at h <;> cases h; rfl
theorem lst_inv {d : D} {l : List D} (h : listOf d = .ok l) : d = .list l := by cases d <;> simp only [listOf] at h <;> cases h; rfl
theorem last_inv {ds : List D} {d : D} (h : lastD ds = .ok d) : ds[ds.length - 1]? = some d := by
  unfold lastD at h
  split at h
  · rename_i e; cases h; rw [← List.getLast?_eq_getElem?]; exact e
  · cases h
theorem ix_inv {ds : List D} {i : Int} {j : Nat} (h : ixD ds i = .ok j) : PV.ixN ds.length i = some j := by
  unfold ixD at h
  split at h
  · rename_i e; cases h; exact e
  · cases h
theorem at_inv {ds : List D} {i : Int} {d : D} (h : atD ds i = .ok d) : ∃ j, PV.ixN ds.length i = some j ∧ ds[j]? = some d := by
  unfold atD at h
  split at h
  · rename_i j e
    split at h
    · rename_i e2; cases h; exact ⟨j, e, e2⟩
    · cases h
  · cases h
theorem set_inv {ds es : List D} {i : Int} {d : D} (h : setAt ds i d = .ok es) : ∃ j, PV.ixN ds.length i = some j ∧ es = ds.set j d := by
  unfold setAt at h
  split at h
  · rename_i j e; cases h; exact ⟨j, e, rfl⟩
  · cases h
def PR (K : PySem.W.Frag) (S : List Nat) (σ : L2.St) (vs : List Nat) (ef : Bool) (H : Hp) (A : Own) (Q : VK) (x : R × Env) : Prop :=
  ∀ v H' A', Rep K H' S σ x.2 A' → Stp H A H' A' → RVal K H A H' A' (vs ++ S) v x.1 → (ef = false → A' = A ∧ Same H H') → Q v H'
theorem rn_rg {K : PySem.W.Frag} {ca : Nat → Addr} {S : List Nat} {W : WX} {σ : L2.St} {vs : List Nat} {ef : Bool} {H : Hp} {A : Own} {res : Res (R × Env)} {Q : VK} : Rn K ca S W σ vs ef H A res Q ↔ RG K ca W σ H A (PR K S σ vs ef H A Q) res := by
  cases res <;> exact Iff.rfl
section
variable {K : PySem.W.Frag} {ca : Nat → Addr} {cf : CF} {S : List Nat} {W : WX} {σ : L2.St} {H0 H : Hp} {A0 A : Own} {ρ0 ρ : Env} {vs : List Nat} {ef : Bool} {α : Type} {P : α → Prop}
theorem tS_first {a : E} {f : R × Env → Res α} {Q1 : VK} (r0 : Rep K H0 S σ ρ0 A0) (s0 : Stp H0 A0 H A) (rep : Rep K H S σ ρ A) (h : RG K ca W σ H0 A0 P (ev cf a ρ >>= f))
    (hq : ∀ r ρ1 v H1 A1, Rep K H1 S σ ρ1 A1 → Stp H A H1 A1 → RVal K H A H1 A1 (vars a ++ S) v r → (eff a = false → A1 = A ∧ Same H H1) → RG K ca W σ H0 A0 P (f (r, ρ1)) → Q1 v H1) : tS K ca cf S W a σ H Q1 := by
  refine ⟨ρ, A, rep, ?_⟩
  rcases e : ev cf a ρ with ⟨r, ρ1⟩ | ⟨c, k, p⟩ | _
  · rw [e] at h
    exact fun v H1 A1 r1 s1 rv ef1 => hq r ρ1 v H1 A1 r1 s1 rv ef1 h
  · rw [e] at h
    have h' : ExQ K ca H0 A0 (fun a b H' => W a b σ H') c k p := h
    exact ExQ.before r0 s0 h'
  · rw [e] at h
    exact h
/-- several values: all new, or together held -/
def RVs (K : PySem.W.Frag) (H : Hp) (A : Own) (H' : Hp) (A' : Own) (vs : List Nat) (xs : List V) (rs : List R) : Prop :=
  (rs.all (fun x => x.1 || imm x.2) = true → ∃ as, DpRs K H' xs (rs.map (·.2)) as ∧ as.Nodup ∧ (∀ a ∈ as, ¬ Bd A' a ∧ a ∉ A'.fr) ∧ ∀ a ∈ as, Bd A a ∨ H a = none) ∧
    ∃ as, DpRs K H' xs (rs.map (·.2)) as ∧ ∀ a ∈ as, ∀ i, i ∉ vs → a ∉ A' i
def PRs (K : PySem.W.Frag) (S : List Nat) (σ : L2.St) (vs : List Nat) (ef : Bool) (H : Hp) (A : Own) (Q : List V → Hp → Prop) (x : List R × Env) : Prop :=
  ∀ v H' A', Rep K H' S σ x.2 A' → Stp H A H' A' → RVs K H A H' A' (vs ++ S) v x.1 → (ef = false → A' = A ∧ Same H H') → Q v H'
def tSs (K : PySem.W.Frag) (ca : Nat → Addr) (cf : CF) (S : List Nat) (W : WX) (es : Es) : TA := fun σ H Q => ∃ ρ A, Rep K H S σ ρ A ∧ RG K ca W σ H A (PRs K S σ (varss es) (effs es) H A Q) (evs cf es ρ)
theorem tSs_first {a : Es} {f : List R × Env → Res α} {Q1 : List V → Hp → Prop} (r0 : Rep K H0 S σ ρ0 A0) (s0 : Stp H0 A0 H A) (rep : Rep K H S σ ρ A) (h : RG K ca W σ H0 A0 P (evs cf a ρ >>= f))
    (hq : ∀ r ρ1 v H1 A1, Rep K H1 S σ ρ1 A1 → Stp H A H1 A1 → RVs K H A H1 A1 (varss a ++ S) v r → (effs a = false → A1 = A ∧ Same H H1) → RG K ca W σ H0 A0 P (f (r, ρ1)) → Q1 v H1) : tSs K ca cf S W a σ H Q1 := by
  refine ⟨ρ, A, rep, ?_⟩
  rcases e : evs cf a ρ with ⟨r, ρ1⟩ | ⟨c, k, p⟩ | _
  · rw [e] at h
    exact fun v H1 A1 r1 s1 rv ef1 => hq r ρ1 v H1 A1 r1 s1 rv ef1 h
  · rw [e] at h
    have h' : ExQ K ca H0 A0 (fun a b H' => W a b σ H') c k p := h
    exact ExQ.before r0 s0 h'
  · rw [e] at h
    exact h
/-- a value in front of others -/
theorem RVs.cons {H1 H2 : Hp} {A1 A2 : Own} {ρ1 : Env} {us ws : List Nat} {v : V} {r : R} {xs : List V} {rs : List R} {ef : Bool} (r0 : Rep K H S σ ρ A) (s : Stp H A H1 A1) (r1 : Rep K H1 S σ ρ1 A1) (t : Stp H1 A1 H2 A2)
    (he : ef = false → A2 = A1 ∧ Same H1 H2) (hk : keeps r ef = true) (h : RVal K H A H1 A1 us v r) (g : RVs K H1 A1 H2 A2 ws xs rs) (hu : ∀ i ∈ us, i ∈ vs) (hw : ∀ i ∈ ws, i ∈ vs) : RVs K H A H2 A2 vs (v :: xs) (r :: rs) := by
  have h' := RVal.later r0 s r1 t he hk h
  refine ⟨fun e => ?_, ?_⟩
  · simp only [List.all_cons, Bool.and_eq_true] at e
    obtain ⟨bs, g1, g2, g3, g4⟩ := g.1 e.2
    have own : ∃ as, DpR K H2 v r.2 as ∧ as.Nodup ∧ (∀ a ∈ as, ¬ Bd A2 a ∧ a ∉ A2.fr) ∧ (∀ a ∈ as, Bd A a ∨ H a = none) ∧ ∀ a ∈ as, a ∉ bs := by
      by_cases hi : imm r.2 = true
      · obtain ⟨as, d1, _⟩ := h'.any
        have e0 := d1.imm hi
        subst e0
        exact ⟨[], d1, .nil, fun _ m => by simp at m, fun _ m => by simp at m, fun _ m => by simp at m⟩
      · rcases h with ⟨_, as, h1, h2, h3, h4⟩ | ⟨e0, _⟩
        · refine ⟨as, h1.keep (t.fix r1) (fun a ha ys hy => t.keep a _ hy (h3 a ha).1), h2, fun a ha => ⟨fun b => ?_, fun b => ?_⟩, h4, fun a ha hb => ?_⟩
          · rcases t.own a b with b | b
            · exact (h3 a ha).1 b
            · obtain ⟨ys, q⟩ := h1.trk a ha
              rw [b] at q
              cases q
          · rcases t.fro a b with b | b | b
            · exact (h3 a ha).2 b
            · exact (h3 a ha).1 b
            · obtain ⟨ys, q⟩ := h1.trk a ha
              rw [b] at q
              cases q
          · rcases g4 a hb with b | b
            · exact (h3 a ha).1 b
            · obtain ⟨ys, q⟩ := h1.trk a ha
              rw [b] at q
              cases q
        · rw [e0] at e
          exact absurd (by simpa using e.1) hi
    obtain ⟨as, d1, d2, d3, d4, d5⟩ := own
    refine ⟨as ++ bs, .cons d1 g1, List.nodup_append.mpr ⟨d2, g2, fun a ha b hb q => d5 a ha (q ▸ hb)⟩, fun a ha => ?_, fun a ha => ?_⟩
    · exact (List.mem_append.mp ha).elim (d3 a) (g3 a)
    · exact (List.mem_append.mp ha).elim (d4 a) fun m => (g4 a m).elim (s.own a) fun q => .inr (s.there r0 q)
  · obtain ⟨as, d1, n1⟩ := h'.any
    obtain ⟨bs, d2, n2⟩ := g.2
    exact ⟨as ++ bs, .cons d1 d2, fun a ha i hi => (List.mem_append.mp ha).elim (fun m => n1 a m i fun q => hi (hu i q)) fun m => n2 a m i fun q => hi (hw i q)⟩
end
section
variable {J : Info} {fs : List Fn} {ca : Nat → Addr} {k : Nat} {N : List Str} {sc : Scope} {W : WX} {X : Cx} {S : List Nat}
abbrev SA (ca : Nat → Addr) (fs : List Fn) (k : Nat) (S : List Nat) (W : WX) (X : Cx) (es : Es) (xs : List Expr) : Prop := PA X xs (tSs X.K ca (runF fs k) S W es)
theorem _root_.L2.PA.weaken {X : Cx} {e : List Expr} {t t' : TA} (h : PA X e t) (w : ∀ σ H Q, t' σ H Q → t σ H Q) : PA X e t' := ⟨fun pos pins s σ H Q I q => h.run pos pins s σ H Q I (w σ H Q q)⟩
theorem star_of {x : Expr} {xs : List Expr} {env : PySem.Env} (h : plainX x = true) : starEach (x :: xs) env = (false, eval x env) :: starEach xs env := by
  cases x <;> first | rfl | (simp [plainX] at h)
theorem a_nil : SA ca fs k S W X .nil [] := pa_nil.weaken fun σ H Q ⟨ρ, A, rep, q⟩ =>
  q [] H A rep (Stp.refl _ _) ⟨fun _ => ⟨[], .nil, .nil, fun _ m => by simp at m, fun _ m => by simp at m⟩, [], .nil, fun _ m => by simp at m⟩ fun _ => ⟨rfl, Same.refl _⟩
theorem a_cons {e : E} {r : Es} {x : Expr} {xs : List Expr} (pl : plainX x = true) (ie : SE ca fs k S W X e x) (ir : SA ca fs k S W X r xs) : SA ca fs k S W X (.cons e r) (x :: xs) := by
  refine (pa_cons ie ir (star_of pl)).weaken fun σ H Q ⟨ρ, A, rep, q⟩ => ?_
  simp only [evs] at q
  refine tS_first rep (Stp.refl _ _) rep q fun x ρ1 v1 H1 A1 r1 s1 rv1 ef1 q => ?_
  refine tSs_first rep s1 r1 q fun ys ρ2 vs2 H2 A2 r2 s2 rv2 ef2 q => ?_
  dsimp only at q
  split at q
  · rename_i hk
    refine q _ H2 A2 r2 (Stp.trans rep s1 s2) (RVs.cons rep s1 r1 s2 ef2 hk rv1 rv2 (fun i hi => ?_) fun i hi => ?_) fun e => ?_
    · exact (List.mem_append.mp hi).elim (fun m => List.mem_append_left _ (List.mem_append_left _ m)) fun m => List.mem_append_right _ m
    · exact (List.mem_append.mp hi).elim (fun m => List.mem_append_left _ (List.mem_append_right _ m)) fun m => List.mem_append_right _ m
    · simp only [effs, Bool.or_eq_false_iff] at e
      obtain ⟨q1, m1⟩ := ef1 e.1
      obtain ⟨q2, m2⟩ := ef2 e.2
      exact ⟨q2.trans q1, m1.trans m2⟩
  · exact q.elim
theorem blt_of {x : Str} (C : Cxt J fs ca k N sc W X) (h : x ∈ blts) : X.mg x = none := C.blt x h
theorem w_bi {f : Bi} {as : Es} {σ : L2.St} {H : Hp} {Q : VK} {K : PySem.W.Frag} {cf : CF} (h : tS K ca cf S W (.bi f as) σ H Q) : tCB (rb K (bi f)) (tSs K ca cf S W as) σ H Q := by
  obtain ⟨ρ, A, rep, q⟩ := h
  rw [rn_rg] at q
  simp only [ev] at q
  refine tSs_first rep (Stp.refl _ _) rep q fun rs ρ1 vs1 H1 A1 r1 s1 rv1 ef1 q => ?_
  dsimp only at q
  cases e3 : noExc (bi f (rs.map (·.2))) with
  | exc c k p => exact (noExc_not e3).elim
  | stuck => rw [e3] at q; exact q.elim
  | ok d =>
    rw [e3] at q
    obtain ⟨as, d1, n1⟩ := rv1.2
    refine ⟨_, as, d, d1, noExc_inv e3, fun z H' sm op => q z H' A1 (r1.new sm) (s1.then_new rep sm) (RVal.of_op rep s1 r1 (fun c hc i hi => n1 c hc i hi) op) fun e => ?_⟩
    obtain ⟨q1, m1⟩ := ef1 e
    exact ⟨q1, m1.trans sm⟩
def plainAllX (xs : List Expr) : Bool := xs.all plainX
theorem back_of {pos : Pos} {env : PySem.Env} : ∀ {xs : List Expr}, plainAllX xs = true → (backTo pos (starEach xs env)).any (·.1) = false
  | [], _ => rfl
  | x :: xs, h => by
    simp only [plainAllX, List.all_cons, Bool.and_eq_true] at h
    rw [star_of h.1]
    have ih := back_of (pos := pos) (env := env) (xs := xs) h.2
    simp only [backTo, List.map_cons, List.any_cons] at ih ⊢
    rw [ih]
    rfl
theorem maxD_eq (x : D) (xs : List D) : PV.maxD x xs = PySem.W.maxD x xs := rfl
theorem minD_eq (x : D) (xs : List D) : PV.minD x xs = PySem.W.minD x xs := rfl
theorem alike_of {x : D} {r : List D} (h : (immAll (x :: r) && alikeAll2 (x :: r) && decide (PyData.depthAll (x :: r) ≤ 60) && (x :: r).all (fun y => match y with | .none => false | _ => true)) = true) : PySem.W.AlikeAll (x :: r) ∧ PyData.depthAll (x :: r) ≤ 60 ∧ immAll (x :: r) = true := by
  rw [Bool.and_eq_true, Bool.and_eq_true, Bool.and_eq_true, decide_eq_true_eq] at h
  obtain ⟨⟨⟨h0, h1⟩, h2⟩, h3⟩ := h
  refine ⟨⟨fun a ha b hb => ?_, fun a ha e => ?_⟩, h2, h0⟩
  · exact List.all_eq_true.mp (List.all_eq_true.mp h1 a ha) b hb
  · have := List.all_eq_true.mp h3 a ha
    subst e
    exact absurd this (by decide)
/-- an item of a list of trees, found by its reading -/
theorem item_of {X : Cx} {pins : List (Addr × Obj)} {σ : L2.St} {H : Hp} {s : Shared} {xs : List V} {ds : List D} {as : List Addr} {its : List Value} (I : Inv X pins σ H s) (r : DpRs X.K H xs ds as) (rv : Vals xs its) {i : Nat} {v : Value} {d : D} {h' : Heap} {bs : List Addr}
    (hv : its[i]? = some v) (hr : Reads h' v d bs) (hk : ∀ b o, s.heap.get? b = some o → h'.get? b = some o) : ∃ x cs, RelV x v ∧ DpR X.K H x d cs ∧ d ∈ ds := by
  obtain ⟨hi, _⟩ := List.getElem?_eq_some_iff.mp hv
  have hx : i < xs.length := by rw [rv.length]; exact hi
  obtain ⟨u, hu, ru⟩ := rv.get (List.getElem?_eq_getElem hx)
  rw [hv] at hu
  cases hu
  obtain ⟨d', cs, h1, h2, h3⟩ := r.at (List.getElem?_eq_getElem hx)
  obtain ⟨es, R1⟩ := sl_of I h2 ru
  have e := PySem.SeqAt.plain_unique d' d v es bs h2.plain (PySem.W.reads_keeps hk R1) hr
  subst e
  exact ⟨_, cs, ru, h2, List.mem_of_getElem? h1⟩
theorem imm_mem : ∀ {l : List D} {d : D}, immAll l = true → d ∈ l → imm d = true
  | x :: r, d, h, m => by
    simp only [immAll, Bool.and_eq_true] at h
    rcases List.mem_cons.mp m with e | m
    · rw [e]; exact h.1
    · exact imm_mem h.2 m
theorem b_max1 (C : Cxt J fs ca k N sc W X) : CallR X (.builtin "max") (rb X.K (bi .max1)) := by
  intro pins s σ H xs us Q I r ⟨ds, as, d, hd, ho, q⟩
  have hu := C.hu
  have go : ∀ l : List D, PV.max1 l = .ok d → ∃ x r, l = x :: r ∧ PySem.W.AlikeAll (x :: r) ∧ PyData.depthAll (x :: r) ≤ 60 ∧ d = PySem.W.maxD x r ∧ immAll l = true := fun l ho => by
    cases l with
    | nil => cases ho
    | cons x r =>
      simp only [PV.max1] at ho
      split at ho
      · rename_i hh
        cases ho
        obtain ⟨h1, h2, h3⟩ := alike_of hh
        exact ⟨x, r, rfl, h1, h2, rfl, h3⟩
      · cases ho
  match ds, hd, ho with
  | [], hd, ho => simp only [bi] at ho; cases ho
  | [.list l], hd, ho =>
    obtain ⟨z, e, h⟩ := hd.one_inv
    subst e
    simp only [bi] at ho
    obtain ⟨x, r', rfl, al, dp, rfl, im⟩ := go l ho
    obtain ⟨a, vs, bs, rfl, r1, h1, e1⟩ := h.list_inv
    obtain ⟨its, rv, hl, _⟩ := I.list (SqL.of h1)
    rw [Vals.ref1 r]
    obtain ⟨as2, R⟩ := Dp.readsAll I _ _ _ r1.dp rv
    refine PySem.W.max_list_data (I.ok.hd C.calm) hl.isList (by simpa using R) al (by omega) fun i v h' tk cs hv hr hk => ?_
    obtain ⟨y, es, ry, dy, hy⟩ := item_of I r1 rv (by simpa using hv) hr hk
    exact ⟨y, H, I.kept hk, ry, q y H (Same.refl H) (.imm dy (imm_mem im hy))⟩
  | [.tuple l], hd, ho =>
    obtain ⟨z, e, h⟩ := hd.one_inv
    subst e
    simp only [bi] at ho
    obtain ⟨x, r', rfl, al, dp, rfl, im⟩ := go l ho
    obtain ⟨a, vs, rfl, h1, r1⟩ := h.tuple_inv
    obtain ⟨its, rv, hl, _⟩ := I.tuple h1
    rw [Vals.ref1 r]
    obtain ⟨as2, R⟩ := Dp.readsAll I _ _ _ r1.dp rv
    refine PySem.W.max_tuple_data (I.ok.hd C.calm) (show s.heap.IsTuple a its.toArray from hl) (by simpa using R) al (by omega) fun i v h' tk cs hv hr hk => ?_
    obtain ⟨y, es, ry, dy, hy⟩ := item_of I r1 rv (by simpa using hv) hr hk
    exact ⟨y, H, I.kept hk, ry, q y H (Same.refl H) (.imm dy (imm_mem im hy))⟩
  | [.none], _, ho => simp only [bi] at ho; cases ho
  | [.bool _], _, ho => simp only [bi] at ho; cases ho
  | [.int _], _, ho => simp only [bi] at ho; cases ho
  | [.str _], _, ho => simp only [bi] at ho; cases ho
  | [.dict _], _, ho => simp only [bi] at ho; cases ho
  | _ :: _ :: _, _, ho => simp only [bi] at ho; cases ho
theorem b_min1 (C : Cxt J fs ca k N sc W X) : CallR X (.builtin "min") (rb X.K (bi .min1)) := by
  intro pins s σ H xs us Q I r ⟨ds, as, d, hd, ho, q⟩
  have hu := C.hu
  have go : ∀ l : List D, PV.min1 l = .ok d → ∃ x r, l = x :: r ∧ PySem.W.AlikeAll (x :: r) ∧ PyData.depthAll (x :: r) ≤ 60 ∧ d = PySem.W.minD x r ∧ immAll l = true := fun l ho => by
    cases l with
    | nil => cases ho
    | cons x r =>
      simp only [PV.min1] at ho
      split at ho
      · rename_i hh
        cases ho
        obtain ⟨h1, h2, h3⟩ := alike_of hh
        exact ⟨x, r, rfl, h1, h2, rfl, h3⟩
      · cases ho
  match ds, hd, ho with
  | [], hd, ho => simp only [bi] at ho; cases ho
  | [.list l], hd, ho =>
    obtain ⟨z, e, h⟩ := hd.one_inv
    subst e
    simp only [bi] at ho
    obtain ⟨x, r', rfl, al, dp, rfl, im⟩ := go l ho
    obtain ⟨a, vs, bs, rfl, r1, h1, e1⟩ := h.list_inv
    obtain ⟨its, rv, hl, _⟩ := I.list (SqL.of h1)
    rw [Vals.ref1 r]
    obtain ⟨as2, R⟩ := Dp.readsAll I _ _ _ r1.dp rv
    refine PySem.W.min_list_data (I.ok.hd C.calm) hl.isList (by simpa using R) al (by omega) fun i v h' tk cs hv hr hk => ?_
    obtain ⟨y, es, ry, dy, hy⟩ := item_of I r1 rv (by simpa using hv) hr hk
    exact ⟨y, H, I.kept hk, ry, q y H (Same.refl H) (.imm dy (imm_mem im hy))⟩
  | [.tuple l], hd, ho =>
    obtain ⟨z, e, h⟩ := hd.one_inv
    subst e
    simp only [bi] at ho
    obtain ⟨x, r', rfl, al, dp, rfl, im⟩ := go l ho
    obtain ⟨a, vs, rfl, h1, r1⟩ := h.tuple_inv
    obtain ⟨its, rv, hl, _⟩ := I.tuple h1
    rw [Vals.ref1 r]
    obtain ⟨as2, R⟩ := Dp.readsAll I _ _ _ r1.dp rv
    refine PySem.W.min_tuple_data (I.ok.hd C.calm) (show s.heap.IsTuple a its.toArray from hl) (by simpa using R) al (by omega) fun i v h' tk cs hv hr hk => ?_
    obtain ⟨y, es, ry, dy, hy⟩ := item_of I r1 rv (by simpa using hv) hr hk
    exact ⟨y, H, I.kept hk, ry, q y H (Same.refl H) (.imm dy (imm_mem im hy))⟩
  | [.none], _, ho => simp only [bi] at ho; cases ho
  | [.bool _], _, ho => simp only [bi] at ho; cases ho
  | [.int _], _, ho => simp only [bi] at ho; cases ho
  | [.str _], _, ho => simp only [bi] at ho; cases ho
  | [.dict _], _, ho => simp only [bi] at ho; cases ho
  | _ :: _ :: _, _, ho => simp only [bi] at ho; cases ho
theorem each_of {X : Cx} {pins : List (Addr × Obj)} {σ : L2.St} {H : Hp} {s : Shared} (I : Inv X pins σ H s) : ∀ {xs : List V} {ds : List D} {as : List Addr} {us : List Value}, DpRs X.K H xs ds as → Vals xs us →
    PySem.W.EachIs (fun v d => ∃ x cs, RelV x v ∧ DpR X.K H x d cs) us ds ∧ PySem.W.EachIs (fun v d => ∃ bs, Reads s.heap v (id d) bs) us ds
  | _, _, _, _, .nil, .nil => ⟨.nil, .nil⟩
  | _, _, _, _, .cons r s', .cons rv rvs => by
    obtain ⟨h1, h2⟩ := each_of I s' rvs
    exact ⟨.cons ⟨_, _, rv, r⟩ h1, .cons (sl_of I r rv) h2⟩
theorem each_back {K : PySem.W.Frag} {H : Hp} : ∀ {us : List Value} {ds : List D}, PySem.W.EachIs (fun v d => ∃ x cs, RelV x v ∧ DpR K H x d cs) us ds → immAll ds = true → ∃ xs, Vals xs us ∧ DpRs K H xs ds []
  | _, _, .nil, _ => ⟨[], .nil, .nil⟩
  | _, _, .cons ⟨x, cs, rv, r⟩ h, hi => by
    simp only [immAll, Bool.and_eq_true] at hi
    obtain ⟨xs, h1, h2⟩ := each_back h hi.2
    have := r.imm hi.1
    subst this
    exact ⟨x :: xs, .cons rv h1, .cons r h2⟩
theorem immAll_iff {ds : List D} : immAll ds = true ↔ ∀ d ∈ ds, imm d = true := by
  induction ds with
  | nil => simp [immAll]
  | cons d ds ih => simp [immAll, ih]
theorem depth_mem : ∀ {l : List D} {d : D}, d ∈ l → d.depth ≤ PyData.depthAll l
  | x :: r, d, m => by
    simp only [PyData.depthAll]
    rcases List.mem_cons.mp m with e | m
    · rw [e]; omega
    · have := depth_mem m; omega
theorem each_one {R : Value → D → Prop} : ∀ {its out : List Value} {l : List D}, PySem.W.EachIs R its l → l.length ≤ 1 → out.Perm its → PySem.W.EachIs R out (l.mergeSort leD)
  | _, _, _, .nil, _, hp => by rw [hp.eq_nil, List.mergeSort_nil]; exact .nil
  | _, _, _, .cons h .nil, _, hp => by rw [List.perm_singleton.mp hp, List.mergeSort_singleton]; exact .cons h .nil
  | _, _, _, .cons _ (.cons _ _), h1, _ => by simp at h1
theorem b_sorted (C : Cxt J fs ca k N sc W X) : CallR X (.builtin "sorted") (rb X.K (bi .sorted)) := by
  intro pins s σ H xs us Q I r ⟨ds, as, d, hd, ho, q⟩
  have hu := C.hu
  match ds, hd, ho with
  | [], hd, ho => simp only [bi] at ho; cases ho
  | [.list l], hd, ho =>
    obtain ⟨z, e, h⟩ := hd.one_inv
    subst e
    simp only [bi] at ho
    split at ho
    · rename_i hs
      cases ho
      unfold sortB at hs
      simp only [Bool.and_eq_true, Bool.or_eq_true, decide_eq_true_eq] at hs
      obtain ⟨⟨⟨⟨im, al⟩, dp⟩, ln⟩, srt⟩ := hs
      unfold lenOk at ln
      have ln := of_decide_eq_true ln
      obtain ⟨a, vs, bs, rfl, r1, h1, e1⟩ := h.list_inv
      obtain ⟨its, rv, hl, _⟩ := I.list (SqL.of h1)
      rw [Vals.ref1 r]
      have hlen : its.length = l.length := by rw [← rv.length, r1.length]
      -- behind it: a new list of the sorted items
      have fin : ∀ out : List Value, PySem.W.EachIs (fun v d => ∃ x cs, RelV x v ∧ DpR X.K H x d cs) out (l.mergeSort leD) →
          ∃ z H', Inv X pins σ H' { s with heap := sortedAll s.heap its out.toArray } ∧ RelV z (Value.ref (s.heap.objs.size + 1)) ∧ Q z H' := fun out hE => by
        have im2 : immAll (l.mergeSort leD) = true := immAll_iff.mpr fun d hd => immAll_iff.mp im d ((List.mergeSort_perm l leD).mem_iff.mp hd)
        obtain ⟨ys, k1, k2⟩ := each_back hE im2
        obtain ⟨ep, he'⟩ := PyProof.Rows.sortedAll_at s.heap its out.toArray
        have hlen2 : ys.length ≤ sizeLine := by rw [k2.length, (List.mergeSort_perm l leD).length_eq]; exact ln
        exact ⟨.ref _, upd H (s.heap.objs.size + 1) (.lst ys), I.laid (t' := s.toks) (fun _ _ => PyProof.Rows.sortedAll_old) (Nat.le_succ _) ⟨hlen2, out, ep, k1, he'⟩, rfl, q.lst k2 (fun c hc => by simp at hc) _ (I.hok.fresh (Nat.le_succ _))⟩
      obtain ⟨g1, g2⟩ := each_of I r1 rv
      have srt' : l.length ≤ 1 ∨ PySem.W.Sortable (l.map id) := by
        rw [List.map_id]
        rcases srt with (h1 | h1) | h1
        · exact .inl h1
        · refine .inr (.inl fun d hd => ?_)
          have := List.all_eq_true.mp h1 d hd
          split at this
          · exact ⟨_, _, rfl⟩
          · cases this
        · refine .inr (.inr fun d hd => ?_)
          have := List.all_eq_true.mp h1 d hd
          constructor
          · intro e; subst e; cases this
          · intro xs e; subst e; cases this
      rcases srt' with h1 | hk
      · refine SrtO.sorted_ord SrtO.swo_int hl.isList (by rw [hlen]; exact ln) (fun h2 => absurd h2 (by omega)) fun out _ h2 => ?_
        exact fin out (each_one g1 h1 h2.perm)
      · exact PySem.W.sorted_data (R := fun v d => ∃ x cs, RelV x v ∧ DpR X.K H x d cs) (enc := id) hl.isList g1 g2 (by
          rw [List.map_id]
          exact fun a ha b hb => List.all_eq_true.mp (List.all_eq_true.mp al a ha) b hb) hk ln (fun b hb => by have := depth_mem hb; show X.A.units + 2 + PyData.depth b < cLine; omega) fun out _ h => fin out h
    · cases ho
  | [.tuple l], hd, ho => simp only [bi] at ho; cases ho
  | [.none], _, ho => simp only [bi] at ho; cases ho
  | [.bool _], _, ho => simp only [bi] at ho; cases ho
  | [.int _], _, ho => simp only [bi] at ho; cases ho
  | [.str _], _, ho => simp only [bi] at ho; cases ho
  | [.dict _], _, ho => simp only [bi] at ho; cases ho
  | _ :: _ :: _, _, ho => simp only [bi] at ho; cases ho
theorem s_bi {f : Bi} {as : Es} {x : Expr} {xs : List Expr} {p pos : Pos} (C : Cxt J fs ca k N sc W X) (hg : glB sc (biName f) = true) (pl : plainX x = true) (pls : plainAllX xs = true) (ia : SA ca fs k S W X as (x :: xs)) : SE ca fs k S W X (.bi f as) (.Call (.Name (biName f) p) (x :: xs) [] pos) := by
  have hG := gl_of C hg
  have he : starEach (x :: xs) X.env = (false, eval x X.env) :: starEach xs X.env := star_of pl
  have hb : (backTo pos (starEach xs X.env)).any (·.1) = false := back_of pls
  have wk : ∀ σ H Q, tS X.K ca (runF fs k) S W (.bi f as) σ H Q → tCB (rb X.K (bi f)) (tSs X.K ca (runF fs k) S W as) σ H Q := fun _ _ _ h => w_bi h
  cases f
  · exact (pe_callB b_len hG (C.blt _ (by decide +kernel)) (by decide +kernel) ia (by decide +kernel) (by decide +kernel) he hb).weaken wk
  · exact (pe_callB (b_sum C.calm) hG (C.blt _ (by decide +kernel)) (by decide +kernel) ia (by decide +kernel) (by decide +kernel) he hb).weaken wk
  · exact (pe_callB (b_all C.calm) hG (C.blt _ (by decide +kernel)) (by decide +kernel) ia (by decide +kernel) (by decide +kernel) he hb).weaken wk
  · exact (pe_callB (b_any C.calm) hG (C.blt _ (by decide +kernel)) (by decide +kernel) ia (by decide +kernel) (by decide +kernel) he hb).weaken wk
  · exact (pe_callB (b_max1 C) hG (C.blt _ (by decide +kernel)) (by decide +kernel) ia (by decide +kernel) (by decide +kernel) he hb).weaken wk
  · exact (pe_callB (b_min1 C) hG (C.blt _ (by decide +kernel)) (by decide +kernel) ia (by decide +kernel) (by decide +kernel) he hb).weaken wk
  · exact (pe_callB (b_max2 C.calm) hG (C.blt _ (by decide +kernel)) (by decide +kernel) ia (by decide +kernel) (by decide +kernel) he hb).weaken wk
  · exact (pe_callB (b_min2 C.calm) hG (C.blt _ (by decide +kernel)) (by decide +kernel) ia (by decide +kernel) (by decide +kernel) he hb).weaken wk
  · exact (pe_callB b_abs hG (C.blt _ (by decide +kernel)) (by decide +kernel) ia (by decide +kernel) (by decide +kernel) he hb).weaken wk
  · exact (pe_callTy b_int hG (C.blt _ (by decide +kernel)) (by decide +kernel) ia (by decide +kernel) (by decide +kernel) he hb).weaken wk
  · exact (pe_callTy b_tup hG (C.blt _ (by decide +kernel)) (by decide +kernel) ia (by decide +kernel) (by decide +kernel) he hb).weaken wk
  · exact (pe_callTy b_lst hG (C.blt _ (by decide +kernel)) (by decide +kernel) ia (by decide +kernel) (by decide +kernel) he hb).weaken wk
  · exact (pe_callB (b_sorted C) hG (C.blt _ (by decide +kernel)) (by decide +kernel) ia (by decide +kernel) (by decide +kernel) he hb).weaken wk
end
end PV
set_option Elab.async false
set_option linter.all false
set_option maxRecDepth 100000
set_option maxHeartbeats 1000000
/-! PV9: subscripts, slices, displays, a few built-ins. -/
namespace PV
open PySem PySem.Spec PyProof.Rows L2
section
variable {prog : Program} {w : World} {A : Around} {E : Value → Shared → Prop} {s : Shared}
theorem sliceApplied_rev {sl : Addr} {vl vu vs : Value} {n : Nat} {Q : Int × Int × Nat → Shared → Prop} (hs : s.heap.IsSliceOf sl vl vu vs) (pl : IsPart vl none) (pu : IsPart vu none) (ps : IsPart vs (some (-1)))
    (h : Q ((n : Int) - 1, -1, n) s) : wpAny (model prog w) A (Builtin.Slice.sliceApplied (.ref sl) (pure (n : Int))) Q E s := by
  obtain ⟨os, hos, hcs, hds⟩ := id hs
  unfold Builtin.Slice.sliceApplied Builtin.Slice.sliceFields
  refine wpAny_bind (wpAny_bind (wpAny_field hos hds (x := vl) rfl (wpAny_bind (wpAny_field hos hds (x := vu) rfl (wpAny_bind (wpAny_field hos hds (x := vs) rfl (wpAny_pure ?_)))))))
  refine wpAny_bind (HT.slicePart_ ps ?_)
  show wpAny _ _ (if ((-1 : Int) == 0) = true then _ else _) _ _ s
  rw [if_neg (by decide)]
  refine wpAny_bind (HT.slicePart_ pl (wpAny_bind (HT.slicePart_ pu (wpAny_bind (wpAny_pure ?_)))))
  show wpAny _ _ (match Builtin.Slice.sliceAdjust none none (-1) (n : Int) with | (lo, hi) => pure (lo, (-1 : Int), Builtin.Slice.slicePlaces lo hi (-1))) _ _ s
  have e1 : Builtin.Slice.sliceAdjust none none (-1) (n : Int) = ((n : Int) - 1, -1) := rfl
  rw [e1]
  show wpAny _ _ (pure ((n : Int) - 1, (-1 : Int), Builtin.Slice.slicePlaces ((n : Int) - 1) (-1) (-1))) _ _ s
  have e2 : Builtin.Slice.slicePlaces ((n : Int) - 1) (-1) (-1) = n := by
    unfold Builtin.Slice.slicePlaces
    have h1 : ¬ ((-1 : Int) > 0) := by omega
    simp only [h1, if_false]
    rw [show (- -1 : Int) = 1 by decide, Int.ediv_one]
    split <;> omega
  rw [e2]
  exact wpAny_pure h
theorem fm_congr {α β : Type} {f g : α → Option β} : ∀ {l : List α}, (∀ x ∈ l, f x = g x) → l.filterMap f = l.filterMap g
  | [], _ => rfl
  | x :: r, h => by
    rw [List.filterMap_cons, List.filterMap_cons, h x List.mem_cons_self, fm_congr fun y hy => h y (List.mem_cons_of_mem _ hy)]
theorem pick_rev (xs : Array Value) : ((List.range xs.size).filterMap fun (m : Nat) => xs[(((xs.size : Int) - 1) + (m : Int) * (-1)).toNat]?).toArray = xs.toList.reverse.toArray := by
  have e : ((List.range xs.size).filterMap fun (m : Nat) => xs[(((xs.size : Int) - 1) + (m : Int) * (-1)).toNat]?) = ((List.range xs.size).map fun k => xs.size - 1 - k).filterMap (xs[·]?) := by
    rw [List.filterMap_map]
    apply fm_congr
    intro m hm
    have := List.mem_range.mp hm
    show xs[(((xs.size : Int) - 1) + (m : Int) * (-1)).toNat]? = xs[xs.size - 1 - m]?
    have e : (((xs.size : Int) - 1) + (m : Int) * (-1)).toNat = xs.size - 1 - m := by omega
    rw [e]
  rw [e, PySem.W.krv_range, List.filterMap_reverse, PySem.W.krv_all]
theorem getItem_tuple_rev {t sl : Addr} {items : Array Value} {vl vu vs : Value} {Q : Value → Shared → Prop} (ht : IsTup s.heap t items) (hs : s.heap.IsSliceOf sl vl vu vs) (pl : IsPart vl none) (pu : IsPart vu none) (ps : IsPart vs (some (-1)))
    (h : Q (.ref s.heap.objs.size) { s with heap := s.heap.push { cls := .type "tuple", data := .seq items.toList.reverse.toArray } })
    (hsz : items.size ≤ sizeLine) : wpAny (model prog w) A (getItem (.ref t) (.ref sl)) Q E s := by
  have htake : sizeOk (.seq items.toList.reverse.toArray) := by
    show items.toList.reverse.toArray.size ≤ sizeLine
    rw [List.size_toArray, List.length_reverse, Array.length_toList]
    exact hsz
  obtain ⟨os, hos, hcs, hds⟩ := id hs
  have hTs : s.TypeIs (.ref sl) "slice" := ⟨os, hos, hcs⟩
  unfold getItem
  try with_reducible refine wpAny_holding ?_
  first | refine wpAny_bind (wpAny_pure ?_) | skip
  refine wpAny_bind (wpAny_sequenceKey ht.typeIs (by decide) ?_)
  refine wpAny_bind (wpAny_callSpecial?_slot (name := Str.ofString "__getitem__") ht.typeIs PyProof.Rows.slot_tuple_getitem
    (wpAny_call_entry PyProof.Rows.slot_tuple_getitem ht.typeIs entry_tuple_getitem ?_ (args_tuple_getitem _ _)))
  show wpAny _ _ (Builtin.Tuple.tupleItemsOf (.ref t) >>= _) _ _ s
  refine wpAny_bind (PyProof.Rows.tupleItemsOf_ ht ?_)
  refine wpAny_bind (wpAny_typeOf hTs ?_)
  rw [if_pos (by decide)]
  refine wpAny_bind (sliceApplied_rev hs pl pu ps ?_)
  have hno : ¬ ((((items.size : Int) - 1) == 0 && (-1 : Int) == 1 && items.size == items.size) = true) := by
    intro q
    rw [Bool.and_eq_true, Bool.and_eq_true] at q
    exact absurd q.1.2 (by decide)
  show wpAny _ _ (if (((items.size : Int) - 1) == 0 && (-1 : Int) == 1 && items.size == items.size) = true then _ else _) _ _ s
  rw [if_neg hno, pick_rev]
  first
    | exact wpAny_bind (m := Builtin.Tuple.tupleExact _) (wpAny_newObj_type (wpAny_pure ⟨_, rfl, wpAny_pure h⟩) htake)
    | exact wpAny_bind (m := Builtin.Tuple.tupleExact _) (wpAny_newObj_type (wpAny_bind (wpAny_pure (wpAny_pure ⟨_, rfl, wpAny_pure h⟩))) htake)
    | exact wpAny_bind (wpAny_bind (m := Builtin.Tuple.tupleExact _) (wpAny_newObj_type (wpAny_pure (wpAny_pure ⟨_, rfl, wpAny_pure h⟩)) htake))
    | exact wpAny_bind (wpAny_bind (m := Builtin.Tuple.tupleExact _) (wpAny_newObj_type (wpAny_pure ⟨_, rfl, wpAny_pure h⟩) htake))
end
section
variable {J : Info} {fs : List Fn} {ca : Nat → Addr} {k : Nat} {N : List Str} {sc : Scope} {W : WX} {X : Cx} {S : List Nat}
theorem plainIx_of {y : Expr} (h : plainX y = true) : PlainIx y := by
  intro o i
  cases y <;> first | rfl | (simp [plainX] at h)
theorem s_sub {o i : E} {x y : Expr} {p : Pos} (py : plainX y = true) (hF : ∀ ρ, isFz ρ o = false) (io : SE ca fs k S W X o x) (ii : SE ca fs k S W X i y) : SE ca fs k S W X (.sub o i) (.Subscript x y p) := by
  refine (pe_ix i_sub io ii (plainIx_of py)).weaken fun σ H Q ⟨ρ, A, rep, q⟩ => ?_
  rw [rn_rg] at q
  simp only [ev, hF, Bool.or_false] at q
  refine tS_first rep (Stp.refl _ _) rep q fun r1 ρ1 v1 H1 A1 r1' s1 rv1 ef1 q => ?_
  refine tS_first rep s1 r1' q fun y ρ2 v2 H2 A2 r2' s2 rv2 ef2 q => ?_
  dsimp only at q
  split at q
  · rename_i hk
    cases e3 : noExc (sub r1.2 y.2) with
    | exc c k p => exact (noExc_not e3).elim
    | stuck => rw [e3] at q; exact q.elim
    | ok d =>
      rw [e3] at q
      have rv1' := RVal.later rep s1 r1' s2 ef2 hk rv1
      obtain ⟨as, d1, n1⟩ := rv1'.any
      obtain ⟨bs, d2, n2⟩ := rv2.any
      refine ⟨_, _, as, bs, d, d1, d2, noExc_inv e3, fun z cs r3 hc => q z H2 A2 r2' (Stp.trans rep s1 s2) ?_ fun e => ?_⟩
      · by_cases hi : imm d = true
        · exact RVal.of_imm r3 hi
        · have hf : imm d = false := by simpa using hi
          exact .inr ⟨hf, cs, r3, fun a ha i hi => avoid_mono n1 (fun i hi => List.mem_append_left _ hi) a (hc a ha) i hi⟩
      · simp only [eff, Bool.or_eq_false_iff] at e
        obtain ⟨q1, m1⟩ := ef1 e.1
        obtain ⟨q2, m2⟩ := ef2 e.2
        exact ⟨q2.trans q1, m1.trans m2⟩
  · exact q.elim
/-- a part of a slice -/
def PRo (K : PySem.W.Frag) (S : List Nat) (σ : L2.St) (ef : Bool) (H : Hp) (A : Own) (Q : Option Int → Hp → Prop) (x : Option Int × PV.Env) : Prop :=
  ∀ H' A', Rep K H' S σ x.2 A' → Stp H A H' A' → (ef = false → A' = A ∧ Same H H') → Q x.1 H'
def tOo (K : PySem.W.Frag) (ca : Nat → Addr) (cf : CF) (S : List Nat) (W : WX) (o : Oe) : TO := fun σ H Q => ∃ ρ A, Rep K H S σ ρ A ∧ RG K ca W σ H A (PRo K S σ (effo o) H A Q) (evo cf o ρ)
theorem fz_later {K : PySem.W.Frag} {S : List Nat} {σ : L2.St} {ρ1 ρ2 : PV.Env} {H1 H2 : Hp} {A1 A2 : Own} {v : V} {d : D} {as : List Addr} (r1 : Rep K H1 S σ ρ1 A1) (t : Stp H1 A1 H2 A2) (r2 : Rep K H2 S σ ρ2 A2) (h1 : DpR K H1 v d as) (h2 : ∀ a ∈ as, a ∈ A1.fr) : DpR K H2 v d as ∧ ∀ a ∈ as, ∀ i, a ∉ A2 i :=
  ⟨h1.keep (t.fix r1) fun a ha xs hx => t.keep a _ hx (r1.fdis a (h2 a ha)), fun a ha i hi => r2.fdis a (t.fr a (h2 a ha)) ⟨i, hi⟩⟩
theorem s_subV {j : Nat} {i : E} {x y : Expr} {p : Pos} (C : Cxt J fs ca k N sc W X) (hn : mE J N (.var j) sc x = true) (py : plainX y = true) (ii : SE ca fs k S W X i y) : SE ca fs k S W X (.sub (.var j) i) (.Subscript x y p) := by
  simp only [mE] at hn
  split at hn <;> try (cases hn; done)
  refine (pe_ix i_sub (pe_nm C hn) ii (plainIx_of py)).weaken fun σ H Q ⟨ρ, A, rep, q⟩ => ?_
  rw [rn_rg] at q
  simp only [ev] at q
  cases er : rd ρ j with
  | exc c k p =>
    unfold rd at er
    split at er <;> cases er
  | stuck => rw [er] at q; exact q.elim
  | ok r1 =>
    rw [er] at q
    simp only [bind_ok] at q
    obtain ⟨v1, ev1, _, rv1⟩ := rd_ok rep er
    refine ⟨v1, ev1, ?_⟩
    refine tS_first rep (Stp.refl _ _) rep q fun y ρ2 v2 H2 A2 r2' s2 rv2 ef2 q => ?_
    dsimp only at q
    split at q
    · rename_i hk
      cases e3 : noExc (sub r1.2 y.2) with
      | exc c k p => exact (noExc_not e3).elim
      | stuck => rw [e3] at q; exact q.elim
      | ok d =>
        rw [e3] at q
        have hv : ∃ as, DpR X.K H2 v1 r1.2 as ∧ ∀ a ∈ as, ∀ i, i ∉ vars (.var j) ++ S → a ∉ A2 i := by
          rcases Bool.or_eq_true_iff.mp hk with hk | hk
          · exact (RVal.later rep (Stp.refl _ _) rep s2 ef2 hk rv1).any
          · unfold isFz at hk
            dsimp only at hk
            split at hk
            · rename_i d0 hg
              obtain ⟨u, u1, as, u2, u3⟩ := rep.cell j _ hg
              rw [u1] at ev1
              cases ev1
              have : r1 = (imm d0, d0) := by
                unfold rd at er
                rw [hg] at er
                cases er
                rfl
              subst this
              obtain ⟨w1, w2⟩ := fz_later rep s2 r2' u2 u3
              exact ⟨as, w1, fun a ha i _ => w2 a ha i⟩
            · cases hk
        obtain ⟨as, d1, n1⟩ := hv
        obtain ⟨bs, d2, n2⟩ := rv2.any
        refine ⟨_, _, as, bs, d, d1, d2, noExc_inv e3, fun z cs r3 hc => q z H2 A2 r2' s2 ?_ fun e => ?_⟩
        · by_cases hi : imm d = true
          · exact RVal.of_imm r3 hi
          · have hf : imm d = false := by simpa using hi
            exact .inr ⟨hf, cs, r3, fun a ha i hi => avoid_mono n1 (fun i hi => List.mem_append_left _ hi) a (hc a ha) i hi⟩
        · simp only [eff, Bool.or_eq_false_iff] at e
          exact ef2 e.2
    · exact q.elim
theorem tOo_first {K : PySem.W.Frag} {cf : CF} {σ : L2.St} {H0 H : Hp} {A0 A : Own} {ρ0 ρ : PV.Env} {α : Type} {P : α → Prop} {a : Oe} {f : Option Int × PV.Env → Res α} {Q1 : Option Int → Hp → Prop} (r0 : Rep K H0 S σ ρ0 A0) (s0 : Stp H0 A0 H A) (rep : Rep K H S σ ρ A) (h : RG K ca W σ H0 A0 P (evo cf a ρ >>= f))
    (hq : ∀ r ρ1 H1 A1, Rep K H1 S σ ρ1 A1 → Stp H A H1 A1 → (effo a = false → A1 = A ∧ Same H H1) → RG K ca W σ H0 A0 P (f (r, ρ1)) → Q1 r H1) : tOo K ca cf S W a σ H Q1 := by
  refine ⟨ρ, A, rep, ?_⟩
  rcases e : evo cf a ρ with ⟨r, ρ1⟩ | ⟨c, k, p⟩ | _
  · rw [e] at h
    exact fun H1 A1 r1 s1 ef1 => hq r ρ1 H1 A1 r1 s1 ef1 h
  · rw [e] at h
    have h' : ExQ K ca H0 A0 (fun a b H' => W a b σ H') c k p := h
    exact ExQ.before r0 s0 h'
  · rw [e] at h
    exact h
theorem _root_.L2.PO.weaken {X : Cx} {e : Option Expr} {t t' : TO} (h : PO X e t) (w : ∀ σ H Q, t' σ H Q → t σ H Q) : PO X e t' := ⟨fun pins s σ H Q I q => h.run pins s σ H Q I (w σ H Q q)⟩
theorem o_none : PO X none (tOo X.K ca (runF fs k) S W .none) := po_none.weaken fun σ H Q ⟨ρ, A, rep, q⟩ => q H A rep (Stp.refl _ _) fun _ => ⟨rfl, Same.refl _⟩
theorem o_some {e : E} {x : Expr} (ie : SE ca fs k S W X e x) : PO X (some x) (tOo X.K ca (runF fs k) S W (.some e)) := by
  refine (po_some ie).weaken fun σ H Q ⟨ρ, A, rep, q⟩ => ?_
  simp only [evo] at q
  refine tS_first rep (Stp.refl _ _) rep q fun r1 ρ1 v1 H1 A1 r1' s1 rv1 ef1 q => ?_
  obtain ⟨o, d⟩ := r1
  dsimp only at q
  cases d <;> try (exact q.elim)
  obtain ⟨as, d1, _⟩ := rv1.any
  exact ⟨_, d1.int_inv, q H1 A1 r1' s1 ef1⟩
theorem s_slcE {o : E} {lo hi : Oe} {x : Expr} {l h : Option Expr} {p2 p : Pos} (io : SE ca fs k S W X o x) (il : PO X l (tOo X.K ca (runF fs k) S W lo)) (ih : PO X h (tOo X.K ca (runF fs k) S W hi)) :
    SE ca fs k S W X (.slc o lo hi) (.Subscript x (.Slice l h none p2) p) := by
  refine (pe_slice s_slc io il ih).weaken fun σ H Q ⟨ρ, A, rep, q⟩ => ?_
  rw [rn_rg] at q
  simp only [ev] at q
  refine tS_first rep (Stp.refl _ _) rep q fun x ρ1 v1 H1 A1 r1 s1 rv1 ef1 q => ?_
  refine tOo_first rep s1 r1 q fun l ρ2 H2 A2 r2 s2 ef2 q => ?_
  have s12 := Stp.trans rep s1 s2
  refine tOo_first rep s12 r2 q fun h ρ3 H3 A3 r3 s3 ef3 q => ?_
  have s13 := Stp.trans rep s12 s3
  have s23 := Stp.trans r1 s2 s3
  dsimp only at q
  split at q
  · rename_i hk
    cases e3 : noExc (slc x.2 l h) with
    | exc c k p => exact (noExc_not e3).elim
    | stuck => rw [e3] at q; exact q.elim
    | ok d =>
      rw [e3] at q
      have rv1' := RVal.later rep s1 r1 s23 (ef := effo lo || effo hi) (fun e => by
        simp only [Bool.or_eq_false_iff] at e
        obtain ⟨q2, m2⟩ := ef2 e.1
        obtain ⟨q3, m3⟩ := ef3 e.2
        exact ⟨q3.trans q2, m2.trans m3⟩) hk rv1
      obtain ⟨as, d1, n1⟩ := rv1'.any
      refine ⟨_, as, d, d1, noExc_inv e3, fun z H' sm op => q z H' A3 (r3.new sm) (s13.then_new rep sm) (RVal.of_op rep s13 r3 (fun c hc i hi => ?_) op) fun e => ?_⟩
      · exact avoid_mono n1 (fun i hi => List.mem_append_left _ (List.mem_append_left _ hi)) c hc i hi
      · simp only [eff, Bool.or_eq_false_iff] at e
        obtain ⟨q1, m1⟩ := ef1 e.1.1
        obtain ⟨q2, m2⟩ := ef2 e.1.2
        obtain ⟨q3, m3⟩ := ef3 e.2
        exact ⟨q3.trans (q2.trans q1), ((m1.trans m2).trans m3).trans sm⟩
  · exact q.elim
theorem DpRs.rev {K : PySem.W.Frag} {H : Hp} : ∀ {v : List V} {d : List D} {as : List Addr}, DpRs K H v d as → ∃ bs, DpRs K H v.reverse d.reverse bs ∧ ∀ a ∈ bs, a ∈ as
  | _, _, _, .nil => ⟨[], .nil, fun _ h => h⟩
  | _, _, _, .cons r s => by
    obtain ⟨bs, h1, h2⟩ := DpRs.rev s
    rw [List.reverse_cons, List.reverse_cons]
    exact ⟨_, h1.app (.one r), fun a ha => (List.mem_append.mp ha).elim (fun m => List.mem_append_right _ (h2 a m)) fun m => List.mem_append_left _ m⟩
/-- t[::-1] of a tuple -/
def tRevT (K : PySem.W.Frag) (te : TE) : TE := fun σ H Q => te σ H fun x H1 => ∃ a xs, x = .ref a ∧ SqT K H1 a xs ∧ ∀ p, H1 p = none → Q (.ref p) (upd H1 p (.tup xs.reverse))
theorem pe_revT {e : Expr} {te : TE} {k : Nat} {p1 p2 p3 pos : Pos} (he : PE X e te) : PE X (.Subscript e (.Slice none none (some (.UnaryOp .USub (.Constant (.int 1) k p1) p2)) p3) pos) (tRevT X.K te) := by
  refine ⟨fun pins s σ H Q I h => ?_⟩
  refine Subscript_ (thn (he.run pins s σ H _ I h) fun v s1 ⟨x, H1, I1, r1, q1⟩ => ?_)
  obtain ⟨a, xs, ex, hx, q⟩ := q1
  subst ex
  cases r1
  have hst : PO X (some (.UnaryOp .USub (.Constant (.int 1) k p1) p2)) (tPart (tUn (rU fun i => .int (-i)) (tC (.int 1)))) := po_some (pe_un un_neg pe_int)
  refine wpAny_Slice (thn (po_none.run pins s1 σ H1 (fun o H2 => o = none ∧ H2 = H1) I1 ⟨rfl, rfl⟩) fun vl s2 ⟨l, H2, I2, pl, el, e2⟩ => ?_)
  subst el e2
  refine thn (po_none.run pins s2 σ H2 (fun o H3 => o = none ∧ H3 = H2) I2 ⟨rfl, rfl⟩) fun vu s3 ⟨u, H3, I3, pu, eu, e3⟩ => ?_
  subst eu e3
  refine thn (hst.run pins s3 σ H3 (fun o H4 => o = some (-1) ∧ H4 = H3) I3 ⟨1, rfl, -1, rfl, rfl, rfl⟩) fun vs s4 ⟨o, H4, I4, ps, eo, e4⟩ => ?_
  subst eo e4
  have I5 : L2.Inv X pins σ H4 { s4 with heap := s4.heap.push { cls := .type "slice", data := .fields #[vl, vu, vs] } } := I4.kept (t' := s4.toks) fun b ob q => Heap.get?_push_of_some _ q
  obtain ⟨its, r, ht, hz⟩ := I5.tuple hx
  have hlen := r.length
  show wpAny (model X.prog X.w) X.A (subscriptTail e (.Slice none none (some (.UnaryOp .USub (.Constant (.int 1) k p1) p2)) p3) (.ref a) (.ref s4.heap.objs.size)) (EP X pins σ Q) X.xe { s4 with heap := s4.heap.push { cls := .type "slice", data := .fields #[vl, vu, vs] } }
  refine tail_any (ops := [.ref a, .ref s4.heap.objs.size]) ht.typeIs (PyProof.Rows.slot_tuple_getitem.lookup) ?_ (by with_unfolding_all rfl)
  refine getItem_tuple_rev ht (Heap.IsSliceOf.new _ vl vu vs) pl pu ps ?_ (by rw [List.size_toArray]; omega)
  refine ⟨.ref _, _, I5.laid (t' := s4.toks) (o := .tup xs.reverse) (fun b ob q => Heap.get?_push_of_some _ q) (Nat.le_refl _) ?_, rfl, q _ (I5.hok.fresh (Nat.le_refl _))⟩
  exact ⟨by rw [List.length_reverse]; exact hz, _, r.reverse, IsTup.new _ _⟩
theorem s_rev {o : E} {x : Expr} {j : Nat} {p1 p2 p3 pos : Pos} (io : SE ca fs k S W X o x) : SE ca fs k S W X (.rev o) (.Subscript x (.Slice none none (some (.UnaryOp .USub (.Constant (.int 1) j p1) p2)) p3) pos) := by
  refine L2.PE.any fun σ H Q ⟨ρ, A, rep, q⟩ => ?_
  rw [rn_rg] at q
  simp only [ev] at q
  -- which kind of sequence is it?
  rcases e0 : ev (runF fs k) o ρ with ⟨⟨b, d⟩, ρ1⟩ | ⟨c, k', p⟩ | _
  · cases d with
    | list l =>
      refine ⟨_, pe_revL io, ρ, A, rep, ?_⟩
      rw [e0] at q ⊢
      intro v1 H1 A1 r1 s1 rv1 ef1
      obtain ⟨as, d1, n1⟩ := rv1.any
      obtain ⟨a, vs, bs, e, r3, h3, e3⟩ := d1.list_inv
      obtain ⟨cs, r4, h4⟩ := r3.rev
      refine ⟨a, vs, e, SqL.of h3, OpQ.lst (N := fun a => a ∈ as) (fun z H' sm op => q z H' A1 (r1.new sm) (s1.then_new rep sm) (RVal.of_op rep s1 r1 (fun c hc i hi => n1 c hc i hi) op) fun e => ?_) r4 fun c hc => ?_⟩
      · obtain ⟨q1, m1⟩ := ef1 e
        exact ⟨q1, m1.trans sm⟩
      · rw [e3]; exact List.mem_cons_of_mem _ (h4 c hc)
    | tuple l =>
      refine ⟨_, pe_revT io, ρ, A, rep, ?_⟩
      rw [e0] at q ⊢
      intro v1 H1 A1 r1 s1 rv1 ef1
      obtain ⟨as, d1, n1⟩ := rv1.any
      obtain ⟨a, vs, e, h3, r3⟩ := d1.tuple_inv
      obtain ⟨cs, r4, h4⟩ := r3.rev
      refine ⟨a, vs, e, h3, OpQ.tup (N := fun a => a ∈ as) (fun z H' sm op => q z H' A1 (r1.new sm) (s1.then_new rep sm) (RVal.of_op rep s1 r1 (fun c hc i hi => n1 c hc i hi) op) fun e => ?_) r4 h4⟩
      obtain ⟨q1, m1⟩ := ef1 e
      exact ⟨q1, m1.trans sm⟩
    | _ =>
      rw [e0] at q
      exact q.elim
  · rw [e0] at q
    exact ⟨_, pe_revL io, ρ, A, rep, by rw [e0]; exact q⟩
  · rw [e0] at q
    exact q.elim
/-- own nodes of several new values, put into one new thing -/
theorem s_tup {es : Es} {xs : List Expr} {j : Nat} {pos : Pos} (ia : SA ca fs k S W X es xs) : SE ca fs k S W X (.tup es) (.Tuple xs j pos) := by
  refine (pe_tup ia).weaken fun σ H Q ⟨ρ, A, rep, q⟩ => ?_
  rw [rn_rg] at q
  simp only [ev] at q
  refine tSs_first rep (Stp.refl _ _) rep q fun rs ρ1 vs1 H1 A1 r1 s1 rv1 ef1 q => ?_
  dsimp only at q
  split at q
  · rename_i hl
    obtain ⟨bs, d2, n2⟩ := rv1.2
    refine ⟨by rw [d2.length, List.length_map]; simpa [lenOk] using hl, fun p hp => ?_⟩
    have sm : Same H1 (upd H1 p (.tup vs1)) := same_upd hp
    refine q _ _ A1 (r1.new sm) (s1.then_new rep sm) ?_ fun e => ?_
    · cases ho : rs.all (fun x => x.1 || imm x.2) with
      | true =>
        obtain ⟨as, g1, g2, g3, g4⟩ := rv1.1 ho
        exact .inl ⟨rfl, as, .tup (.inl (.inl upd_same)) (g1.new hp), g2, g3, g4⟩
      | false => exact .inr ⟨rfl, bs, .tup (.inl (.inl upd_same)) (d2.new hp), n2⟩
    · obtain ⟨q1, m1⟩ := ef1 e
      exact ⟨q1, m1.trans sm⟩
  · exact q.elim
theorem s_lst {es : Es} {xs : List Expr} {pos : Pos} (ia : SA ca fs k S W X es xs) : SE ca fs k S W X (.lst es) (.List xs pos) := by
  refine (pe_lst ia).weaken fun σ H Q ⟨ρ, A, rep, q⟩ => ?_
  rw [rn_rg] at q
  simp only [ev] at q
  refine tSs_first rep (Stp.refl _ _) rep q fun rs ρ1 vs1 H1 A1 r1 s1 rv1 ef1 q => ?_
  dsimp only at q
  split at q
  · rename_i hl
    obtain ⟨bs, d2, n2⟩ := rv1.2
    refine ⟨by rw [d2.length, List.length_map]; simpa [lenOk] using hl, fun p hp => ?_⟩
    have sm : Same H1 (upd H1 p (.lst vs1)) := same_upd hp
    have new : ¬ Bd A1 p := fun ⟨i, hi⟩ => by
      obtain ⟨xs, q⟩ := r1.trk i p hi
      rw [hp] at q
      cases q
    have newf : p ∉ A1.fr := fun hi => by
      obtain ⟨xs, q⟩ := r1.ftrk p hi
      rw [hp] at q
      cases q
    refine q _ _ A1 (r1.new sm) (s1.then_new rep sm) ?_ fun e => ?_
    · cases ho : rs.all (fun x => x.1 || imm x.2) with
      | true =>
        obtain ⟨as, g1, g2, g3, g4⟩ := rv1.1 ho
        refine .inl ⟨rfl, p :: as, .lst upd_same (g1.new hp), List.nodup_cons.mpr ⟨fun m => ?_, g2⟩, fun a ha => ?_, fun a ha => ?_⟩
        · obtain ⟨ys, q⟩ := g1.trk p m
          rw [hp] at q
          cases q
        · rcases List.mem_cons.mp ha with e | ha
          · rw [e]; exact ⟨new, newf⟩
          · exact g3 a ha
        · rcases List.mem_cons.mp ha with e | ha
          · rw [e]; exact .inr (s1.there rep hp)
          · exact g4 a ha
      | false =>
        refine .inr ⟨rfl, p :: bs, .lst upd_same (d2.new hp), fun a ha i hi => ?_⟩
        rcases List.mem_cons.mp ha with e | ha
        · rw [e]; exact fun m => new ⟨i, m⟩
        · exact n2 a ha i hi
    · obtain ⟨q1, m1⟩ := ef1 e
      exact ⟨q1, m1.trans sm⟩
  · exact q.elim
theorem ints_dp {K : PySem.W.Frag} {H : Hp} : ∀ l : List Int, DpRs K H (l.map V.int) (l.map PyData.int) []
  | [] => .nil
  | x :: r => .cons (as := []) (.int x) (ints_dp r)
theorem rng_dp {K : PySem.W.Frag} {H : Hp} (i j : Int) : DpRs K H (rgV i j) (rangeD i j) [] := by
  have h := ints_dp (K := K) (H := H) ((List.range (j - i).toNat).map fun k => i + (k : Nat))
  rw [List.map_map, List.map_map] at h
  exact h
theorem rng_imm (i j : Int) : immAll (rangeD i j) = true := by
  unfold rangeD
  generalize (List.range (j - i).toNat) = l
  induction l with
  | nil => rfl
  | cons x r ih => simp [immAll, imm, ih]
end
end PV
set_option Elab.async false
set_option linter.all false
set_option maxRecDepth 100000
set_option maxHeartbeats 1000000
/-! PV10: ranges, isinstance, the script's copy, pops, counts, calls. -/
namespace PV
open PySem PySem.Spec PyProof.Rows L2
section
variable {J : Info} {fs : List Fn} {ca : Nat → Addr} {k : Nat} {N : List Str} {sc : Scope} {W : WX} {X : Cx} {S : List Nat}
theorem new_out {K : PySem.W.Frag} {H : Hp} {σ : L2.St} {ρ : PV.Env} {A : Own} {p : Addr} (rep : Rep K H S σ ρ A) (hp : H p = none) : ¬ Bd A p ∧ p ∉ A.fr := by
  refine ⟨fun ⟨i, hi⟩ => ?_, fun hi => ?_⟩
  · obtain ⟨xs, q⟩ := rep.trk i p hi
    rw [hp] at q
    cases q
  · obtain ⟨xs, q⟩ := rep.ftrk p hi
    rw [hp] at q
    cases q
theorem s_rng {a b : E} {x y : Expr} {p1 p2 p3 p4 : Pos} (C : Cxt J fs ca k N sc W X) (g1 : glB sc ("list" : Str) = true) (g2 : glB sc ("range" : Str) = true) (px : plainX x = true) (py : plainX y = true) (ia : SE ca fs k S W X a x) (ib : SE ca fs k S W X b y) :
    SE ca fs k S W X (.rng a b) (.Call (.Name "list" p1) [.Call (.Name "range" p2) [x, y] [] p3] [] p4) := by
  have na : starEach [x, y] X.env = (false, eval x X.env) :: starEach [y] X.env := star_of px
  have nb : starEach [y] X.env = (false, eval y X.env) :: starEach [] X.env := star_of py
  refine (pe_listRg C.calm (gl_of C g1) (C.blt _ (by decide +kernel)) (prg_2 (gl_of C g2) (C.blt _ (by decide +kernel)) ia ib na nb (back_of (xs := [y]) (by simp [plainAllX, py])))).weaken fun σ H Q ⟨ρ, A, rep, q⟩ => ?_
  rw [rn_rg] at q
  simp only [ev] at q
  refine tS_first rep (Stp.refl _ _) rep q fun r1 ρ1 v1 H1 A1 r1' s1 rv1 ef1 q => ?_
  refine tS_first rep s1 r1' q fun y ρ2 v2 H2 A2 r2' s2 rv2 ef2 q => ?_
  obtain ⟨o1, d1⟩ := r1
  obtain ⟨o2, d2⟩ := y
  dsimp only at q
  cases d1 with
  | int i =>
    cases d2 with
    | int j =>
      simp only [asInt, bind_ok] at q
      split at q
      · rename_i hk
        simp only [Bool.and_eq_true, smallI, lenOk, decide_eq_true_eq] at hk
        obtain ⟨as, e1, _⟩ := rv1.any
        obtain ⟨bs, e2, _⟩ := rv2.any
        refine ⟨i, j, e1.int_inv, e2.int_inv, ⟨hk.1.1.1, hk.1.1.2, hk.1.2.1, hk.1.2.2, hk.2⟩, fun p hp => ?_⟩
        have s12 := Stp.trans rep s1 s2
        have sm : Same H2 (upd H2 p (.lst (rgV i j))) := same_upd hp
        refine q _ _ A2 (r2'.new sm) (s12.then_new rep sm) ?_ fun e => ?_
        · refine .inl ⟨rfl, [p], .lst upd_same (rng_dp i j), by simp, fun a ha => ?_, fun a ha => ?_⟩
          · simp only [List.mem_singleton] at ha
            subst ha
            exact new_out r2' hp
          · simp only [List.mem_singleton] at ha
            subst ha
            exact .inr (s12.there rep hp)
        · simp only [eff, Bool.or_eq_false_iff] at e
          obtain ⟨q1, m1⟩ := ef1 e.1
          obtain ⟨q2, m2⟩ := ef2 e.2
          exact ⟨q2.trans q1, (m1.trans m2).trans sm⟩
      · exact q.elim
    | _ => exact q.elim
  | _ => exact q.elim
theorem s_rng1 {b : E} {y : Expr} {p1 p2 p3 p4 : Pos} (C : Cxt J fs ca k N sc W X) (g1 : glB sc ("list" : Str) = true) (g2 : glB sc ("range" : Str) = true) (py : plainX y = true) (ib : SE ca fs k S W X b y) :
    SE ca fs k S W X (.rng1 b) (.Call (.Name "list" p1) [.Call (.Name "range" p2) [y] [] p3] [] p4) := by
  have nb : starEach [y] X.env = (false, eval y X.env) :: starEach [] X.env := star_of py
  refine (pe_listRg C.calm (gl_of C g1) (C.blt _ (by decide +kernel)) (prg_1 (gl_of C g2) (C.blt _ (by decide +kernel)) ib nb)).weaken fun σ H Q ⟨ρ, A, rep, q⟩ => ?_
  rw [rn_rg] at q
  simp only [ev] at q
  refine tS_first rep (Stp.refl _ _) rep q fun y ρ2 v2 H2 A2 r2' s12 rv2 ef2 q => ?_
  obtain ⟨o2, d2⟩ := y
  dsimp only at q
  cases d2 with
  | int j =>
    simp only [asInt, bind_ok] at q
    split at q
    · rename_i hk
      simp only [Bool.and_eq_true, smallI, lenOk, decide_eq_true_eq] at hk
      obtain ⟨bs, e2, _⟩ := rv2.any
      refine ⟨j, e2.int_inv, ⟨by decide, by decide, hk.1.1, hk.1.2, ?_⟩, fun p hp => ?_⟩
      · rw [show j - 0 = j by omega]; exact hk.2
      have sm : Same H2 (upd H2 p (.lst (rgV 0 j))) := same_upd hp
      refine q _ _ A2 (r2'.new sm) (s12.then_new rep sm) ?_ fun e => ?_
      · refine .inl ⟨rfl, [p], .lst upd_same (rng_dp 0 j), by simp, fun a ha => ?_, fun a ha => ?_⟩
        · simp only [List.mem_singleton] at ha
          subst ha
          exact new_out r2' hp
        · simp only [List.mem_singleton] at ha
          subst ha
          exact .inr (s12.there rep hp)
      · obtain ⟨q2, m2⟩ := ef2 e
        exact ⟨q2, m2.trans sm⟩
    · exact q.elim
  | _ => exact q.elim
theorem s_scrL {i : Nat} {x : Str} {p1 p2 p3 : Pos} (C : Cxt J fs ca k N sc W X) (g1 : glB sc ("list" : Str) = true) (hn : nameB N sc i x = true) : SE ca fs k S W X (.scrL i) (.Call (.Name "list" p1) [.Name x p2] [] p3) := by
  have nx : starEach [.Name x p2] X.env = (false, eval (.Name x p2) X.env) :: starEach [] X.env := rfl
  refine (pe_callTy call_list_of (gl_of C g1) (C.blt _ (by decide +kernel)) (by decide +kernel) (pa_cons (pe_nm C hn) pa_nil) (by decide +kernel) (by decide +kernel) nx rfl).weaken fun σ H Q ⟨ρ, A, rep, q⟩ => ?_
  simp only [ev] at q
  split at q
  · rename_i l e
    split at q
    · obtain ⟨v, ev1, a, e1, hx⟩ := rep.cell i _ e
      subst e1
      refine ⟨_, ev1, a, _, rfl, .inl hx.seq, fun p hp => ?_⟩
      have sm : Same H (upd H p (.lst (l.map V.int))) := same_upd hp
      refine q _ _ A (rep.new sm) (Stp.new sm) ?_ fun _ => ⟨rfl, sm⟩
      refine .inl ⟨rfl, [p], .lst upd_same (ints_dp l), by simp, fun a ha => ?_, fun a ha => ?_⟩
      · simp only [List.mem_singleton] at ha
        subst ha
        exact new_out rep hp
      · simp only [List.mem_singleton] at ha
        subst ha
        exact .inr hp
    · exact q.elim
  · exact q.elim
theorem ty_of {K : PySem.W.Frag} {H : Hp} {v : V} {d : D} {as : List Addr} (r : DpR K H v d as) : ∃ t, TyX K H v (.type t) ∧ PySem.W.kitOne K (.type t) (.type "bool") = some (isBoolD d) := by
  have no : ∀ {t : String}, kitB t "bool" = some false → PySem.W.kitOne K (.type t) (.type "bool") = some false := fun h => kit_ty h
  have yes : ∀ {t : String}, kitB t "bool" = some true → PySem.W.kitOne K (.type t) (.type "bool") = some true := fun h => kit_ty h
  cases r with
  | non => exact ⟨_, .base .non, no (by decide +kernel)⟩
  | bl b => exact ⟨_, .base (.bl b), yes (by decide +kernel)⟩
  | int i => exact ⟨_, .base (.int i), no (by decide +kernel)⟩
  | str x => exact ⟨_, .base (.str x), no (by decide +kernel)⟩
  | lst h r => exact ⟨_, .base (.lst h), no (by decide +kernel)⟩
  | tup h r =>
    rcases h with (h | ⟨o, h⟩) | ⟨o, its, n, h1, h2, _⟩
    · exact ⟨_, .base (.tup h), no (by decide +kernel)⟩
    · exact ⟨_, .fTuple h, no (by decide +kernel)⟩
    · exact ⟨_, .kTuple h1 h2, no (by decide +kernel)⟩
theorem s_isBool {a : E} {x : Expr} {p1 p2 p3 : Pos} (C : Cxt J fs ca k N sc W X) (g1 : glB sc ("isinstance" : Str) = true) (g2 : glB sc ("bool" : Str) = true) (px : plainX x = true) (ia : SE ca fs k S W X a x) :
    SE ca fs k S W X (.isBool a) (.Call (.Name "isinstance" p1) [x, .Name "bool" p2] [] p3) := by
  have na : starEach [x, .Name "bool" p2] X.env = (false, eval x X.env) :: starEach [.Name "bool" p2] X.env := star_of px
  have pb : PE X (.Name "bool" p2) (tC (.ty "bool")) := pe_bltn (gl_of C g2) (C.blt _ (by decide +kernel)) (by decide +kernel) rfl
  refine (pe_callB call_isi (gl_of C g1) (C.blt _ (by decide +kernel)) (by decide +kernel) (pa_cons ia (pa_cons pb pa_nil) na) (by decide +kernel) (by decide +kernel) na rfl).weaken fun σ H Q ⟨ρ, A, rep, q⟩ => ?_
  rw [rn_rg] at q
  simp only [ev] at q
  refine tS_first rep (Stp.refl _ _) rep q fun r1 ρ1 v1 H1 A1 r1' s1 rv1 ef1 q => ?_
  obtain ⟨as, d1, _⟩ := rv1.any
  obtain ⟨t, h1, h2⟩ := ty_of d1
  exact ⟨_, _, _, _, _, rfl, .ty "bool", h1, h2, q _ H1 A1 r1' s1 (RVal.of_imm (.bl _) rfl) ef1⟩
theorem ty_ofTup {K : PySem.W.Frag} {H : Hp} {v : V} {d : D} {as : List Addr} (r : DpR K H v d as) : ∃ t, TyX K H v (.type t) ∧ PySem.W.kitOne K (.type t) (.type "tuple") = some (isTupD d) := by
  have no : ∀ {t : String}, kitB t "tuple" = some false → PySem.W.kitOne K (.type t) (.type "tuple") = some false := fun h => kit_ty h
  have yes : ∀ {t : String}, kitB t "tuple" = some true → PySem.W.kitOne K (.type t) (.type "tuple") = some true := fun h => kit_ty h
  cases r with
  | non => exact ⟨_, .base .non, no (by decide +kernel)⟩
  | bl b => exact ⟨_, .base (.bl b), no (by decide +kernel)⟩
  | int i => exact ⟨_, .base (.int i), no (by decide +kernel)⟩
  | str x => exact ⟨_, .base (.str x), no (by decide +kernel)⟩
  | lst h r => exact ⟨_, .base (.lst h), no (by decide +kernel)⟩
  | tup h r =>
    rcases h with (h | ⟨o, h⟩) | ⟨o, its, n, h1, h2, _⟩
    · exact ⟨_, .base (.tup h), yes (by decide +kernel)⟩
    · exact ⟨_, .fTuple h, yes (by decide +kernel)⟩
    · exact ⟨_, .kTuple h1 h2, yes (by decide +kernel)⟩
theorem s_isTup {a : E} {x : Expr} {p1 p2 p3 : Pos} (C : Cxt J fs ca k N sc W X) (g1 : glB sc ("isinstance" : Str) = true) (g2 : glB sc ("tuple" : Str) = true) (px : plainX x = true) (ia : SE ca fs k S W X a x) :
    SE ca fs k S W X (.isTup a) (.Call (.Name "isinstance" p1) [x, .Name "tuple" p2] [] p3) := by
  have na : starEach [x, .Name "tuple" p2] X.env = (false, eval x X.env) :: starEach [.Name "tuple" p2] X.env := star_of px
  have pb : PE X (.Name "tuple" p2) (tC (.ty "tuple")) := pe_bltn (gl_of C g2) (C.blt _ (by decide +kernel)) (by decide +kernel) rfl
  refine (pe_callB call_isi (gl_of C g1) (C.blt _ (by decide +kernel)) (by decide +kernel) (pa_cons ia (pa_cons pb pa_nil) na) (by decide +kernel) (by decide +kernel) na rfl).weaken fun σ H Q ⟨ρ, A, rep, q⟩ => ?_
  rw [rn_rg] at q
  simp only [ev] at q
  refine tS_first rep (Stp.refl _ _) rep q fun r1 ρ1 v1 H1 A1 r1' s1 rv1 ef1 q => ?_
  obtain ⟨as, d1, _⟩ := rv1.any
  obtain ⟨t, h1, h2⟩ := ty_ofTup d1
  exact ⟨_, _, _, _, _, rfl, .ty "tuple", h1, h2, q _ H1 A1 r1' s1 (RVal.of_imm (.bl _) rfl) ef1⟩
theorem ty_ofInt {K : PySem.W.Frag} {H : Hp} {v : V} {d : D} {as : List Addr} (r : DpR K H v d as) : ∃ t, TyX K H v (.type t) ∧ PySem.W.kitOne K (.type t) (.type "int") = some (isIntD d) := by
  have no : ∀ {t : String}, kitB t "int" = some false → PySem.W.kitOne K (.type t) (.type "int") = some false := fun h => kit_ty h
  have yes : ∀ {t : String}, kitB t "int" = some true → PySem.W.kitOne K (.type t) (.type "int") = some true := fun h => kit_ty h
  cases r with
  | non => exact ⟨_, .base .non, no (by decide +kernel)⟩
  | bl b => exact ⟨_, .base (.bl b), yes (by decide +kernel)⟩
  | int i => exact ⟨_, .base (.int i), yes (by decide +kernel)⟩
  | str x => exact ⟨_, .base (.str x), no (by decide +kernel)⟩
  | lst h r => exact ⟨_, .base (.lst h), no (by decide +kernel)⟩
  | tup h r =>
    rcases h with (h | ⟨o, h⟩) | ⟨o, its, n, h1, h2, _⟩
    · exact ⟨_, .base (.tup h), no (by decide +kernel)⟩
    · exact ⟨_, .fTuple h, no (by decide +kernel)⟩
    · exact ⟨_, .kTuple h1 h2, no (by decide +kernel)⟩
theorem s_isInt {a : E} {x : Expr} {p1 p2 p3 : Pos} (C : Cxt J fs ca k N sc W X) (g1 : glB sc ("isinstance" : Str) = true) (g2 : glB sc ("int" : Str) = true) (px : plainX x = true) (ia : SE ca fs k S W X a x) :
    SE ca fs k S W X (.isInt a) (.Call (.Name "isinstance" p1) [x, .Name "int" p2] [] p3) := by
  have na : starEach [x, .Name "int" p2] X.env = (false, eval x X.env) :: starEach [.Name "int" p2] X.env := star_of px
  have pb : PE X (.Name "int" p2) (tC (.ty "int")) := pe_bltn (gl_of C g2) (C.blt _ (by decide +kernel)) (by decide +kernel) rfl
  refine (pe_callB call_isi (gl_of C g1) (C.blt _ (by decide +kernel)) (by decide +kernel) (pa_cons ia (pa_cons pb pa_nil) na) (by decide +kernel) (by decide +kernel) na rfl).weaken fun σ H Q ⟨ρ, A, rep, q⟩ => ?_
  rw [rn_rg] at q
  simp only [ev] at q
  refine tS_first rep (Stp.refl _ _) rep q fun r1 ρ1 v1 H1 A1 r1' s1 rv1 ef1 q => ?_
  obtain ⟨as, d1, _⟩ := rv1.any
  obtain ⟨t, h1, h2⟩ := ty_ofInt d1
  exact ⟨_, _, _, _, _, rfl, .ty "int", h1, h2, q _ H1 A1 r1' s1 (RVal.of_imm (.bl _) rfl) ef1⟩
end
end PV
set_option Elab.async false
set_option linter.all false
set_option maxRecDepth 100000
set_option maxHeartbeats 4000000
/-! PVS: sorted(set(t)), t a tuple of ints. -/
namespace PV
open PySem PySem.Spec PyProof.Rows L2
def tSset (K : PySem.W.Frag) (ta : TE) : TE := fun σ H Q => ta σ H fun x H1 => ∃ (l : Addr) (ns : List Int), x = V.ref l ∧ SqT K H1 l (ns.map V.int) ∧ ns.length < 64 ∧
  ∀ (ms : List Int) (p : Addr), ms.Pairwise (· < ·) → (∀ k : Int, k ∈ ms ↔ k ∈ ns) → H1 p = none → Q (.ref p) (upd H1 p (.lst (ms.map V.int)))
theorem pe_sset {X : Cx} {a : Expr} {ta : TE} {p p2 q pos : Pos} (hc : X.calm = true) (hg : Gl X "sorted") (hm : X.mg "sorted" = none) (hg2 : Gl X "set") (hm2 : X.mg "set" = none) (ha : PE X a ta)
    (na : starEach [a] X.env = (false, eval a X.env) :: starEach [] X.env := by rfl) : PE X (.Call (.Name "sorted" p) [.Call (.Name "set" p2) [a] [] q] [] pos) (tSset X.K ta) := by
  refine ⟨fun pins s σ H Q I h => ?_⟩
  refine Call_ (ld_blt I hg hm PyProof.Rows.boot_sorted ?_)
  refine PyProof.Rows.callWith_builtin1 (PyProof.Rows.args_cons ?_ rfl) rfl rfl
  refine Call_ (ld_blt I hg2 hm2 PyProof.Rows.boot_set ?_)
  refine PyProof.Rows.callWith_type1 (PyProof.Rows.args_cons (thn (ha.run pins s σ H _ I h) fun v s1 ⟨x, H1, I1, r1, q1⟩ => PyProof.Rows.args_nil ?_) na) na rfl
  obtain ⟨l, ns, rfl, hq, hl, q1⟩ := q1
  cases r1
  obtain ⟨its, r, pl, hz⟩ := I1.tuple hq
  refine call_set_tupI ns (I1.ok.hd hc) pl (by simpa using r.ints) (by unfold scanBound; omega) fun h' tk c R hcl hk => ?_
  refine PyProof.Rows.args_nil ?_
  have I2 : Inv X pins σ H1 { s1 with heap := h', toks := tk } := I1.kept fun b o e => hk b o e
  have R2 : SetR X.w ({ s1 with heap := h', toks := tk } : Shared).heap s1.heap.objs.size (fun j => decide (j ∈ ns)) c := R
  revert I2 R2
  generalize ({ s1 with heap := h', toks := tk } : Shared) = s2
  intro I2 R2
  refine sorted_set R2 (I2.ok.hd hc) (by omega) fun s' p out c ms k g o hp hg hi hs hm hlm => ?_
  have hlen : (ms.map V.int).length ≤ sizeLine := by rw [List.length_map, hlm, sizeLine_eq]; omega
  have hn : H1 p = none := I2.hok.fresh hp
  have J : Inv X pins σ (upd H1 p (.lst (ms.map V.int))) { s2 with heap := s'.heap, gens := s'.gens, drawn := s'.drawn, toks := s'.toks } :=
    I2.call (ch := []) (Un.laid k hp hn) (I2.hok.laid k hp ⟨hlen, out.toList, c, vals_of_ints hi, hg⟩) (by rw [g]; exact I2.bare) (fun _ z => nomatch z)
  have e : s' = { s2 with heap := s'.heap, gens := s'.gens, drawn := s'.drawn, toks := s'.toks } := by
    cases s'
    cases s2
    cases o
    rfl
  rw [e]
  exact ⟨.ref p, _, J, rfl, q1 ms p hs (fun k => by rw [hm]; simp) hn⟩
theorem insS_mem (x : Int) : ∀ (l : List Int) (k : Int), k ∈ insS x l ↔ k = x ∨ k ∈ l
  | [], k => by simp [insS]
  | y :: r, k => by
    have ih := insS_mem x r k
    rw [insS]
    split
    · simp
    · split
      · rename_i e; subst e; simp
      · simp only [List.mem_cons, ih]
        constructor
        · rintro (h | h | h) <;> simp [h]
        · rintro (h | h | h) <;> simp [h]
theorem insS_asc (x : Int) : ∀ l : List Int, l.Pairwise (· < ·) → (insS x l).Pairwise (· < ·)
  | [], _ => by simp [insS]
  | y :: r, h => by
    obtain ⟨h1, h2⟩ := List.pairwise_cons.mp h
    rw [insS]
    split
    · rename_i hx
      refine List.pairwise_cons.mpr ⟨fun k hk => ?_, h⟩
      rcases List.mem_cons.mp hk with rfl | hk
      · exact hx
      · exact Int.lt_trans hx (h1 k hk)
    · split
      · exact h
      · rename_i hx hy
        refine List.pairwise_cons.mpr ⟨fun k hk => ?_, insS_asc x r h2⟩
        rcases (insS_mem x r k).mp hk with rfl | hk
        · omega
        · exact h1 k hk
theorem ssort_mem : ∀ (l : List Int) (k : Int), k ∈ ssort l ↔ k ∈ l
  | [], k => by simp [ssort]
  | x :: l, k => by rw [ssort, insS_mem, ssort_mem l k, List.mem_cons]
theorem ssort_asc : ∀ l : List Int, (ssort l).Pairwise (· < ·)
  | [] => .nil
  | x :: l => insS_asc x _ (ssort_asc l)
theorem asc_ext : ∀ (a b : List Int), a.Pairwise (· < ·) → b.Pairwise (· < ·) → (∀ k : Int, k ∈ a ↔ k ∈ b) → a = b
  | [], [], _, _, _ => rfl
  | [], y :: b, _, _, h => absurd ((h y).mpr List.mem_cons_self) (by simp)
  | x :: a, [], _, _, h => absurd ((h x).mp List.mem_cons_self) (by simp)
  | x :: a, y :: b, ha, hb, h => by
    obtain ⟨a1, a2⟩ := List.pairwise_cons.mp ha
    obtain ⟨b1, b2⟩ := List.pairwise_cons.mp hb
    have e : x = y := by
      rcases List.mem_cons.mp ((h x).mp List.mem_cons_self) with e | m
      · exact e
      · rcases List.mem_cons.mp ((h y).mpr List.mem_cons_self) with e | m2
        · exact e.symm
        · have := a1 y m2; have := b1 x m; omega
    subst e
    rw [asc_ext a b a2 b2 fun k => ?_]
    constructor
    · intro m
      rcases List.mem_cons.mp ((h k).mp (List.mem_cons_of_mem _ m)) with e | m2
      · have := a1 k m; omega
      · exact m2
    · intro m
      rcases List.mem_cons.mp ((h k).mpr (List.mem_cons_of_mem _ m)) with e | m2
      · have := b1 k m; omega
      · exact m2
theorem intsOf_dp {K : PySem.W.Frag} {H : Hp} : ∀ {xs : List V} {ds : List D} {as : List Addr} {l : List Int}, DpRs K H xs ds as → intsOf ds = some l → xs = l.map V.int ∧ ds = l.map .int
  | _, _, _, l, .nil, h => by simp only [intsOf] at h; cases h; exact ⟨rfl, rfl⟩
  | _, _, _, l, .cons r s, h => by
    cases r with
    | int i =>
      simp only [intsOf] at h
      split at h
      · rename_i l' e
        cases h
        obtain ⟨h1, h2⟩ := intsOf_dp s e
        exact ⟨by rw [h1]; rfl, by rw [h2]; rfl⟩
      · cases h
    | _ => simp only [intsOf] at h; cases h
section
variable {J : Info} {fs : List Fn} {ca : Nat → Addr} {k : Nat} {N : List Str} {sc : Scope} {W : WX} {X : Cx} {S : List Nat}
theorem s_sset {a : E} {x : Expr} {p1 p2 p3 p4 : Pos} (C : Cxt J fs ca k N sc W X) (g1 : glB sc ("sorted" : Str) = true) (g2 : glB sc ("set" : Str) = true) (px : plainX x = true) (ia : SE ca fs k S W X a x) :
    SE ca fs k S W X (.sset a) (.Call (.Name "sorted" p1) [.Call (.Name "set" p2) [x] [] p3] [] p4) := by
  have na : starEach [x] X.env = (false, eval x X.env) :: starEach [] X.env := star_of px
  refine (pe_sset C.calm (gl_of C g1) (C.blt _ (by decide +kernel)) (gl_of C g2) (C.blt _ (by decide +kernel)) ia na).weaken fun σ H Q ⟨ρ, A, rep, q⟩ => ?_
  rw [rn_rg] at q
  simp only [ev] at q
  refine tS_first rep (Stp.refl _ _) rep q fun r1 ρ1 v1 H1 A1 r1' s1 rv1 ef1 q => ?_
  obtain ⟨d, ed, q⟩ := RG.pure (ne_no _) q
  have ed := noExc_inv ed
  obtain ⟨as, d1, _⟩ := rv1.any
  obtain ⟨b, dd⟩ := r1
  cases dd <;> try (simp only [ssetD] at ed; cases ed; done)
  rename_i xs
  simp only [ssetD] at ed
  split at ed
  · rename_i l el
    split at ed
    · rename_i hl
      cases ed
      obtain ⟨t, vs, rfl, hT, rs⟩ := d1.tuple_inv
      obtain ⟨e1, e2⟩ := intsOf_dp rs el
      subst e1
      refine ⟨t, l, rfl, hT, hl, fun ms p hp hm hn => ?_⟩
      have em : ms = ssort l := asc_ext _ _ hp (ssort_asc l) fun k => by rw [hm, ssort_mem]
      subst em
      have sm : Same H1 (upd H1 p (.lst ((ssort l).map V.int))) := same_upd hn
      refine q _ _ A1 (r1'.new sm) (s1.then_new rep sm) ?_ fun e => ?_
      · refine .inl ⟨rfl, [p], .lst upd_same (ints_dp _), by simp, fun a ha => ?_, fun a ha => ?_⟩
        · simp only [List.mem_singleton] at ha
          subst ha
          exact new_out r1' hn
        · simp only [List.mem_singleton] at ha
          subst ha
          exact .inr (s1.there rep hn)
      · obtain ⟨q1, m1⟩ := ef1 e
        exact ⟨q1, m1.trans sm⟩
    · cases ed
  · cases ed
end
end PV
set_option Elab.async false
set_option linter.all false
set_option maxRecDepth 100000
set_option maxHeartbeats 1000000
/-! PV11: what a name owns is changed; pops, counts, calls. -/
namespace PV
open PySem PySem.Spec PyProof.Rows L2
def Own.put (A : Own) (i : Nat) (as : List Addr) : Own := ⟨fun j => if j = i then as else A j, A.fr⟩
theorem Own.put_same (A : Own) (i : Nat) (as : List Addr) : (A.put i as) i = as := if_pos rfl
theorem Own.put_ne (A : Own) {i j : Nat} (as : List Addr) (h : j ≠ i) : (A.put i as) j = A j := if_neg h
theorem get_set (ρ : PV.Env) (i j : Nat) (c : Option Cell) : PV.get (ρ.set i c) j = if i = j ∧ j < ρ.length then c else PV.get ρ j := by
  unfold PV.get
  by_cases h : i = j
  · subst h
    by_cases hl : i < ρ.length
    · rw [List.getElem?_set_self hl, if_pos ⟨rfl, hl⟩]
    · rw [List.getElem?_eq_none (by simpa using hl), if_neg (fun q => hl q.2), List.getElem?_eq_none (by simpa using hl)]
  · rw [List.getElem?_set_ne h, if_neg (fun q => h q.1)]
theorem get_lt {ρ : PV.Env} {i : Nat} {c : Cell} (h : PV.get ρ i = some c) : i < ρ.length := (List.getElem?_eq_some_iff.mp (get_of h)).1
theorem noBor_get {ρ : PV.Env} {i : Nat} {c : Cell} (h : noBor ρ = true) (e : PV.get ρ i = some c) : c.noBor = true := by
  have := List.all_eq_true.mp h _ (List.mem_of_getElem? (get_of e))
  exact this
theorem fix_upd {H : Hp} {a : Addr} {xs ys : List V} (h : H a = some (.lst xs)) : Fix H (upd H a (.lst ys)) := by
  refine ⟨fun b zs e => ?_, fun b o u e => ?_⟩
  · rw [upd_ne (ne_of e h (by intro z; cases z))]; exact e
  · rw [upd_ne (ne_of e h (by intro z; cases z))]; exact e
section
variable {K : PySem.W.Frag} {S : List Nat} {σ : L2.St} {ρ ρ0 : PV.Env} {H H0 : Hp} {A A0 : Own}
/-- the list at a, which name i owns, is changed; i holds the tree d' from now on -/
theorem Rep.upd1 {i : Nat} {d d' : D} {a : Addr} {v : V} {xs ys : List V} {as' : List Addr} (rep : Rep K H S σ ρ A) (nb : noBor ρ = true) (hi : PV.get ρ i = some (.own d)) (ha : a ∈ A i) (hH : H a = some (.lst xs)) (hv : σ[i]? = some (some v))
    (r : DpR K (upd H a (.lst ys)) v d' as') (nd : as'.Nodup) (ho : ∀ b ∈ as', b ∈ A i ∨ (¬ Bd A b ∧ b ∉ A.fr)) : Rep K (upd H a (.lst ys)) S σ (ρ.set i (some (.own d'))) (A.put i as') := by
  have bda : Bd A a := ⟨i, ha⟩
  have keep : ∀ b zs, H b = some (.lst zs) → b ≠ a → upd H a (.lst ys) b = some (.lst zs) := fun b zs e ne => by rw [upd_ne ne]; exact e
  have lst : ∀ b, (∃ zs, H b = some (.lst zs)) → ∃ zs, upd H a (.lst ys) b = some (.lst zs) := fun b ⟨zs, e⟩ => by
    by_cases hb : b = a
    · subst hb; exact ⟨_, upd_same⟩
    · exact ⟨zs, keep b zs e hb⟩
  refine ⟨fun j c h => ?_, fun j l b h1 h2 => ?_, fun j b h => ?_, fun b h => ?_, fun b h => lst b (rep.ftrk b h), fun j hjl h => ?_, by rw [List.length_set]; exact rep.len⟩
  · rw [get_set] at h
    by_cases hj : i = j
    · subst hj
      rw [if_pos ⟨rfl, get_lt hi⟩] at h
      cases h
      exact ⟨v, hv, by show DpR _ _ _ _ ((A.put i as') i) ∧ _; rw [Own.put_same]; exact ⟨r, nd⟩⟩
    · rw [if_neg (fun q => hj q.1)] at h
      obtain ⟨u, e, ok⟩ := rep.cell j c h
      refine ⟨u, e, ?_⟩
      cases c with
      | own e' =>
        show DpR _ _ _ _ ((A.put i as') j) ∧ _
        rw [Own.put_ne _ _ (Ne.symm hj)]
        exact ⟨ok.1.keep (fix_upd hH) fun b hb zs q => keep b zs q fun z => hj (rep.disj i j a ha (z ▸ hb)), ok.2⟩
      | fz e' =>
        obtain ⟨bs, h1, h2⟩ := ok
        exact ⟨bs, h1.keep (fix_upd hH) fun b hb zs q => keep b zs q fun z => rep.fdis b (h2 b hb) (z ▸ bda), h2⟩
      | bor e' => exact absurd (noBor_get nb h) (fun z => Bool.noConfusion z)
      | scr l =>
        obtain ⟨b, h1, h2⟩ := ok
        exact ⟨b, h1, (fix_upd hH).extL h2⟩
  · by_cases hj : j = i
    · by_cases hl : l = i
      · rw [hj, hl]
      · rw [hj, Own.put_same] at h1
        rw [Own.put_ne _ _ hl] at h2
        rcases ho b h1 with q | q
        · exact absurd (rep.disj i l b q h2) (Ne.symm hl)
        · exact absurd ⟨l, h2⟩ q.1
    · by_cases hl : l = i
      · rw [hl, Own.put_same] at h2
        rw [Own.put_ne _ _ hj] at h1
        rcases ho b h2 with q | q
        · exact absurd (rep.disj j i b h1 q) hj
        · exact absurd ⟨j, h1⟩ q.1
      · rw [Own.put_ne _ _ hj] at h1
        rw [Own.put_ne _ _ hl] at h2
        exact rep.disj j l b h1 h2
  · by_cases hj : j = i
    · rw [hj, Own.put_same] at h
      exact r.trk b h
    · rw [Own.put_ne _ _ hj] at h
      exact lst b (rep.trk j b h)
  · rintro ⟨j, hj⟩
    by_cases hji : j = i
    · rw [hji, Own.put_same] at hj
      rcases ho b hj with q | q
      · exact rep.fdis b h ⟨i, q⟩
      · exact q.2 h
    · rw [Own.put_ne _ _ hji] at hj
      exact rep.fdis b h ⟨j, hj⟩
  · by_cases hj : j = i
    · subst hj
      exact absurd (by rw [get_set, if_pos ⟨rfl, get_lt hi⟩]) (h d')
    · rw [Own.put_ne _ _ hj]
      refine rep.emp j (by rwa [List.length_set] at hjl) fun e he => h e ?_
      rw [get_set, if_neg (fun q => hj q.1.symm)]
      exact he
theorem Stp.upd1 {i : Nat} {a : Addr} {xs ys : List V} {as' : List Addr} (s : Stp H0 A0 H A) (ha : a ∈ A i) (hH : H a = some (.lst xs)) (ho : ∀ b ∈ as', b ∈ A i ∨ (Bd A0 b ∨ H0 b = none)) : Stp H0 A0 (upd H a (.lst ys)) (A.put i as') where
  own := fun b ⟨j, hj⟩ => by
    by_cases hji : j = i
    · rw [hji, Own.put_same] at hj
      rcases ho b hj with q | q
      · exact s.own b ⟨i, q⟩
      · exact q
    · rw [Own.put_ne _ _ hji] at hj
      exact s.own b ⟨j, hj⟩
  keep := fun b o e n => by
    have hb : b ≠ a := fun z => by
      subst z
      rcases s.own b ⟨i, ha⟩ with q | q
      · exact n q
      · rw [e] at q; cases q
    rw [upd_ne hb]
    exact s.keep b o e n
  the := fun b e => by
    by_cases hb : b = a
    · rw [hb, upd_same] at e; cases e
    · rw [upd_ne hb] at e; exact s.the b e
  fr := fun b h => s.fr b h
  fro := fun b h => s.fro b h
/-- the list that a name owns -/
theorem Rep.lst {i : Nat} {ds : List D} (rep : Rep K H S σ ρ A) (h : PV.get ρ i = some (.own (.list ds))) : ∃ a xs bs, σ[i]? = some (some (.ref a)) ∧ H a = some (.lst xs) ∧ DpRs K H xs ds bs ∧ A i = a :: bs ∧ (a :: bs).Nodup := by
  obtain ⟨v, e, ok⟩ := rep.cell i _ h
  obtain ⟨r, nd⟩ := ok
  generalize hA : A i = l at r nd
  cases r with
  | lst h r => exact ⟨_, _, _, e, h, r, rfl, nd⟩
end
section
variable {J : Info} {fs : List Fn} {ca : Nat → Addr} {k : Nat} {N : List Str} {sc : Scope} {W : WX} {X : Cx} {S : List Nat}
theorem DpRs.dropLast {K : PySem.W.Frag} {H : Hp} {v : List V} {d : List D} {as : List Addr} (r : DpRs K H v d as) : ∃ bs, DpRs K H v.dropLast d.dropLast bs ∧ bs.Sublist as := by
  rw [List.dropLast_eq_take, List.dropLast_eq_take, r.length]
  exact r.take _
/-- an item leaves the list of a name -/
theorem pop_ok {K : PySem.W.Frag} {σ : L2.St} {H0 H : Hp} {A0 A : Own} {ρ0 ρ : PV.Env} {vs : List Nat} {Q : VK} {i : Nat} {ds es : List D} {d : D} {a : Addr} {xs ys : List V} {bs cs : List Addr} (r0 : Rep K H0 S σ ρ0 A0) (s0 : Stp H0 A0 H A) (rep : Rep K H S σ ρ A) (nb : noBor ρ = true)
    (hg : PV.get ρ i = some (.own (.list ds))) (hv : σ[i]? = some (some (.ref a))) (hH : H a = some (.lst xs)) (hA : A i = a :: bs) (nd : (a :: bs).Nodup) (r : DpRs K H ys es cs) (hc : cs.Sublist bs) {x : V} {es' : List Addr} (hx : DpR K H x d es') (hi : imm d = true)
    (q : Rn K ca S W σ vs true H0 A0 (.ok ((true, d), ρ.set i (some (.own (.list es))))) Q) : Q x (upd H a (.lst ys)) := by
  have hn : a ∉ cs := fun m => (List.nodup_cons.mp nd).1 (hc.subset m)
  have r' : DpRs K (upd H a (.lst ys)) ys es cs := r.keep (fix_upd hH) fun b hb zs e => by
    rw [upd_ne (show b ≠ a from fun z => hn (by rw [← z]; exact hb))]
    exact e
  have nd' : (a :: cs).Nodup := List.nodup_cons.mpr ⟨hn, (List.nodup_cons.mp nd).2.sublist hc⟩
  have sub : ∀ b ∈ a :: cs, b ∈ A i := fun b hb => by
    rw [hA]
    rcases List.mem_cons.mp hb with e | hb
    · rw [e]; exact List.mem_cons_self
    · exact List.mem_cons_of_mem _ (hc.subset hb)
  have hx' : DpR K (upd H a (.lst ys)) x d es' := hx.keep (fix_upd hH) fun b hb => by rw [hx.imm hi] at hb; simp at hb
  refine q x _ (A.put i (a :: cs)) (rep.upd1 nb hg (by rw [hA]; exact List.mem_cons_self) hH hv (.lst upd_same r') nd' fun b hb => .inl (sub b hb)) (s0.upd1 (by rw [hA]; exact List.mem_cons_self) hH fun b hb => .inl (sub b hb)) (RVal.of_imm hx' hi) fun e => by cases e
theorem s_pop0 {i : Nat} {x : Str} {p1 p2 p3 : Pos} (C : Cxt J fs ca k N sc W X) (hn : nameB N sc i x = true) (hl : lineB p2 p3 = true) : SE ca fs k S W X (.pop0 i) (.Call (.Attribute (.Name x p1) "pop" p2) [] [] p3) := by
  refine (pe_bm0 PySem.F.plainAttrs_list PySem.F.slot_list_pop PySem.F.type_list_pop mt_pop (pe_nm C hn) rfl hl).weaken fun σ H Q ⟨ρ, A, rep, q⟩ => ?_
  rw [rn_rg] at q
  simp only [ev] at q
  obtain ⟨ds, eo, q⟩ := RG.pure (ne_own _ _) q
  obtain ⟨d, el, q⟩ := RG.pure (ne_last _) q
  obtain ⟨hk, q⟩ := RG.ite q
  simp only [Bool.and_eq_true] at hk
  have hg := own_inv eo
  have hd := last_inv el
  obtain ⟨a, xs, bs, hv, hH, r, hA, nd⟩ := rep.lst hg
  obtain ⟨cs, r2, sb⟩ := r.dropLast
  obtain ⟨y, es, hy, ry, _⟩ := r.atD hd
  refine ⟨_, hv, .inl ⟨rfl, xs, SqL.of hH⟩, a, xs, y, rfl, rfl, hH, ?_, pop_ok rep (Stp.refl _ _) rep hk.1 hg hv hH hA nd r2 sb ry hk.2 (rn_rg.mpr q)⟩
  rw [r.length]; exact hy
theorem ixN_seq {n j : Nat} {i : Int} (h : PV.ixN n i = some j) : seqIndex? i n = some j := by
  unfold PV.ixN at h
  unfold seqIndex?
  by_cases h0 : 0 ≤ i
  · rw [if_pos h0] at h
    have h1 : ¬ i < 0 := by omega
    simp only [h1, if_false]
    split at h
    · rename_i h2
      cases h
      simp [h0, h2]
    · cases h
  · rw [if_neg h0] at h
    have h1 : i < 0 := by omega
    simp only [h1, if_true]
    split at h
    · rename_i h2
      cases h
      have h3 : 0 ≤ i + (n : Int) := by omega
      have h4 : i + (n : Int) < n := by omega
      simp [h3, h4]
    · cases h
theorem s_pop1 {i : Nat} {e : E} {x : Str} {y : Expr} {p1 p2 p3 : Pos} (C : Cxt J fs ca k N sc W X) (hn : nameB N sc i x = true) (hl : lineB p2 p3 = true) (py : plainX y = true) (ie : SE ca fs k S W X e y) :
    SE ca fs k S W X (.pop1 i e) (.Call (.Attribute (.Name x p1) "pop" p2) [y] [] p3) := by
  have ny : starEach [y] X.env = (false, eval y X.env) :: starEach [] X.env := star_of py
  have few : ((backTo p3 (starEach [y] X.env)).all (fun x => !x.1) && (backToKw p3 (keywordEach [] X.env)).all (fun x => x.1.isSome) && decide ([y].length + ([] : List Keyword).length + (if ([] : List Keyword).isEmpty then 0 else 1) < 30)) = true := by rw [ny]; rfl
  refine (pe_bm PySem.F.plainAttrs_list PySem.F.slot_list_pop PySem.F.type_list_pop mt_popAt (pe_nm C hn) (pa_cons ie pa_nil ny) rfl few hl ny rfl).weaken fun σ H Q ⟨ρ, A, rep, q⟩ => ?_
  rw [rn_rg] at q
  simp only [ev] at q
  obtain ⟨ds0, eo, q⟩ := RG.pure (ne_own _ _) q
  obtain ⟨a0, xs0, bs0, hv0, hH0, _, _, _⟩ := rep.lst (own_inv eo)
  refine ⟨_, hv0, .inl ⟨rfl, xs0, SqL.of hH0⟩, ?_⟩
  refine tS_first rep (Stp.refl _ _) rep q fun r1 ρ1 v1 H1 A1 r1' s1 rv1 ef1 q => ?_
  dsimp only at q
  obtain ⟨ds, eo1, q⟩ := RG.pure (ne_own _ _) q
  obtain ⟨kk, ek, q⟩ := RG.pure (ne_int _) q
  obtain ⟨j, ej, q⟩ := RG.pure (ne_ix _ _) q
  obtain ⟨d, ed, q⟩ := RG.pure (ne_at _ _) q
  obtain ⟨hk, q⟩ := RG.ite q
  simp only [Bool.and_eq_true] at hk
  have hg := own_inv eo1
  have hj := ix_inv ej
  obtain ⟨j', hj', hd⟩ := at_inv ed
  rw [hj] at hj'
  cases hj'
  obtain ⟨a, xs, bs, hv, hH, r, hA, nd⟩ := r1'.lst hg
  rw [hv0] at hv
  cases hv
  obtain ⟨cs, r2, sb⟩ := r.eraseIdx j
  obtain ⟨y, es, hy, ry, _⟩ := r.atD hd
  obtain ⟨as, dd, _⟩ := rv1.any
  rw [int_inv ek] at dd
  have hk2 := hk.2
  simp only [smallI, decide_eq_true_eq] at hk2
  refine ⟨a0, xs, kk, j, y, rfl, by rw [dd.int_inv], hH, by omega, by omega, by rw [r.length]; exact ixN_seq hj, hy, ?_⟩
  exact pop_ok rep s1 r1' hk.1.1 hg hv0 hH hA nd r2 sb ry hk.1.2 (rn_rg.mpr q)
end
end PV
set_option Elab.async false
set_option linter.all false
set_option maxRecDepth 100000
set_option maxHeartbeats 1000000
/-! PV12: calls of defs. -/
namespace PV
open PySem PySem.Spec PyProof.Rows L2

def ArOk (K : PySem.W.Frag) (H : Hp) (A : Own) (U : List Nat) (σ : L2.St) (v : V) : Ar → Prop
  | .val r => ∃ as, DpR K H v r.2 as ∧ ∀ a ∈ as, ∀ i, i ∉ U → a ∉ A i
  | .ref i => σ[i]? = some (some v)
  | .scr i => σ[i]? = some (some v)
def PRa (K : PySem.W.Frag) (S : List Nat) (σ : L2.St) (ef : Bool) (U : List Nat) (H : Hp) (A : Own) (Q : List V → Hp → Prop) (x : List Ar × PV.Env) : Prop :=
  ∀ vs H' A', Rep K H' S σ x.2 A' → Stp H A H' A' → Paired (ArOk K H' A' U σ) vs x.1 → (ef = false → (A' = A ∧ Same H H') ∧ hasRef x.1 = false) → Q vs H'
def tAr (K : PySem.W.Frag) (ca : Nat → Addr) (cf : CF) (S : List Nat) (W : WX) (es : Es) : TA := fun σ H Q => ∃ ρ A, Rep K H S σ ρ A ∧ RG K ca W σ H A (PRa K S σ (effs es) (valsV es ++ S) H A Q) (eva cf es ρ)
section
variable {K : PySem.W.Frag} {ca : Nat → Addr} {cf : CF} {S : List Nat} {W : WX} {σ : L2.St} {H0 H : Hp} {A0 A : Own} {ρ0 ρ : PV.Env} {α : Type} {P : α → Prop}
theorem tAr_first {a : Es} {f : List Ar × PV.Env → Res α} {Q1 : List V → Hp → Prop} (r0 : Rep K H0 S σ ρ0 A0) (s0 : Stp H0 A0 H A) (rep : Rep K H S σ ρ A) (h : RG K ca W σ H0 A0 P (eva cf a ρ >>= f))
    (hq : ∀ r ρ1 v H1 A1, eva cf a ρ = .ok (r, ρ1) → Rep K H1 S σ ρ1 A1 → Stp H A H1 A1 → Paired (ArOk K H1 A1 (valsV a ++ S) σ) v r → (effs a = false → (A1 = A ∧ Same H H1) ∧ hasRef r = false) → RG K ca W σ H0 A0 P (f (r, ρ1)) → Q1 v H1) : tAr K ca cf S W a σ H Q1 := by
  refine ⟨ρ, A, rep, ?_⟩
  rcases e : eva cf a ρ with ⟨r, ρ1⟩ | ⟨c, k, p⟩ | _
  · rw [e] at h
    exact fun v H1 A1 r1 s1 rv ef1 => hq r ρ1 v H1 A1 e r1 s1 rv ef1 h
  · rw [e] at h
    have h' : ExQ K ca H0 A0 (fun a b H' => W a b σ H') c k p := h
    exact ExQ.before r0 s0 h'
  · rw [e] at h
    exact h
theorem ArOk.imp {H1 : Hp} {A1 : Own} {U U2 : List Nat} {v : V} {a : Ar} (h : ArOk K H1 A1 U σ v a) (g : ∀ i, i ∉ U2 → i ∉ U) : ArOk K H1 A1 U2 σ v a := by
  cases a with
  | val r =>
    obtain ⟨as, h, h2⟩ := h
    exact ⟨as, h, fun a ha i hi => h2 a ha i (g i hi)⟩
  | ref i => exact h
  | scr i => exact h
def notRS : E → Bool
  | .ref _ => false
  | .scr _ => false
  | _ => true
theorem eva_val {e : E} {r : Es} (h : notRS e = true) (ρ : PV.Env) : eva cf (.cons e r) ρ = (do
    let (x, ρ1) ← ev cf e ρ
    let (xs, ρ2) ← eva cf r ρ1
    if keeps x (effs r) then .ok (.val x :: xs, ρ2) else .stuck) := by
  cases e <;> first | rfl | (simp [notRS] at h)
end
section
variable {J : Info} {fs : List Fn} {ca : Nat → Addr} {k : Nat} {N : List Str} {sc : Scope} {W : WX} {X : Cx} {S : List Nat}
theorem aa_nil : PA X [] (tAr X.K ca (runF fs k) S W .nil) := pa_nil.weaken fun σ H Q ⟨ρ, A, rep, q⟩ => q [] H A rep (Stp.refl _ _) .nil fun _ => ⟨⟨rfl, Same.refl _⟩, rfl⟩
theorem aa_val {e : E} {r : Es} {x : Expr} {xs : List Expr} (hn : notRS e = true) (pl : plainX x = true) (ie : SE ca fs k S W X e x) (ir : PA X xs (tAr X.K ca (runF fs k) S W r)) : PA X (x :: xs) (tAr X.K ca (runF fs k) S W (.cons e r)) := by
  refine (pa_cons ie ir (star_of pl)).weaken fun σ H Q ⟨ρ, A, rep, q⟩ => ?_
  rw [eva_val hn] at q
  refine tS_first rep (Stp.refl _ _) rep q fun x ρ1 v1 H1 A1 r1 s1 rv1 ef1 q => ?_
  refine tAr_first rep s1 r1 q fun ys ρ2 vs2 H2 A2 _ r2 s2 rv2 ef2 q => ?_
  dsimp only at q
  obtain ⟨hk, q⟩ := RG.ite q
  have hv : valsV (.cons e r) = vars e ++ valsV r := by cases e <;> first | rfl | (simp [notRS] at hn)
  refine q _ H2 A2 r2 (Stp.trans rep s1 s2) (.cons ?_ (L2.Paired.mapP rv2 fun v a h => h.imp fun i hi => ?_)) fun e => ?_
  · obtain ⟨as, d, d2⟩ := (RVal.later rep s1 r1 s2 (fun e => (ef2 e).1) hk rv1).any
    refine ⟨as, d, fun a ha i hi => d2 a ha i ?_⟩
    rw [hv] at hi
    simp only [List.mem_append] at hi ⊢
    exact fun z => hi (z.imp .inl id)
  · rw [hv] at hi
    simp only [List.mem_append] at hi ⊢
    exact fun z => hi (z.imp .inr id)
  · simp only [effs, Bool.or_eq_false_iff] at e
    obtain ⟨q1, m1⟩ := ef1 e.1
    obtain ⟨⟨q2, m2⟩, h2⟩ := ef2 e.2
    exact ⟨⟨q2.trans q1, m1.trans m2⟩, h2⟩
theorem aa_nm {i : Nat} {a : Ar} {r : Es} {x : Str} {p : Pos} {xs : List Expr} {e : E} (C : Cxt J fs ca k N sc W X) (hn : nameB N sc i x = true) (ir : PA X xs (tAr X.K ca (runF fs k) S W r))
    (he : ∀ ρ, eva (runF fs k) (.cons e r) ρ = if (PV.get ρ i).isSome = true then eva (runF fs k) r ρ >>= fun y => .ok (a :: y.1, y.2) else .stuck) (ha : ∀ H A U σ v, σ[i]? = some (some v) → ArOk X.K H A U σ v a) (hr : hasRef [a] = eff e) (hv : valsV (.cons e r) = valsV r) : PA X (.Name x p :: xs) (tAr X.K ca (runF fs k) S W (.cons e r)) := by
  refine (pa_cons (pe_nm C hn) ir rfl).weaken fun σ H Q ⟨ρ, A, rep, q⟩ => ?_
  rw [he] at q
  obtain ⟨hk, q⟩ := RG.ite q
  obtain ⟨c, hc⟩ := Option.isSome_iff_exists.mp hk
  obtain ⟨v, hv', _⟩ := rep.cell i c hc
  refine ⟨v, hv', ?_⟩
  refine tAr_first rep (Stp.refl _ _) rep q fun ys ρ2 vs2 H2 A2 _ r2 s2 rv2 ef2 q => ?_
  refine q _ H2 A2 r2 s2 (.cons (ha _ _ _ _ _ hv') (by rw [hv]; exact rv2)) fun e => ?_
  simp only [effs, Bool.or_eq_false_iff] at e
  obtain ⟨q2, h2⟩ := ef2 e.2
  refine ⟨q2, ?_⟩
  rw [← hr] at e
  cases a <;> simp_all [hasRef]
theorem aa_ref {i : Nat} {r : Es} {x : Str} {p : Pos} {xs : List Expr} (C : Cxt J fs ca k N sc W X) (hn : nameB N sc i x = true) (ir : PA X xs (tAr X.K ca (runF fs k) S W r)) : PA X (.Name x p :: xs) (tAr X.K ca (runF fs k) S W (.cons (.ref i) r)) :=
  aa_nm (a := .ref i) C hn ir (fun ρ => by simp only [eva]) (fun _ _ _ _ _ h => h) rfl rfl
theorem aa_scr {i : Nat} {r : Es} {x : Str} {p : Pos} {xs : List Expr} (C : Cxt J fs ca k N sc W X) (hn : nameB N sc i x = true) (ir : PA X xs (tAr X.K ca (runF fs k) S W r)) : PA X (.Name x p :: xs) (tAr X.K ca (runF fs k) S W (.cons (.scr i) r)) :=
  aa_nm (a := .scr i) C hn ir (fun ρ => by simp only [eva]) (fun _ _ _ _ _ h => h) rfl rfl
/-! ### the call -/
theorem pd_left {α β : Type} {R : α → β → Prop} : ∀ {xs : List α} {ys : List β} {j : Nat} {x : α}, Paired R xs ys → xs[j]? = some x → ∃ y, ys[j]? = some y ∧ R x y
  | _, _, _, _, .nil, h => by simp at h
  | _, _, 0, _, .cons r _, h => by
    simp at h
    subst h
    exact ⟨_, rfl, r⟩
  | _, _, j + 1, _, .cons _ s, h => by
    obtain ⟨y, h1, h2⟩ := pd_left (j := j) s (by simpa using h)
    exact ⟨y, by simpa using h1, h2⟩
theorem pd_right {α β : Type} {R : α → β → Prop} : ∀ {xs : List α} {ys : List β} {j : Nat} {y : β}, Paired R xs ys → ys[j]? = some y → ∃ x, xs[j]? = some x ∧ R x y
  | _, _, _, _, .nil, h => by simp at h
  | _, _, 0, _, .cons r _, h => by
    simp at h
    subst h
    exact ⟨_, rfl, r⟩
  | _, _, j + 1, _, .cons _ s, h => by
    obtain ⟨y, h1, h2⟩ := pd_right (j := j) s (by simpa using h)
    exact ⟨y, by simpa using h1, h2⟩
theorem pd_len {α β : Type} {R : α → β → Prop} : ∀ {xs : List α} {ys : List β}, Paired R xs ys → xs.length = ys.length
  | _, _, .nil => rfl
  | _, _, .cons _ s => by simp [pd_len s]
def CellAr (ρ : PV.Env) : Ar → Cell → Prop
  | .val r, c => c = if imm r.2 then .own r.2 else .fz r.2
  | .ref i, c => ∃ d, PV.get ρ i = some (.own d) ∧ c = .own d
  | .scr i, c => ∃ l, PV.get ρ i = some (.scr l) ∧ c = .scr l
theorem arCells_ok {ρ : PV.Env} : ∀ {ars : List Ar} {cs : List Cell}, arCells ρ ars = some cs → Paired (CellAr ρ) ars cs
  | [], _, h => by simp only [arCells] at h; cases h; exact .nil
  | .val r :: as, _, h => by
    simp only [arCells] at h
    split at h
    · rename_i e; cases h; exact .cons rfl (arCells_ok e)
    · cases h
  | .ref i :: as, _, h => by
    simp only [arCells] at h
    split at h
    · rename_i e1 e; cases h; exact .cons ⟨_, e1, rfl⟩ (arCells_ok e)
    · cases h
  | .scr i :: as, _, h => by
    simp only [arCells] at h
    split at h
    · rename_i e1 e; cases h; exact .cons ⟨_, e1, rfl⟩ (arCells_ok e)
    · cases h
theorem refs_of {ars : List Ar} {i : Nat} : i ∈ arRefs ars ↔ ∃ j : Nat, ars[j]? = some (.ref i) := by
  induction ars with
  | nil => simp [arRefs]
  | cons a as ih =>
    constructor
    · intro h
      cases a with
      | ref i' =>
        rcases List.mem_cons.mp h with e | h
        · exact ⟨0, by simp [e]⟩
        · obtain ⟨j, e⟩ := ih.mp h
          exact ⟨j + 1, by simpa using e⟩
      | val r =>
        obtain ⟨j, e⟩ := ih.mp h
        exact ⟨j + 1, by simpa using e⟩
      | scr r =>
        obtain ⟨j, e⟩ := ih.mp h
        exact ⟨j + 1, by simpa using e⟩
    · rintro ⟨j, e⟩
      cases j with
      | zero =>
        simp at e
        subst e
        exact List.mem_cons_self
      | succ j =>
        have := ih.mpr ⟨j, by simpa using e⟩
        cases a <;> first | exact this | exact List.mem_cons_of_mem _ this
theorem arBack_ok : ∀ {ars : List Ar} {outs : List (Option Cell)} {ρ ρ2 : PV.Env}, arBack ρ ars outs = some ρ2 → (arRefs ars).Nodup → (∀ i, i ∉ arRefs ars → PV.get ρ2 i = PV.get ρ i) ∧
    ∀ (j i : Nat), ars[j]? = some (.ref i) → ∃ d, outs[j]? = some (some (.own d)) ∧ (i < ρ.length → PV.get ρ2 i = some (.own d)) ∧ ∀ c, PV.get ρ2 i = some c → c = .own d
  | [], _, ρ, ρ2, h, _ => by
    simp only [arBack] at h
    cases h
    exact ⟨fun _ _ => rfl, fun j i e => by simp at e⟩
  | .val r :: as, [], _, _, h, _ => by simp [arBack] at h
  | .scr r :: as, [], _, _, h, _ => by simp [arBack] at h
  | .ref r :: as, [], _, _, h, _ => by simp [arBack] at h
  | .val r :: as, c :: cs, ρ, ρ2, h, nd => by
    simp only [arBack] at h
    obtain ⟨h1, h2⟩ := arBack_ok h nd
    refine ⟨h1, fun j i e => ?_⟩
    cases j with
    | zero => simp at e
    | succ j => exact h2 j i (by simpa using e)
  | .scr r :: as, c :: cs, ρ, ρ2, h, nd => by
    simp only [arBack] at h
    obtain ⟨h1, h2⟩ := arBack_ok h nd
    refine ⟨h1, fun j i e => ?_⟩
    cases j with
    | zero => simp at e
    | succ j => exact h2 j i (by simpa using e)
  | .ref i0 :: as, c :: cs, ρ, ρ2, h, nd => by
    have nd' : i0 ∉ arRefs as ∧ (arRefs as).Nodup := List.nodup_cons.mp nd
    cases c with
    | none => simp [arBack] at h
    | some c =>
      cases c with
      | own d =>
        simp only [arBack] at h
        obtain ⟨h1, h2⟩ := arBack_ok h nd'.2
        refine ⟨fun i hi => ?_, fun j i e => ?_⟩
        · have hi' : i ≠ i0 ∧ i ∉ arRefs as := by simpa [arRefs] using hi
          rw [h1 i hi'.2, get_set, if_neg (fun q => hi'.1 q.1.symm)]
        · cases j with
          | zero =>
            simp at e
            subst e
            refine ⟨d, rfl, fun hl => by rw [h1 _ nd'.1, get_set, if_pos ⟨rfl, hl⟩], fun c hc => ?_⟩
            rw [h1 _ nd'.1, get_set] at hc
            by_cases hl : i0 < ρ.length
            · rw [if_pos ⟨rfl, hl⟩] at hc
              cases hc
              rfl
            · rw [if_neg (fun q => hl q.2)] at hc
              exact absurd (get_lt hc) hl
          | succ j =>
            obtain ⟨d', q1, q2, q3⟩ := h2 j i (by simpa using e)
            exact ⟨d', q1, fun hl => q2 (by rw [List.length_set]; exact hl), q3⟩
      | _ => simp [arBack] at h
theorem arBack_len : ∀ {ars : List Ar} {outs : List (Option Cell)} {ρ ρ2 : PV.Env}, arBack ρ ars outs = some ρ2 → ρ2.length = ρ.length
  | [], _, ρ, ρ2, h => by simp only [arBack] at h; cases h; rfl
  | .val r :: as, [], _, _, h => by simp [arBack] at h
  | .scr r :: as, [], _, _, h => by simp [arBack] at h
  | .ref r :: as, [], _, _, h => by simp [arBack] at h
  | .val r :: as, c :: cs, ρ, ρ2, h => arBack_len (ars := as) (outs := cs) h
  | .scr r :: as, c :: cs, ρ, ρ2, h => arBack_len (ars := as) (outs := cs) h
  | .ref i0 :: as, c :: cs, ρ, ρ2, h => by
    cases c with
    | none => simp [arBack] at h
    | some c =>
      cases c with
      | own d =>
        simp only [arBack] at h
        rw [arBack_len h, List.length_set]
      | _ => simp [arBack] at h
theorem noRef {ars : List Ar} (h : hasRef ars = false) : arRefs ars = [] := by
  induction ars with
  | nil => rfl
  | cons a as ih => cases a <;> first | exact ih h | (simp [hasRef] at h)
/-- what the values of the arguments hold -/
theorem val_nodes {K : PySem.W.Frag} {H : Hp} {A : Own} {U : List Nat} {σ : L2.St} : ∀ {vs : List V} {ars : List Ar}, Paired (ArOk K H A U σ) vs ars → ∃ F : List Addr, (∀ (j : Nat) v r, vs[j]? = some v → ars[j]? = some (.val r) → ∃ as, DpR K H v r.2 as ∧ ∀ a ∈ as, a ∈ F) ∧ (∀ a ∈ F, ∃ xs, H a = some (.lst xs)) ∧ ((arVals ars).all imm = true → F = []) ∧ ∀ a ∈ F, ∀ i, i ∉ U → a ∉ A i
  | _, _, .nil => ⟨[], fun j v r h => by simp at h, fun _ h => by simp at h, fun _ => rfl, fun _ h => by simp at h⟩
  | _, _, .cons (a := v) (b := a) h0 s => by
    obtain ⟨F, h1, h2, h3, h4⟩ := val_nodes s
    cases a with
    | val r =>
      obtain ⟨as, dp, dq⟩ := h0
      refine ⟨as ++ F, fun j v' r' e1 e2 => ?_, fun b hb => (List.mem_append.mp hb).elim (dp.trk b) (h2 b), fun e => ?_, fun b hb => (List.mem_append.mp hb).elim (dq b) (h4 b)⟩
      · cases j with
        | zero =>
          simp at e1 e2
          subst e1 e2
          exact ⟨as, dp, fun a ha => List.mem_append_left _ ha⟩
        | succ j =>
          obtain ⟨bs, q1, q2⟩ := h1 j v' r' (by simpa using e1) (by simpa using e2)
          exact ⟨bs, q1, fun a ha => List.mem_append_right _ (q2 a ha)⟩
      · simp only [arVals, List.all_cons, Bool.and_eq_true] at e
        rw [dp.imm e.1, h3 e.2]
        rfl
    | _ =>
      refine ⟨F, fun j v' r' e1 e2 => ?_, h2, h3, h4⟩
      cases j with
      | zero => simp at e2
      | succ j => exact h1 j v' r' (by simpa using e1) (by simpa using e2)
end
end PV
set_option Elab.async false
set_option linter.all false
set_option maxRecDepth 100000
set_option maxHeartbeats 1000000
/-! PV13: the call of a def. -/
namespace PV
open PySem PySem.Spec PyProof.Rows L2
section
variable {J : Info} {fs : List Fn} {ca : Nat → Addr} {k : Nat} {N : List Str} {sc : Scope} {W : WX} {X : Cx} {S : List Nat}
/-- what the def's names own at its begin -/
noncomputable def argOwn (A : Own) (ars : List Ar) (F : List Addr) : Own := ⟨fun j => match ars[j]? with
  | some (.ref i) => A i
  | _ => [], F⟩
open Classical in
/-- .. and what the caller's names own behind it -/
noncomputable def backOwn (A : Own) (ars : List Ar) (A' : Own) : Own := ⟨fun i => if h : ∃ j : Nat, ars[j]? = some (.ref i) then A' h.choose else A i, A.fr⟩
theorem argOwn_mem {A : Own} {ars : List Ar} {F : List Addr} {j : Nat} {a : Addr} (h : a ∈ (argOwn A ars F) j) : ∃ i, ars[j]? = some (.ref i) ∧ a ∈ A i := by
  unfold argOwn at h
  dsimp only at h
  split at h
  · rename_i i e; exact ⟨i, e, h⟩
  · simp at h
theorem argOwn_out {A : Own} {ars : List Ar} {F : List Addr} {j : Nat} (h : ars.length ≤ j) : (argOwn A ars F) j = [] := by
  unfold argOwn
  dsimp only
  rw [List.getElem?_eq_none h]
theorem argOwn_ref {A : Own} {ars : List Ar} {F : List Addr} {j i : Nat} (h : ars[j]? = some (.ref i)) : (argOwn A ars F) j = A i := by
  unfold argOwn
  dsimp only
  rw [h]
theorem backOwn_mem {A A' : Own} {ars : List Ar} {i : Nat} {a : Addr} (h : a ∈ (backOwn A ars A') i) : (∃ j : Nat, ars[j]? = some (.ref i) ∧ a ∈ A' j) ∨ ((¬ ∃ j : Nat, ars[j]? = some (.ref i)) ∧ a ∈ A i) := by
  unfold backOwn at h
  dsimp only at h
  split at h
  · rename_i q; exact .inl ⟨_, q.choose_spec, h⟩
  · rename_i q; exact .inr ⟨q, h⟩
theorem backOwn_ref {A A' : Own} {ars : List Ar} {i : Nat} (h : ∃ j : Nat, ars[j]? = some (.ref i)) : ∃ j : Nat, ars[j]? = some (.ref i) ∧ (backOwn A ars A') i = A' j := by
  refine ⟨h.choose, h.choose_spec, ?_⟩
  unfold backOwn
  dsimp only
  rw [dif_pos h]
theorem backOwn_not {A A' : Own} {ars : List Ar} {i : Nat} (h : ¬ ∃ j : Nat, ars[j]? = some (.ref i)) : (backOwn A ars A') i = A i := by
  unfold backOwn
  dsimp only
  rw [dif_neg h]
theorem ref_one {ars : List Ar} (nd : (arRefs ars).Nodup) : ∀ {j l i : Nat}, ars[j]? = some (.ref i) → ars[l]? = some (.ref i) → j = l := by
  induction ars with
  | nil => intro j l i h; simp at h
  | cons a as ih =>
    intro j l i h1 h2
    have tail : (arRefs as).Nodup := by cases a <;> first | exact nd | exact (List.nodup_cons.mp nd).2
    cases j with
    | zero =>
      simp at h1
      subst h1
      cases l with
      | zero => rfl
      | succ l => exact absurd (refs_of.mpr ⟨l, by simpa using h2⟩) (List.nodup_cons.mp nd).1
    | succ j =>
      cases l with
      | zero =>
        simp at h2
        subst h2
        exact absurd (refs_of.mpr ⟨j, by simpa using h1⟩) (List.nodup_cons.mp nd).1
      | succ l => exact congrArg (· + 1) (ih tail (j := j) (l := l) (i := i) (by simpa using h1) (by simpa using h2))
section
variable {K : PySem.W.Frag} {H H' : Hp} {σ : L2.St} {ρ : PV.Env} {A : Own} {vs : List V} {ars : List Ar} {cs : List Cell} {F : List Addr}
theorem get_map {cs : List Cell} {j : Nat} {c : Cell} (h : PV.get (cs.map some) j = some c) : cs[j]? = some c := by
  have q := get_of h
  rw [List.getElem?_map] at q
  cases e : cs[j]? with
  | none => rw [e] at q; cases q
  | some c' => rw [e] at q; cases q; rfl
/-- the def's state at its begin -/
theorem rep_args {U : List Nat} (rep : Rep K H S σ ρ A) (pa : Paired (ArOk K H A U σ) vs ars) (pc : Paired (CellAr ρ) ars cs) (f1 : ∀ (j : Nat) v r, vs[j]? = some v → ars[j]? = some (.val r) → ∃ as, DpR K H v r.2 as ∧ ∀ a ∈ as, a ∈ F) (f2 : ∀ a ∈ F, ∃ xs, H a = some (.lst xs)) (nd : (arRefs ars).Nodup)
    (f3 : ∀ a ∈ F, ∀ j i : Nat, ars[j]? = some (.ref i) → a ∉ A i) : Rep K H [] (vs.map some) (cs.map some) (argOwn A ars F) := by
  refine ⟨fun j c h => ?_, fun i j a h1 h2 => ?_, fun j a h => ?_, fun a h => ?_, fun a h => f2 a h, fun j _ h => ?_, by rw [List.length_map, List.length_map, pd_len pa, pd_len pc]; exact Nat.le_refl _⟩
  · have hc := get_map h
    obtain ⟨a, ha, ok⟩ := pd_right pc hc
    obtain ⟨v, hv, av⟩ := pd_right pa ha
    refine ⟨v, by rw [List.getElem?_map, hv]; rfl, ?_⟩
    cases a with
    | val r =>
      obtain ⟨as, d1, d2⟩ := f1 j v r hv ha
      have e : (argOwn A ars F) j = [] := by unfold argOwn; dsimp only; rw [ha]
      have okc : c = if imm r.2 = true then .own r.2 else .fz r.2 := ok
      subst okc
      by_cases hi : imm r.2 = true
      · rw [if_pos hi]
        show DpR K H v r.2 ((argOwn A ars F) j) ∧ _
        rw [e]
        have := d1.imm hi
        subst this
        exact ⟨d1, .nil⟩
      · rw [if_neg hi]
        exact ⟨as, d1, d2⟩
    | ref i =>
      obtain ⟨d, h1, h2⟩ := ok
      subst h2
      obtain ⟨u, e1, ok1⟩ := rep.cell i _ h1
      have av' : σ[i]? = some (some v) := av
      rw [e1] at av'
      cases av'
      show DpR K H v d ((argOwn A ars F) j) ∧ ((argOwn A ars F) j).Nodup
      rw [argOwn_ref ha]
      exact ok1
    | scr i =>
      obtain ⟨l, h1, h2⟩ := ok
      subst h2
      obtain ⟨u, e1, ok1⟩ := rep.cell i _ h1
      have av' : σ[i]? = some (some v) := av
      rw [e1] at av'
      cases av'
      exact ok1
  · obtain ⟨i', e1, m1⟩ := argOwn_mem h1
    obtain ⟨j', e2, m2⟩ := argOwn_mem h2
    have := rep.disj i' j' a m1 m2
    subst this
    exact ref_one nd e1 e2
  · obtain ⟨i, e, m⟩ := argOwn_mem h
    exact rep.trk i a m
  · rintro ⟨j, hj⟩
    obtain ⟨i, e, m⟩ := argOwn_mem hj
    exact f3 a h j i e m
  · cases e : ars[j]? with
    | none => unfold argOwn; dsimp only; rw [e]
    | some x =>
      cases x with
      | ref i =>
        obtain ⟨c, hc, ok⟩ := pd_left pc e
        obtain ⟨d, h1, h2⟩ := ok
        subst h2
        refine absurd ?_ (h d)
        unfold PV.get
        rw [List.getElem?_map, hc]
        rfl
      | _ => unfold argOwn; dsimp only; rw [e]
theorem bd_arg {a : Addr} (h : Bd (argOwn A ars F) a) : Bd A a := by
  obtain ⟨j, hj⟩ := h
  obtain ⟨i, _, m⟩ := argOwn_mem hj
  exact ⟨i, m⟩
/-- the caller's state behind it -/
theorem rep_back {U : List Nat} {σ' : L2.St} {outs : List (Option Cell)} {A' : Own} {ρ2 : PV.Env} {io : List Nat} (rep : Rep K H S σ ρ A) (nb : noBor ρ = true) (pa : Paired (ArOk K H A U σ) vs ars) (nd : (arRefs ars).Nodup) (r' : Rep K H' [] σ' outs A')
    (hio : ∀ j ∈ io, ∀ x, vs[j]? = some x → σ'[j]? = some (some x)) (hin : ∀ j i : Nat, ars[j]? = some (.ref i) → j ∈ io) (s : Stp0 H (argOwn A ars F) H' A') (hb : arBack ρ ars outs = some ρ2) (pc : Paired (CellAr ρ) ars cs) : Rep K H' S σ ρ2 (backOwn A ars A') ∧ Stp H A H' (backOwn A ars A') := by
  obtain ⟨b1, b2⟩ := arBack_ok hb nd
  have notb : ∀ {i : Nat} {a : Addr}, (¬ ∃ j : Nat, ars[j]? = some (.ref i)) → a ∈ A i → ¬ Bd (argOwn A ars F) a := fun hn ha ⟨j, hj⟩ => by
    obtain ⟨i', e, m⟩ := argOwn_mem hj
    have := rep.disj _ _ _ ha m
    subst this
    exact hn ⟨j, e⟩
  have notf : ∀ {a : Addr}, a ∈ A.fr → ¬ Bd (argOwn A ars F) a := fun ha q => rep.fdis _ ha (bd_arg q)
  have fx : Fix H H' := by
    refine ⟨fun a xs h => s.keep a _ h fun ⟨j, hj⟩ => ?_, fun a o u h => s.keep a _ h fun ⟨j, hj⟩ => ?_⟩
    · obtain ⟨i, e, m⟩ := argOwn_mem hj
      obtain ⟨ys, q⟩ := rep.trk i a m
      rw [h] at q
      cases q
    · obtain ⟨i, e, m⟩ := argOwn_mem hj
      obtain ⟨ys, q⟩ := rep.trk i a m
      rw [h] at q
      cases q
  -- what the def owns now is not of another name
  have cross : ∀ {i j : Nat} {a : Addr}, (¬ ∃ j : Nat, ars[j]? = some (.ref i)) → a ∈ A i → a ∈ A' j → False := fun hn ha hj => by
    rcases s.own _ ⟨_, hj⟩ with q | q
    · exact notb hn ha q
    · obtain ⟨ys, e⟩ := rep.trk _ _ ha
      rw [q] at e; cases e
  refine ⟨⟨fun i c h => ?_, fun i l a h1 h2 => ?_, fun i a h => ?_, fun a h => ?_, fun a h => ?_, fun i hil h => ?_, by rw [arBack_len hb]; exact rep.len⟩, ⟨fun a ⟨i, hi⟩ => ?_, fun a o h n => s.keep a o h fun q => n (bd_arg q), s.the, fun a h => h, fun a h => .inl h⟩⟩
  · by_cases hr : ∃ j : Nat, ars[j]? = some (.ref i)
    · obtain ⟨j, e, eA⟩ := backOwn_ref (A := A) (A' := A') hr
      obtain ⟨d, h1, _, h2⟩ := b2 j i e
      have := h2 c h
      subst this
      obtain ⟨v, hv, av⟩ := pd_right pa e
      have av' : σ[i]? = some (some v) := av
      have gj : PV.get outs j = some (.own d) := by unfold PV.get; rw [h1]
      obtain ⟨u, e1, ok⟩ := r'.cell j _ gj
      rw [hio j (hin j i e) v hv] at e1
      cases e1
      refine ⟨v, av', ?_⟩
      show DpR K H' v d ((backOwn A ars A') i) ∧ _
      rw [eA]
      exact ok
    · rw [b1 i (fun q => hr (refs_of.mp q))] at h
      obtain ⟨v, e1, ok⟩ := rep.cell i c h
      refine ⟨v, e1, ?_⟩
      cases c with
      | own d =>
        show DpR K H' v d ((backOwn A ars A') i) ∧ _
        rw [backOwn_not hr]
        exact ⟨ok.1.keep fx fun a ha xs q => s.keep a _ q (notb hr ha), ok.2⟩
      | fz d =>
        obtain ⟨as, k1, k2⟩ := ok
        exact ⟨as, k1.keep fx fun a ha xs q => s.keep a _ q (notf (k2 a ha)), k2⟩
      | bor d => exact absurd (noBor_get nb h) (fun z => Bool.noConfusion z)
      | scr l =>
        obtain ⟨a, k1, k2⟩ := ok
        exact ⟨a, k1, fx.extL k2⟩
  · rcases backOwn_mem h1 with ⟨j, e1, m1⟩ | ⟨n1, m1⟩
    · rcases backOwn_mem h2 with ⟨j2, e2, m2⟩ | ⟨n2, m2⟩
      · have := r'.disj j j2 a m1 m2
        subst this
        rw [e1] at e2
        cases e2
        rfl
      · exact (cross n2 m2 m1).elim
    · rcases backOwn_mem h2 with ⟨j2, e2, m2⟩ | ⟨n2, m2⟩
      · exact (cross n1 m1 m2).elim
      · exact rep.disj i l a m1 m2
  · rcases backOwn_mem h with ⟨j, e1, m1⟩ | ⟨n1, m1⟩
    · exact r'.trk j a m1
    · obtain ⟨xs, q⟩ := rep.trk i a m1
      exact ⟨xs, s.keep a _ q (notb n1 m1)⟩
  · rintro ⟨i, hi⟩
    rcases backOwn_mem hi with ⟨j, e1, m1⟩ | ⟨n1, m1⟩
    · rcases s.own _ ⟨_, m1⟩ with q | q
      · exact notf h q
      · obtain ⟨ys, e⟩ := rep.ftrk a h
        rw [q] at e; cases e
    · exact rep.fdis a h ⟨i, m1⟩
  · obtain ⟨xs, q⟩ := rep.ftrk a h
    exact ⟨xs, s.keep a _ q (notf h)⟩
  · by_cases hr : ∃ j : Nat, ars[j]? = some (.ref i)
    · obtain ⟨j, e⟩ := hr
      obtain ⟨d, _, h2, _⟩ := b2 j i e
      obtain ⟨c, _, ok⟩ := pd_left pc e
      obtain ⟨d', g, _⟩ := ok
      exact absurd (h2 (get_lt g)) (h d)
    · rw [backOwn_not hr]
      refine rep.emp i (by rwa [arBack_len hb] at hil) fun d hd => h d ?_
      rw [b1 i (fun q => hr (refs_of.mp q))]
      exact hd
  · rcases backOwn_mem hi with ⟨j, e1, m1⟩ | ⟨n1, m1⟩
    · exact (s.own _ ⟨_, m1⟩).imp bd_arg id
    · exact .inl ⟨i, m1⟩
theorem back_same : ∀ {ars : List Ar} {outs : List (Option Cell)} {ρ ρ2 : PV.Env}, arBack ρ ars outs = some ρ2 → arRefs ars = [] → ρ2 = ρ
  | [], _, ρ, ρ2, h, _ => by simp only [arBack] at h; cases h; rfl
  | .val r :: as, [], _, _, h, _ => by simp [arBack] at h
  | .scr r :: as, [], _, _, h, _ => by simp [arBack] at h
  | .ref r :: as, _, _, _, h, e => by simp [arRefs] at e
  | .val r :: as, c :: cs, ρ, ρ2, h, e => back_same (ars := as) (outs := cs) h e
  | .scr r :: as, c :: cs, ρ, ρ2, h, e => back_same (ars := as) (outs := cs) h e
end
theorem eva_refs {cf : CF} : ∀ {es : Es} {ρ ρ1 : PV.Env} {ars : List Ar} {io : List Nat} {n : Nat}, eva cf es ρ = .ok (ars, ρ1) → refsB io n es = true → ∀ j i : Nat, ars[j]? = some (.ref i) → n + j ∈ io
  | .nil, ρ, ρ1, ars, io, n, h, hb, j, i, e => by
    simp only [eva] at h
    cases h
    simp at e
  | .cons x r, ρ, ρ1, ars, io, n, h, hb, j, i, e => by
    have rest : ∀ ρ' ρ2 ys, eva cf r ρ' = .ok (ys, ρ2) → refsB io (n + 1) r = true → ∀ j i : Nat, ys[j]? = some (.ref i) → n + (j + 1) ∈ io := fun ρ' ρ2 ys q b j i e => by
      have := eva_refs q b j i e
      rwa [show n + 1 + j = n + (j + 1) by omega] at this
    by_cases hn : notRS x = true
    · rw [eva_val hn] at h
      have hb' : refsB io (n + 1) r = true := by cases x <;> first | exact hb | (simp [notRS] at hn)
      rcases e1 : ev cf x ρ with ⟨r1, ρ'⟩ | _ | _ <;> rw [e1] at h <;> try (cases h; done)
      simp only [bind_ok] at h
      rcases e2 : eva cf r ρ' with ⟨ys, ρ2⟩ | _ | _ <;> rw [e2] at h <;> try (cases h; done)
      simp only [bind_ok] at h
      split at h
      · cases h
        cases j with
        | zero => simp at e
        | succ j => exact rest _ _ _ e2 hb' j i (by simpa using e)
      · cases h
    · cases x <;> try (exact absurd rfl hn)
      · rename_i i0
        simp only [eva] at h
        split at h
        · rcases e2 : eva cf r ρ with ⟨ys, ρ2⟩ | _ | _ <;> rw [e2] at h <;> try (cases h; done)
          simp only [bind_ok] at h
          cases h
          simp only [refsB, Bool.and_eq_true] at hb
          cases j with
          | zero => exact List.contains_iff_mem.mp hb.1
          | succ j => exact rest _ _ _ e2 hb.2 j i (by simpa using e)
        · cases h
      · rename_i i0
        simp only [eva] at h
        split at h
        · rcases e2 : eva cf r ρ with ⟨ys, ρ2⟩ | _ | _ <;> rw [e2] at h <;> try (cases h; done)
          simp only [bind_ok] at h
          cases h
          have hb' : refsB io (n + 1) r = true := hb
          cases j with
          | zero => simp at e
          | succ j => exact rest _ _ _ e2 hb' j i (by simpa using e)
        · cases h
theorem eva_refE {cf : CF} : ∀ {es : Es} {ρ ρ1 : PV.Env} {ars : List Ar}, eva cf es ρ = .ok (ars, ρ1) → ∀ j i : Nat, ars[j]? = some (.ref i) → i ∈ refsE es
  | .nil, ρ, ρ1, ars, h, j, i, e => by
    simp only [eva] at h
    cases h
    simp at e
  | .cons x r, ρ, ρ1, ars, h, j, i, e => by
    by_cases hn : notRS x = true
    · rw [eva_val hn] at h
      have hv : refsE (.cons x r) = refsE r := by cases x <;> first | rfl | (simp [notRS] at hn)
      rcases e1 : ev cf x ρ with ⟨r1, ρ'⟩ | _ | _ <;> rw [e1] at h <;> try (cases h; done)
      simp only [bind_ok] at h
      rcases e2 : eva cf r ρ' with ⟨ys, ρ2⟩ | _ | _ <;> rw [e2] at h <;> try (cases h; done)
      simp only [bind_ok] at h
      split at h
      · cases h
        rw [hv]
        cases j with
        | zero => simp at e
        | succ j => exact eva_refE e2 j i (by simpa using e)
      · cases h
    · cases x <;> try (exact absurd rfl hn)
      · rename_i i0
        simp only [eva] at h
        split at h
        · rcases e2 : eva cf r ρ with ⟨ys, ρ2⟩ | _ | _ <;> rw [e2] at h <;> try (cases h; done)
          simp only [bind_ok] at h
          cases h
          cases j with
          | zero =>
            simp at e
            subst e
            exact List.mem_cons_self
          | succ j => exact List.mem_cons_of_mem _ (eva_refE e2 j i (by simpa using e))
        · cases h
      · rename_i i0
        simp only [eva] at h
        split at h
        · rcases e2 : eva cf r ρ with ⟨ys, ρ2⟩ | _ | _ <;> rw [e2] at h <;> try (cases h; done)
          simp only [bind_ok] at h
          cases h
          cases j with
          | zero => simp at e
          | succ j => exact eva_refE e2 j i (by simpa using e)
        · cases h
theorem io_of {io : List Nat} {j i : Nat} {ars : List Ar} (h : ∀ j i : Nat, ars[j]? = some (.ref i) → 0 + j ∈ io) (e : ars[j]? = some (.ref i)) : j ∈ io := by
  have := h j i e
  rwa [Nat.zero_add] at this
theorem w_call {f : Nat} {as : Es} {σ : L2.St} {H : Hp} {Q : VK} (hS : effs as = true → S = []) (ef : refsB (J.io f) 0 as = true) (h : tS X.K ca (runF fs k) S W (.call f as) σ H Q) : tCallS (spF J fs ca X.K k f) (WE W) (tAr X.K ca (runF fs k) S W as) σ H Q := by
  obtain ⟨ρ, A, rep, q⟩ := h
  rw [rn_rg] at q
  simp only [ev] at q
  refine tAr_first rep (Stp.refl _ _) rep q fun ars ρ1 vs H1 A1 ee r1 s1 rv1 ef1 q => ?_
  dsimp only at q
  unfold callA at q
  split at q
  · exact q.elim
  rename_i hc
  split at q
  · exact q.elim
  rename_i cs hcs
  have pc := arCells_ok hcs
  obtain ⟨F, f1, f2, f3, f4⟩ := val_nodes rv1
  have hl : vs.length = cs.length := (pd_len rv1).trans (pd_len pc)
  have hnb : noBor (cs.map some) = true := by
    apply List.all_eq_true.mpr
    intro x hx
    obtain ⟨c, hc', e⟩ := List.mem_map.mp hx
    subst e
    obtain ⟨j, hj⟩ := List.mem_iff_getElem?.mp hc'
    obtain ⟨a, _, ok⟩ := pd_right pc hj
    show Cell.noBor c = true
    cases a with
    | val r =>
      have okc : c = if imm r.2 = true then .own r.2 else .fz r.2 := ok
      rw [okc]
      split <;> rfl
    | ref i => obtain ⟨d, _, e⟩ := ok; rw [e]; rfl
    | scr i => obtain ⟨d, _, e⟩ := ok; rw [e]; rfl
  have io := fun j i e => io_of (eva_refs ee ef) (j := j) (i := i) e
  by_cases hr : hasRef ars = true
  · -- names are handed over
    have hc' : noBor ρ1 = true ∧ ((arVals ars).all imm = true ∨ sepE as = true) ∧ (arRefs ars).Nodup := by
      simp only [hr, Bool.true_and, Bool.not_eq_true', Bool.not_eq_false, Bool.and_eq_true, Bool.or_eq_true, decide_eq_true_eq] at hc
      exact ⟨hc.1.1, hc.1.2, hc.2⟩
    obtain ⟨c1, c2, c3⟩ := hc'
    have hF : ∀ a ∈ F, ∀ j i : Nat, ars[j]? = some (.ref i) → a ∉ A1 i := by
      intro a ha j i e
      rcases c2 with c2 | c2
      · rw [f3 c2] at ha; simp at ha
      · have sS : S = [] := hS (by
          cases e : effs as with
          | true => rfl
          | false => have := (ef1 e).2; rw [hr] at this; cases this)
        refine f4 a ha i fun z => ?_
        rw [sS, List.append_nil] at z
        have := List.all_eq_true.mp c2 i (eva_refE ee j i e)
        simp only [Bool.not_eq_true'] at this
        rw [List.contains_iff_mem.mpr z] at this
        cases this
    refine ⟨cs, argOwn A1 ars F, rep_args r1 rv1 pc f1 f2 c3 hF, hl, hnb, fun i hi => argOwn_out (by rw [pd_len pc]; exact hi), ?_⟩
    rcases e : runF fs k f cs with ⟨r, outs⟩ | ⟨c, kk, p⟩ | _
    · rw [e] at q
      intro v H' σ' A' r' hio s' hv
      simp only [bind_ok] at q
      split at q
      · rename_i ρ2 hb
        obtain ⟨r2, s2⟩ := rep_back r1 c1 rv1 c3 r' hio io s' hb pc
        obtain ⟨as, d1, d2, d3, d4⟩ := hv
        have old : ∀ a ∈ as, Bd A1 a ∨ H1 a = none := fun a ha => (d4 a ha).imp bd_arg id
        refine q v H' _ r2 (Stp.trans rep s1 s2) ?_ fun e => ?_
        · have out : ∀ a ∈ as, ¬ Bd (backOwn A1 ars A') a ∧ a ∉ (backOwn A1 ars A').fr := by
            refine fun a ha => ⟨fun ⟨i, hi⟩ => ?_, fun hi => ?_⟩
            · rcases backOwn_mem hi with ⟨j, e1, m1⟩ | ⟨n1, m1⟩
              · exact (d3 a ha).1 ⟨j, m1⟩
              · rcases d4 a ha with z | z
                · obtain ⟨j, hj⟩ := z
                  obtain ⟨i', e', m⟩ := argOwn_mem hj
                  have := r1.disj _ _ _ m1 m
                  subst this
                  exact n1 ⟨j, e'⟩
                · obtain ⟨ys, e⟩ := r1.trk _ _ m1
                  rw [z] at e; cases e
            · have hi' : a ∈ A1.fr := hi
              rcases d4 a ha with z | z
              · exact r1.fdis a hi' (bd_arg z)
              · obtain ⟨ys, e⟩ := r1.ftrk _ hi'
                rw [z] at e; cases e
          cases hr1 : r.1 with
          | true => exact .inl ⟨hr1, as, d1, d2, out, fun a ha => (old a ha).elim (s1.own a) fun z => .inr (s1.there rep z)⟩
          | false => exact .inr ⟨hr1, as, d1, fun a ha i _ hi => (out a ha).1 ⟨i, hi⟩⟩
        · have := (ef1 e).2
          rw [hr] at this
          cases this
      · exact q.elim
    · rw [e] at q
      have q' : ExQ X.K ca H A (fun a b H' => W a b σ H') c kk p := q
      have q2 := ExQ.before rep s1 q'
      exact fun d H' cv pv h1 h0 h2 h3 h4 h5 => q2 d H' cv pv (fun a o e n => h1 a o e fun b => n (bd_arg b)) h0 h2 h3 h4 h5
    · rw [e] at q
      exact q.elim
  · have hr' : hasRef ars = false := by simpa using hr
    have no := noRef hr'
    refine ⟨cs, argOwn A1 ars F, rep_args r1 rv1 pc f1 f2 (by rw [no]; exact .nil) (fun a _ j i e => by have := refs_of.mpr ⟨j, e⟩; rw [no] at this; simp at this), hl, hnb, fun i hi => argOwn_out (by rw [pd_len pc]; exact hi), ?_⟩
    have nobd : ∀ a, ¬ Bd (argOwn A1 ars F) a := fun a ⟨j, hj⟩ => by
      obtain ⟨i, e, _⟩ := argOwn_mem hj
      have := refs_of.mpr ⟨j, e⟩
      rw [no] at this
      simp at this
    rcases e : runF fs k f cs with ⟨r, outs⟩ | ⟨c, kk, p⟩ | _
    · rw [e] at q
      intro v H' σ' A' r' hio s' hv
      simp only [bind_ok] at q
      split at q
      · rename_i ρ2 hb
        have := back_same hb no
        subst this
        have sm : Same H1 H' := fun a o h => s'.keep a o h (nobd a)
        obtain ⟨as, d1, d2, d3, d4⟩ := hv
        have new : ∀ a ∈ as, H1 a = none := fun a ha => (d4 a ha).resolve_left (nobd a)
        refine q v H' A1 (r1.new sm) (s1.then_new rep sm) ?_ fun e => ?_
        · have out : ∀ a ∈ as, ¬ Bd A1 a ∧ a ∉ A1.fr := fun a ha => new_out r1 (new a ha)
          cases hr1 : r.1 with
          | true => exact .inl ⟨hr1, as, d1, d2, out, fun a ha => .inr (s1.there rep (new a ha))⟩
          | false => exact .inr ⟨hr1, as, d1, fun a ha i _ hi => (out a ha).1 ⟨i, hi⟩⟩
        · obtain ⟨⟨q1, m1⟩, _⟩ := ef1 e
          exact ⟨q1, m1.trans sm⟩
      · exact q.elim
    · rw [e] at q
      have q' : ExQ X.K ca H A (fun a b H' => W a b σ H') c kk p := q
      have q2 := ExQ.before rep s1 q'
      exact fun d H' cv pv h1 h0 h2 h3 h4 h5 => q2 d H' cv pv (fun a o e n => h1 a o e (nobd a)) h0 h2 h3 h4 h5
    · rw [e] at q
      exact q.elim
theorem s_call {f : Nat} {as : Es} {x : Expr} {xs : List Expr} {g : Str} {p pos : Pos} (C : Cxt J fs ca k N sc W X) (hf : f < J.nf) (hg : glB sc g = true) (hn : g = J.nm f) (ok : okName g = true) (pl : plainX x = true) (pls : plainAllX xs = true)
    (ia : PA X (x :: xs) (tAr X.K ca (runF fs k) S W as)) (io : refsB (J.io f) 0 as = true) (hS : effs as = true → S = []) : SE ca fs k S W X (.call f as) (.Call (.Name g p) (x :: xs) [] pos) := by
  obtain ⟨a, fd, ps, F, hm, hk, hb⟩ := C.fn f hf
  subst hn
  simp only [okName, Bool.and_eq_true, Bool.not_eq_true'] at ok
  have hpl : plainAllX (x :: xs) = true := by unfold plainAllX at pls ⊢; simp [pl, pls]
  exact (pe_callS (E := WE W) F C.room (gl_of C hg) hm hk hb (passAt C.takes) ia ok.1.1 (star_of pl) (back_of pls)).weaken fun _ _ _ h => w_call hS io h
end
end PV
set_option Elab.async false
set_option linter.all false
set_option maxRecDepth 100000
set_option maxHeartbeats 1000000
/-! PV14: what is walked. -/
namespace PV
open PySem PySem.Spec PyProof.Rows L2
/-- the iterator J yields the trees ds, as long as the lists at F stay as they are -/
def ItFor (K : PySem.W.Frag) (J : L2.It) (H1 : Hp) (ds : List D) (F : List Addr) : Prop := ∀ H, Fix H1 H → (∀ a ∈ F, ∀ xs, H1 a = some (.lst xs) → H a = some (.lst xs)) →
  ∀ i, (ds.length ≤ i → J.stop i H) ∧ ∀ d, ds[i]? = some d → J.go i H ∧ ∀ x H', J.yld i H x H' → Same H H' ∧ ∃ as, DpR K H' x d as ∧ ∀ a ∈ as, a ∈ F
section
variable {K : PySem.W.Frag} {H1 : Hp}
theorem it_list {a : Addr} {xs : List V} {ds : List D} {bs : List Addr} (h : H1 a = some (.lst xs)) (r : DpRs K H1 xs ds bs) : ItFor K (Itl K a) H1 ds (a :: bs) := by
  intro H fx kp i
  have h' := kp a List.mem_cons_self xs h
  have r' := r.keep fx fun b hb => kp b (List.mem_cons_of_mem _ hb)
  refine ⟨fun hl => ⟨xs, SqL.of h', by rw [r.length]; exact hl⟩, fun d hd => ?_⟩
  obtain ⟨x, es, hx, rx, sub⟩ := r'.atD hd
  refine ⟨⟨xs, x, SqL.of h', hx⟩, fun x' H' y => ?_⟩
  obtain ⟨e, y⟩ := y
  subst e
  have := y xs (SqL.of h')
  rw [hx] at this
  cases this
  exact ⟨Same.refl _, es, rx, fun b hb => List.mem_cons_of_mem _ (sub.subset hb)⟩
theorem it_tup {a : Addr} {xs : List V} {ds : List D} {bs : List Addr} (h : SqT K H1 a xs) (r : DpRs K H1 xs ds bs) : ItFor K (Itt K a) H1 ds bs := by
  intro H fx kp i
  have h' := fx.sqT h
  have r' := r.keep fx fun b hb => kp b hb
  refine ⟨fun hl => ⟨xs, h', by rw [r.length]; exact hl⟩, fun d hd => ?_⟩
  obtain ⟨x, es, hx, rx, sub⟩ := r'.atD hd
  refine ⟨⟨xs, x, h', hx⟩, fun x' H' y => ?_⟩
  obtain ⟨e, y⟩ := y
  subst e
  have := y xs h'
  rw [hx] at this
  cases this
  exact ⟨Same.refl _, es, rx, fun b hb => sub.subset hb⟩
theorem it_scr {a : Addr} {l : List Int} (h : ExtL K H1 a (l.map V.int)) : ItFor K (Itl K a) H1 (l.map PyData.int) [] := by
  intro H fx kp i
  have h' := fx.extL h
  have r' := ints_dp (K := K) (H := H) l
  refine ⟨fun hl => ⟨_, h'.seq, by simpa using hl⟩, fun d hd => ?_⟩
  obtain ⟨x, es, hx, rx, sub⟩ := r'.atD hd
  refine ⟨⟨_, x, h'.seq, hx⟩, fun x' H' y => ?_⟩
  obtain ⟨e, y⟩ := y
  subst e
  have := y _ h'.seq
  rw [hx] at this
  cases this
  exact ⟨Same.refl _, es, rx, fun b hb => sub.subset hb⟩
theorem it_rng (lo hi : Int) : ItFor K (Itr lo (hi - lo).toNat) H1 (rangeD lo hi) [] := by
  intro H fx kp i
  unfold rangeD
  refine ⟨fun hl => by rw [List.length_map, List.length_range] at hl; exact hl, fun d hd => ?_⟩
  rw [List.getElem?_map] at hd
  by_cases hi : i < (hi - lo).toNat
  · rw [List.getElem?_range hi] at hd
    cases hd
    refine ⟨hi, fun x H' y => ?_⟩
    obtain ⟨e, y⟩ := y
    subst e y
    exact ⟨Same.refl _, [], .int _, fun _ h => h⟩
  · rw [List.getElem?_eq_none (by simpa using hi)] at hd
    cases hd
theorem it_rngc (lo c : Int) (n : Nat) : ItFor K (Itc lo c n) H1 (rangeC lo c n) [] := by
  intro H fx kp i
  unfold rangeC
  refine ⟨fun hl => by rw [List.length_map, List.length_range] at hl; exact hl, fun d hd => ?_⟩
  rw [List.getElem?_map] at hd
  by_cases hi : i < n
  · rw [List.getElem?_range hi] at hd
    cases hd
    refine ⟨hi, fun x H' y => ?_⟩
    obtain ⟨e, y⟩ := y
    subst e y
    exact ⟨Same.refl _, [], .int _, fun _ h => h⟩
  · rw [List.getElem?_eq_none (by simpa using hi)] at hd
    cases hd
theorem enumD_at : ∀ {ds : List D} {k i : Nat} {d : D}, (enumD k ds)[i]? = some d → ∃ x, ds[i]? = some x ∧ d = .tuple [.int ((k + i : Nat) : Int), x]
  | [], _, _, _, h => by simp [enumD] at h
  | x :: r, k, 0, d, h => by
    simp [enumD] at h
    exact ⟨x, rfl, by rw [← h]; rfl⟩
  | x :: r, k, i + 1, d, h => by
    simp only [enumD, List.getElem?_cons_succ] at h
    obtain ⟨y, h1, h2⟩ := enumD_at h
    exact ⟨y, by simpa using h1, by rw [h2, show k + 1 + i = k + (i + 1) by omega]⟩
theorem enumD_len : ∀ (ds : List D) (k : Nat), (enumD k ds).length = ds.length
  | [], _ => rfl
  | _ :: r, k => by simp [enumD, enumD_len r]
theorem zipD_at : ∀ {ds es : List D} {i : Nat} {d : D}, (zipD ds es)[i]? = some d → ∃ x y, ds[i]? = some x ∧ es[i]? = some y ∧ d = .tuple [x, y]
  | [], _, _, _, h => by simp [zipD] at h
  | _ :: _, [], _, _, h => by simp [zipD] at h
  | x :: r, y :: s, 0, d, h => by
    simp [zipD] at h
    exact ⟨x, y, rfl, rfl, h.symm⟩
  | x :: r, y :: s, i + 1, d, h => by
    simp only [zipD, List.getElem?_cons_succ] at h
    obtain ⟨u, v, h1, h2, h3⟩ := zipD_at h
    exact ⟨u, v, by simpa using h1, by simpa using h2, h3⟩
theorem zipD_len : ∀ (ds es : List D), (zipD ds es).length = min ds.length es.length
  | [], _ => by simp [zipD]
  | _ :: _, [] => by simp [zipD]
  | _ :: r, _ :: s => by simp [zipD, zipD_len r s]
theorem it_enum {a : Addr} {xs : List V} {ds : List D} {bs : List Addr} (h : H1 a = some (.lst xs)) (r : DpRs K H1 xs ds bs) : ItFor K (Ite K a) H1 (enumD 0 ds) (a :: bs) := by
  intro H fx kp i
  have h' := kp a List.mem_cons_self xs h
  have r' := r.keep fx fun b hb => kp b (List.mem_cons_of_mem _ hb)
  refine ⟨fun hl => ⟨xs, SqL.of h', by rw [r.length]; rw [enumD_len] at hl; exact hl⟩, fun d hd => ?_⟩
  obtain ⟨z, hz, e⟩ := enumD_at hd
  subst e
  obtain ⟨x, es, hx, rx, sub⟩ := r'.atD hz
  refine ⟨⟨xs, x, SqL.of h', hx⟩, fun x' H' y => ?_⟩
  obtain ⟨T, x2, e1, hT, e2, y⟩ := y
  subst e1 e2
  have := y xs (SqL.of h')
  rw [hx] at this
  cases this
  refine ⟨same_upd hT, es, .tup (.inl (.inl upd_same)) ?_, fun b hb => List.mem_cons_of_mem _ (sub.subset hb)⟩
  have e : (0 + i : Nat) = i := Nat.zero_add i
  rw [e]
  exact .cons (as := []) (.int _) (.one (rx.new hT))
theorem it_zipL {a b : Addr} {xs ys : List V} {ds es : List D} {as bs : List Addr} (h : H1 a = some (.lst xs)) (r : DpRs K H1 xs ds as) (h2 : H1 b = some (.lst ys)) (r2 : DpRs K H1 ys es bs) : ItFor K (Itz K a b) H1 (zipD ds es) ((a :: as) ++ (b :: bs)) := by
  intro H fx kp i
  have h' := kp a (by simp) xs h
  have r' := r.keep fx fun c hc => kp c (by simp [hc])
  have h2' := kp b (by simp) ys h2
  have r2' := r2.keep fx fun c hc => kp c (by simp [hc])
  refine ⟨fun hl => ⟨xs, ys, SqL.of h', SqL.of h2', by rw [zipD_len] at hl; rw [r.length, r2.length]; omega⟩, fun d hd => ?_⟩
  obtain ⟨z, w, hz, hw, e⟩ := zipD_at hd
  subst e
  obtain ⟨x, cs, hx, rx, sub⟩ := r'.atD hz
  obtain ⟨y, es', hy, ry, sub2⟩ := r2'.atD hw
  refine ⟨⟨xs, ys, x, y, SqL.of h', SqL.of h2', hx, hy⟩, fun x' H' q => ?_⟩
  obtain ⟨T, u, v, e1, hT, e2, q1, q2⟩ := q
  subst e1 e2
  have := q1 xs (SqL.of h')
  rw [hx] at this
  cases this
  have := q2 ys (SqL.of h2')
  rw [hy] at this
  cases this
  refine ⟨same_upd hT, cs ++ es', .tup (.inl (.inl upd_same)) (.cons (rx.new hT) (.one (ry.new hT))), fun c hc => ?_⟩
  rcases List.mem_append.mp hc with m | m
  · exact List.mem_append_left _ (List.mem_cons_of_mem _ (sub.subset m))
  · exact List.mem_append_right _ (List.mem_cons_of_mem _ (sub2.subset m))
theorem it_zipT {a b : Addr} {xs ys : List V} {ds es : List D} {as bs : List Addr} (h : SqT K H1 a xs) (r : DpRs K H1 xs ds as) (h2 : SqT K H1 b ys) (r2 : DpRs K H1 ys es bs) : ItFor K (RZ.ItzT K a b) H1 (zipD ds es) (as ++ bs) := by
  intro H fx kp i
  have h' := fx.sqT h
  have r' := r.keep fx fun c hc => kp c (by simp [hc])
  have h2' := fx.sqT h2
  have r2' := r2.keep fx fun c hc => kp c (by simp [hc])
  refine ⟨fun hl => ⟨xs, ys, h', h2', by rw [zipD_len] at hl; rw [r.length, r2.length]; omega⟩, fun d hd => ?_⟩
  obtain ⟨z, w, hz, hw, e⟩ := zipD_at hd
  subst e
  obtain ⟨x, cs, hx, rx, sub⟩ := r'.atD hz
  obtain ⟨y, es', hy, ry, sub2⟩ := r2'.atD hw
  refine ⟨⟨xs, ys, x, y, h', h2', hx, hy⟩, fun x' H' q => ?_⟩
  obtain ⟨T, u, v, e1, hT, e2, q1, q2⟩ := q
  subst e1 e2
  have := q1 xs h'
  rw [hx] at this
  cases this
  have := q2 ys h2'
  rw [hy] at this
  cases this
  refine ⟨same_upd hT, cs ++ es', .tup (.inl (.inl upd_same)) (.cons (rx.new hT) (.one (ry.new hT))), fun c hc => ?_⟩
  rcases List.mem_append.mp hc with m | m
  · exact List.mem_append_left _ (sub.subset m)
  · exact List.mem_append_right _ (sub2.subset m)
theorem rev_at {ds : List D} {i : Nat} {d : D} (h : ds.reverse[i]? = some d) : i < ds.length ∧ ds[ds.length - 1 - i]? = some d := by
  have hi : i < ds.length := by
    have := (List.getElem?_eq_some_iff.mp h).1
    simpa using this
  rw [List.getElem?_reverse hi] at h
  exact ⟨hi, h⟩
theorem it_revL {a : Addr} {xs : List V} {ds : List D} {bs : List Addr} (h : H1 a = some (.lst xs)) (r : DpRs K H1 xs ds bs) : ItFor K (Itv K a xs.length) H1 ds.reverse (a :: bs) := by
  intro H fx kp i
  have h' := kp a List.mem_cons_self xs h
  have r' := r.keep fx fun b hb => kp b (List.mem_cons_of_mem _ hb)
  refine ⟨fun hl => by rw [List.length_reverse] at hl; show xs.length ≤ i; rw [r.length]; exact hl, fun d hd => ?_⟩
  obtain ⟨hi, hd'⟩ := rev_at hd
  obtain ⟨x, es, hx, rx, sub⟩ := r'.atD hd'
  rw [← r.length] at hx hi
  refine ⟨⟨hi, xs, x, SqL.of h', hx⟩, fun x' H' y => ?_⟩
  obtain ⟨e, y⟩ := y
  subst e
  have := y xs (SqL.of h')
  rw [hx] at this
  cases this
  exact ⟨Same.refl _, es, rx, fun b hb => List.mem_cons_of_mem _ (sub.subset hb)⟩
theorem it_revT {a : Addr} {xs : List V} {ds : List D} {bs : List Addr} (h : SqT K H1 a xs) (r : DpRs K H1 xs ds bs) : ItFor K (RT.ItvT K a xs.length) H1 ds.reverse bs := by
  intro H fx kp i
  have h' := fx.sqT h
  have r' := r.keep fx fun b hb => kp b hb
  refine ⟨fun hl => by rw [List.length_reverse] at hl; show xs.length ≤ i; rw [r.length]; exact hl, fun d hd => ?_⟩
  obtain ⟨hi, hd'⟩ := rev_at hd
  obtain ⟨x, es, hx, rx, sub⟩ := r'.atD hd'
  rw [← r.length] at hx hi
  refine ⟨⟨hi, xs, x, h', hx⟩, fun x' H' y => ?_⟩
  obtain ⟨e, y⟩ := y
  subst e
  have := y xs h'
  rw [hx] at this
  cases this
  exact ⟨Same.refl _, es, rx, fun b hb => sub.subset hb⟩
theorem it_str (x : Str) : ItFor K (Its x) H1 (signsD x) [] := by
  intro H fx kp i
  refine ⟨fun hl => ?_, fun d hd => ?_⟩
  · unfold signsD at hl
    rw [List.length_map, Array.length_toList] at hl
    exact hl
  · unfold signsD at hd
    rw [List.getElem?_map] at hd
    obtain ⟨c, hc, rfl⟩ := Option.map_eq_some_iff.mp hd
    rw [Array.getElem?_toList] at hc
    refine ⟨(Array.getElem?_eq_some_iff.mp hc).1, fun v H' y => ?_⟩
    obtain ⟨e, c', h1, h2⟩ := y
    subst e h2
    rw [hc] at h1
    cases h1
    exact ⟨Same.refl _, [], .str _, fun _ h => by simp at h⟩
end
def PRi (K : PySem.W.Frag) (S : List Nat) (σ : L2.St) (vs : List Nat) (ef : Bool) (H : Hp) (A : Own) (R : L2.It → Hp → Prop) (x : List D × PV.Env) : Prop :=
  ∀ J H' A' F, Rep K H' S σ x.2 A' → Stp H A H' A' → ItFor K J H' x.1 F → (∀ a ∈ F, ∀ i, i ∉ vs ++ S → a ∉ A' i) → (∀ a ∈ F, ∃ xs, H' a = some (.lst xs)) → (ef = false → A' = A ∧ Same H H') → R J H'
def tIt (K : PySem.W.Frag) (ca : Nat → Addr) (cf : CF) (S : List Nat) (W : WX) (it : It) : TI := fun σ H R => ∃ ρ A, Rep K H S σ ρ A ∧ RG K ca W σ H A (PRi K S σ (varsi it) (effi it) H A R) (evi cf it ρ)
theorem _root_.L2.PI.any {X : Cx} {tg e : Expr} {t' : TI} (h : ∀ σ H R, t' σ H R → ∃ t, PI X tg e t ∧ t σ H R) : PI X tg e t' := ⟨fun pins s σ H R I q => by
  obtain ⟨t, h1, h2⟩ := h σ H R q
  exact h1.run pins s σ H R I h2⟩
theorem _root_.L2.PI.weaken {X : Cx} {tg e : Expr} {t t' : TI} (h : PI X tg e t) (w : ∀ σ H R, t' σ H R → t σ H R) : PI X tg e t' := ⟨fun pins s σ H R I q => h.run pins s σ H R I (w σ H R q)⟩
section
variable {J : Info} {fs : List Fn} {ca : Nat → Addr} {k : Nat} {N : List Str} {sc : Scope} {W : WX} {X : Cx} {S : List Nat} {tg : Expr}
abbrev SI (ca : Nat → Addr) (fs : List Fn) (k : Nat) (S : List Nat) (W : WX) (X : Cx) (tg : Expr) (it : It) (x : Expr) : Prop := PI X tg x (tIt X.K ca (runF fs k) S W it)
theorem trk_cons {H : Hp} {a : Addr} {xs : List V} {bs : List Addr} (h : H a = some (.lst xs)) (r : ∀ b ∈ bs, ∃ ys, H b = some (.lst ys)) : ∀ b ∈ a :: bs, ∃ ys, H b = some (.lst ys) := fun b hb => by
  rcases List.mem_cons.mp hb with e | hb
  · rw [e]; exact ⟨_, h⟩
  · exact r b hb
theorem si_scr {i : Nat} {x : Str} {p : Pos} (C : Cxt J fs ca k N sc W X) (hn : nameB N sc i x = true) : SI ca fs k S W X tg (.scr i) (.Name x p) := by
  refine (pi_list (pe_nm C hn)).weaken fun σ H R ⟨ρ, A, rep, q⟩ => ?_
  simp only [evi] at q
  split at q
  · rename_i l e
    obtain ⟨v, ev1, a, e1, hx⟩ := rep.cell i _ e
    subst e1
    exact ⟨_, ev1, a, rfl, ⟨_, hx.seq⟩, q _ H A [] rep (Stp.refl _ _) (it_scr hx) (fun _ h => by simp at h) (fun _ h => by simp at h) fun _ => ⟨rfl, Same.refl _⟩⟩
  · exact q.elim
theorem si_seq {e : E} {x : Expr} (ie : SE ca fs k S W X e x) : SI ca fs k S W X tg (.seq e) x := by
  refine L2.PI.any fun σ H R ⟨ρ, A, rep, q⟩ => ?_
  simp only [evi] at q
  rcases e0 : ev (runF fs k) e ρ with ⟨⟨b, d⟩, ρ1⟩ | ⟨c, k', p⟩ | _
  · rw [e0] at q
    cases d with
    | list l =>
      refine ⟨_, pi_list ie, ρ, A, rep, ?_⟩
      rw [e0]
      intro v1 H1 A1 r1 s1 rv1 ef1
      obtain ⟨as, d1, n1⟩ := rv1.any
      obtain ⟨a, vs, bs, e, r3, h3, e3⟩ := d1.list_inv
      subst e3
      exact ⟨a, e, ⟨vs, SqL.of h3⟩, q _ H1 A1 (a :: bs) r1 s1 (it_list h3 r3) n1 (trk_cons h3 r3.trk) ef1⟩
    | tuple l =>
      refine ⟨_, pi_tup ie, ρ, A, rep, ?_⟩
      rw [e0]
      intro v1 H1 A1 r1 s1 rv1 ef1
      obtain ⟨as, d1, n1⟩ := rv1.any
      obtain ⟨a, vs, e, h3, r3⟩ := d1.tuple_inv
      exact ⟨a, e, ⟨vs, h3⟩, q _ H1 A1 as r1 s1 (it_tup h3 r3) n1 r3.trk ef1⟩
    | str x =>
      refine ⟨_, pi_str ie, ρ, A, rep, ?_⟩
      rw [e0]
      intro v1 H1 A1 r1 s1 rv1 ef1
      obtain ⟨as, d1, n1⟩ := rv1.any
      cases d1
      exact ⟨x, rfl, q _ H1 A1 [] r1 s1 (it_str x) (fun _ h => by simp at h) (fun _ h => by simp at h) ef1⟩
    | _ => exact q.elim
  · rw [e0] at q
    exact ⟨_, pi_list ie, ρ, A, rep, by rw [e0]; exact q⟩
  · rw [e0] at q
    exact q.elim
theorem si_rv {e : E} {x : Expr} {p1 p2 : Pos} (C : Cxt J fs ca k N sc W X) (g1 : glB sc ("reversed" : Str) = true) (px : plainX x = true) (ie : SE ca fs k S W X e x) : SI ca fs k S W X tg (.rv e) (.Call (.Name "reversed" p1) [x] [] p2) := by
  refine (RT.pi_revA (gl_of C g1) (C.blt _ (by decide +kernel)) ie (star_of px)).weaken fun σ H R ⟨ρ, A, rep, q⟩ => ?_
  simp only [evi] at q
  refine tS_first rep (Stp.refl _ _) rep q fun r1 ρ1 v1 H1 A1 r1' s1 rv1 ef1 q => ?_
  obtain ⟨b, d⟩ := r1
  obtain ⟨as, d1, n1⟩ := rv1.any
  dsimp only at q d1
  cases d with
  | list l =>
    obtain ⟨a, vs, bs, e, r3, h3, e3⟩ := d1.list_inv
    subst e3
    exact ⟨a, vs, e, .inl ⟨SqL.of h3, q _ H1 A1 (a :: bs) r1' s1 (it_revL h3 r3) n1 (trk_cons h3 r3.trk) ef1⟩⟩
  | tuple l =>
    obtain ⟨a, vs, e, h3, r3⟩ := d1.tuple_inv
    exact ⟨a, vs, e, .inr ⟨h3, q _ H1 A1 as r1' s1 (it_revT h3 r3) n1 r3.trk ef1⟩⟩
  | _ => exact q.elim
theorem si_r1 {a : E} {x : Expr} {p1 p2 : Pos} (C : Cxt J fs ca k N sc W X) (g1 : glB sc ("range" : Str) = true) (px : plainX x = true) (ie : SE ca fs k S W X a x) : SI ca fs k S W X tg (.r1 a) (.Call (.Name "range" p1) [x] [] p2) := by
  refine (pi_range1 (gl_of C g1) (C.blt _ (by decide +kernel)) (pa_cons ie pa_nil (star_of px)) (star_of px)).weaken fun σ H R ⟨ρ, A, rep, q⟩ => ?_
  simp only [evi] at q
  refine tS_first rep (Stp.refl _ _) rep q fun r1 ρ1 v1 H1 A1 r1' s1 rv1 ef1 q => ?_
  obtain ⟨b, d⟩ := r1
  obtain ⟨as, d1, n1⟩ := rv1.any
  dsimp only at q d1
  cases d <;> try (exact q.elim)
  simp only [asInt, bind_ok] at q
  obtain ⟨hk, q⟩ := RG.ite q
  simp only [smallI, decide_eq_true_eq] at hk
  refine ⟨_, by rw [d1.int_inv], hk.1, hk.2, ?_⟩
  have := q _ H1 A1 [] r1' s1 (it_rng (0 : Int) _) (fun _ h => by simp at h) (fun _ h => by simp at h) ef1
  rwa [Int.sub_zero] at this
theorem si_r2 {a b : E} {x y : Expr} {p1 p2 : Pos} (C : Cxt J fs ca k N sc W X) (g1 : glB sc ("range" : Str) = true) (px : plainX x = true) (py : plainX y = true) (ia : SE ca fs k S W X a x) (ib : SE ca fs k S W X b y) : SI ca fs k S W X tg (.r2 a b) (.Call (.Name "range" p1) [x, y] [] p2) := by
  have s2 : starEach [y] X.env = [(false, eval y X.env)] := star_of py
  have s1 : starEach [x, y] X.env = [(false, eval x X.env), (false, eval y X.env)] := by rw [star_of px, s2]
  refine (pi_range2 (gl_of C g1) (C.blt _ (by decide +kernel)) (pa_cons ia (pa_cons ib pa_nil s2) (star_of px)) s1 s2).weaken fun σ H R ⟨ρ, A, rep, q⟩ => ?_
  simp only [evi] at q
  refine tS_first rep (Stp.refl _ _) rep q fun r1 ρ1 v1 H1 A1 r1' s1 rv1 ef1 q => ?_
  refine tS_first rep s1 r1' q fun r2 ρ2 v2 H2 A2 r2' s2 rv2 ef2 q => ?_
  obtain ⟨o1, d1⟩ := r1
  obtain ⟨o2, d2⟩ := r2
  obtain ⟨as, e1, n1⟩ := rv1.any
  obtain ⟨bs, e2, n2⟩ := rv2.any
  dsimp only at q e1 e2
  cases d1 <;> try (exact q.elim)
  cases d2 <;> try (exact q.elim)
  simp only [asInt, bind_ok] at q
  obtain ⟨hk, q⟩ := RG.ite q
  simp only [smallI, Bool.and_eq_true, decide_eq_true_eq] at hk
  refine ⟨_, _, by rw [e1.int_inv, e2.int_inv], ⟨hk.1.1, hk.1.2, hk.2.1, hk.2.2⟩, q _ H2 A2 [] r2' (Stp.trans rep s1 s2) (it_rng _ _) (fun _ h => by simp at h) (fun _ h => by simp at h) fun e => ?_⟩
  simp only [effi, Bool.or_eq_false_iff] at e
  obtain ⟨q1, m1⟩ := ef1 e.1
  obtain ⟨q2, m2⟩ := ef2 e.2
  exact ⟨q2.trans q1, m1.trans m2⟩
end
end PV
set_option Elab.async false
set_option linter.all false
set_option maxRecDepth 100000
set_option maxHeartbeats 4000000
/-! PVE: enumerate of tuples and texts. -/
namespace PySem.W
open PySem PySem.Calls PyProof.Rows
theorem meets_en1 {v : Value} {ob : Obj} {HH : Heap → Prop} (B : Begins v ob HH) :
    Meets (Builtin.«enumerate.__new__» ⟨[.type "enumerate", v], []⟩) (fun _ R s => HH s.heap ∧
      R (.ok (.ret (.ref (s.heap.push ob).objs.size))) { s with heap := (s.heap.push ob).push { cls := .type "enumerate", data := .fields #[.none, .bool false, .ref s.heap.objs.size, rawInt 0, .none, .none] } }) :=
  .of_wp fun prog w A R s hh => by
    obtain ⟨hp, ge, dr, tk, os⟩ := s; obtain ⟨hB, hR⟩ := hh
    have hsub := sub_enumerate
    have goes : ∀ {A' : Around} {E : Value → Shared → Prop} {Q : Value → Shared → Prop}, Q (.ref hp.objs.size) ⟨hp.push ob, ge, dr, tk, os⟩ → wpAny (model prog w) A' (pyIter v) Q E ⟨hp, ge, dr, tk, os⟩ :=
      fun q => B.iter prog w _ _ ⟨hp, ge, dr, tk, os⟩ _ hB q
    wp_walk using goes
    refine wpAny_stack_any fun st => wpAny_pure ?_
    split
    · rename_i c _ _ _ _ _
      cases (c == Value.type "enumerate") <;> (wp_walk using goes; exact ⟨_, rfl, hR⟩)
    · wp_walk using goes
      exact ⟨_, rfl, hR⟩
section
variable {prog : Program} {w : World} {A : Around} {E : Value → Shared → Prop} {s : Shared}
theorem en_begins {v : Value} {ob : Obj} {HH : Heap → Prop} {Q : Value → Shared → Prop} (B : Begins v ob HH) (hB : HH s.heap)
    (h : ∀ hp', IsEnum hp' (s.heap.objs.size + 1) s.heap.objs.size 0 .none → hp'.get? s.heap.objs.size = some ob →
      (∀ b o, s.heap.get? b = some o → hp'.get? b = some o) → Q (.ref (s.heap.objs.size + 1)) { s with heap := hp' }) :
    wpAny (model prog w) A (call (.type "enumerate") [v]) Q E s := by
  refine callType_new F.called_enumerate (by decide) (F.typeCall_enumerate_1 _) (F.newCall_enumerate_1 _) (fun z => F.args_object_init_2 z _) F.entry_enumerate_new (meets_en1 B) ⟨hB, ?_⟩
  have zz : (s.heap.push ob).objs.size = s.heap.objs.size + 1 := Heap.size_push ..
  show _ ∧ _
  rw [zz]
  have en : IsEnum ((s.heap.push ob).push { cls := .type "enumerate", data := .fields #[.none, .bool false, .ref s.heap.objs.size, rawInt 0, .none, .none] }) (s.heap.objs.size + 1) s.heap.objs.size 0 .none := by
    have := Heap.get?_push_size (s.heap.push ob) (o := { cls := .type "enumerate", data := .fields #[.none, .bool false, .ref s.heap.objs.size, rawInt 0, .none, .none] }) rfl
    rw [zz] at this; exact this
  exact ⟨⟨_, en, rfl⟩, h _ en (Heap.get?_push_of_some _ (Heap.get?_push_size _ B.free)) fun b o x => Heap.get?_push_of_some _ (Heap.get?_push_of_some _ x)⟩
end
end PySem.W
namespace PV
open PySem PySem.Spec PyProof.Rows L2
section
variable {P : Program} {w : World} {K : PySem.W.Frag} {elts : List Expr} {kk : Nat} {tpos : Pos}
/-- enumerate(tuple), m items -/
def IteT (K : PySem.W.Frag) (a : Addr) (m : Nat) : L2.It :=
  ⟨fun i H => ∃ (xs : List V) (x : V), SqT K H a xs ∧ xs.length = m ∧ xs[i]? = some x, fun i H v H' => ∃ T x, v = .ref T ∧ H T = none ∧ H' = upd H T (.tup [.int (i : Nat), x]) ∧ ∀ xs, SqT K H a xs → xs[i]? = some x,
    fun i H => ∃ xs : List V, SqT K H a xs ∧ xs.length = m ∧ m ≤ i⟩
theorem turn_enumT (a e it : Addr) (m : Nat) (hai : a ≠ it) (hae : a ≠ e) :
    Turn P w K (.Tuple elts kk tpos) (IteT K a m) [e, it] e (fun i h => (∃ old, IsEnum h e it ((i : Nat) : Int) old) ∧ h.IsTupleIter it a i ∧ e ≠ it ∧ i ≤ m) where
  mem := by simp
  obj := fun i h st b hb => by
    obtain ⟨⟨old, he⟩, ⟨o, ho, hc, hd⟩, _⟩ := st
    rcases (show b = e ∨ b = it by simpa using hb) with z | z
    · rw [z]; exact ⟨_, he, fun v q => nomatch q⟩
    · rw [z]; exact ⟨o, ho, fun v q => by rw [hd] at q; cases q⟩
  keep := fun i h h' st k => let ⟨⟨old, he⟩, hi, hne⟩ := st; ⟨⟨old, k e (by simp) _ he⟩, hi.at fun o q => k it (by simp) o q, hne⟩
  item := by
    intro X hP hw hK hc i pins s σ H E I hf st hg
    subst hP hw hK
    obtain ⟨⟨old, he⟩, hit, hne, him⟩ := st
    obtain ⟨xs, x, hq, hxm, hx⟩ := hg
    obtain ⟨its, rv, p, hz⟩ := I.tuple hq
    obtain ⟨u, hu, ru⟩ := rv.get hx
    have hel : e < s.heap.objs.size := Heap.lt_size he
    have hil : it < s.heap.objs.size := by obtain ⟨_, q, _⟩ := hit; exact Heap.lt_size q
    have hn : i < its.length := (List.getElem?_eq_some_iff.mp hu).1
    refine wpAny_pyNext_enum_itemD (Draws.tuple (A := X.A.in1) (show X.A.in1.handled = none from I.ok.hd hc) it a hai its.toArray) he ⟨hit, p⟩ (by simpa using hn) hne (by simp [hne, Ne.symm hae]) fun y h' tk hy ho hst hT hsz hk => ?_
    have ey : y = u := by
      have : its[i]? = some y := by simpa using hy
      rw [hu] at this
      cases this; rfl
    subst ey
    refine ⟨_, rfl, wpAny_letOwnedTupleGo_enum (s := { s with heap := h', toks := tk + 1 }) ho fun h'' he' sb => ?_⟩
    have hT2 : h''.get? s.heap.objs.size = some { cls := .type "tuple", data := .seq #[.int i tk, y] } := (sb.2 _ (Nat.ne_of_gt hel)).trans hT
    have new : ObjOk X.prog X.w (upd H s.heap.objs.size (.tup [.int (i : Nat), x])) h'' s.heap.objs.size (.tup [.int (i : Nat), x]) :=
      ⟨by show 2 ≤ sizeLine; decide, [.int i tk, y], .cons ⟨_, rfl⟩ (.cons ru .nil), ⟨_, hT2, rfl, _, rfl⟩⟩
    have I1 : Inv X pins σ (upd H s.heap.objs.size (.tup [.int (i : Nat), x])) { s with heap := h'', toks := tk + 1 } :=
      I.turnedNew (ch := [e, it]) (fun b ob hb q => (sb.2 b (fun z => hb (by simp [z]))).trans (hk b ob (fun z => hb (by simp [z])) (fun z => hb (by simp [z])) q)) hf (Nat.le_refl _) new
    refine ⟨.ref s.heap.objs.size, _, I1, rfl, ⟨_, x, rfl, I.hok.fresh (Nat.le_refl _), rfl, fun ys hy => ?_⟩, ⟨⟨y, ?_⟩, hst.1.at fun o q => (sb.2 it (Ne.symm hne)).trans q, hne, by have := rv.length; omega⟩, fun b hb => ?_⟩
    · rw [I.tuple_inj hy hq]; exact hx
    · have e1 : ((i + 1 : Nat) : Int) = (i : Int) + 1 := by omega
      rw [e1]; exact he'
    · have hb' : b < s.heap.objs.size := by
        rcases (show b = e ∨ b = it by simpa using hb) with z | z
        · rw [z]; exact hel
        · rw [z]; exact hil
      rw [upd_ne (Nat.ne_of_lt hb')]
      exact (hf b hb).1
  done := by
    intro X hP hw hK hc i pins s σ H E I hf st hg
    subst hP hw hK
    obtain ⟨⟨old, he⟩, hit, hne, him⟩ := st
    obtain ⟨xs, hq, hxm, hx⟩ := hg
    obtain ⟨its, rv, p, hz⟩ := I.tuple hq
    obtain ⟨f0, f1, f2, f3, f4, f5⟩ := hf it (by simp)
    have ei : i = its.toArray.size := by have := rv.length; simp; omega
    subst ei
    exact wpAny_pyNext_enum_endD (Draws.tuple (A := X.A.in1) (show X.A.in1.handled = none from I.ok.hd hc) it a hai its.toArray) he ⟨hit, p⟩ fun h' eb => ⟨rfl, I.turned (t' := s.toks) (fun b o hb q => eb b o hb q) f0 f1 f3 f4 f5⟩
  self := fun A i s Q E st h => let ⟨⟨_, he⟩, _⟩ := st; wpAny_pyIter_enum he h
/-- enumerate(text) -/
def IteS (x : Str) : L2.It :=
  ⟨fun i _ => i < x.cps.size, fun i H v H' => ∃ T c, v = .ref T ∧ H T = none ∧ H' = upd H T (.tup [.int (i : Nat), .str ⟨#[c]⟩]) ∧ x.cps[i]? = some c, fun i _ => x.cps.size ≤ i⟩
theorem turn_enumS (x : Str) (t : Tok) (e it : Addr) :
    Turn P w K (.Tuple elts kk tpos) (IteS x) [e, it] e (fun i h => (∃ old, IsEnum h e it ((i : Nat) : Int) old) ∧ h.IsStrIter it (strIterType x) x t i ∧ e ≠ it ∧ i ≤ x.cps.size) where
  mem := by simp
  obj := fun i h st b hb => by
    obtain ⟨⟨old, he⟩, ⟨o, ho, hc, hd⟩, _⟩ := st
    rcases (show b = e ∨ b = it by simpa using hb) with z | z
    · rw [z]; exact ⟨_, he, fun v q => nomatch q⟩
    · rw [z]; exact ⟨o, ho, fun v q => by rw [hd] at q; cases q⟩
  keep := fun i h h' st k => let ⟨⟨old, he⟩, ⟨o, ho, r⟩, hne⟩ := st; ⟨⟨old, k e (by simp) _ he⟩, ⟨o, k it (by simp) o ho, r⟩, hne⟩
  item := by
    intro X hP hw hK hc i pins s σ H E I hf st hg
    subst hP hw hK
    obtain ⟨⟨old, he⟩, hit, hne, him⟩ := st
    have hel : e < s.heap.objs.size := Heap.lt_size he
    have hil : it < s.heap.objs.size := by obtain ⟨_, q, _⟩ := hit; exact Heap.lt_size q
    refine wpAny_pyNext_enum_itemD (Draws.text (A := X.A.in1) (show X.A.in1.handled = none from I.ok.hd hc) it x t) he hit hg hne (by simp [hne]) fun y h' tk hy ho hst hT hsz hk => ?_
    obtain ⟨c, u, hcx, ey⟩ := hy
    subst ey
    refine ⟨_, rfl, wpAny_letOwnedTupleGo_enum (s := { s with heap := h', toks := tk + 1 }) ho fun h'' he' sb => ?_⟩
    have hT2 : h''.get? s.heap.objs.size = some { cls := .type "tuple", data := .seq #[.int i tk, .str ⟨#[c]⟩ u] } := (sb.2 _ (Nat.ne_of_gt hel)).trans hT
    have new : ObjOk X.prog X.w (upd H s.heap.objs.size (.tup [.int (i : Nat), .str ⟨#[c]⟩])) h'' s.heap.objs.size (.tup [.int (i : Nat), .str ⟨#[c]⟩]) :=
      ⟨by show 2 ≤ sizeLine; decide, [.int i tk, .str ⟨#[c]⟩ u], .cons ⟨_, rfl⟩ (.cons ⟨_, rfl⟩ .nil), ⟨_, hT2, rfl, _, rfl⟩⟩
    have I1 : Inv X pins σ (upd H s.heap.objs.size (.tup [.int (i : Nat), .str ⟨#[c]⟩])) { s with heap := h'', toks := tk + 1 } :=
      I.turnedNew (ch := [e, it]) (fun b ob hb q => (sb.2 b (fun z => hb (by simp [z]))).trans (hk b ob (fun z => hb (by simp [z])) (fun z => hb (by simp [z])) q)) hf (Nat.le_refl _) new
    have hst' : h''.IsStrIter it (strIterType x) x t (i + 1) := let ⟨o, ho, r⟩ := hst; ⟨o, (sb.2 it (Ne.symm hne)).trans ho, r⟩
    refine ⟨.ref s.heap.objs.size, _, I1, rfl, ⟨_, c, rfl, I.hok.fresh (Nat.le_refl _), rfl, hcx⟩, ⟨⟨.str ⟨#[c]⟩ u, ?_⟩, hst', hne, hg⟩, fun b hb => ?_⟩
    · have e1 : ((i + 1 : Nat) : Int) = (i : Int) + 1 := by omega
      rw [e1]; exact he'
    · have hb' : b < s.heap.objs.size := by
        rcases (show b = e ∨ b = it by simpa using hb) with z | z
        · rw [z]; exact hel
        · rw [z]; exact hil
      rw [upd_ne (Nat.ne_of_lt hb')]
      exact (hf b hb).1
  done := by
    intro X hP hw hK hc i pins s σ H E I hf st hg
    subst hP hw hK
    obtain ⟨⟨old, he⟩, hit, hne, him⟩ := st
    obtain ⟨f0, f1, f2, f3, f4, f5⟩ := hf it (by simp)
    have ei : i = x.cps.size := Nat.le_antisymm him hg
    subst ei
    exact wpAny_pyNext_enum_endD (Draws.text (A := X.A.in1) (show X.A.in1.handled = none from I.ok.hd hc) it x t) he hit fun h' eb => ⟨rfl, I.turned (t' := s.toks) (fun b o hb q => eb b o hb q) f0 f1 f3 f4 f5⟩
  self := fun A i s Q E st h => let ⟨⟨_, he⟩, _⟩ := st; wpAny_pyIter_enum he h
end
section
variable {K : PySem.W.Frag} {H1 : Hp}
theorem it_enumT {a : Addr} {xs : List V} {ds : List D} {bs : List Addr} (h : SqT K H1 a xs) (r : DpRs K H1 xs ds bs) : ItFor K (IteT K a xs.length) H1 (enumD 0 ds) bs := by
  intro H fx kp i
  have h' := fx.sqT h
  have r' := r.keep fx fun b hb => kp b hb
  refine ⟨fun hl => ⟨xs, h', rfl, by rw [r.length]; rw [enumD_len] at hl; exact hl⟩, fun d hd => ?_⟩
  obtain ⟨z, hz, e⟩ := enumD_at hd
  subst e
  obtain ⟨x, es, hx, rx, sub⟩ := r'.atD hz
  refine ⟨⟨xs, x, h', rfl, hx⟩, fun x' H' y => ?_⟩
  obtain ⟨T, x2, e1, hT, e2, y⟩ := y
  subst e1 e2
  have := y xs h'
  rw [hx] at this
  cases this
  refine ⟨same_upd hT, es, .tup (.inl (.inl upd_same)) ?_, fun b hb => sub.subset hb⟩
  have e : (0 + i : Nat) = i := Nat.zero_add i
  rw [e]
  exact .cons (as := []) (.int _) (.one (rx.new hT))
theorem it_enumS (x : Str) : ItFor K (IteS x) H1 (enumD 0 (signsD x)) [] := by
  intro H fx kp i
  refine ⟨fun hl => ?_, fun d hd => ?_⟩
  · rw [enumD_len] at hl
    unfold signsD at hl
    rw [List.length_map, Array.length_toList] at hl
    exact hl
  · obtain ⟨z, hz, e⟩ := enumD_at hd
    subst e
    unfold signsD at hz
    rw [List.getElem?_map] at hz
    obtain ⟨c, hc, rfl⟩ := Option.map_eq_some_iff.mp hz
    rw [Array.getElem?_toList] at hc
    refine ⟨(Array.getElem?_eq_some_iff.mp hc).1, fun v H' y => ?_⟩
    obtain ⟨T, c', e1, hT, e2, h1⟩ := y
    subst e1 e2
    rw [hc] at h1
    cases h1
    refine ⟨same_upd hT, [], .tup (.inl (.inl upd_same)) ?_, fun _ h => by simp at h⟩
    have e : (0 + i : Nat) = i := Nat.zero_add i
    rw [e]
    exact .cons (as := []) (.int _) (.one (.str _))
end
/-- enumerate of a list, a tuple or a text -/
def iEnumX (K : PySem.W.Frag) (ta : TA) : TI := fun σ H R => ta σ H fun vs H1 => (∃ a xs, vs = [.ref a] ∧ SqL K H1 a xs ∧ R (Ite K a) H1) ∨ (∃ a xs, vs = [.ref a] ∧ SqT K H1 a xs ∧ R (IteT K a xs.length) H1) ∨ ∃ x, vs = [.str x] ∧ R (IteS x) H1
theorem pi_enumX {X : Cx} {e : Expr} {ta : TA} {p pos tpos : Pos} {elts : List Expr} {kk : Nat} (hg : Gl X "enumerate") (hm : X.mg "enumerate" = none) (ha : PA X [e] ta) (hs : starEach [e] X.env = [(false, eval e X.env)]) :
    PI X (.Tuple elts kk tpos) (.Call (.Name "enumerate" p) [e] [] pos) (iEnumX X.K ta) := by
  refine ⟨fun pins s σ H R I h => ?_⟩
  refine Call_ (ld_blt I hg hm boot_enumerate (PyProof.Rows.callWith_type1 (thn (ha.run pos pins s σ H _ I h) fun us s1 ⟨vs, H1, I1, r1, q1⟩ => ?_) hs rfl))
  have fpOk : ∀ b ∈ [s1.heap.objs.size + 1, s1.heap.objs.size], s1.heap.objs.size ≤ b := fun b hb => by
    rcases (show b = s1.heap.objs.size + 1 ∨ b = s1.heap.objs.size by simpa using hb) with z | z
    · rw [z]; exact Nat.le_add_right _ _
    · rw [z]; exact Nat.le_refl _
  rcases q1 with ⟨a, xs, ex, hq, q⟩ | ⟨a, xs, ex, hq, q⟩ | ⟨x, ex, q⟩
  · subst ex
    cases r1 with
    | cons r rr =>
      cases rr
      cases r
      obtain ⟨its, rv, p', hz⟩ := I1.list hq
      refine call_enumerate_list p'.isList fun h' he hit hsz hk => wpAny_pyIter_enum he ?_
      have I2 : Inv X pins σ H1 { s1 with heap := h' } := I1.kept (t' := s1.toks) hk
      exact ⟨s1.heap.objs.size + 1, [s1.heap.objs.size + 1, s1.heap.objs.size], _, _, H1, rfl, I2, turn_enum a (s1.heap.objs.size + 1) s1.heap.objs.size, ⟨⟨.none, he⟩, hit, Nat.succ_ne_self _⟩, fun b hb => I1.fpOk (fpOk b hb) (I1.hok.fresh (fpOk b hb)), q⟩
  · subst ex
    cases r1 with
    | cons r rr =>
      cases rr
      cases r
      obtain ⟨its, rv, p', hz⟩ := I1.tuple hq
      have hal : a < s1.heap.objs.size := by obtain ⟨o, q, _⟩ := p'; exact Heap.lt_size q
      refine PySem.W.en_begins (begins_tuple a its.toArray) p' fun h' he hit hk => wpAny_pyIter_enum he ?_
      have I2 : Inv X pins σ H1 { s1 with heap := h' } := I1.kept (t' := s1.toks) hk
      exact ⟨s1.heap.objs.size + 1, [s1.heap.objs.size + 1, s1.heap.objs.size], _, _, H1, rfl, I2, turn_enumT a (s1.heap.objs.size + 1) s1.heap.objs.size xs.length (Nat.ne_of_lt hal) (Nat.ne_of_lt (Nat.lt_succ_of_lt hal)), ⟨⟨.none, he⟩, ⟨_, hit, rfl, rfl⟩, Nat.succ_ne_self _, Nat.zero_le _⟩, fun b hb => I1.fpOk (fpOk b hb) (I1.hok.fresh (fpOk b hb)), q⟩
  · subst ex
    cases r1 with
    | cons r rr =>
      cases rr
      obtain ⟨t, rfl⟩ := r
      refine PySem.W.en_begins (begins_text x t) trivial fun h' he hit hk => wpAny_pyIter_enum he ?_
      have I2 : Inv X pins σ H1 { s1 with heap := h' } := I1.kept (t' := s1.toks) hk
      exact ⟨s1.heap.objs.size + 1, [s1.heap.objs.size + 1, s1.heap.objs.size], _, _, H1, rfl, I2, turn_enumS x t (s1.heap.objs.size + 1) s1.heap.objs.size, ⟨⟨.none, he⟩, ⟨_, hit, rfl, rfl⟩, Nat.succ_ne_self _, Nat.zero_le _⟩, fun b hb => I1.fpOk (fpOk b hb) (I1.hok.fresh (fpOk b hb)), q⟩
end PV
set_option Elab.async false
set_option linter.all false
set_option maxRecDepth 100000
set_option maxHeartbeats 1000000
/-! PV15: what is walked, further. -/
namespace PV
open PySem PySem.Spec PyProof.Rows L2
section
variable {J : Info} {fs : List Fn} {ca : Nat → Addr} {k : Nat} {N : List Str} {sc : Scope} {W : WX} {X : Cx} {S : List Nat} {tg : Expr}
theorem si_r3 {a b c : E} {x y z : Expr} {p1 p2 : Pos} (C : Cxt J fs ca k N sc W X) (g1 : glB sc ("range" : Str) = true) (px : plainX x = true) (py : plainX y = true) (pz : plainX z = true) (ia : SE ca fs k S W X a x) (ib : SE ca fs k S W X b y) (ic : SE ca fs k S W X c z) : SI ca fs k S W X tg (.r3 a b c) (.Call (.Name "range" p1) [x, y, z] [] p2) := by
  refine (pi_range3 (gl_of C g1) (C.blt _ (by decide +kernel)) (pa_cons ia (pa_cons ib (pa_cons ic pa_nil (star_of pz)) (star_of py)) (star_of px)) (star_of px) (back_of (xs := [y, z]) (by simp [plainAllX, py, pz]))).weaken fun σ H R ⟨ρ, A, rep, q⟩ => ?_
  simp only [evi] at q
  refine tS_first rep (Stp.refl _ _) rep q fun r1 ρ1 v1 H1 A1 r1' s1 rv1 ef1 q => ?_
  refine tS_first rep s1 r1' q fun r2 ρ2 v2 H2 A2 r2' s2 rv2 ef2 q => ?_
  have s12 := Stp.trans rep s1 s2
  refine tS_first rep s12 r2' q fun r3 ρ3 v3 H3 A3 r3' s3 rv3 ef3 q => ?_
  obtain ⟨o1, d1⟩ := r1
  obtain ⟨o2, d2⟩ := r2
  obtain ⟨o3, d3⟩ := r3
  obtain ⟨as, e1, n1⟩ := rv1.any
  obtain ⟨bs, e2, n2⟩ := rv2.any
  obtain ⟨cs, e3, n3⟩ := rv3.any
  dsimp only at q e1 e2 e3
  cases d1 <;> try (exact q.elim)
  cases d2 <;> try (exact q.elim)
  cases d3 <;> try (exact q.elim)
  simp only [asInt, bind_ok] at q
  obtain ⟨hk, q⟩ := RG.ite q
  simp only [Bool.and_eq_true, decide_eq_true_eq] at hk
  refine ⟨_, _, _, _, by rw [e1.int_inv, e2.int_inv, e3.int_inv], ⟨hk.2.1, by have := hk.2.2; omega, hk.1, PyProof.Rows.rangeSize_toNat _ _ _⟩, q _ H3 A3 [] r3' (Stp.trans rep s12 s3) (it_rngc _ _ _) (fun _ h => by simp at h) (fun _ h => by simp at h) fun e => ?_⟩
  simp only [effi, Bool.or_eq_false_iff] at e
  obtain ⟨q1, m1⟩ := ef1 e.1.1
  obtain ⟨q2, m2⟩ := ef2 e.1.2
  obtain ⟨q3, m3⟩ := ef3 e.2
  exact ⟨q3.trans (q2.trans q1), (m1.trans m2).trans m3⟩
theorem si_enum {a : E} {x : Expr} {p1 p2 p3 : Pos} {es : List Expr} {kk : Nat} (C : Cxt J fs ca k N sc W X) (g1 : glB sc ("enumerate" : Str) = true) (px : plainX x = true) (ia : SE ca fs k S W X a x) : SI ca fs k S W X (.Tuple es kk p3) (.enum a) (.Call (.Name "enumerate" p1) [x] [] p2) := by
  refine (pi_enumX (gl_of C g1) (C.blt _ (by decide +kernel)) (pa_cons ia pa_nil (star_of px)) (star_of px)).weaken fun σ H R ⟨ρ, A, rep, q⟩ => ?_
  simp only [evi] at q
  refine tS_first rep (Stp.refl _ _) rep q fun r1 ρ1 v1 H1 A1 r1' s1 rv1 ef1 q => ?_
  obtain ⟨b, d⟩ := r1
  obtain ⟨as, d1, n1⟩ := rv1.any
  dsimp only at q d1
  cases d <;> try (exact q.elim)
  · cases d1
    exact .inr (.inr ⟨_, rfl, q _ H1 A1 [] r1' s1 (it_enumS _) (fun _ h => by simp at h) (fun _ h => by simp at h) ef1⟩)
  · obtain ⟨a, vs, bs, e, r3, h3, e3⟩ := d1.list_inv
    subst e3 e
    exact .inl ⟨a, vs, rfl, SqL.of h3, q _ H1 A1 (a :: bs) r1' s1 (it_enum h3 r3) n1 (trk_cons h3 r3.trk) ef1⟩
  · obtain ⟨a, vs, e, h3, r3⟩ := d1.tuple_inv
    subst e
    exact .inr (.inl ⟨a, vs, rfl, h3, q _ H1 A1 as r1' s1 (it_enumT h3 r3) n1 r3.trk ef1⟩)
theorem si_zip {a b : E} {x y : Expr} {p1 p2 p3 : Pos} {es : List Expr} {kk : Nat} (C : Cxt J fs ca k N sc W X) (g1 : glB sc ("zip" : Str) = true) (px : plainX x = true) (py : plainX y = true) (ia : SE ca fs k S W X a x) (ib : SE ca fs k S W X b y) : SI ca fs k S W X (.Tuple es kk p3) (.zip a b) (.Call (.Name "zip" p1) [x, y] [] p2) := by
  refine (RZ.pi_zipA (gl_of C g1) (C.blt _ (by decide +kernel)) (pa_cons ia (pa_cons ib pa_nil (star_of py)) (star_of px)) (star_of px) (back_of (xs := [y]) (by simp [plainAllX, py]))).weaken fun σ H R ⟨ρ, A, rep, q⟩ => ?_
  simp only [evi] at q
  refine tS_first rep (Stp.refl _ _) rep q fun r1 ρ1 v1 H1 A1 r1' s1 rv1 ef1 q => ?_
  refine tS_first rep s1 r1' q fun r2 ρ2 v2 H2 A2 r2' s2 rv2 ef2 q => ?_
  dsimp only at q
  obtain ⟨hk, q⟩ := RG.ite q
  have rv1' := RVal.later rep s1 r1' s2 ef2 hk rv1
  obtain ⟨as, e1, n1⟩ := rv1'.any
  obtain ⟨bs, e2, n2⟩ := rv2.any
  have st := Stp.trans rep s1 s2
  have ef : (effi (.zip a b) = false → A2 = A ∧ Same H H2) := fun e => by
    simp only [effi, Bool.or_eq_false_iff] at e
    obtain ⟨q1, m1⟩ := ef1 e.1
    obtain ⟨q2, m2⟩ := ef2 e.2
    exact ⟨q2.trans q1, m1.trans m2⟩
  have n1' := avoid_mono (vs := varsi (.zip a b)) n1 fun i hi => List.mem_append_left _ hi
  have n2' := avoid_mono (vs := varsi (.zip a b)) n2 fun i hi => List.mem_append_right _ hi
  obtain ⟨o1, d1⟩ := r1
  obtain ⟨o2, d2⟩ := r2
  dsimp only at q e1 e2
  cases d1 <;> cases d2 <;> try (exact q.elim)
  · obtain ⟨a, vs, as', e, r3, h3, e3⟩ := e1.list_inv
    subst e3 e
    obtain ⟨b, ws, bs', e, r4, h4, e4⟩ := e2.list_inv
    subst e4 e
    refine ⟨a, b, vs, ws, rfl, .inl ⟨SqL.of h3, SqL.of h4, q _ H2 A2 _ r2' st (it_zipL h3 r3 h4 r4) (fun c hc => (List.mem_append.mp hc).elim (n1' c) (n2' c)) (fun c hc => (List.mem_append.mp hc).elim (trk_cons h3 r3.trk c) (trk_cons h4 r4.trk c)) ef⟩⟩
  · obtain ⟨a, vs, e, h3, r3⟩ := e1.tuple_inv
    subst e
    obtain ⟨b, ws, e, h4, r4⟩ := e2.tuple_inv
    subst e
    refine ⟨a, b, vs, ws, rfl, .inr ⟨h3, h4, q _ H2 A2 _ r2' st (it_zipT h3 r3 h4 r4) (fun c hc => (List.mem_append.mp hc).elim (n1' c) (n2' c)) (fun c hc => (List.mem_append.mp hc).elim (r3.trk c) (r4.trk c)) ef⟩⟩
end
end PV
set_option Elab.async false
set_option linter.all false
set_option maxRecDepth 100000
set_option maxHeartbeats 1000000
/-! PV16: targets; a comprehension's turn. -/
namespace PV
open PySem PySem.Spec PyProof.Rows L2
def Own.wip (A : Own) (vs : List Nat) : Own := ⟨fun i => if i ∈ vs then [] else A i, A.fr⟩
theorem Own.wip_in {A : Own} {vs : List Nat} {i : Nat} (h : i ∈ vs) : (A.wip vs) i = [] := if_pos h
theorem Own.wip_out {A : Own} {vs : List Nat} {i : Nat} (h : i ∉ vs) : (A.wip vs) i = A i := if_neg h
theorem Own.wip_sub {A : Own} {vs : List Nat} {i : Nat} {a : Addr} (h : a ∈ (A.wip vs) i) : a ∈ A i := by
  by_cases hi : i ∈ vs
  · rw [Own.wip_in hi] at h; simp at h
  · rwa [Own.wip_out hi] at h
theorem Own.wip_self {A : Own} {vs : List Nat} (h : ∀ i ∈ vs, A i = []) : A.wip vs = A := by
  have : (fun i => if i ∈ vs then [] else A i) = A.sl := by
    funext i
    by_cases hi : i ∈ vs
    · rw [if_pos hi]; exact (h i hi).symm
    · rw [if_neg hi]
  unfold Own.wip
  rw [this]
section
variable {K : PySem.W.Frag} {S : List Nat} {σ σ2 : L2.St} {ρ ρ2 : PV.Env} {H H' : Hp} {A : Own}
theorem wipe_get {ρ : PV.Env} {i : Nat} : ∀ {vs : List Nat}, PV.get (PV.wipe ρ vs) i = if i ∈ vs then none else PV.get ρ i
  | [] => by simp [PV.wipe]
  | v :: vs => by
    unfold PV.wipe
    rw [get_set, wipe_get (vs := vs)]
    by_cases h : v = i
    · subst h
      by_cases hl : v < (PV.wipe ρ vs).length
      · rw [if_pos ⟨rfl, hl⟩, if_pos List.mem_cons_self]
      · rw [if_neg (fun q => hl q.2), if_pos List.mem_cons_self]
        by_cases hv : v ∈ vs
        · rw [if_pos hv]
        · rw [if_neg hv]
          have hl' : ¬ v < ρ.length := by
            intro q
            apply hl
            clear hl hv
            induction vs with
            | nil => exact q
            | cons w ws ih => unfold PV.wipe; rw [List.length_set]; exact ih
          cases e : PV.get ρ v with
          | none => rfl
          | some c => exact absurd (get_lt e) hl'
    · rw [if_neg (fun q => h q.1)]
      by_cases hv : i ∈ vs
      · rw [if_pos hv, if_pos (List.mem_cons_of_mem _ hv)]
      · rw [if_neg hv, if_neg]
        intro q
        rcases List.mem_cons.mp q with e | q
        · exact h e.symm
        · exact hv q
theorem wipe_len (ρ : PV.Env) : ∀ vs : List Nat, (PV.wipe ρ vs).length = ρ.length
  | [] => rfl
  | v :: vs => by unfold PV.wipe; rw [List.length_set, wipe_len ρ vs]
/-- fewer names, fewer lists owned -/
theorem Stp.wip (s : Stp H A H' A2) (vs : List Nat) : Stp H A H' (A2.wip vs) := ⟨fun a ⟨i, hi⟩ => s.own a ⟨i, Own.wip_sub hi⟩, s.keep, s.the, s.fr, s.fro⟩
/-- names are forgotten -/
theorem Rep.wip (rep : Rep K H S σ ρ A) (vs : List Nat) (hl : σ.length = σ2.length) (hs : ∀ i, i ∉ vs → σ2[i]? = σ[i]?) (hg : ∀ i, PV.get ρ2 i = if i ∈ vs then none else PV.get ρ i) (hρ : ρ2.length = ρ.length) : Rep K H S σ2 ρ2 (A.wip vs) where
  cell := fun i c h => by
    rw [hg] at h
    by_cases hi : i ∈ vs
    · rw [if_pos hi] at h; cases h
    · rw [if_neg hi] at h
      obtain ⟨v, e, ok⟩ := rep.cell i c h
      refine ⟨v, by rw [hs i hi]; exact e, ?_⟩
      cases c with
      | own d => show DpR K H v d ((A.wip vs) i) ∧ _; rw [Own.wip_out hi]; exact ok
      | fz d => exact ok
      | bor d =>
        obtain ⟨as, h1, h2⟩ := ok
        exact ⟨as, h1, fun a ha j hj q => h2 a ha j hj (Own.wip_sub q)⟩
      | scr l => exact ok
  disj := fun i j a h1 h2 => rep.disj i j a (Own.wip_sub h1) (Own.wip_sub h2)
  trk := fun i a h => rep.trk i a (Own.wip_sub h)
  fdis := fun a h ⟨i, hi⟩ => rep.fdis a h ⟨i, Own.wip_sub hi⟩
  ftrk := rep.ftrk
  emp := fun i hil h => by
    by_cases hi : i ∈ vs
    · exact Own.wip_in hi
    · rw [Own.wip_out hi]
      refine rep.emp i (by rwa [hρ] at hil) fun d e => h d ?_
      rw [hg, if_neg hi]
      exact e
  len := by rw [hρ, ← hl]; exact rep.len
/-- more names to borrow from -/
theorem Rep.more {S' : List Nat} (rep : Rep K H S σ ρ A) (h : ∀ i ∈ S, i ∈ S') : Rep K H S' σ ρ A where
  cell := fun i c e => by
    obtain ⟨v, e, ok⟩ := rep.cell i c e
    refine ⟨v, e, ?_⟩
    cases c with
    | bor d =>
      obtain ⟨as, h1, h2⟩ := ok
      exact ⟨as, h1, fun a ha j hj => h2 a ha j fun q => hj (h j q)⟩
    | _ => exact ok
  disj := rep.disj
  trk := rep.trk
  fdis := rep.fdis
  ftrk := rep.ftrk
  emp := rep.emp
  len := rep.len
/-- a name takes a thing -/
theorem Rep.put {i : Nat} {v : V} {c : Cell} {as : List Addr} (rep : Rep K H S σ ρ A) (ok : CellOk K H S (A.put i as) i v c) (own : (∀ d, c ≠ .own d) → as = []) (hb : as = [] ∨ noBor ρ = true) (hd : ∀ a ∈ as, ∀ j, j ≠ i → a ∉ A j) (ht : ∀ a ∈ as, ∃ xs, H a = some (.lst xs)) (hf : ∀ a ∈ as, a ∉ A.fr)
    (hl : i < ρ.length) : Rep K H S (σ.set i (some v)) (ρ.set i (some c)) (A.put i as) where
  cell := fun j c' h => by
    rw [get_set] at h
    by_cases hj : i = j
    · subst hj
      rw [if_pos ⟨rfl, hl⟩] at h
      cases h
      exact ⟨v, by rw [List.getElem?_set_self (Nat.lt_of_lt_of_le hl rep.len)], ok⟩
    · rw [if_neg (fun q => hj q.1)] at h
      obtain ⟨u, e, k⟩ := rep.cell j c' h
      refine ⟨u, by rw [List.getElem?_set_ne hj]; exact e, ?_⟩
      cases c' with
      | own d => show DpR K H u d ((A.put i as) j) ∧ _; rw [Own.put_ne _ _ (Ne.symm hj)]; exact k
      | fz d => exact k
      | bor d =>
        rcases hb with z | z
        · obtain ⟨bs, h1, h2⟩ := k
          refine ⟨bs, h1, fun a ha l hl q => ?_⟩
          by_cases hli : l = i
          · rw [hli, Own.put_same, z] at q; simp at q
          · rw [Own.put_ne _ _ hli] at q
            exact h2 a ha l hl q
        · exact absurd (noBor_get z h) (fun z => Bool.noConfusion z)
      | scr l => exact k
  disj := fun j l a h1 h2 => by
    by_cases hj : j = i
    · by_cases hl : l = i
      · rw [hj, hl]
      · rw [hj, Own.put_same] at h1
        rw [Own.put_ne _ _ hl] at h2
        exact absurd h2 (hd a h1 l hl)
    · by_cases hl : l = i
      · rw [hl, Own.put_same] at h2
        rw [Own.put_ne _ _ hj] at h1
        exact absurd h1 (hd a h2 j hj)
      · rw [Own.put_ne _ _ hj] at h1
        rw [Own.put_ne _ _ hl] at h2
        exact rep.disj j l a h1 h2
  trk := fun j a h => by
    by_cases hj : j = i
    · rw [hj, Own.put_same] at h; exact ht a h
    · rw [Own.put_ne _ _ hj] at h; exact rep.trk j a h
  fdis := fun a h ⟨j, hj⟩ => by
    by_cases hji : j = i
    · rw [hji, Own.put_same] at hj; exact hf a hj h
    · rw [Own.put_ne _ _ hji] at hj; exact rep.fdis a h ⟨j, hj⟩
  ftrk := rep.ftrk
  emp := fun j hjl h => by
    by_cases hj : j = i
    · rw [hj, Own.put_same]
      refine own fun d e => ?_
      rw [hj] at h
      exact h d (by rw [get_set, if_pos ⟨rfl, hl⟩, e])
    · rw [Own.put_ne _ _ hj]
      refine rep.emp j (by rwa [List.length_set] at hjl) fun d e => h d ?_
      rw [get_set, if_neg (fun q => hj q.1.symm)]
      exact e
  len := by rw [List.length_set, List.length_set]; exact rep.len
/-- .. where there is no such name, nothing -/
theorem Rep.putNo {i : Nat} {v : V} {c : Cell} (rep : Rep K H S σ ρ A) (hl : ¬ i < ρ.length) : Rep K H S (σ.set i (some v)) (ρ.set i (some c)) (A.put i []) := by
  have hs : ρ.set i (some c) = ρ := List.set_eq_of_length_le (by omega)
  have hA : A.put i [] = A.wip [i] := by
    have : (fun j => if j = i then [] else A j) = fun j => if j ∈ [i] then [] else A j := by
      funext j
      by_cases hj : j = i
      · rw [if_pos hj, if_pos (by simp [hj])]
      · rw [if_neg hj, if_neg (by simp [hj])]
    unfold Own.put Own.wip
    rw [this]
  rw [hs, hA]
  refine rep.wip [i] (by rw [List.length_set]) (fun j hj => ?_) (fun j => ?_) rfl
  · have hj' : j ≠ i := by simpa using hj
    rw [List.getElem?_set_ne (Ne.symm hj')]
  · by_cases hj : j ∈ [i]
    · rw [if_pos hj]
      have hj' : j = i := by simpa using hj
      cases e : PV.get ρ j with
      | none => rfl
      | some c => exact absurd (by rw [← hj']; exact get_lt e) hl
    · rw [if_neg hj]
end
end PV
set_option Elab.async false
set_option linter.all false
set_option maxRecDepth 100000
set_option maxHeartbeats 1000000
/-! PV17: targets. -/
namespace PV
open PySem PySem.Spec PyProof.Rows L2
theorem Own.ext' {A B : Own} (h : ∀ j, A j = B j) (f : A.fr = B.fr) : A = B := by
  cases A; cases B
  have : _ = _ := funext h
  dsimp only at f this
  subst f
  cases this
  rfl
/-- a tree with the lists at as may be held so -/
def KOk (K : PySem.W.Frag) (H : Hp) (S : List Nat) (A : Own) (kc : D → Cell) (as : List Addr) : Prop := ∀ i v d as', DpR K H v d as' → (∀ a ∈ as', a ∈ as) → CellOk K H S A i v (kc d)
theorem kok_bor {K : PySem.W.Frag} {H : Hp} {S : List Nat} {A : Own} {as : List Addr} (h : ∀ a ∈ as, ∀ j, j ∉ S → a ∉ A j) : KOk K H S A .bor as := fun i v d as' r s => ⟨as', r, fun a ha => h a (s a ha)⟩
theorem kok_fz {K : PySem.W.Frag} {H : Hp} {S : List Nat} {A : Own} {as : List Addr} (h : ∀ a ∈ as, a ∈ A.fr) : KOk K H S A .fz as := fun i v d as' r s => ⟨as', r, fun a ha => h a (s a ha)⟩
def gs : List Nat → TGs
  | [] => gNil
  | i :: is => gCons (gName i) (gs is)
section
variable {K : PySem.W.Frag} {S : List Nat} {H : Hp} {kc : D → Cell}
theorem put_one {σ : L2.St} {ρ : PV.Env} {A : Own} {i : Nat} {v : V} {d : D} {as' as : List Addr} (hk : ∀ d d', kc d ≠ .own d') (rep : Rep K H S σ ρ A) (r : DpR K H v d as') (s : ∀ a ∈ as', a ∈ as) (ko : ∀ B : Own, (∀ j a, a ∈ B j → a ∈ A j) → B.fr = A.fr → KOk K H S B kc as) :
    Rep K H S (σ.set i (some v)) (ρ.set i (some (cellOf kc d))) (A.wip [i]) := by
  have hA : A.wip [i] = A.put i [] := Own.ext' (fun j => by
    by_cases hj : j = i
    · rw [Own.wip_in (by simp [hj]), hj, Own.put_same]
    · rw [Own.wip_out (by simp [hj]), Own.put_ne _ _ hj]) rfl
  rw [hA]
  by_cases hl : i < ρ.length
  · refine rep.put ?_ (fun _ => rfl) (.inl rfl) (fun a h => by simp at h) (fun a h => by simp at h) (fun a h => by simp at h) hl
    unfold cellOf
    by_cases hi : imm d = true
    · rw [if_pos hi]
      have := r.imm hi
      subst this
      show DpR K H v d ((A.put i []) i) ∧ ((A.put i []) i).Nodup
      rw [Own.put_same]
      exact ⟨r, .nil⟩
    · rw [if_neg hi]
      refine ko (A.put i []) (fun j a h => ?_) rfl i v d as' r s
      by_cases hj : j = i
      · rw [hj, Own.put_same] at h; simp at h
      · rwa [Own.put_ne _ _ hj] at h
  · exact rep.putNo hl
theorem put_all (hk : ∀ d d', kc d ≠ .own d') {as : List Addr} : ∀ {is : List Nat} {vs : List V} {ds : List D} {as' : List Addr} {σ : L2.St} {ρ ρ1 : PV.Env} {A : Own} {Q : L2.St → Hp → Prop}, Rep K H S σ ρ A → DpRs K H vs ds as' → (∀ a ∈ as', a ∈ as) → (∀ B : Own, (∀ j a, a ∈ B j → a ∈ A j) → B.fr = A.fr → KOk K H S B kc as) →
    putAll ρ is (ds.map (cellOf kc)) = some ρ1 → (∀ σ2, Rep K H S σ2 ρ1 (A.wip is) → (∀ j, j ∉ is → σ2[j]? = σ[j]?) → σ2.length = σ.length → Q σ2 H) → gs is vs σ H Q
  | [], _, _, _, σ, ρ, ρ1, A, Q, rep, .nil, s, ko, h, q => by
    simp only [List.map_nil, putAll] at h
    cases h
    refine ⟨rfl, q σ ?_ (fun _ _ => rfl) rfl⟩
    rwa [Own.wip_self (by simp)]
  | [], _, _, _, σ, ρ, ρ1, A, Q, rep, .cons _ _, s, ko, h, q => by simp [putAll] at h
  | i :: is, _, _, _, σ, ρ, ρ1, A, Q, rep, .nil, s, ko, h, q => by simp [putAll] at h
  | i :: is, _, _, _, σ, ρ, ρ1, A, Q, rep, .cons (v := v) (vs := vs) (d := d) (ds := ds) r rs, s, ko, h, q => by
    simp only [List.map_cons, putAll] at h
    refine ⟨v, vs, rfl, ?_⟩
    have r1 := put_one (i := i) hk rep r (fun a ha => s a (List.mem_append_left _ ha)) ko
    refine put_all hk r1 rs (fun a ha => s a (List.mem_append_right _ ha)) (fun B hB hf => ko B (fun j a ha => Own.wip_sub (hB j a ha)) hf) h fun σ2 r2 o2 l2 => q σ2 ?_ (fun j hj => ?_) (by rw [l2, List.length_set])
    · have e : (A.wip [i]).wip is = A.wip (i :: is) := Own.ext' (fun j => by
        by_cases h1 : j ∈ is
        · rw [Own.wip_in h1, Own.wip_in (List.mem_cons_of_mem _ h1)]
        · rw [Own.wip_out h1]
          by_cases h2 : j = i
          · rw [Own.wip_in (by simp [h2]), Own.wip_in (by simp [h2])]
          · rw [Own.wip_out (by simp [h2]), Own.wip_out (by simp [h1, h2])]) rfl
      rwa [e] at r2
    · have hj' : j ≠ i ∧ j ∉ is := by simpa using hj
      rw [o2 j hj'.2, List.getElem?_set_ne (Ne.symm hj'.1)]
def tTg (K : PySem.W.Frag) (S : List Nat) (kc : D → Cell) (tgt : List Nat) (single : Bool) : TG := fun v σ H Q => ∃ ρ A d as ρ1, Rep K H S σ ρ A ∧ DpR K H v d as ∧ (∀ B : Own, (∀ j a, a ∈ B j → a ∈ A j) → B.fr = A.fr → KOk K H S B kc as) ∧ bindT kc tgt single d ρ = .ok ρ1 ∧
  ∀ σ2, Rep K H S σ2 ρ1 (A.wip tgt) → (∀ j, j ∉ tgt → σ2[j]? = σ[j]?) → σ2.length = σ.length → Q σ2 H
end
section
variable {J : Info} {fs : List Fn} {ca : Nat → Addr} {k : Nat} {N : List Str} {sc : Scope} {W : WX} {X : Cx} {S : List Nat}
theorem _root_.L2.PG.weaken {X : Cx} {e : Expr} {t t' : TG} (h : PG X e t) (w : ∀ v σ H Q, t' v σ H Q → t v σ H Q) : PG X e t' := ⟨fun pins s σ H v u Q I r q => h.run pins s σ H v u Q I r (w v σ H Q q)⟩
theorem pg_nm {fn : Str → Bool} {x : Expr} {i : Nat} (C : Cxt J fs ca k N sc W X) (hfn : ∀ y, fn y = true → X.fn y = true) (h : tgtB fn N sc x i = true) : PG X x (gName i) := by
  unfold tgtB at h
  split at h
  · rename_i y p
    simp only [Bool.and_eq_true, decide_eq_true_eq] at h
    obtain ⟨⟨h1, h2⟩, _⟩ := h
    split at h2
    · rename_i e
      rw [← C.sc] at e
      exact pg_name C.nd (by rw [C.N]; exact h1) (.inl e) (.inr e)
    · rename_i e
      rw [← C.sc] at e
      exact pg_name C.nd (by rw [C.N]; exact h1) (.inr e) (.inl (hfn _ h2))
    · cases h2
  · cases h
theorem pgs_nm {fn : Str → Bool} (C : Cxt J fs ca k N sc W X) (hfn : ∀ y, fn y = true → X.fn y = true) : ∀ {xs : List Expr} {is : List Nat}, tgtsB fn N sc xs is = true → PGs X xs (gs is) ∧ (assignEach xs X.env).length = is.length ∧ (assignEach xs X.env).findIdx? (·.1) = none
  | [], [], _ => ⟨pgs_nil, rfl, rfl⟩
  | [], _ :: _, h => by simp [tgtsB] at h
  | _ :: _, [], h => by simp [tgtsB] at h
  | x :: xs, i :: is, h => by
    simp only [tgtsB, Bool.and_eq_true] at h
    obtain ⟨g, l, f⟩ := pgs_nm C hfn h.2
    have g1 := pg_nm C hfn h.1
    have hx : ∃ y p, x = .Name y p := by
      have := h.1
      unfold tgtB at this
      split at this
      · exact ⟨_, _, rfl⟩
      · cases this
    obtain ⟨y, p, e⟩ := hx
    subst e
    have ea : assignEach (.Name y p :: xs) X.env = (false, assign (.Name y p) X.env) :: assignEach xs X.env := rfl
    refine ⟨pgs_cons g1 g rfl, by rw [ea, List.length_cons, List.length_cons, l], ?_⟩
    rw [ea, List.findIdx?_cons]
    simp only [Bool.false_eq_true, if_false, f, Option.map_none]
theorem pg_tgt {fn : Str → Bool} {kc : D → Cell} {t : Expr} {tgt : List Nat} {single : Bool} (hk : ∀ d d', kc d ≠ .own d') (C : Cxt J fs ca k N sc W X) (hfn : ∀ y, fn y = true → X.fn y = true) (h : targetB fn N sc t tgt single = true) : PG X t (tTg X.K S kc tgt single) := by
  unfold targetB at h
  split at h
  · rename_i hs
    split at h
    · rename_i i
      refine (pg_nm C hfn h).weaken fun v σ H Q ⟨ρ, A, d, as, ρ1, rep, r, ko, hb, q⟩ => ?_
      unfold bindT at hb
      rw [if_pos hs] at hb
      cases hb
      refine q _ (put_one hk rep r (fun _ h => h) ko) (fun j hj => ?_) (by rw [List.length_set])
      have hj' : j ≠ i := by simpa using hj
      rw [List.getElem?_set_ne (Ne.symm hj')]
    · cases h
  · rename_i hs
    split at h
    · obtain ⟨g, l, f⟩ := pgs_nm C hfn h
      refine (pg_tup C.calm g l f).weaken fun v σ H Q ⟨ρ, A, d, as, ρ1, rep, r, ko, hb, q⟩ => ?_
      unfold bindT at hb
      rw [if_neg hs] at hb
      cases d with
      | tuple ds =>
        obtain ⟨a, vs, e, h3, r3⟩ := r.tuple_inv
        dsimp only at hb
        split at hb
        · rename_i ρ' hp
          cases hb
          refine ⟨a, vs, e, h3, ?_, put_all hk rep r3 (fun _ h => h) ko hp q⟩
          rw [r3.length]
          have len : ∀ {is : List Nat} {cs : List Cell} {ρ ρ' : PV.Env}, putAll ρ is cs = some ρ' → cs.length = is.length := by
            intro is
            induction is with
            | nil => intro cs ρ ρ' h; cases cs <;> simp [putAll] at h ⊢
            | cons i is ih => intro cs ρ ρ' h; cases cs <;> simp [putAll] at h ⊢; exact ih h
          have := len hp
          rwa [List.length_map] at this
        · cases hb
      | _ => cases hb
    · cases h
end
end PV
set_option Elab.async false
set_option linter.all false
set_option maxRecDepth 100000
set_option maxHeartbeats 1000000
/-! PV18: a comprehension's turn. -/
namespace PV
open PySem PySem.Spec PyProof.Rows L2
theorem bind_inv {α β : Type} {x : Res α} {f : α → Res β} {b : β} (h : (x >>= f) = .ok b) : ∃ a, x = .ok a ∧ f a = .ok b := by
  cases x with
  | ok a => exact ⟨a, rfl, h⟩
  | exc c k p => cases h
  | stuck => cases h
def turnE (cf : CF) (elt : E) (cnd : Es) (tgt : List Nat) (single : Bool) : D → PV.Env → Res (Option R × PV.Env) := fun d σ => do
  let σ1 ← bindT .bor tgt single d σ
  let (c, σ2) ← tests cf cnd σ1
  if c then
    let (r, σ3) ← ev cf elt σ2
    .ok (some r, σ3)
  else .ok (none, σ2)
abbrev WF : WX := fun _ _ _ _ => False
def tTests (K : PySem.W.Frag) (ca : Nat → Addr) (cf : CF) (S : List Nat) : Es → TT
  | .nil => tYes
  | .cons e _ => tT K ca cf S WF e
theorem wipe_in {σ : L2.St} {i : Nat} : ∀ {vs : List Nat}, i ∈ vs → (L2.wipe σ vs)[i]? = if i < σ.length then some none else none
  | v :: vs, h => by
    unfold L2.wipe
    by_cases e : v = i
    · subst e
      by_cases hl : v < (L2.wipe σ vs).length
      · rw [List.getElem?_set_self hl, if_pos (by rwa [wipe_length] at hl)]
      · rw [List.getElem?_eq_none (by simpa using hl), if_neg (by rwa [wipe_length] at hl)]
    · rw [List.getElem?_set_ne e]
      rcases List.mem_cons.mp h with q | q
      · exact absurd q.symm e
      · exact wipe_in q
theorem wipe_eq {σ σ2 : L2.St} {vs : List Nat} (h : ∀ j, j ∉ vs → σ2[j]? = σ[j]?) (l : σ2.length = σ.length) : L2.wipe σ2 vs = L2.wipe σ vs := by
  apply List.ext_getElem?
  intro j
  by_cases hj : j ∈ vs
  · rw [wipe_in hj, wipe_in hj, l]
  · rw [wipe_out hj, wipe_out hj, h j hj]
theorem RVal.wip {K : PySem.W.Frag} {H H' : Hp} {A A' : Own} {us vs : List Nat} {v : V} {r : R} (h : RVal K H A H' A' us v r) : RVal K H A H' (A'.wip vs) us v r := by
  rcases h with ⟨e, as, h1, h2, h3, h4⟩ | ⟨e, as, h1, h2⟩
  · exact .inl ⟨e, as, h1, h2, fun a ha => ⟨fun ⟨i, hi⟩ => (h3 a ha).1 ⟨i, Own.wip_sub hi⟩, (h3 a ha).2⟩, h4⟩
  · exact .inr ⟨e, as, h1, fun a ha i hi q => h2 a ha i hi (Own.wip_sub q)⟩
section
variable {K : PySem.W.Frag} {ca : Nat → Addr} {cf : CF} {S : List Nat}
theorem turn_lem {own tgt : List Nat} {single : Bool} {elt : E} {cnd : Es} {d : D} {ρw ρ' : PV.Env} {o : Option R} {σ : L2.St} {H : Hp} {A : Own} {v : V} {as : List Addr} {P : V → Hp → Prop} {Nn : Hp → Prop} (one : ∀ e r, cnd = .cons e r → r = .nil)
    (rep : Rep K H S (L2.wipe σ own) ρw A) (ow : ∀ i ∈ own, A i = []) (dp : DpR K H v d as) (ko : ∀ a ∈ as, ∀ j, j ∉ S → a ∉ A j) (tg : ∀ i ∈ tgt, i ∈ own) (hb : turnE cf elt cnd tgt single d ρw = .ok (o, ρ'))
    (hP : ∀ r y H4 A4, o = some r → Rep K H4 S (L2.wipe σ own) (PV.wipe ρ' own) A4 → (∀ i ∈ own, A4 i = []) → Stp H A H4 A4 → RVal K H A H4 A4 (vars elt ++ S) y r → ((eff elt || effs cnd) = false → A4 = A ∧ Same H H4) → P y H4)
    (hN : ∀ H3 A3, o = none → Rep K H3 S (L2.wipe σ own) (PV.wipe ρ' own) A3 → (∀ i ∈ own, A3 i = []) → Stp H A H3 A3 → ((eff elt || effs cnd) = false → A3 = A ∧ Same H H3) → Nn H3) :
    tTg K S .bor tgt single v (L2.wipe σ own) H fun σ2 H2 => L2.wipe σ2 own = L2.wipe σ own ∧ tTests K ca cf S cnd σ2 H2 fun b H3 => if b = true then tS K ca cf S WF elt σ2 H3 P else Nn H3 := by
  unfold turnE at hb
  obtain ⟨ρ1, e1, hb⟩ := bind_inv hb
  obtain ⟨⟨c, ρ2⟩, e2, hb⟩ := bind_inv hb
  dsimp only at hb
  refine ⟨ρw, A, d, as, ρ1, rep, dp, fun B hB _ => kok_bor fun a ha j hj q => ko a ha j hj (hB j a q), e1, fun σ2 r1 o1 l1 => ?_⟩
  have hA : A.wip tgt = A := Own.wip_self fun i hi => ow i (tg i hi)
  rw [hA] at r1
  have hw : L2.wipe σ2 own = L2.wipe σ own := by
    refine wipe_eq (fun j hj => ?_) (by rw [l1, wipe_length])
    rw [o1 j (fun q => hj (tg j q)), wipe_out hj]
  refine ⟨hw, ?_⟩
  have back : ∀ {H4 : Hp} {ρ4 : PV.Env} {A4 : Own}, Rep K H4 S σ2 ρ4 A4 → Rep K H4 S (L2.wipe σ own) (PV.wipe ρ4 own) (A4.wip own) := fun r => by
    refine r.wip own (by rw [l1]) (fun i hi => ?_) (fun i => wipe_get) (wipe_len _ _)
    rw [o1 i (fun q => hi (tg i q))]
  have same : ∀ {A4 : Own} {ef : Bool} {H4 : Hp}, (ef = false → A4 = A ∧ Same H H4) → ef = false → A4.wip own = A ∧ Same H H4 := fun h e => by
    obtain ⟨q, m⟩ := h e
    subst q
    exact ⟨Own.wip_self ow, m⟩
  -- the element
  have elem : ∀ {H3 : Hp} {A3 : Own}, Rep K H3 S σ2 ρ2 A3 → Stp H A H3 A3 → (effs cnd = false → A3 = A ∧ Same H H3) → if c = true then tS K ca cf S WF elt σ2 H3 P else Nn H3 := fun {H3 A3} r3 s3 ef3 => by
    cases c with
    | true =>
      simp only [if_true] at hb ⊢
      obtain ⟨⟨r, ρ3⟩, e3, hb⟩ := bind_inv hb
      cases hb
      refine ⟨ρ2, A3, r3, ?_⟩
      rw [e3]
      intro y H4 A4 r4 s4 rv4 ef4
      have st := Stp.trans rep s3 s4
      refine hP r y H4 (A4.wip own) rfl (back r4) (fun i hi => Own.wip_in hi) (st.wip own) (rv4.since rep s3).wip fun e => same (ef := (eff elt || effs cnd)) (fun e => ?_) e
      simp only [Bool.or_eq_false_iff] at e
      obtain ⟨q1, m1⟩ := ef3 e.2
      obtain ⟨q2, m2⟩ := ef4 e.1
      exact ⟨q2.trans q1, m1.trans m2⟩
    | false =>
      simp only [Bool.false_eq_true, if_false] at hb ⊢
      cases hb
      refine hN H3 (A3.wip own) rfl (back r3) (fun i hi => Own.wip_in hi) (s3.wip own) fun e => same (ef := (eff elt || effs cnd)) (fun e => ?_) e
      simp only [Bool.or_eq_false_iff] at e
      exact ef3 e.2
  cases cnd with
  | nil =>
    simp only [tests] at e2
    cases e2
    exact elem r1 (Stp.refl _ _) fun _ => ⟨rfl, Same.refl _⟩
  | cons e r =>
    have := one e r rfl
    subst this
    simp only [tests] at e2
    obtain ⟨⟨⟨ob, db⟩, ρx⟩, e4, e2⟩ := bind_inv e2
    obtain ⟨b, e5, e2⟩ := bind_inv e2
    have hd := bool_inv e5
    dsimp only at hd
    subst hd
    have hc : b = c ∧ ρx = ρ2 := by
      cases b
      · simp only [Bool.false_eq_true, if_false] at e2; cases e2; exact ⟨rfl, rfl⟩
      · simp only [if_true] at e2; cases e2; exact ⟨rfl, rfl⟩
    obtain ⟨hc1, hc2⟩ := hc
    subst hc1 hc2
    refine ⟨ρ1, A, r1, ?_⟩
    rw [e4]
    intro H3 A3 r3 s3 ef3
    refine elem r3 s3 fun e => ef3 ?_
    simp only [effs, Bool.or_eq_false_iff] at e
    exact e.1
end
end PV
set_option Elab.async false
set_option linter.all false
set_option maxRecDepth 100000
set_option maxHeartbeats 1000000
/-! PV19: freezing; lists in the making. -/
namespace PV
open PySem PySem.Spec PyProof.Rows L2
def Own.frz (A : Own) (vs : List Nat) (F : List Addr) : Own := ⟨(A.wip vs).sl, F ++ (vs.flatMap A.sl ++ A.fr)⟩
section
variable {K : PySem.W.Frag} {ca : Nat → Addr} {cf : CF} {S : List Nat} {W : WX} {σ : L2.St} {ρ ρ0 : PV.Env} {H H0 H1 : Hp} {A A0 : Own} {α : Type} {P : α → Prop}
theorem tIt_first {a : PV.It} {f : List D × PV.Env → Res α} {R1 : L2.It → Hp → Prop} (r0 : Rep K H0 S σ ρ0 A0) (s0 : Stp H0 A0 H A) (rep : Rep K H S σ ρ A) (h : RG K ca W σ H0 A0 P (evi cf a ρ >>= f))
    (hq : ∀ ds ρ1 J H1 A1 F, Rep K H1 S σ ρ1 A1 → Stp H A H1 A1 → ItFor K J H1 ds F → (∀ a' ∈ F, ∀ i, i ∉ varsi a ++ S → a' ∉ A1 i) → (∀ a' ∈ F, ∃ xs, H1 a' = some (.lst xs)) → (effi a = false → A1 = A ∧ Same H H1) → RG K ca W σ H0 A0 P (f (ds, ρ1)) → R1 J H1) : tIt K ca cf S W a σ H R1 := by
  refine ⟨ρ, A, rep, ?_⟩
  rcases e : evi cf a ρ with ⟨r, ρ1⟩ | ⟨c, k, p⟩ | _
  · rw [e] at h
    exact fun J H1 A1 F r1 s1 it av tr ef1 => hq r ρ1 J H1 A1 F r1 s1 it av tr ef1 h
  · rw [e] at h
    have h' : ExQ K ca H0 A0 (fun a b H' => W a b σ H') c k p := h
    exact ExQ.before r0 s0 h'
  · rw [e] at h
    exact h
theorem freeze_get (ρ : PV.Env) (j i : Nat) : PV.get (freeze ρ j) i = if i = j then frzC (PV.get ρ i) else PV.get ρ i := by
  unfold freeze
  split
  · rename_i d e
    by_cases hd : imm d = true
    · rw [if_pos hd]
      by_cases h : i = j
      · subst h
        rw [if_pos rfl, e]
        simp only [frzC]
        rw [if_pos hd]
      · rw [if_neg h]
    · rw [if_neg hd, get_set]
      by_cases h : i = j
      · subst h
        rw [if_pos rfl, if_pos ⟨rfl, get_lt e⟩, e]
        simp only [frzC]
        rw [if_neg hd]
      · rw [if_neg h, if_neg (fun q => h q.1.symm)]
  · rename_i h
    by_cases hj : i = j
    · subst hj
      rw [if_pos rfl]
      unfold frzC
      split
      · rename_i d e; exact absurd e (h d)
      · rfl
    · rw [if_neg hj]
theorem freeze_len (ρ : PV.Env) (j : Nat) : (freeze ρ j).length = ρ.length := by
  unfold freeze
  split
  · split
    · rfl
    · rw [List.length_set]
  · rfl
theorem freezes_len : ∀ (vs : List Nat) (ρ : PV.Env), (freezes ρ vs).length = ρ.length
  | [], _ => rfl
  | v :: vs, ρ => by
    show (freezes (freeze ρ v) vs).length = _
    rw [freezes_len vs, freeze_len]
theorem freezes_get (i : Nat) : ∀ (vs : List Nat) (ρ : PV.Env), PV.get (freezes ρ vs) i = if i ∈ vs then frzC (PV.get ρ i) else PV.get ρ i
  | [], ρ => by simp [freezes]
  | v :: vs, ρ => by
    show PV.get (freezes (freeze ρ v) vs) i = _
    rw [freezes_get i vs (freeze ρ v), freeze_get]
    by_cases h1 : i = v
    · subst h1
      rw [if_pos rfl]
      have : i ∈ i :: vs := List.mem_cons_self
      rw [if_pos this]
      cases e : PV.get ρ i with
      | none => simp [frzC]
      | some c =>
        cases c with
        | own d => by_cases hd : imm d = true <;> simp [frzC, hd]
        | _ => simp [frzC]
    · rw [if_neg h1]
      by_cases h2 : i ∈ vs
      · rw [if_pos h2, if_pos (List.mem_cons_of_mem _ h2)]
      · rw [if_neg h2, if_neg (by simp [h1, h2])]
theorem Rep.frz (rep : Rep K H S σ ρ A) (vs : List Nat) {F : List Addr} (hF : ∀ a ∈ F, (∃ xs, H a = some (.lst xs)) ∧ ∀ j, j ∉ vs → a ∉ A j) : Rep K H S σ (freezes ρ vs) (A.frz vs F) where
  cell := fun i c h => by
    rw [freezes_get] at h
    have old : ∀ {a : Addr}, a ∈ A.fr → a ∈ (A.frz vs F).fr := fun m => List.mem_append_right _ (List.mem_append_right _ m)
    by_cases hi : i ∈ vs
    · rw [if_pos hi] at h
      cases e : PV.get ρ i with
      | none => rw [e] at h; cases h
      | some c0 =>
        rw [e] at h
        obtain ⟨v, e1, ok⟩ := rep.cell i c0 e
        refine ⟨v, e1, ?_⟩
        cases c0 with
        | own d =>
          simp only [frzC] at h
          by_cases hd : imm d = true
          · rw [if_pos hd] at h
            cases h
            have eA : A i = [] := ok.1.imm hd
            have ok1 := ok.1
            rw [eA] at ok1
            show DpR K H v d ((A.wip vs) i) ∧ ((A.wip vs) i).Nodup
            rw [Own.wip_in hi]
            exact ⟨ok1, .nil⟩
          · rw [if_neg hd] at h
            cases h
            exact ⟨A i, ok.1, fun a ha => List.mem_append_right _ (List.mem_append_left _ (List.mem_flatMap.mpr ⟨i, hi, ha⟩))⟩
        | fz d =>
          cases h
          obtain ⟨as, k1, k2⟩ := ok
          exact ⟨as, k1, fun a ha => old (k2 a ha)⟩
        | bor d =>
          cases h
          obtain ⟨as, k1, k2⟩ := ok
          exact ⟨as, k1, fun a ha j hj q => k2 a ha j hj (Own.wip_sub q)⟩
        | scr l => cases h; exact ok
    · rw [if_neg hi] at h
      obtain ⟨v, e1, ok⟩ := rep.cell i c h
      refine ⟨v, e1, ?_⟩
      cases c with
      | own d =>
        show DpR K H v d ((A.wip vs) i) ∧ ((A.wip vs) i).Nodup
        rw [Own.wip_out hi]; exact ok
      | fz d =>
        obtain ⟨as, k1, k2⟩ := ok
        exact ⟨as, k1, fun a ha => old (k2 a ha)⟩
      | bor d =>
        obtain ⟨as, k1, k2⟩ := ok
        exact ⟨as, k1, fun a ha j hj q => k2 a ha j hj (Own.wip_sub q)⟩
      | scr l => exact ok
  disj := fun i j a h1 h2 => rep.disj i j a (Own.wip_sub h1) (Own.wip_sub h2)
  trk := fun i a h => rep.trk i a (Own.wip_sub h)
  fdis := fun a h ⟨i, hi⟩ => by
    have hi' : a ∈ (A.wip vs) i := hi
    by_cases hv : i ∈ vs
    · rw [Own.wip_in hv] at hi'; simp at hi'
    · rw [Own.wip_out hv] at hi'
      rcases List.mem_append.mp h with m | m
      · exact (hF a m).2 i hv hi'
      · rcases List.mem_append.mp m with m | m
        · obtain ⟨j, hj, ha⟩ := List.mem_flatMap.mp m
          have := rep.disj i j a hi' ha
          rw [this] at hv
          exact hv hj
        · exact rep.fdis a m ⟨i, hi'⟩
  ftrk := fun a h => by
    rcases List.mem_append.mp h with m | m
    · exact (hF a m).1
    · rcases List.mem_append.mp m with m | m
      · obtain ⟨j, hj, ha⟩ := List.mem_flatMap.mp m
        exact rep.trk j a ha
      · exact rep.ftrk a m
  emp := fun i hl h => by
    show (A.wip vs) i = []
    by_cases hi : i ∈ vs
    · exact Own.wip_in hi
    · rw [Own.wip_out hi]
      refine rep.emp i (by rwa [freezes_len] at hl) fun d e => h d ?_
      rw [freezes_get, if_neg hi]
      exact e
  len := by rw [freezes_len]; exact rep.len
theorem frz_bd {vs : List Nat} {F : List Addr} {a : Addr} (h : Bd (A.frz vs F) a) : ∃ i, i ∉ vs ∧ a ∈ A i := by
  obtain ⟨i, hi⟩ := h
  have hi' : a ∈ (A.wip vs) i := hi
  by_cases hv : i ∈ vs
  · rw [Own.wip_in hv] at hi'; simp at hi'
  · rw [Own.wip_out hv] at hi'; exact ⟨i, hv, hi'⟩
theorem Stp.frz (vs : List Nat) : Stp H A H (A.frz vs []) := by
  refine ⟨fun a h => ?_, fun a o h _ => h, fun a h => h, fun a h => List.mem_append_right _ (List.mem_append_right _ h), fun a h => ?_⟩
  · obtain ⟨i, _, m⟩ := frz_bd h
    exact .inl ⟨i, m⟩
  · rcases List.mem_append.mp h with m | m
    · simp at m
    · rcases List.mem_append.mp m with m | m
      · obtain ⟨j, _, ha⟩ := List.mem_flatMap.mp m
        exact .inr (.inl ⟨j, ha⟩)
      · exact .inl m
/-- a list in the making, as a name's that nobody has -/
theorem Rep.pseudo {p : Nat} {D : Addr} {acc : List V} (b : Rep K H1 S σ ρ A) (sm : Same H1 H) (h1 : H1 D = none) (h : H D = some (.lst acc)) (hp : ρ.length ≤ p) : Rep K H S σ ρ (A.put p (D :: A p)) := by
  have ne : ∀ {a : Addr}, (∃ xs, H1 a = some (.lst xs)) → a ≠ D := fun ⟨xs, e⟩ z => by rw [z, h1] at e; cases e
  have b' := b.new sm
  refine ⟨fun i c e => ?_, fun i j a q1 q2 => ?_, fun i a q => ?_, fun a q ⟨i, hi⟩ => ?_, b'.ftrk, fun i hl q => ?_, b.len⟩
  · obtain ⟨v, e1, ok⟩ := b.cell i c e
    have hip : i ≠ p := fun z => by have := get_lt e; omega
    refine ⟨v, e1, ?_⟩
    cases c with
    | own d =>
      show DpR K H v d ((A.put p (D :: A p)) i) ∧ _
      rw [Own.put_ne _ _ hip]
      exact ⟨ok.1.keep (Fix.of sm) fun a _ xs h => sm a _ h, ok.2⟩
    | fz d =>
      obtain ⟨as, k1, k2⟩ := ok
      exact ⟨as, k1.keep (Fix.of sm) (fun a _ xs h => sm a _ h), k2⟩
    | bor d =>
      obtain ⟨as, k1, k2⟩ := ok
      refine ⟨as, k1.keep (Fix.of sm) (fun a _ xs h => sm a _ h), fun a ha j hj q => ?_⟩
      by_cases hjp : j = p
      · rw [hjp, Own.put_same] at q
        rcases List.mem_cons.mp q with q | q
        · exact ne (k1.trk a ha) q
        · exact k2 a ha p (hjp ▸ hj) q
      · rw [Own.put_ne _ _ hjp] at q
        exact k2 a ha j hj q
    | scr l =>
      obtain ⟨a, k1, k2⟩ := ok
      exact ⟨a, k1, (Fix.of sm).extL k2⟩
  · by_cases hi : i = p
    · by_cases hj : j = p
      · rw [hi, hj]
      · rw [hi, Own.put_same] at q1
        rw [Own.put_ne _ _ hj] at q2
        rcases List.mem_cons.mp q1 with q1 | q1
        · exact absurd q1 (ne (b.trk j a q2))
        · rw [hi]; exact b.disj p j a q1 q2
    · by_cases hj : j = p
      · rw [hj, Own.put_same] at q2
        rw [Own.put_ne _ _ hi] at q1
        rcases List.mem_cons.mp q2 with q2 | q2
        · exact absurd q2 (ne (b.trk i a q1))
        · rw [hj]; exact b.disj i p a q1 q2
      · rw [Own.put_ne _ _ hi] at q1
        rw [Own.put_ne _ _ hj] at q2
        exact b.disj i j a q1 q2
  · by_cases hi : i = p
    · rw [hi, Own.put_same] at q
      rcases List.mem_cons.mp q with q | q
      · rw [q]; exact ⟨_, h⟩
      · exact b'.trk p a q
    · rw [Own.put_ne _ _ hi] at q
      exact b'.trk i a q
  · by_cases hip : i = p
    · rw [hip, Own.put_same] at hi
      rcases List.mem_cons.mp hi with hi | hi
      · exact ne (b.ftrk a q) hi
      · exact b.fdis a q ⟨p, hi⟩
    · rw [Own.put_ne _ _ hip] at hi
      exact b.fdis a q ⟨i, hi⟩
  · rw [Own.put_ne _ _ (show i ≠ p by omega)]
    exact b.emp i hl q
/-- a list that is nobody's is changed -/
theorem Rep.updN {D : Addr} {xs ys : List V} (rep : Rep K H S σ ρ A) (nb : noBor ρ = true) (hD : H D = some (.lst xs)) (n1 : ¬ Bd A D) (n2 : D ∉ A.fr) : Rep K (upd H D (.lst ys)) S σ ρ A := by
  have keep : ∀ {a : Addr} {zs : List V}, H a = some (.lst zs) → a ≠ D → upd H D (.lst ys) a = some (.lst zs) := fun e ne => by rw [upd_ne ne]; exact e
  have lst : ∀ {a : Addr}, (∃ zs, H a = some (.lst zs)) → ∃ zs, upd H D (.lst ys) a = some (.lst zs) := fun {a} ⟨zs, e⟩ => by
    by_cases h : a = D
    · rw [h]; exact ⟨ys, upd_same⟩
    · exact ⟨zs, keep e h⟩
  refine ⟨fun i c e => ?_, rep.disj, fun i a q => lst (rep.trk i a q), rep.fdis, fun a q => lst (rep.ftrk a q), rep.emp, rep.len⟩
  obtain ⟨v, e1, ok⟩ := rep.cell i c e
  refine ⟨v, e1, ?_⟩
  cases c with
  | own d => exact ⟨ok.1.keep (fix_upd hD) fun a ha xs q => keep q fun z => n1 ⟨i, z ▸ ha⟩, ok.2⟩
  | fz d =>
    obtain ⟨as, k1, k2⟩ := ok
    exact ⟨as, k1.keep (fix_upd hD) fun a ha xs q => keep q fun z => n2 (z ▸ k2 a ha), k2⟩
  | bor d => exact absurd (noBor_get nb e) (fun z => Bool.noConfusion z)
  | scr l =>
    obtain ⟨a, k1, k2⟩ := ok
    exact ⟨a, k1, (fix_upd hD).extL k2⟩
theorem Stp.updN {D : Addr} {ys : List V} (s : Stp H0 A0 H A) (h0 : H0 D = none) : Stp H0 A0 (upd H D (.lst ys)) A :=
  ⟨s.own, fun a o e n => by
    rw [upd_ne (fun z => by rw [z, h0] at e; cases e)]
    exact s.keep a o e n, fun a e => by
    by_cases h : a = D
    · rw [h]; exact h0
    · rw [upd_ne h] at e; exact s.the a e, s.fr, s.fro⟩
end
end PV
set_option Elab.async false
set_option linter.all false
set_option maxRecDepth 100000
set_option maxHeartbeats 1000000
/-! PV20: comprehensions. -/
namespace PV
open PySem PySem.Spec PyProof.Rows L2
theorem getD_drop {α : Type} {l : List α} {i : Nat} (h : i < l.length) : l.drop i = l[i] :: l.drop (i + 1) := by
  rw [List.drop_eq_getElem_cons h]
section
variable {K : PySem.W.Frag}
theorem DpRs.upd {H : Hp} {L : Addr} {xs ys : List V} {v : List V} {d : List D} {as : List Addr} (r : DpRs K H v d as) (hD : H L = some (.lst xs)) (n : ∀ a ∈ as, a ≠ L) : DpRs K (upd H L (.lst ys)) v d as :=
  r.keep (fix_upd hD) fun a ha zs e => by rw [upd_ne (n a ha)]; exact e
theorem DpR.upd {H : Hp} {L : Addr} {xs ys : List V} {v : V} {d : D} {as : List Addr} (r : DpR K H v d as) (hD : H L = some (.lst xs)) (n : ∀ a ∈ as, a ≠ L) : DpR K (upd H L (.lst ys)) v d as :=
  r.keep (fix_upd hD) fun a ha zs e => by rw [upd_ne (n a ha)]; exact e
/-- the items that a pure comprehension has collected -/
structure AccP (K : PySem.W.Frag) (H1 H : Hp) (A1 : Own) (vs : List Nat) (L : Addr) (acc : List V) (lacc : List D) (kacc : Bool) (as : List Addr) : Prop where
  dp : DpRs K H acc lacc as
  ne : ∀ a ∈ as, a ≠ L
  av : ∀ a ∈ as, ∀ i, i ∉ vs → a ∉ A1 i
  own : kacc = true → as.Nodup ∧ (∀ a ∈ as, ¬ Bd A1 a ∧ a ∉ A1.fr) ∧ ∀ a ∈ as, H1 a = none
end
section
variable {J : Info} {fs : List Fn} {ca : Nat → Addr} {k : Nat} {N : List Str} {sc : Scope} {W : WX} {X : Cx} {S : List Nat}
theorem own_emp {K : PySem.W.Frag} {H : Hp} {σ : L2.St} {ρ : PV.Env} {A : Own} {own : List Nat} (rep : Rep K H S σ ρ A) (h : own.all (fun i => immAt ρ i && decide (i < ρ.length)) = true) : ∀ i ∈ own, A i = [] := fun i hi => by
  have := List.all_eq_true.mp h i hi
  simp only [Bool.and_eq_true, decide_eq_true_eq] at this
  obtain ⟨h1, h2⟩ := this
  by_cases hd : ∃ d, PV.get ρ i = some (.own d)
  · obtain ⟨d, e⟩ := hd
    obtain ⟨v, _, ok⟩ := rep.cell i _ e
    have hi : imm d = true := by unfold immAt at h1; rw [e] at h1; exact h1
    exact ok.1.imm hi
  · exact rep.emp i h2 fun d e => hd ⟨d, e⟩
theorem fresh_slot (own vs : List Nat) (n : Nat) : ∃ p, n ≤ p ∧ p ∉ vs ∧ p ∉ own := by
  have big : ∀ l : List Nat, ∃ m, ∀ x ∈ l, x < m := fun l => by
    induction l with
    | nil => exact ⟨0, fun x h => by simp at h⟩
    | cons a r ih =>
      obtain ⟨m, hm⟩ := ih
      refine ⟨max m (a + 1), fun x hx => ?_⟩
      rcases List.mem_cons.mp hx with e | hx
      · omega
      · have := hm x hx; omega
  obtain ⟨m1, h1⟩ := big own
  obtain ⟨m2, h2⟩ := big vs
  exact ⟨n + m1 + m2, by omega, fun h => by have := h2 _ h; omega, fun h => by have := h1 _ h; omega⟩
theorem w_compP {elt : E} {tgt : List Nat} {single : Bool} {it : PV.It} {cnd : Es} {own : List Nat} {σ : L2.St} {H : Hp} {Q : VK} {K : PySem.W.Frag} {cf : CF} (one : ∀ e r, cnd = .cons e r → r = .nil) (tg : ∀ i ∈ tgt, i ∈ own) (he : (eff elt || effs cnd) = false)
    (h : tS K ca cf S W (.comp elt tgt single it cnd own) σ H Q) : tLc (tIt K ca cf S W it) (tTg K (varsi it ++ S) .bor tgt single) (tTests K ca cf (varsi it ++ S) cnd) (tS K ca cf (varsi it ++ S) WF elt) own σ H Q := by
  obtain ⟨ρ, A, rep, q⟩ := h
  rw [rn_rg] at q
  simp only [ev] at q
  refine tIt_first rep (Stp.refl _ _) rep q fun ds ρ1 JJ H1 A1 F r1 s1 it1 av1 tr1 ef1 q => ?_
  dsimp only at q
  obtain ⟨hown, q⟩ := RG.ite q
  rw [if_neg (by rw [he]; decide)] at q
  have hemp := own_emp r1 hown
  have q : RG K ca W σ H A (PR K S σ (vars (.comp elt tgt single it cnd own)) (eff (.comp elt tgt single it cnd own)) H A Q) (noExc (compP (turnE cf elt cnd tgt single) (PV.wipe ρ1 own) ds) >>= fun z => if lenOk z.2.length = true then .ok ((z.1, .list z.2), ρ1) else .stuck) := q
  obtain ⟨⟨kk, l⟩, e1, q⟩ := RG.pure (ne_no _) q
  have e1 := noExc_inv e1
  obtain ⟨hlen, q⟩ := RG.ite q
  intro D hD
  -- the block's state
  have rb : Rep K H1 (varsi it ++ S) (L2.wipe σ own) (PV.wipe ρ1 own) A1 := by
    have := (r1.more (S' := varsi it ++ S) fun i hi => List.mem_append_right _ hi).wip (σ2 := L2.wipe σ own) (ρ2 := PV.wipe ρ1 own) own (by rw [wipe_length]) (fun i hi => wipe_out hi) (fun i => wipe_get) (wipe_len _ _)
    rwa [Own.wip_self hemp] at this
  obtain ⟨p, hp1, hp2, hp3⟩ := fresh_slot own (vars elt ++ (varsi it ++ S)) (PV.wipe ρ1 own).length
  have pS : p ∉ varsi it ++ S := fun m => hp2 (List.mem_append_right _ m)
  have trkD : ∀ {a : Addr}, (∃ xs, H1 a = some (.lst xs)) → a ≠ D := fun ⟨xs, e⟩ z => by rw [z, hD] at e; cases e
  have ow2 : ∀ i ∈ own, (A1.put p (D :: A1 p)) i = [] := fun i hi => by rw [Own.put_ne _ _ (fun z => hp3 (by rw [← z]; exact hi))]; exact hemp i hi
  have newD := new_out r1 hD
  let Pv : Nat → Hp → Prop := fun i H => i ≤ ds.length ∧ Same H1 H ∧ ∃ acc lacc kacc as k' l', H D = some (.lst acc) ∧ compP (turnE cf elt cnd tgt single) (PV.wipe ρ1 own) (ds.drop i) = .ok (k', l') ∧ kk = (kacc && k') ∧ l = lacc ++ l' ∧ AccP K H1 H A1 (vars (.comp elt tgt single it cnd own) ++ S) D acc lacc kacc as
  refine ⟨fun i m H => m = ds.length - i ∧ Pv i H, ⟨ds.length, by simp, Nat.zero_le _, same_upd hD, [], [], true, [], kk, l, upd_same, by rw [List.drop_zero]; exact e1, by simp, by simp, .nil, fun a h => by simp at h, fun a h => by simp at h, fun _ => ⟨.nil, fun a h => by simp at h, fun a h => by simp at h⟩⟩, ?_⟩
  rintro i m H2 ⟨rfl, hi, sm, acc, lacc, kacc, as, k', l', hHD, ec, ek, el, ac⟩
  have itc := it1 H2 (Fix.of sm) (fun a _ xs e => sm a _ e) i
  by_cases hlt : i < ds.length
  · refine .inr ?_
    have hd : ds[i]? = some ds[i] := List.getElem?_eq_getElem hlt
    obtain ⟨go, yl⟩ := itc.2 _ hd
    refine ⟨go, Pv (i + 1), fun H' p' => ⟨ds.length - (i + 1), by omega, rfl, p'⟩, fun x H3 y => ?_⟩
    obtain ⟨sm3, bs, dx, sub⟩ := yl x H3 y
    have sm13 : Same H1 H3 := sm.trans sm3
    rw [getD_drop hlt] at ec
    simp only [compP] at ec
    obtain ⟨⟨o, ρ'⟩, eb, ec⟩ := bind_inv ec
    obtain ⟨⟨k2, l2⟩, ec2, ec⟩ := bind_inv ec
    dsimp only at ec
    have hHD3 : H3 D = some (.lst acc) := sm3 D _ hHD
    have rt : Rep K H3 (varsi it ++ S) (L2.wipe σ own) (PV.wipe ρ1 own) (A1.put p (D :: A1 p)) := rb.pseudo sm13 hD hHD3 hp1
    have ac3 : DpRs K H3 acc lacc as := ac.dp.keep (Fix.of sm3) fun a _ xs e => sm3 a _ e
    have ko : ∀ a ∈ bs, ∀ j, j ∉ varsi it ++ S → a ∉ (A1.put p (D :: A1 p)) j := fun a ha j hj m => by
      by_cases hjp : j = p
      · rw [hjp, Own.put_same] at m
        rcases List.mem_cons.mp m with m | m
        · exact trkD (tr1 a (sub a ha)) m
        · exact av1 a (sub a ha) p pS m
      · rw [Own.put_ne _ _ hjp] at m
        exact av1 a (sub a ha) j hj m
    refine turn_lem one rt ow2 dx ko tg eb (fun r y H4 A4 eo r4 _ s4 rv4 ef4 => ?_) (fun H4 A4 eo r4 _ s4 ef4 => ?_)
    · obtain ⟨eA, sm4⟩ := ef4 he
      subst eA
      subst eo
      cases ec
      have hHD4 : H4 D = some (.lst acc) := sm4 D _ hHD3
      have ac4 : DpRs K H4 acc lacc as := ac3.keep (Fix.of sm4) fun a _ xs e => sm4 a _ e
      -- the new item
      have item : ∃ cs, DpR K H4 y r.2 cs ∧ (∀ a ∈ cs, a ≠ D) ∧ (∀ a ∈ cs, ∀ i, i ∉ vars (.comp elt tgt single it cnd own) ++ S → a ∉ A1 i) ∧ ((r.1 || imm r.2) = true → cs.Nodup ∧ (∀ a ∈ cs, ¬ Bd A1 a ∧ a ∉ A1.fr) ∧ (∀ a ∈ cs, H1 a = none) ∧ ∀ a ∈ cs, H3 a = none) := by
        rcases rv4 with ⟨_, cs, d1, d2, d3, d4⟩ | ⟨er, cs, d1, d2⟩
        · have new3 : ∀ a ∈ cs, H3 a = none := fun a ha => (d4 a ha).resolve_left (d3 a ha).1
          have new1 : ∀ a ∈ cs, H1 a = none := fun a ha => by
            cases e : H1 a with
            | none => rfl
            | some o => have := sm13 a o e; rw [new3 a ha] at this; cases this
          refine ⟨cs, d1, fun a ha z => ?_, fun a ha i _ q => ?_, fun _ => ⟨d2, fun a ha => new_out r1 (new1 a ha), new1, new3⟩⟩
          · have := new3 a ha
            rw [z, hHD3] at this
            cases this
          · exact (new_out r1 (new1 a ha)).1 ⟨i, q⟩
        · refine ⟨cs, d1, fun a ha z => ?_, fun a ha i hi q => ?_, fun e => ?_⟩
          · have := d2 a ha p hp2
            rw [Own.put_same, z] at this
            simp at this
          · by_cases hip : i = p
            · have := d2 a ha p hp2
              rw [Own.put_same] at this
              exact this (List.mem_cons_of_mem _ (hip ▸ q))
            · refine d2 a ha i (fun m => hi ?_) (by rw [Own.put_ne _ _ hip]; exact q)
              simp only [vars, List.mem_append] at m ⊢
              rcases m with m | m | m
              · exact .inl (.inl (.inl m))
              · exact .inl (.inl (.inr m))
              · exact .inr m
          · rw [er, Bool.false_or] at e
            have := d1.imm e
            subst this
            exact ⟨.nil, fun a h => by simp at h, fun a h => by simp at h, fun a h => by simp at h⟩
      obtain ⟨cs, d1, d2, d3, d4⟩ := item
      have ll : acc.length = lacc.length := ac.dp.length
      refine ⟨acc, hHD4, ?_, hlt, ?_, acc ++ [y], lacc ++ [r.2], kacc && (r.1 || imm r.2), as ++ cs, k2, l2, upd_same, ec2, ?_, ?_, ?_⟩
      · simp only [lenOk, decide_eq_true_eq] at hlen
        rw [el] at hlen
        simp only [List.length_append, List.length_cons] at hlen
        omega
      · intro a o e
        have hne : a ≠ D := fun z => by rw [z, hD] at e; cases e
        rw [upd_ne hne]
        exact sm4 a o (sm13 a o e)
      · rw [ek]; cases kacc <;> cases r.1 <;> cases imm r.2 <;> cases k2 <;> rfl
      · rw [el]; simp
      · refine ⟨(ac4.app (.one d1)).upd hHD4 fun a ha => (List.mem_append.mp ha).elim (ac.ne a) (d2 a), fun a ha => (List.mem_append.mp ha).elim (ac.ne a) (d2 a), fun a ha => (List.mem_append.mp ha).elim (ac.av a) (d3 a), fun e => ?_⟩
        simp only [Bool.and_eq_true] at e
        obtain ⟨a1, a2, a3⟩ := ac.own e.1
        obtain ⟨b1, b2, b3, b4⟩ := d4 e.2
        refine ⟨List.nodup_append.mpr ⟨a1, b1, fun x hx y hy z => ?_⟩, fun a ha => (List.mem_append.mp ha).elim (a2 a) (b2 a), fun a ha => (List.mem_append.mp ha).elim (a3 a) (b3 a)⟩
        subst z
        obtain ⟨xs, e⟩ := ac3.trk x hx
        rw [b4 x hy] at e
        cases e
    · obtain ⟨eA, sm4⟩ := ef4 he
      subst eo
      cases ec
      refine ⟨hlt, sm13.trans sm4, acc, lacc, kacc, as, _, _, sm4 D _ hHD3, ec2, ek, el, ac3.keep (Fix.of sm4) (fun a _ xs e => sm4 a _ e), ac.ne, ac.av, ac.own⟩
  · have hle : i = ds.length := by omega
    subst hle
    refine .inl ⟨itc.1 (Nat.le_refl _), ?_⟩
    rw [List.drop_length] at ec
    simp only [compP] at ec
    cases ec
    rw [Bool.and_true] at ek
    rw [List.append_nil] at el
    subst ek el
    refine q _ H2 A1 (r1.new sm) (s1.then_new rep sm) ?_ fun e => ?_
    · cases hk : kk with
      | true =>
        obtain ⟨a1, a2, a3⟩ := ac.own hk
        refine .inl ⟨rfl, D :: as, .lst hHD ac.dp, List.nodup_cons.mpr ⟨fun m => ac.ne D m rfl, a1⟩, fun a ha => ?_, fun a ha => ?_⟩
        · rcases List.mem_cons.mp ha with z | ha
          · rw [z]; exact newD
          · exact a2 a ha
        · rcases List.mem_cons.mp ha with z | ha
          · rw [z]; exact .inr (s1.there rep hD)
          · exact .inr (s1.there rep (a3 a ha))
      | false =>
        refine .inr ⟨rfl, D :: as, .lst hHD ac.dp, fun a ha i hi => ?_⟩
        rcases List.mem_cons.mp ha with z | ha
        · rw [z]; exact fun m => newD.1 ⟨i, m⟩
        · exact ac.av a ha i hi
    · simp only [eff, Bool.or_eq_false_iff] at e
      obtain ⟨q1, m1⟩ := ef1 e.1.2
      exact ⟨q1, m1.trans sm⟩
theorem restore_get (ρ0 : PV.Env) (i : Nat) : ∀ (vs : List Nat) (ρ : PV.Env), ρ.length = ρ0.length → PV.get (restore ρ0 ρ vs) i = if i ∈ vs then PV.get ρ0 i else PV.get ρ i
  | [], ρ, _ => by simp [restore]
  | v :: vs, ρ, hl => by
    show PV.get ((restore ρ0 ρ vs).set v (PV.get ρ0 v)) i = _
    have len : ∀ us : List Nat, (restore ρ0 ρ us).length = ρ.length := fun us => by
      induction us with
      | nil => rfl
      | cons u us ih => show ((restore ρ0 ρ us).set u (PV.get ρ0 u)).length = _; rw [List.length_set, ih]
    rw [get_set, restore_get ρ0 i vs ρ hl]
    by_cases h : v = i
    · subst h
      rw [if_pos (show v ∈ v :: vs from List.mem_cons_self)]
      by_cases hv : v < ρ0.length
      · rw [if_pos ⟨rfl, by rw [len, hl]; exact hv⟩]
      · rw [if_neg (fun q => hv (by rw [len, hl] at q; exact q.2))]
        have e0 : PV.get ρ0 v = none := by
          cases e : PV.get ρ0 v with
          | none => rfl
          | some c => exact absurd (get_lt e) hv
        have e1 : PV.get ρ v = none := by
          cases e : PV.get ρ v with
          | none => rfl
          | some c => exact absurd (get_lt e) (by rw [hl]; exact hv)
        rw [e0, e1]
        split <;> rfl
    · rw [if_neg (fun q => h q.1)]
      by_cases hv : i ∈ vs
      · rw [if_pos hv, if_pos (List.mem_cons_of_mem _ hv)]
      · rw [if_neg hv, if_neg (by simp [Ne.symm h, hv])]
theorem restore_len (ρ0 : PV.Env) : ∀ (vs : List Nat) (ρ : PV.Env), (restore ρ0 ρ vs).length = ρ.length
  | [], _ => rfl
  | v :: vs, ρ => by show ((restore ρ0 ρ vs).set v (PV.get ρ0 v)).length = _; rw [List.length_set, restore_len ρ0 vs]
/-- names get back what they held, which had no lists -/
theorem Rep.restore {K : PySem.W.Frag} {H H1 : Hp} {σ : L2.St} {ρ1 ρ3 : PV.Env} {A A1 : Own} {own : List Nat} (r1 : Rep K H1 S σ ρ1 A1) (fx : Fix H1 H) (hown : own.all (fun i => immAt ρ1 i && decide (i < ρ1.length)) = true) (nb : noBor ρ1 = true) (hl : ρ3.length = ρ1.length)
    (rep : Rep K H S (L2.wipe σ own) ρ3 A) (ow : ∀ i ∈ own, A i = []) : Rep K H S σ (PV.restore ρ1 ρ3 own) A where
  cell := fun i c h => by
    rw [restore_get ρ1 i own ρ3 hl] at h
    by_cases hi : i ∈ own
    · rw [if_pos hi] at h
      obtain ⟨v, e, ok⟩ := r1.cell i c h
      have him : imm c.d = true := by
        have := List.all_eq_true.mp hown i hi
        simp only [Bool.and_eq_true] at this
        have := this.1
        unfold immAt at this
        rw [h] at this
        exact this
      refine ⟨v, e, ?_⟩
      cases c with
      | own d =>
        have hn : A1 i = [] := ok.1.imm him
        have := ok.1
        rw [hn] at this
        show DpR K H v d (A i) ∧ (A i).Nodup
        rw [ow i hi]
        exact ⟨this.keep fx fun a ha => by simp at ha, .nil⟩
      | fz d =>
        obtain ⟨as, k1, k2⟩ := ok
        have := k1.imm him
        subst this
        exact ⟨[], k1.keep fx (fun a ha => by simp at ha), fun a ha => by simp at ha⟩
      | bor d => exact absurd (noBor_get nb h) (fun z => Bool.noConfusion z)
      | scr l =>
        obtain ⟨a, k1, k2⟩ := ok
        exact ⟨a, k1, fx.extL k2⟩
    · rw [if_neg hi] at h
      obtain ⟨v, e, ok⟩ := rep.cell i c h
      exact ⟨v, by rw [← wipe_out hi]; exact e, ok⟩
  disj := rep.disj
  trk := rep.trk
  fdis := rep.fdis
  ftrk := rep.ftrk
  emp := fun i hil h => by
    by_cases hi : i ∈ own
    · exact ow i hi
    · refine rep.emp i (by rwa [restore_len] at hil) fun d e => h d ?_
      rw [restore_get ρ1 i own ρ3 hl, if_neg hi]
      exact e
  len := by rw [restore_len, hl]; exact r1.len
end
end PV
set_option Elab.async false
set_option linter.all false
set_option maxRecDepth 100000
set_option maxHeartbeats 1000000
/-! PV21: comprehensions that change things. -/
namespace PV
open PySem PySem.Spec PyProof.Rows L2
theorem noBor_of {ρ : PV.Env} (h : ∀ i c, PV.get ρ i = some c → c.noBor = true) : noBor ρ = true := by
  apply List.all_eq_true.mpr
  intro x hx
  cases x with
  | none => rfl
  | some c =>
    obtain ⟨i, hi⟩ := List.mem_iff_getElem?.mp hx
    exact h i c (by unfold PV.get; rw [hi])
section
variable {K : PySem.W.Frag} {ca : Nat → Addr} {cf : CF} {W : WX}
theorem w_compE {elt : E} {tgt : List Nat} {single : Bool} {it : PV.It} {cnd : Es} {own : List Nat} {σ : L2.St} {H : Hp} {Q : VK} (one : ∀ e r, cnd = .cons e r → r = .nil) (tg : ∀ i ∈ tgt, i ∈ own) (he : (eff elt || effs cnd) = true)
    (h : tS K ca cf [] W (.comp elt tgt single it cnd own) σ H Q) : tLc (tIt K ca cf [] W it) (tTg K [] .bor tgt single) (tTests K ca cf [] cnd) (tS K ca cf [] WF elt) own σ H Q := by
  obtain ⟨ρ, A, rep, q⟩ := h
  rw [rn_rg] at q
  simp only [ev] at q
  refine tIt_first rep (Stp.refl _ _) rep q fun ds ρ1 JJ H1 A1 F r1 s1 it1 av1 tr1 ef1 q => ?_
  dsimp only at q
  obtain ⟨hown, q⟩ := RG.ite q
  rw [if_pos he] at q
  obtain ⟨himm, q⟩ := RG.ite q
  simp only [Bool.and_eq_true] at himm
  obtain ⟨himm, nb1⟩ := himm
  have hemp := own_emp r1 hown
  have q : RG K ca W σ H A (PR K [] σ (vars (.comp elt tgt single it cnd own)) (eff (.comp elt tgt single it cnd own)) H A Q) (noExc (compL (turnE cf elt cnd tgt single) own ds (PV.wipe (freezes ρ1 (varsi it)) own)) >>= fun z => if (lenOk z.1.length && decide (z.2.length = ρ1.length)) = true then .ok ((true, .list z.1), PV.restore ρ1 z.2 own) else .stuck) := q
  obtain ⟨⟨l, ρ3⟩, e1, q⟩ := RG.pure (ne_no _) q
  have e1 := noExc_inv e1
  obtain ⟨hlen, q⟩ := RG.ite q
  simp only [Bool.and_eq_true, decide_eq_true_eq] at hlen
  obtain ⟨hlen, hl3⟩ := hlen
  intro D hD
  -- the block's state
  generalize hA2 : (A1.frz (varsi it) []).wip own = A2
  have rf := r1.frz (varsi it) (F := []) (fun a h => by simp at h)
  have rb : Rep K H1 [] (L2.wipe σ own) (PV.wipe (freezes ρ1 (varsi it)) own) A2 := by
    rw [← hA2]
    exact rf.wip own (by rw [wipe_length]) (fun i hi => wipe_out hi) (fun i => wipe_get) (wipe_len _ _)
  have s12 : Stp H1 A1 H1 A2 := by
    rw [← hA2]
    exact (Stp.frz (varsi it)).wip own
  have ow0 : ∀ i ∈ own, A2 i = [] := fun i hi => by rw [← hA2]; exact Own.wip_in hi
  have nb0 : noBor (PV.wipe (freezes ρ1 (varsi it)) own) = true := noBor_of fun i c e => by
    rw [wipe_get] at e
    split at e
    · cases e
    · rw [freezes_get] at e
      split at e
      · unfold frzC at e
        split at e
        · split at e <;> (cases e; rfl)
        · exact noBor_get nb1 e
      · exact noBor_get nb1 e
  have Fbd : ∀ a ∈ F, ¬ Bd A2 a := fun a ha ⟨i, hi⟩ => by
    rw [← hA2] at hi
    obtain ⟨j, hj, m⟩ := frz_bd ⟨i, Own.wip_sub hi⟩
    exact av1 a ha j (by rw [List.append_nil]; exact hj) m
  have newD := new_out rb hD
  let Pv : Nat → Hp → Prop := fun i H => i ≤ ds.length ∧ ∃ Ai ρi acc lacc as l', H D = some (.lst acc) ∧ Rep K H [] (L2.wipe σ own) ρi Ai ∧ (∀ j ∈ own, Ai j = []) ∧ noBor ρi = true ∧ Stp H1 A2 H Ai ∧ (¬ Bd Ai D ∧ D ∉ Ai.fr) ∧
    compL (turnE cf elt cnd tgt single) own (ds.drop i) ρi = .ok (l', ρ3) ∧ l = lacc ++ l' ∧ DpRs K H acc lacc as ∧ as.Nodup ∧ (∀ a ∈ as, a ≠ D) ∧ (∀ a ∈ as, ¬ Bd Ai a ∧ a ∉ Ai.fr) ∧ ∀ a ∈ as, Bd A2 a ∨ H1 a = none
  have sm0 : Same H1 (upd H1 D (.lst [])) := same_upd hD
  refine ⟨fun i m H => m = ds.length - i ∧ Pv i H, ⟨ds.length, by simp, Nat.zero_le _, A2, _, [], [], [], l, upd_same, rb.new sm0, ow0, nb0, Stp.new sm0, newD, by rw [List.drop_zero]; exact e1, rfl, .nil, .nil, fun a h => by simp at h, fun a h => by simp at h, fun a h => by simp at h⟩, ?_⟩
  rintro i m H2 ⟨rfl, hi, Ai, ρi, acc, lacc, as, l', hHD, ri, owi, nbi, si, nD, ec, el, ad, an, ane, aout, aold⟩
  have itc := it1 H2 (si.fix rb) (fun a ha xs e => si.keep a _ e (Fbd a ha)) i
  by_cases hlt : i < ds.length
  · refine .inr ?_
    have hd : ds[i]? = some ds[i] := List.getElem?_eq_getElem hlt
    have hdi : imm ds[i] = true := List.all_eq_true.mp himm _ (List.getElem_mem hlt)
    obtain ⟨go, yl⟩ := itc.2 _ hd
    refine ⟨go, Pv (i + 1), fun H' p' => ⟨ds.length - (i + 1), by omega, rfl, p'⟩, fun x H3 y => ?_⟩
    obtain ⟨sm3, bs, dx, sub⟩ := yl x H3 y
    have hbs := dx.imm hdi
    subst hbs
    rw [getD_drop hlt] at ec
    simp only [compL] at ec
    obtain ⟨⟨o, ρ'⟩, eb, ec⟩ := bind_inv ec
    dsimp only at ec
    split at ec
    · rename_i nb2
      obtain ⟨⟨l2, ρ3'⟩, ec2, ec⟩ := bind_inv ec
      dsimp only at ec
      have hHD3 : H3 D = some (.lst acc) := sm3 D _ hHD
      have rt := ri.new sm3
      have si3 : Stp H1 A2 H3 Ai := Stp.trans rb si (Stp.new sm3)
      have ad3 : DpRs K H3 acc lacc as := ad.keep (Fix.of sm3) fun a _ xs e => sm3 a _ e
      have keepD : ∀ {H4 : Hp} {A4 : Own}, Stp H3 Ai H4 A4 → H4 D = some (.lst acc) ∧ (¬ Bd A4 D ∧ D ∉ A4.fr) := fun s4 => by
        refine ⟨s4.keep D _ hHD3 nD.1, fun b => ?_, fun b => ?_⟩
        · rcases s4.own D b with z | z
          · exact nD.1 z
          · rw [hHD3] at z; cases z
        · rcases s4.fro D b with z | z | z
          · exact nD.2 z
          · exact nD.1 z
          · rw [hHD3] at z; cases z
      have keepA : ∀ {H4 : Hp} {A4 : Own}, Stp H3 Ai H4 A4 → DpRs K H4 acc lacc as ∧ ∀ a ∈ as, ¬ Bd A4 a ∧ a ∉ A4.fr := fun s4 => by
        refine ⟨ad3.keep (s4.fix rt) fun a ha xs e => s4.keep a _ e (aout a ha).1, fun a ha => ⟨fun b => ?_, fun b => ?_⟩⟩
        · rcases s4.own a b with z | z
          · exact (aout a ha).1 z
          · obtain ⟨xs, e⟩ := ad3.trk a ha
            rw [z] at e; cases e
        · rcases s4.fro a b with z | z | z
          · exact (aout a ha).2 z
          · exact (aout a ha).1 z
          · obtain ⟨xs, e⟩ := ad3.trk a ha
            rw [z] at e; cases e
      refine turn_lem one rt owi dx (fun a h => by simp at h) tg eb (fun r y H4 A4 eo r4 ow4 s4 rv4 ef4 => ?_) (fun H4 A4 eo r4 ow4 s4 ef4 => ?_)
      · subst eo
        dsimp only at ec
        split at ec
        · rename_i hr
          cases ec
          obtain ⟨hHD4, nD4⟩ := keepD s4
          obtain ⟨ad4, aout4⟩ := keepA s4
          have item : ∃ cs, DpR K H4 y r.2 cs ∧ cs.Nodup ∧ (∀ a ∈ cs, ¬ Bd A4 a ∧ a ∉ A4.fr) ∧ ∀ a ∈ cs, Bd Ai a ∨ H3 a = none := by
            rcases rv4 with ⟨_, cs, d1, d2, d3, d4⟩ | ⟨er, cs, d1, d2⟩
            · exact ⟨cs, d1, d2, d3, d4⟩
            · rw [er, Bool.false_or] at hr
              have := d1.imm hr
              subst this
              exact ⟨[], d1, .nil, fun a h => by simp at h, fun a h => by simp at h⟩
          obtain ⟨cs, d1, d2, d3, d4⟩ := item
          have csD : ∀ a ∈ cs, a ≠ D := fun a ha z => by
            rcases d4 a ha with b | b
            · exact nD.1 (z ▸ b)
            · rw [z, hHD3] at b; cases b
          have ll : acc.length = lacc.length := ad.length
          refine ⟨acc, hHD4, ?_, hlt, A4, PV.wipe ρ' own, acc ++ [y], lacc ++ [r.2], as ++ cs, l2, upd_same, r4.updN nb2 hHD4 nD4.1 nD4.2, ow4, nb2, (Stp.trans rb si3 s4).updN hD, nD4, ec2, by rw [el]; simp, ?_, ?_, ?_, ?_, ?_⟩
          · simp only [lenOk, decide_eq_true_eq] at hlen
            rw [el] at hlen
            simp only [List.length_append, List.length_cons] at hlen
            omega
          · exact (ad4.app (.one d1)).upd hHD4 fun a ha => (List.mem_append.mp ha).elim (ane a) (csD a)
          · refine List.nodup_append.mpr ⟨an, d2, fun x hx y hy z => ?_⟩
            subst z
            rcases d4 x hy with b | b
            · exact (aout x hx).1 b
            · obtain ⟨xs, e⟩ := ad3.trk x hx
              rw [b] at e; cases e
          · exact fun a ha => (List.mem_append.mp ha).elim (ane a) (csD a)
          · exact fun a ha => (List.mem_append.mp ha).elim (aout4 a) (d3 a)
          · refine fun a ha => (List.mem_append.mp ha).elim (aold a) fun m => ?_
            rcases d4 a m with b | b
            · exact si3.own a b
            · exact .inr (si3.there rb b)
        · cases ec
      · subst eo
        cases ec
        obtain ⟨hHD4, nD4⟩ := keepD s4
        obtain ⟨ad4, aout4⟩ := keepA s4
        exact ⟨hlt, A4, PV.wipe ρ' own, acc, lacc, as, _, hHD4, r4, ow4, nb2, Stp.trans rb si3 s4, nD4, ec2, el, ad4, an, ane, aout4, aold⟩
    · cases ec
  · have hle : i = ds.length := by omega
    subst hle
    refine .inl ⟨itc.1 (Nat.le_refl _), ?_⟩
    rw [List.drop_length] at ec
    simp only [compL] at ec
    cases ec
    rw [List.append_nil] at el
    subst el
    have r12 : Stp H1 A1 H2 Ai := Stp.trans r1 s12 si
    have st := Stp.trans rep s1 r12
    have rr := Rep.restore r1 (si.fix rb) hown nb1 hl3 ri owi
    refine q _ H2 Ai rr st ?_ fun e => ?_
    · refine .inl ⟨rfl, D :: as, .lst hHD ad, List.nodup_cons.mpr ⟨fun m => ane D m rfl, an⟩, fun a ha => ?_, fun a ha => ?_⟩
      · rcases List.mem_cons.mp ha with z | ha
        · rw [z]; exact nD
        · exact aout a ha
      · rcases List.mem_cons.mp ha with z | ha
        · rw [z]; exact .inr (s1.there rep hD)
        · rcases aold a ha with b | b
          · rcases s12.own a b with b | b
            · exact s1.own a b
            · exact .inr (s1.there rep b)
          · exact .inr (s1.there rep b)
    · have e' : eff elt = false ∧ effs cnd = false := by
        simp only [eff, Bool.or_eq_false_iff] at e
        exact ⟨e.1.1, e.2⟩
      rw [e'.1, e'.2] at he
      cases he
end
section
variable {J : Info} {ca : Nat → Addr} {K : PySem.W.Frag}
/-- l.count(x) of data -/
def rCntD (K : PySem.W.Frag) : V → List V → Hp → VK → Prop := fun x xs H Q => ∃ (a : Addr) (vs : List V) (ds : List D) (as : List Addr) (y : V) (d : D) (bs : List Addr), x = .ref a ∧ xs = [y] ∧ H a = some (.lst vs) ∧ DpRs K H vs ds as ∧ DpR K H y d bs ∧ min (PyData.depthAll ds) d.depth ≤ 60 ∧ Q (.int (ds.countP fun y => PyData.eqv y d : Nat)) H
theorem mt_countD {fs : List Fn} {k : Nat} {N : List Str} {sc : Scope} {W : WX} {X : Cx} (C : Cxt J fs ca k N sc W X) : MtR X "list.count" (rCntD X.K) := by
  intro pins s σ H x xs v us Q I rx rxs h
  obtain ⟨a, vs, ds, as, y, d, bs, rfl, rfl, hH, r, rd, hm, q⟩ := h
  have hu := C.hu
  cases rx
  obtain ⟨u, rfl, ru⟩ := rxs.one
  obtain ⟨its, rv, p, hlen⟩ := I.list (SqL.of hH)
  obtain ⟨as2, R⟩ := Dp.readsAll I _ _ _ r.dp rv
  obtain ⟨bs2, R2⟩ := Dp.reads I _ _ _ rd.dp ru
  refine PySem.SeqAt.count_list_data p.isList (by simpa using R) R2 r.plain rd.plain (by omega) ?_
  exact ⟨.int _, H, I.tok _, ⟨_, rfl⟩, q⟩
end
section
variable {J : Info} {fs : List Fn} {ca : Nat → Addr} {k : Nat} {N : List Str} {sc : Scope} {W : WX} {X : Cx} {S : List Nat}
theorem s_count {o : E} {as : Es} {x y : Expr} {pa pc : Pos} (C : Cxt J fs ca k N sc W X) (hr : recvX x = true) (hl : lineB pa pc = true) (py : plainX y = true) (io : SE ca fs k S W X o x) (ia : SA ca fs k S W X as [y]) :
    SE ca fs k S W X (.mt .count o as) (.Call (.Attribute x "count" pa) [y] [] pc) := by
  have ny : starEach [y] X.env = (false, eval y X.env) :: starEach [] X.env := star_of py
  have few : ((backTo pc (starEach [y] X.env)).all (fun x => !x.1) && (backToKw pc (keywordEach [] X.env)).all (fun x => x.1.isSome) && decide ([y].length + ([] : List Keyword).length + (if ([] : List Keyword).isEmpty then 0 else 1) < 30)) = true := by rw [ny]; rfl
  have hbase : attributeBase x "count" X.env (eval x X.env) = eval x X.env := by cases x <;> first | rfl | (simp [recvX] at hr; done)
  refine (pe_bm PySem.F.plainAttrs_list PySem.F.slot_list_count PySem.F.type_list_count (mt_countD C) io ia hbase few hl ny rfl).weaken fun σ H Q ⟨ρ, A, rep, q⟩ => ?_
  rw [rn_rg] at q
  simp only [ev] at q
  refine tS_first rep (Stp.refl _ _) rep q fun r1 ρ1 v1 H1 A1 r1' s1 rv1 ef1 q => ?_
  dsimp only at q
  obtain ⟨l, el, q⟩ := RG.pure (ne_lst _) q
  have el := lst_inv el
  obtain ⟨as1, d1, _⟩ := rv1.any
  rw [el] at d1
  obtain ⟨a, vs, bs, e, r3, h3, e3⟩ := d1.list_inv
  refine ⟨by rw [e]; exact .inl ⟨rfl, vs, SqL.of h3⟩, ?_⟩
  refine tSs_first rep s1 r1' q fun ys ρ2 ws H2 A2 r2 s2 rv2 ef2 q => ?_
  dsimp only at q
  obtain ⟨hk, q⟩ := RG.ite q
  obtain ⟨d, ed, q⟩ := RG.pure (ne_no _) q
  have ed := noExc_inv ed
  rw [el] at ed
  have rv1' := RVal.later rep s1 r1' s2 ef2 hk rv1
  obtain ⟨as2, d2, _⟩ := rv1'.any
  rw [el, e] at d2
  obtain ⟨a', vs', bs', e', r4, h4, e4⟩ := d2.list_inv
  cases e'
  obtain ⟨cs, dz, _⟩ := rv2.2
  generalize hys : ys.map (·.2) = zs at ed dz
  match zs, dz, ed with
  | [], dz, ed => simp only [mt] at ed; cases ed
  | _ :: _ :: _, dz, ed => simp only [mt] at ed; cases ed
  | [z], dz, ed =>
    obtain ⟨w, ew, rw1⟩ := dz.one_inv
    subst ew
    simp only [mt] at ed
    split at ed
    · rename_i hm
      cases ed
      refine ⟨a, vs', l, bs', w, z, _, e, rfl, h4, r4, rw1, hm, q _ H2 A2 r2 (Stp.trans rep s1 s2) (RVal.of_imm (.int _) rfl) fun e => ?_⟩
      simp only [eff, Bool.or_eq_false_iff] at e
      obtain ⟨q1, m1⟩ := ef1 e.1
      obtain ⟨q2, m2⟩ := ef2 e.2
      exact ⟨q2.trans q1, m1.trans m2⟩
    · cases ed
end
end PV
set_option Elab.async false
set_option linter.all false
set_option maxRecDepth 100000
set_option maxHeartbeats 4000000
/-! PV22: all expressions. -/
namespace PV
open PySem PySem.Spec PyProof.Rows L2
def GoodE (e : E) : Prop := ∀ ⦃J : Info⦄ ⦃fs : List Fn⦄ ⦃ca : Nat → Addr⦄ ⦃k : Nat⦄ ⦃N : List Str⦄ ⦃sc : Scope⦄ ⦃W : WX⦄ ⦃X : Cx⦄ ⦃S : List Nat⦄, Cxt J fs ca k N sc W X → (eff e = true → S = []) → ∀ x, mE J N e sc x = true → SE ca fs k S W X e x ∧ ST ca fs k S W X e x
def GoodEs (es : Es) : Prop := ∀ ⦃J : Info⦄ ⦃fs : List Fn⦄ ⦃ca : Nat → Addr⦄ ⦃k : Nat⦄ ⦃N : List Str⦄ ⦃sc : Scope⦄ ⦃W : WX⦄ ⦃X : Cx⦄ ⦃S : List Nat⦄, Cxt J fs ca k N sc W X → (effs es = true → S = []) →
  (∀ xs, mEs J N es sc xs = true → SA ca fs k S W X es xs ∧ PA X xs (tAr X.K ca (runF fs k) S W es)) ∧ (∀ xs, mCs J N es sc xs = true → (∀ e r, es = .cons e r → r = .nil) ∧ (∀ e, es = .cons e .nil → ∃ x, xs = [x] ∧ ST ca fs k S W X e x) ∧ (es = .nil → xs = []))
def GoodO (o : Oe) : Prop := ∀ ⦃J : Info⦄ ⦃fs : List Fn⦄ ⦃ca : Nat → Addr⦄ ⦃k : Nat⦄ ⦃N : List Str⦄ ⦃sc : Scope⦄ ⦃W : WX⦄ ⦃X : Cx⦄ ⦃S : List Nat⦄, Cxt J fs ca k N sc W X → (effo o = true → S = []) → ∀ x, mO J N o sc x = true → PO X x (tOo X.K ca (runF fs k) S W o)
def GoodI (it : PV.It) : Prop := ∀ ⦃J : Info⦄ ⦃fs : List Fn⦄ ⦃ca : Nat → Addr⦄ ⦃k : Nat⦄ ⦃N : List Str⦄ ⦃sc : Scope⦄ ⦃W : WX⦄ ⦃X : Cx⦄ ⦃S : List Nat⦄, Cxt J fs ca k N sc W X → (effi it = true → S = []) → ∀ x tg, mI J N it sc x = true → (∀ single, pairB single it = true → (single = false → ∃ es kk p, tg = .Tuple es kk p) → SI ca fs k S W X tg it x)
theorem or_l {a b : Bool} {S : List Nat} (h : (a || b) = true → S = []) : a = true → S = [] := fun e => h (by simp [e])
theorem or_r {a b : Bool} {S : List Nat} (h : (a || b) = true → S = []) : b = true → S = [] := fun e => h (by simp [e])
theorem names_snd (N : List Str) (own : List Nat) : (namesOf N own).map (·.2) = own := by
  unfold namesOf
  rw [List.map_map]
  have : ((·.2) ∘ fun i : Nat => (N.getD i ("" : Str), i)) = id := rfl
  rw [this, List.map_id]
theorem plain_iter {it : Expr} {env : PySem.Env} (h : plainX it = true) : ∀ x, foldedSetIterable it env x = pure x := by
  intro x
  cases it <;> first | rfl | (simp [plainX] at h)
theorem mI_plain {J : Info} {N : List Str} {it : PV.It} {sc : Scope} {x : Expr} (h : mI J N it sc x = true) : plainX x = true := by
  cases it <;> simp only [mI] at h
  case seq e => simp only [Bool.and_eq_true] at h; exact h.1
  all_goals
    split at h
    · rfl
    · cases h
theorem single_tup {fn : Str → Bool} {N : List Str} {sc : Scope} {t : Expr} {tgt : List Nat} {single : Bool} (h : targetB fn N sc t tgt single = true) : single = false → ∃ es kk p, t = .Tuple es kk p := by
  intro e
  subst e
  unfold targetB at h
  simp only [Bool.false_eq_true, if_false] at h
  split at h
  · exact ⟨_, _, _, rfl⟩
  · cases h
section
variable {J : Info} {fs : List Fn} {ca : Nat → Addr} {k : Nat} {N : List Str} {sc : Scope} {W : WX} {X : Cx} {S : List Nat}
theorem pts_of {cnd : Es} {ifs : List Expr} {S : List Nat} {X : Cx} (g : (∀ e r, cnd = .cons e r → r = .nil) ∧ (∀ e, cnd = .cons e .nil → ∃ x, ifs = [x] ∧ ST ca fs k S WF X e x) ∧ (cnd = .nil → ifs = [])) : PTs X ifs (tTests X.K ca (runF fs k) S cnd) := by
  obtain ⟨g1, g2, g3⟩ := g
  cases cnd with
  | nil => rw [g3 rfl]; exact pts_nil
  | cons e r =>
    have := g1 e r rfl
    subst this
    obtain ⟨x, e1, h⟩ := g2 e rfl
    rw [e1]
    exact pts_one h
theorem s_comp {elt : E} {tgt : List Nat} {single : Bool} {it : PV.It} {cnd : Es} {own : List Nat} {x t i : Expr} {ifs : List Expr} {scope : Scope} {pos : Pos} (C : Cxt J fs ca k N sc W X) (hS : eff (.comp elt tgt single it cnd own) = true → S = []) (ge : GoodE elt) (gi : GoodI it) (gc : GoodEs cnd)
    (hb : blkC N sc scope (namesOf N own) = true) (ht : targetB (fun x => scope.names.lookup x == some .cell) N (relS scope sc) t tgt single = true) (hto : tgt.all (fun i => own.contains i) = true) (hp : pairB single it = true) (hi : mI J N it sc i = true) (hc : mCs J N cnd (relS scope sc) ifs = true) (he : mE J N elt (relS scope sc) x = true) :
    SE ca fs k S W X (.comp elt tgt single it cnd own) (.ListComp x [⟨t, i, ifs, 0⟩] scope pos) := by
  have tg : ∀ i ∈ tgt, i ∈ own := fun i hi => by
    have := List.all_eq_true.mp hto i hi
    exact List.contains_iff_mem.mp this
  have bo : BlkOk X.N X.env.scope scope (namesOf N own) := by rw [C.N, C.sc]; exact blkOk_by hb
  have go : ∀ S' : List Nat, ((eff elt || effs cnd) = true → S' = []) → (effi it = true → S = []) → PE X (.ListComp x [⟨t, i, ifs, 0⟩] scope pos) (tLc (tIt X.K ca (runF fs k) S W it) (tTg X.K S' .bor tgt single) (tTests X.K ca (runF fs k) S' cnd) (tS X.K ca (runF fs k) S' WF elt) own) := fun S' h1 h2 => by
    have := pe_lc (pos := pos) (elt := x) (te := tS X.K ca (runF fs k) S' WF elt) (tt := tTests X.K ca (runF fs k) S' cnd) (g := tTg X.K S' .bor tgt single) C.calm C.nd (gi C h2 i t hi single hp (single_tup ht)) bo
      (fun s H D cl fp => pg_tgt (kc := .bor) (S := S') (fun d d' => by simp) (C.blk s H scope D cl fp) (fun y hy => hy) ht)
      (fun s H D cl fp => pts_of ((gc (C.blk s H scope D cl fp) (or_r h1)).2 ifs hc))
      (fun s H D cl fp => (ge (C.blk s H scope D cl fp) (or_l h1) x he).1) (plain_iter (mI_plain hi))
    rwa [names_snd] at this
  have one : ∀ e r, cnd = .cons e r → r = .nil := by
    intro e r h
    subst h
    cases r with
    | nil => rfl
    | cons e' r' => simp [mCs] at hc
  have hi' : effi it = true → S = [] := fun e => hS (by simp [eff, e])
  by_cases hf : (eff elt || effs cnd) = true
  · have hS0 : S = [] := hS (by
      simp only [eff, Bool.or_eq_true] at hf ⊢
      rcases hf with h | h
      · exact .inl (.inl h)
      · exact .inr h)
    subst hS0
    exact (go [] (fun _ => rfl) hi').weaken fun σ H Q h => w_compE one tg hf h
  · have hf' : (eff elt || effs cnd) = false := by simpa using hf
    exact (go (varsi it ++ S) (fun e => absurd e hf) hi').weaken fun σ H Q h => w_compP one tg hf' h
end
theorem both {ca : Nat → Addr} {fs : List Fn} {k : Nat} {S : List Nat} {W : WX} {X : Cx} {e : E} {x : Expr} (h : SE ca fs k S W X e x) (he : ∀ whole, isTrue x X.env whole = (do let v ← whole; standAt x.pos; holding [v] (truthy v))) : SE ca fs k S W X e x ∧ ST ca fs k S W X e x := ⟨h, st_of h he⟩
mutual
theorem good_E : ∀ e : E, GoodE e
  | .var i => by
    intro J fs ca k N sc W X S C hS x h
    have g := s_var (S := S) C h
    simp only [mE] at h
    split at h <;> first | exact ⟨g, st_of g fun _ => rfl⟩ | cases h
  | .ref i => by
    intro J fs ca k N sc W X S C hS x h
    exact ⟨⟨fun pins s σ H Q I ⟨ρ, A, rep, q⟩ => q.elim⟩, ⟨fun pins s σ H Q I ⟨ρ, A, rep, q⟩ => q.elim⟩⟩
  | .scr i => by
    intro J fs ca k N sc W X S C hS x h
    exact ⟨⟨fun pins s σ H Q I ⟨ρ, A, rep, q⟩ => q.elim⟩, ⟨fun pins s σ H Q I ⟨ρ, A, rep, q⟩ => q.elim⟩⟩
  | .scrL i => by
    intro J fs ca k N sc W X S C hS x h
    simp only [mE] at h
    split at h <;> try (cases h; done)
    simp only [Bool.and_eq_true, decide_eq_true_eq] at h
    obtain ⟨⟨h1, h2⟩, h3⟩ := h
    subst h1
    exact both (s_scrL (S := S) C h2 h3) fun _ => rfl
  | .int n => by
    intro J fs ca k N sc W X S C hS x h
    have g := s_int (S := S) C h
    simp only [mE] at h
    split at h <;> first | exact ⟨g, st_of g fun _ => rfl⟩ | cases h
  | .str n => by
    intro J fs ca k N sc W X S C hS x h
    have g := s_str (ca := ca) (fs := fs) (k := k) (S := S) (W := W) (X := X) h
    simp only [mE] at h
    split at h <;> first | exact ⟨g, st_of g fun _ => rfl⟩ | cases h
  | .bl n => by
    intro J fs ca k N sc W X S C hS x h
    have g := s_bl (ca := ca) (fs := fs) (k := k) (S := S) (W := W) (X := X) h
    simp only [mE] at h
    split at h <;> first | exact ⟨g, st_of g fun _ => rfl⟩ | cases h
  | .non => by
    intro J fs ca k N sc W X S C hS x h
    have g := s_non (ca := ca) (fs := fs) (k := k) (S := S) (W := W) (X := X) h
    simp only [mE] at h
    split at h <;> first | exact ⟨g, st_of g fun _ => rfl⟩ | cases h
  | .op2 o a b => by
    intro J fs ca k N sc W X S C hS x h
    have ga := fun x h => good_E a C (or_l hS) x h
    have gb := fun x h => good_E b C (or_r hS) x h
    have g := s_op2 C (fun x h => (ga x h).1) (fun x h => (gb x h).1) h
    simp only [mE] at h
    split at h <;> try (cases h; done)
    · exact ⟨g, st_of g fun _ => rfl⟩
    · simp only [Bool.and_eq_true, decide_eq_true_eq] at h
      obtain ⟨⟨⟨e, pl⟩, h1⟩, h2⟩ := h
      exact ⟨g, t_op2 C (ga _ h1).1 (gb _ h2).1 pl e⟩
  | .op1 o a => by
    intro J fs ca k N sc W X S C hS x h
    have ga := fun x h => good_E a C hS x h
    simp only [mE] at h
    split at h <;> try (cases h; done)
    · exact both (s_neg  (ga _ h).1) fun _ => rfl
    · simp only [Bool.and_eq_true] at h
      exact ⟨s_nt (ga _ h.2).1, t_nt (ga _ h.2).2⟩
  | .and a b => by
    intro J fs ca k N sc W X S C hS x h
    have ga := fun x h => good_E a C (or_l hS) x h
    have gb := fun x h => good_E b C (or_r hS) x h
    simp only [mE] at h
    split at h <;> try (cases h; done)
    · simp only [Bool.and_eq_true] at h
      obtain ⟨⟨⟨p1, p2⟩, h1⟩, h2⟩ := h
      exact ⟨s_and (ga _ h1).1 (pe_one (gb _ h2).1), t_and (ga _ h1).2 (pw_and1 (gb _ h2).2).pt⟩
    · simp only [Bool.and_eq_true] at h
      obtain ⟨⟨p1, h1⟩, h2⟩ := h
      exact ⟨s_and (ga _ h1).1 (gb _ h2).1, t_and (ga _ h1).2 (gb _ h2).2⟩
  | .or a b => by
    intro J fs ca k N sc W X S C hS x h
    have ga := fun x h => good_E a C (or_l hS) x h
    have gb := fun x h => good_E b C (or_r hS) x h
    simp only [mE] at h
    split at h <;> try (cases h; done)
    · simp only [Bool.and_eq_true] at h
      obtain ⟨⟨⟨p1, p2⟩, h1⟩, h2⟩ := h
      exact ⟨s_or (ga _ h1).1 (pe_one (gb _ h2).1), t_or (ga _ h1).2 (pw_or1 (gb _ h2).2).pt⟩
    · simp only [Bool.and_eq_true] at h
      obtain ⟨⟨p1, h1⟩, h2⟩ := h
      exact ⟨s_or (ga _ h1).1 (gb _ h2).1, t_or (ga _ h1).2 (gb _ h2).2⟩
  | .ite c a b => by
    intro J fs ca k N sc W X S C hS x h
    have gc := fun x h => good_E c C (or_l (or_l hS)) x h
    have ga := fun x h => good_E a C (or_r (or_l hS)) x h
    have gb := fun x h => good_E b C (or_r hS) x h
    simp only [mE] at h
    split at h <;> try (cases h; done)
    simp only [Bool.and_eq_true] at h
    obtain ⟨⟨⟨_, h0⟩, h1⟩, h2⟩ := h
    exact ⟨s_ite (gc _ h0).2 (ga _ h1).1 (gb _ h2).1, t_ite (gc _ h0).2 (ga _ h1).2 (gb _ h2).2⟩
  | .cmp3 o p a b c => by
    intro J fs ca k N sc W X S C hS x h
    have ga := fun x h => good_E a C (or_l (or_l hS)) x h
    have gb := fun x h => good_E b C (or_r (or_l hS)) x h
    have gc := fun x h => good_E c C (or_r hS) x h
    simp only [mE] at h
    split at h <;> try (cases h; done)
    simp only [Bool.and_eq_true, decide_eq_true_eq] at h
    obtain ⟨⟨⟨⟨⟨⟨e1, e2⟩, p1⟩, p2⟩, h0⟩, h1⟩, h2⟩ := h
    exact ⟨s_cmp3 C e1 e2 p1 p2 (ga _ h0).1 (gb _ h1).1 (gc _ h2).1, t_cmp3 C e1 e2 p1 p2 (ga _ h0).1 (gb _ h1).1 (gc _ h2).1⟩
  | .bi f as => by
    intro J fs ca k N sc W X S C hS x h
    have ga := (good_Es as C hS).1
    simp only [mE] at h
    split at h <;> try (cases h; done)
    simp only [Bool.and_eq_true, decide_eq_true_eq] at h
    obtain ⟨⟨⟨⟨e1, h1⟩, p1⟩, p2⟩, h2⟩ := h
    subst e1
    exact both (s_bi C h1 p1 p2 (ga _ h2).1) fun _ => rfl
  | .mt .index _ _ => by
    intro J fs ca k N sc W X S C hS x h
    simp [mE] at h
  | .mt .count o as => by
    intro J fs ca k N sc W X S C hS x h
    have ga := fun x h => good_E o C (or_l hS) x h
    have gb := (good_Es as C (or_r hS)).1
    simp only [mE] at h
    split at h <;> try (cases h; done)
    simp only [Bool.and_eq_true, decide_eq_true_eq] at h
    obtain ⟨⟨⟨⟨⟨e1, h1⟩, h2⟩, h3⟩, h4⟩, h5⟩ := h
    subst e1
    exact both (s_count C h1 h2 h3 (ga _ h4).1 (gb _ h5).1) fun _ => rfl
  | .sub o i => by
    intro J fs ca k N sc W X S C hS x h
    have ga := fun x h => good_E o C (or_l hS) x h
    have gb := fun x h => good_E i C (or_r hS) x h
    simp only [mE] at h
    split at h <;> try (cases h; done)
    simp only [Bool.and_eq_true] at h
    obtain ⟨⟨p1, h1⟩, h2⟩ := h
    by_cases hv : ∃ j, o = .var j
    · obtain ⟨j, rfl⟩ := hv
      exact both (s_subV C h1 p1 (gb _ h2).1) fun _ => rfl
    · exact both (s_sub p1 (fun ρ => by cases o <;> first | rfl | exact absurd ⟨_, rfl⟩ hv) (ga _ h1).1 (gb _ h2).1) fun _ => rfl
  | .slc o lo hi => by
    intro J fs ca k N sc W X S C hS x h
    have ga := fun x h => good_E o C (or_l (or_l hS)) x h
    have gl := good_O lo C (or_r (or_l hS))
    have gh := good_O hi C (or_r hS)
    simp only [mE] at h
    split at h <;> try (cases h; done)
    simp only [Bool.and_eq_true] at h
    obtain ⟨⟨h1, h2⟩, h3⟩ := h
    exact both (s_slcE (ga _ h1).1 (gl _ h2) (gh _ h3)) fun _ => rfl
  | .rev o => by
    intro J fs ca k N sc W X S C hS x h
    have ga := fun x h => good_E o C hS x h
    simp only [mE] at h
    split at h <;> try (cases h; done)
    exact both (s_rev (ga _ h).1) fun _ => rfl
  | .tup es => by
    intro J fs ca k N sc W X S C hS x h
    have ga := (good_Es es C hS).1
    simp only [mE] at h
    split at h <;> try (cases h; done)
    exact both (s_tup (ga _ h).1) fun _ => rfl
  | .lst es => by
    intro J fs ca k N sc W X S C hS x h
    have ga := (good_Es es C hS).1
    simp only [mE] at h
    split at h <;> try (cases h; done)
    exact both (s_lst (ga _ h).1) fun _ => rfl
  | .call f as => by
    intro J fs ca k N sc W X S C hS x h
    have ga := (good_Es as C hS).1
    simp only [mE] at h
    split at h <;> try (cases h; done)
    simp only [Bool.and_eq_true, decide_eq_true_eq] at h
    obtain ⟨⟨⟨⟨⟨⟨⟨hf, e1⟩, h1⟩, h2⟩, p1⟩, p2⟩, h3⟩, h4⟩ := h
    exact both (s_call C hf h1 e1 h2 p1 p2 (ga _ h3).2 h4 hS) fun _ => rfl
  | .pop0 i => by
    intro J fs ca k N sc W X S C hS x h
    simp only [mE] at h
    split at h <;> try (cases h; done)
    simp only [Bool.and_eq_true, decide_eq_true_eq] at h
    obtain ⟨⟨e1, h1⟩, h2⟩ := h
    subst e1
    exact both (s_pop0 (S := S) C h1 h2) fun _ => rfl
  | .pop1 i e => by
    intro J fs ca k N sc W X S C hS x h
    have ga := fun x h => good_E e C (fun _ => hS rfl) x h
    simp only [mE] at h
    split at h <;> try (cases h; done)
    simp only [Bool.and_eq_true, decide_eq_true_eq] at h
    obtain ⟨⟨⟨⟨e1, h1⟩, h2⟩, p1⟩, h3⟩ := h
    subst e1
    exact both (s_pop1 (S := S) C h1 h2 p1 (ga _ h3).1) fun _ => rfl
  | .comp elt tgt single it cnd own => by
    intro J fs ca k N sc W X S C hS x h
    have ge := good_E elt
    have gi := good_I it
    have gc := good_Es cnd
    simp only [mE] at h
    split at h <;> try (cases h; done)
    simp only [Bool.and_eq_true] at h
    obtain ⟨⟨⟨⟨⟨⟨⟨p1, h1⟩, h2⟩, h3⟩, h4⟩, h5⟩, h6⟩, h7⟩ := h
    exact both (s_comp C hS ge gi gc h1 h2 h3 h4 h5 h6 h7) fun _ => rfl
  | .rng a b => by
    intro J fs ca k N sc W X S C hS x h
    have ga := fun x h => good_E a C (or_l hS) x h
    have gb := fun x h => good_E b C (or_r hS) x h
    simp only [mE] at h
    split at h <;> try (cases h; done)
    simp only [Bool.and_eq_true, decide_eq_true_eq] at h
    obtain ⟨⟨⟨⟨⟨⟨⟨e1, h1⟩, e2⟩, h2⟩, p1⟩, p2⟩, h3⟩, h4⟩ := h
    subst e1 e2
    exact both (s_rng C h1 h2 p1 p2 (ga _ h3).1 (gb _ h4).1) fun _ => rfl
  | .rng1 b => by
    intro J fs ca k N sc W X S C hS x h
    have gb := fun x h => good_E b C hS x h
    simp only [mE] at h
    split at h <;> try (cases h; done)
    simp only [Bool.and_eq_true, decide_eq_true_eq] at h
    obtain ⟨⟨⟨⟨⟨e1, h1⟩, e2⟩, h2⟩, p2⟩, h4⟩ := h
    subst e1 e2
    exact both (s_rng1 C h1 h2 p2 (gb _ h4).1) fun _ => rfl
  | .isBool a => by
    intro J fs ca k N sc W X S C hS x h
    have ga := fun x h => good_E a C hS x h
    simp only [mE] at h
    split at h <;> try (cases h; done)
    simp only [Bool.and_eq_true, decide_eq_true_eq] at h
    obtain ⟨⟨⟨⟨⟨e1, h1⟩, e2⟩, h2⟩, p1⟩, h3⟩ := h
    subst e1 e2
    exact both (s_isBool C h1 h2 p1 (ga _ h3).1) fun _ => rfl
  | .isTup a => by
    intro J fs ca k N sc W X S C hS x h
    have ga := fun x h => good_E a C hS x h
    simp only [mE] at h
    split at h <;> try (cases h; done)
    simp only [Bool.and_eq_true, decide_eq_true_eq] at h
    obtain ⟨⟨⟨⟨⟨e1, h1⟩, e2⟩, h2⟩, p1⟩, h3⟩ := h
    subst e1 e2
    exact both (s_isTup C h1 h2 p1 (ga _ h3).1) fun _ => rfl
  | .isInt a => by
    intro J fs ca k N sc W X S C hS x h
    have ga := fun x h => good_E a C hS x h
    simp only [mE] at h
    split at h <;> try (cases h; done)
    simp only [Bool.and_eq_true, decide_eq_true_eq] at h
    obtain ⟨⟨⟨⟨⟨e1, h1⟩, e2⟩, h2⟩, p1⟩, h3⟩ := h
    subst e1 e2
    exact both (s_isInt C h1 h2 p1 (ga _ h3).1) fun _ => rfl
  | .sset a => by
    intro J fs ca k N sc W X S C hS x h
    have ga := fun x h => good_E a C hS x h
    simp only [mE] at h
    split at h <;> try (cases h; done)
    simp only [Bool.and_eq_true, decide_eq_true_eq] at h
    obtain ⟨⟨⟨⟨⟨e1, h1⟩, e2⟩, h2⟩, p1⟩, h3⟩ := h
    subst e1 e2
    exact both (s_sset C h1 h2 p1 (ga _ h3).1) fun _ => rfl
theorem good_Es : ∀ es : Es, GoodEs es
  | .nil => by
    intro J fs ca k N sc W X S C hS
    refine ⟨fun xs h => ?_, fun xs h => ?_⟩
    · simp only [mEs] at h
      split at h <;> first | exact ⟨a_nil, aa_nil⟩ | cases h
    · simp only [mCs] at h
      split at h <;> first | exact ⟨fun e r q => (by cases q), fun e q => (by cases q), fun _ => rfl⟩ | cases h
  | .cons e r => by
    intro J fs ca k N sc W X S C hS
    have ge := fun x h => good_E e C (or_l hS) x h
    have gr := (good_Es r C (or_r hS)).1
    refine ⟨fun xs h => ?_, fun xs h => ?_⟩
    · simp only [mEs] at h
      split at h <;> try (cases h; done)
      simp only [Bool.and_eq_true] at h
      obtain ⟨⟨p1, h1⟩, h2⟩ := h
      obtain ⟨g1, g2⟩ := gr _ h2
      refine ⟨a_cons p1 (ge _ h1).1 g1, ?_⟩
      by_cases hn : notRS e = true
      · exact aa_val hn p1 (ge _ h1).1 g2
      · cases e <;> try (exact absurd rfl hn)
        · simp only [mE] at h1
          split at h1 <;> first | exact aa_ref C h1 g2 | cases h1
        · simp only [mE] at h1
          split at h1 <;> first | exact aa_scr C h1 g2 | cases h1
    · cases r with
      | nil =>
        simp only [mCs] at h
        split at h <;> try (cases h; done)
        simp only [Bool.and_eq_true] at h
        refine ⟨fun e' r' q => (by cases q; rfl), fun e' q => ?_, fun q => (by cases q)⟩
        cases q
        exact ⟨_, rfl, (ge _ h.2).2⟩
      | cons e' r' => simp [mCs] at h
theorem good_O : ∀ o : Oe, GoodO o
  | .none => by
    intro J fs ca k N sc W X S C hS x h
    simp only [mO] at h
    split at h <;> first | exact o_none | cases h
  | .some e => by
    intro J fs ca k N sc W X S C hS x h
    have ge := fun x h => good_E e C hS x h
    simp only [mO] at h
    split at h <;> try (cases h; done)
    simp only [Bool.and_eq_true] at h
    exact o_some (ge _ h.2).1
theorem good_I : ∀ it : PV.It, GoodI it
  | .scr i => by
    intro J fs ca k N sc W X S C hS x tg h single _ _
    simp only [mI] at h
    split at h <;> first | exact si_scr C h | cases h
  | .seq e => by
    intro J fs ca k N sc W X S C hS x tg h single _ _
    have ge := fun x h => good_E e C hS x h
    simp only [mI, Bool.and_eq_true] at h
    exact si_seq (ge _ h.2).1
  | .r1 a => by
    intro J fs ca k N sc W X S C hS x tg h single _ _
    have ga := fun x h => good_E a C hS x h
    simp only [mI] at h
    split at h <;> try (cases h; done)
    simp only [Bool.and_eq_true, decide_eq_true_eq] at h
    obtain ⟨⟨⟨e1, h1⟩, p1⟩, h2⟩ := h
    subst e1
    exact si_r1 C h1 p1 (ga _ h2).1
  | .r2 a b => by
    intro J fs ca k N sc W X S C hS x tg h single _ _
    have ga := fun x h => good_E a C (or_l hS) x h
    have gb := fun x h => good_E b C (or_r hS) x h
    simp only [mI] at h
    split at h <;> try (cases h; done)
    simp only [Bool.and_eq_true, decide_eq_true_eq] at h
    obtain ⟨⟨⟨⟨⟨e1, h1⟩, p1⟩, p2⟩, h2⟩, h3⟩ := h
    subst e1
    exact si_r2 C h1 p1 p2 (ga _ h2).1 (gb _ h3).1
  | .r3 a b c => by
    intro J fs ca k N sc W X S C hS x tg h single _ _
    have ga := fun x h => good_E a C (or_l (or_l hS)) x h
    have gb := fun x h => good_E b C (or_r (or_l hS)) x h
    have gc := fun x h => good_E c C (or_r hS) x h
    simp only [mI] at h
    split at h <;> try (cases h; done)
    simp only [Bool.and_eq_true, decide_eq_true_eq] at h
    obtain ⟨⟨⟨⟨⟨⟨⟨e1, h1⟩, p1⟩, p2⟩, p3⟩, h2⟩, h3⟩, h4⟩ := h
    subst e1
    exact si_r3 C h1 p1 p2 p3 (ga _ h2).1 (gb _ h3).1 (gc _ h4).1
  | .enum a => by
    intro J fs ca k N sc W X S C hS x tg h single hp ht
    have ga := fun x h => good_E a C hS x h
    have hp' : single = false := by simpa [pairB] using hp
    obtain ⟨es, kk, p, e⟩ := ht hp'
    subst e
    simp only [mI] at h
    split at h <;> try (cases h; done)
    simp only [Bool.and_eq_true, decide_eq_true_eq] at h
    obtain ⟨⟨⟨e1, h1⟩, p1⟩, h2⟩ := h
    subst e1
    exact si_enum C h1 p1 (ga _ h2).1
  | .zip a b => by
    intro J fs ca k N sc W X S C hS x tg h single hp ht
    have ga := fun x h => good_E a C (or_l hS) x h
    have gb := fun x h => good_E b C (or_r hS) x h
    have hp' : single = false := by simpa [pairB] using hp
    obtain ⟨es, kk, p, e⟩ := ht hp'
    subst e
    simp only [mI] at h
    split at h <;> try (cases h; done)
    simp only [Bool.and_eq_true, decide_eq_true_eq] at h
    obtain ⟨⟨⟨⟨⟨e1, h1⟩, p1⟩, p2⟩, h2⟩, h3⟩ := h
    subst e1
    exact si_zip C h1 p1 p2 (ga _ h2).1 (gb _ h3).1
  | .rv a => by
    intro J fs ca k N sc W X S C hS x tg h single _ _
    have ga := fun x h => good_E a C hS x h
    simp only [mI] at h
    split at h <;> try (cases h; done)
    simp only [Bool.and_eq_true, decide_eq_true_eq] at h
    obtain ⟨⟨⟨e1, h1⟩, p1⟩, h2⟩ := h
    subst e1
    exact si_rv C h1 p1 (ga _ h2).1
end
end PV
set_option Elab.async false
set_option linter.all false
set_option maxRecDepth 100000
set_option maxHeartbeats 1000000
/-! PV23: what is taken; what a statement promises. -/
namespace PV
open PySem PySem.Spec PyProof.Rows L2
section
variable {K : PySem.W.Frag} {ca : Nat → Addr} {cf : CF} {W : WX} {σ : L2.St} {H H0 : Hp} {A A0 : Own} {ρ ρ0 : PV.Env} {α : Type} {P : α → Prop}
def tX (K : PySem.W.Frag) (ca : Nat → Addr) (cf : CF) (W : WX) (e : E) : TE := fun σ H Q => ∃ ρ A, Rep K H [] σ ρ A ∧ RG K ca W σ H A (PR K [] σ (vars e) true H A Q) (evX cf e ρ)
def tXs (K : PySem.W.Frag) (ca : Nat → Addr) (cf : CF) (W : WX) (es : Es) : TA := fun σ H Q => ∃ ρ A, Rep K H [] σ ρ A ∧ RG K ca W σ H A (PRs K [] σ (varss es) true H A Q) (evXs cf es ρ)
theorem tX_first {a : E} {f : R × PV.Env → Res α} {Q1 : VK} (r0 : Rep K H0 [] σ ρ0 A0) (s0 : Stp H0 A0 H A) (rep : Rep K H [] σ ρ A) (h : RG K ca W σ H0 A0 P (evX cf a ρ >>= f))
    (hq : ∀ r ρ1 v H1 A1, Rep K H1 [] σ ρ1 A1 → Stp H A H1 A1 → RVal K H A H1 A1 (vars a ++ []) v r → RG K ca W σ H0 A0 P (f (r, ρ1)) → Q1 v H1) : tX K ca cf W a σ H Q1 := by
  refine ⟨ρ, A, rep, ?_⟩
  rcases e : evX cf a ρ with ⟨r, ρ1⟩ | ⟨c, k, p⟩ | _
  · rw [e] at h
    exact fun v H1 A1 r1 s1 rv _ => hq r ρ1 v H1 A1 r1 s1 rv h
  · rw [e] at h
    have h' : ExQ K ca H0 A0 (fun a b H' => W a b σ H') c k p := h
    exact ExQ.before r0 s0 h'
  · rw [e] at h
    exact h
theorem tXs_first {a : Es} {f : List R × PV.Env → Res α} {Q1 : List V → Hp → Prop} (r0 : Rep K H0 [] σ ρ0 A0) (s0 : Stp H0 A0 H A) (rep : Rep K H [] σ ρ A) (h : RG K ca W σ H0 A0 P (evXs cf a ρ >>= f))
    (hq : ∀ r ρ1 v H1 A1, Rep K H1 [] σ ρ1 A1 → Stp H A H1 A1 → RVs K H A H1 A1 (varss a ++ []) v r → RG K ca W σ H0 A0 P (f (r, ρ1)) → Q1 v H1) : tXs K ca cf W a σ H Q1 := by
  refine ⟨ρ, A, rep, ?_⟩
  rcases e : evXs cf a ρ with ⟨r, ρ1⟩ | ⟨c, k, p⟩ | _
  · rw [e] at h
    exact fun v H1 A1 r1 s1 rv _ => hq r ρ1 v H1 A1 r1 s1 rv h
  · rw [e] at h
    have h' : ExQ K ca H0 A0 (fun a b H' => W a b σ H') c k p := h
    exact ExQ.before r0 s0 h'
  · rw [e] at h
    exact h
def plainEv : E → Bool
  | .var _ => false
  | .tup _ => false
  | .lst _ => false
  | _ => true
theorem evX_eq {e : E} (h : plainEv e = true) (ρ : PV.Env) : evX cf e ρ = ev cf e ρ := by
  cases e <;> first | rfl | (simp [plainEv] at h)
theorem tX_tS {e : E} {Q : VK} (h : plainEv e = true) (q : tX K ca cf W e σ H Q) : tS K ca cf [] W e σ H Q := by
  obtain ⟨ρ, A, rep, q⟩ := q
  rw [evX_eq h] at q
  refine ⟨ρ, A, rep, ?_⟩
  rw [rn_rg]
  rcases e1 : ev cf e ρ with ⟨r, ρ1⟩ | ⟨c, k, p⟩ | _
  · rw [e1] at q
    exact fun v H' A' r1 s1 rv _ => q v H' A' r1 s1 rv fun z => by cases z
  · rw [e1] at q; exact q
  · rw [e1] at q; exact q
/-- a name gives away its lists -/
theorem Rep.take {i : Nat} {c : Cell} (rep : Rep K H [] σ ρ A) (hg : PV.get ρ i = some c) : Rep K H [] σ (ρ.set i none) (A.wip [i]) :=
  rep.wip [i] rfl (fun _ _ => rfl) (fun j => by
    rw [get_set]
    by_cases hj : i = j
    · subst hj
      rw [if_pos ⟨rfl, get_lt hg⟩, if_pos (by simp)]
    · rw [if_neg (fun q => hj q.1), if_neg (by simpa using Ne.symm hj)]) (by rw [List.length_set])
end
section
variable {J : Info} {fs : List Fn} {ca : Nat → Addr} {k : Nat} {N : List Str} {sc : Scope} {W : WX} {X : Cx}
theorem x_var {i : Nat} {x : Expr} (C : Cxt J fs ca k N sc W X) (h : mE J N (.var i) sc x = true) : PE X x (tX X.K ca (runF fs k) W (.var i)) := by
  simp only [mE] at h
  split at h <;> try (cases h; done)
  refine (pe_nm C h).weaken fun σ H Q ⟨ρ, A, rep, q⟩ => ?_
  simp only [evX] at q
  split at q
  · rename_i d e
    obtain ⟨v, ev1, ok⟩ := rep.cell i _ e
    split at q
    · rename_i hi
      exact ⟨v, ev1, q v H A rep (Stp.refl _ _) (RVal.of_imm ok.1 hi) fun z => by cases z⟩
    · refine ⟨v, ev1, q v H (A.wip [i]) (rep.take e) ((Stp.refl _ _).wip [i]) (.inl ⟨rfl, A i, ok.1, ok.2, fun a ha => ⟨fun ⟨j, hj⟩ => ?_, fun b => rep.fdis a b ⟨i, ha⟩⟩, fun a ha => .inl ⟨i, ha⟩⟩) fun z => by cases z⟩
      have hji : j ≠ i := fun z => by rw [z, Own.wip_in (by simp)] at hj; simp at hj
      exact hji (rep.disj j i a (Own.wip_sub hj) ha)
  · exact q.elim
  · rename_i c hc1 hc2 e
    have hr : PV.rd ρ i = .ok (imm c.d, c.d) := by
      unfold PV.rd
      rw [e]
      cases c with
      | scr l => exact absurd rfl (hc2 l)
      | _ => rfl
    obtain ⟨v, ev1, _, rv⟩ := rd_ok rep hr
    exact ⟨v, ev1, q v H A rep (Stp.refl _ _) rv fun z => by cases z⟩
  · exact q.elim
theorem x_tup {es : Es} {xs : List Expr} {j : Nat} {pos : Pos} (ia : PA X xs (tXs X.K ca (runF fs k) W es)) : PE X (.Tuple xs j pos) (tX X.K ca (runF fs k) W (.tup es)) := by
  refine (pe_tup ia).weaken fun σ H Q ⟨ρ, A, rep, q⟩ => ?_
  simp only [evX] at q
  refine tXs_first rep (Stp.refl _ _) rep q fun rs ρ1 vs1 H1 A1 r1 s1 rv1 q => ?_
  dsimp only at q
  split at q
  · rename_i hl
    obtain ⟨bs, d2, n2⟩ := rv1.2
    refine ⟨by rw [d2.length, List.length_map]; simpa [lenOk] using hl, fun p hp => ?_⟩
    have sm : Same H1 (upd H1 p (.tup vs1)) := same_upd hp
    refine q _ _ A1 (r1.new sm) (s1.then_new rep sm) ?_ fun z => by cases z
    cases ho : rs.all (fun x => x.1 || imm x.2) with
    | true =>
      obtain ⟨as, g1, g2, g3, g4⟩ := rv1.1 ho
      exact .inl ⟨rfl, as, .tup (.inl (.inl upd_same)) (g1.new hp), g2, g3, g4⟩
    | false => exact .inr ⟨rfl, bs, .tup (.inl (.inl upd_same)) (d2.new hp), n2⟩
  · exact q.elim
theorem x_lst {es : Es} {xs : List Expr} {pos : Pos} (ia : PA X xs (tXs X.K ca (runF fs k) W es)) : PE X (.List xs pos) (tX X.K ca (runF fs k) W (.lst es)) := by
  refine (pe_lst ia).weaken fun σ H Q ⟨ρ, A, rep, q⟩ => ?_
  simp only [evX] at q
  refine tXs_first rep (Stp.refl _ _) rep q fun rs ρ1 vs1 H1 A1 r1 s1 rv1 q => ?_
  dsimp only at q
  split at q
  · rename_i hl
    obtain ⟨bs, d2, n2⟩ := rv1.2
    refine ⟨by rw [d2.length, List.length_map]; simpa [lenOk] using hl, fun p hp => ?_⟩
    have sm : Same H1 (upd H1 p (.lst vs1)) := same_upd hp
    have new := new_out r1 hp
    refine q _ _ A1 (r1.new sm) (s1.then_new rep sm) ?_ fun z => by cases z
    cases ho : rs.all (fun x => x.1 || imm x.2) with
    | true =>
      obtain ⟨as, g1, g2, g3, g4⟩ := rv1.1 ho
      refine .inl ⟨rfl, p :: as, .lst upd_same (g1.new hp), List.nodup_cons.mpr ⟨fun m => ?_, g2⟩, fun a ha => ?_, fun a ha => ?_⟩
      · obtain ⟨ys, q⟩ := g1.trk p m
        rw [hp] at q
        cases q
      · rcases List.mem_cons.mp ha with e | ha
        · rw [e]; exact new
        · exact g3 a ha
      · rcases List.mem_cons.mp ha with e | ha
        · rw [e]; exact .inr (s1.there rep hp)
        · exact g4 a ha
    | false =>
      refine .inr ⟨rfl, p :: bs, .lst upd_same (d2.new hp), fun a ha i hi => ?_⟩
      rcases List.mem_cons.mp ha with e | ha
      · rw [e]; exact fun m => new.1 ⟨i, m⟩
      · exact n2 a ha i hi
  · exact q.elim
mutual
theorem good_X : ∀ (e : E) ⦃J : Info⦄ ⦃fs : List Fn⦄ ⦃ca : Nat → Addr⦄ ⦃k : Nat⦄ ⦃N : List Str⦄ ⦃sc : Scope⦄ ⦃W : WX⦄ ⦃X : Cx⦄, Cxt J fs ca k N sc W X → ∀ x, mE J N e sc x = true → PE X x (tX X.K ca (runF fs k) W e)
  | .var i => fun J fs ca k N sc W X C x h => x_var C h
  | .tup es => fun J fs ca k N sc W X C x h => by
    have g := good_Xs es C
    simp only [mE] at h
    split at h <;> try (cases h; done)
    exact x_tup (g _ h)
  | .lst es => fun J fs ca k N sc W X C x h => by
    have g := good_Xs es C
    simp only [mE] at h
    split at h <;> try (cases h; done)
    exact x_lst (g _ h)
  | .int n => fun J fs ca k N sc W X C x h => ((good_E (.int n) C (fun _ => rfl) x h).1).weaken fun _ _ _ q => tX_tS rfl q
  | .str n => fun J fs ca k N sc W X C x h => ((good_E (.str n) C (fun _ => rfl) x h).1).weaken fun _ _ _ q => tX_tS rfl q
  | .bl n => fun J fs ca k N sc W X C x h => ((good_E (.bl n) C (fun _ => rfl) x h).1).weaken fun _ _ _ q => tX_tS rfl q
  | .non => fun J fs ca k N sc W X C x h => ((good_E .non C (fun _ => rfl) x h).1).weaken fun _ _ _ q => tX_tS rfl q
  | .op2 o a b => fun J fs ca k N sc W X C x h => ((good_E (.op2 o a b) C (fun _ => rfl) x h).1).weaken fun _ _ _ q => tX_tS rfl q
  | .op1 o a => fun J fs ca k N sc W X C x h => ((good_E (.op1 o a) C (fun _ => rfl) x h).1).weaken fun _ _ _ q => tX_tS rfl q
  | .and a b => fun J fs ca k N sc W X C x h => ((good_E (.and a b) C (fun _ => rfl) x h).1).weaken fun _ _ _ q => tX_tS rfl q
  | .or a b => fun J fs ca k N sc W X C x h => ((good_E (.or a b) C (fun _ => rfl) x h).1).weaken fun _ _ _ q => tX_tS rfl q
  | .ite c a b => fun J fs ca k N sc W X C x h => ((good_E (.ite c a b) C (fun _ => rfl) x h).1).weaken fun _ _ _ q => tX_tS rfl q
  | .cmp3 o p a b c => fun J fs ca k N sc W X C x h => ((good_E (.cmp3 o p a b c) C (fun _ => rfl) x h).1).weaken fun _ _ _ q => tX_tS rfl q
  | .bi f as => fun J fs ca k N sc W X C x h => ((good_E (.bi f as) C (fun _ => rfl) x h).1).weaken fun _ _ _ q => tX_tS rfl q
  | .mt m o as => fun J fs ca k N sc W X C x h => ((good_E (.mt m o as) C (fun _ => rfl) x h).1).weaken fun _ _ _ q => tX_tS rfl q
  | .sub o i => fun J fs ca k N sc W X C x h => ((good_E (.sub o i) C (fun _ => rfl) x h).1).weaken fun _ _ _ q => tX_tS rfl q
  | .slc o l r => fun J fs ca k N sc W X C x h => ((good_E (.slc o l r) C (fun _ => rfl) x h).1).weaken fun _ _ _ q => tX_tS rfl q
  | .rev o => fun J fs ca k N sc W X C x h => ((good_E (.rev o) C (fun _ => rfl) x h).1).weaken fun _ _ _ q => tX_tS rfl q
  | .call f as => fun J fs ca k N sc W X C x h => ((good_E (.call f as) C (fun _ => rfl) x h).1).weaken fun _ _ _ q => tX_tS rfl q
  | .ref i => fun J fs ca k N sc W X C x h => ((good_E (.ref i) C (fun _ => rfl) x h).1).weaken fun _ _ _ q => tX_tS rfl q
  | .scr i => fun J fs ca k N sc W X C x h => ((good_E (.scr i) C (fun _ => rfl) x h).1).weaken fun _ _ _ q => tX_tS rfl q
  | .scrL i => fun J fs ca k N sc W X C x h => ((good_E (.scrL i) C (fun _ => rfl) x h).1).weaken fun _ _ _ q => tX_tS rfl q
  | .pop0 i => fun J fs ca k N sc W X C x h => ((good_E (.pop0 i) C (fun _ => rfl) x h).1).weaken fun _ _ _ q => tX_tS rfl q
  | .pop1 i e => fun J fs ca k N sc W X C x h => ((good_E (.pop1 i e) C (fun _ => rfl) x h).1).weaken fun _ _ _ q => tX_tS rfl q
  | .comp a b c d e f => fun J fs ca k N sc W X C x h => ((good_E (.comp a b c d e f) C (fun _ => rfl) x h).1).weaken fun _ _ _ q => tX_tS rfl q
  | .rng a b => fun J fs ca k N sc W X C x h => ((good_E (.rng a b) C (fun _ => rfl) x h).1).weaken fun _ _ _ q => tX_tS rfl q
  | .rng1 b => fun J fs ca k N sc W X C x h => ((good_E (.rng1 b) C (fun _ => rfl) x h).1).weaken fun _ _ _ q => tX_tS rfl q
  | .isBool e => fun J fs ca k N sc W X C x h => ((good_E (.isBool e) C (fun _ => rfl) x h).1).weaken fun _ _ _ q => tX_tS rfl q
  | .isTup e => fun J fs ca k N sc W X C x h => ((good_E (.isTup e) C (fun _ => rfl) x h).1).weaken fun _ _ _ q => tX_tS rfl q
  | .isInt e => fun J fs ca k N sc W X C x h => ((good_E (.isInt e) C (fun _ => rfl) x h).1).weaken fun _ _ _ q => tX_tS rfl q
  | .sset e => fun J fs ca k N sc W X C x h => ((good_E (.sset e) C (fun _ => rfl) x h).1).weaken fun _ _ _ q => tX_tS rfl q
theorem good_Xs : ∀ (es : Es) ⦃J : Info⦄ ⦃fs : List Fn⦄ ⦃ca : Nat → Addr⦄ ⦃k : Nat⦄ ⦃N : List Str⦄ ⦃sc : Scope⦄ ⦃W : WX⦄ ⦃X : Cx⦄, Cxt J fs ca k N sc W X → ∀ xs, mEs J N es sc xs = true → PA X xs (tXs X.K ca (runF fs k) W es)
  | .nil => fun J fs ca k N sc W X C xs h => by
    simp only [mEs] at h
    split at h <;> try (cases h; done)
    refine pa_nil.weaken fun σ H Q ⟨ρ, A, rep, q⟩ => ?_
    simp only [evXs] at q
    exact q [] H A rep (Stp.refl _ _) ⟨fun _ => ⟨[], .nil, .nil, fun _ m => by simp at m, fun _ m => by simp at m⟩, [], .nil, fun _ m => by simp at m⟩ fun z => by cases z
  | .cons e r => fun J fs ca k N sc W X C xs h => by
    have ge := good_X e C
    have gr := good_Xs r C
    simp only [mEs] at h
    split at h <;> try (cases h; done)
    simp only [Bool.and_eq_true] at h
    obtain ⟨⟨pl, h1⟩, h2⟩ := h
    refine (pa_cons (ge _ h1) (gr _ h2) (star_of pl)).weaken fun σ H Q ⟨ρ, A, rep, q⟩ => ?_
    simp only [evXs] at q
    refine tX_first rep (Stp.refl _ _) rep q fun x ρ1 v1 H1 A1 r1 s1 rv1 q => ?_
    refine tXs_first rep s1 r1 q fun ys ρ2 vs2 H2 A2 r2 s2 rv2 q => ?_
    dsimp only at q
    split at q
    · rename_i hk
      refine q _ H2 A2 r2 (Stp.trans rep s1 s2) (RVs.cons (ef := true) rep s1 r1 s2 (fun z => by cases z) (by simpa [keeps] using hk) rv1 rv2 (fun i hi => ?_) fun i hi => ?_) fun z => by cases z
      · exact (List.mem_append.mp hi).elim (fun m => List.mem_append_left _ (List.mem_append_left _ m)) fun m => List.mem_append_right _ m
      · exact (List.mem_append.mp hi).elim (fun m => List.mem_append_left _ (List.mem_append_right _ m)) fun m => List.mem_append_right _ m
    · exact q.elim
end
end
/-! ### what a statement promises -/
/-- the slots io stay -/
def Fx (io : List Nat) (σ σ' : L2.St) : Prop := σ'.length = σ.length ∧ ∀ j ∈ io, σ'[j]? = σ[j]?
theorem Fx.refl (io : List Nat) (σ : L2.St) : Fx io σ σ := ⟨rfl, fun _ _ => rfl⟩
theorem Fx.trans {io : List Nat} {σ σ1 σ2 : L2.St} (a : Fx io σ σ1) (b : Fx io σ1 σ2) : Fx io σ σ2 := ⟨b.1.trans a.1, fun j hj => (b.2 j hj).trans (a.2 j hj)⟩
def ExS (K : PySem.W.Frag) (ca : Nat → Addr) (H : Hp) (A : Own) (W : WX) (σ : L2.St) (c : Nat) (k p : D) : Prop := ExQ K ca H A (fun a b H' => ∀ σ' : L2.St, σ'.length = σ.length → W a b σ' H') c k p
def RetV (K : PySem.W.Frag) (H : Hp) (A : Own) (H' : Hp) (A' : Own) (v : V) (d : D) : Prop := ∃ as, DpR K H' v d as ∧ as.Nodup ∧ (∀ a ∈ as, ¬ Bd A' a ∧ a ∉ A'.fr) ∧ ∀ a ∈ as, Bd A a ∨ H a = none
def OutQ (K : PySem.W.Frag) (io : List Nat) (σ : L2.St) (H : Hp) (A : Own) (Z : Ends) : Out × PV.Env → Prop
  | (.nx, ρ') => ∀ σ' H' A', Rep K H' [] σ' ρ' A' → Stp0 H A H' A' → Fx io σ σ' → Z.nx σ' H'
  | (.brk, ρ') => ∀ σ' H' A', Rep K H' [] σ' ρ' A' → Stp0 H A H' A' → Fx io σ σ' → Z.bk σ' H'
  | (.cnt, ρ') => ∀ σ' H' A', Rep K H' [] σ' ρ' A' → Stp0 H A H' A' → Fx io σ σ' → Z.ct σ' H'
  | (.ret d, ρ') => ∀ v σ' H' A', Rep K H' [] σ' ρ' A' → Stp0 H A H' A' → Fx io σ σ' → RetV K H A H' A' v d → Z.rt v H'
def RS (K : PySem.W.Frag) (ca : Nat → Addr) (W : WX) (io : List Nat) (σ : L2.St) (H : Hp) (A : Own) (Z : Ends) : Res (Out × PV.Env) → Prop
  | .ok x => OutQ K io σ H A Z x
  | .exc c k p => ExS K ca H A W σ c k p
  | .stuck => False
section
variable {K : PySem.W.Frag} {ca : Nat → Addr} {cf : CF} {W : WX} {io : List Nat} {σ σ1 : L2.St} {H H1 : Hp} {A A1 : Own} {ρ ρ1 : PV.Env} {Z : Ends}
theorem ExQ.before0 {E : Value → Option Addr → Hp → Prop} {c : Nat} {k p : D} (s : Stp0 H A H1 A1) (h : ExQ K ca H A E c k p) : ExQ K ca H1 A1 E c k p := fun d H' cv pv h1 h0 h2 h3 h4 h5 =>
  h d H' cv pv (fun a o e n => h1 a o (s.keep a o e n) fun b => (s.own a b).elim n fun q => by rw [e] at q; cases q) (fun a e => s.the a (h0 a e)) (s.the d h2) h3 h4 h5
theorem ExS.later {c : Nat} {k p : D} (s : Stp0 H A H1 A1) (f : σ1.length = σ.length) (h : ExS K ca H A W σ c k p) : ExS K ca H1 A1 W σ1 c k p :=
  (ExQ.before0 s h).imp fun a b H' q σ' e => q σ' (e.trans f)
theorem RetV.since {H2 : Hp} {A2 : Own} {v : V} {d : D} (s : Stp0 H A H1 A1) (h : RetV K H1 A1 H2 A2 v d) : RetV K H A H2 A2 v d := by
  obtain ⟨as, h1, h2, h3, h4⟩ := h
  exact ⟨as, h1, h2, h3, fun a ha => (h4 a ha).elim (s.own a) fun q => .inr (s.the a q)⟩
theorem RS.later {res : Res (Out × PV.Env)} (s : Stp0 H A H1 A1) (f : Fx io σ σ1) (h : RS K ca W io σ H A Z res) : RS K ca W io σ1 H1 A1 Z res := by
  rcases res with ⟨o, ρ'⟩ | ⟨c, k, p⟩ | _
  · cases o with
    | nx => exact fun σ' H' A' r t g => h σ' H' A' r (s.trans t) (f.trans g)
    | brk => exact fun σ' H' A' r t g => h σ' H' A' r (s.trans t) (f.trans g)
    | cnt => exact fun σ' H' A' r t g => h σ' H' A' r (s.trans t) (f.trans g)
    | ret d => exact fun v σ' H' A' r t g rv => h v σ' H' A' r (s.trans t) (f.trans g) (rv.since s)
  · exact ExS.later s f.1 h
  · exact h
theorem ExS.at {c : Nat} {k p : D} (h : ExS K ca H A W σ c k p) : ExQ K ca H A (fun a b H' => W a b σ H') c k p := ExQ.imp h fun a b H' q => q σ rfl
theorem sX {a : E} {f : R × PV.Env → Res (Out × PV.Env)} {Q1 : VK} (rep : Rep K H [] σ ρ A) (h : RS K ca W io σ H A Z (evX cf a ρ >>= f))
    (hq : ∀ r ρ1 v H1 A1, Rep K H1 [] σ ρ1 A1 → Stp H A H1 A1 → RVal K H A H1 A1 (vars a ++ []) v r → RS K ca W io σ H A Z (f (r, ρ1)) → Q1 v H1) : tX K ca cf W a σ H Q1 := by
  refine ⟨ρ, A, rep, ?_⟩
  rcases e : evX cf a ρ with ⟨r, ρ1⟩ | ⟨c, k, p⟩ | _
  · rw [e] at h
    exact fun v H1 A1 r1 s1 rv _ => hq r ρ1 v H1 A1 r1 s1 rv h
  · rw [e] at h
    exact ExS.at h
  · rw [e] at h
    exact h
theorem sE {a : E} {f : R × PV.Env → Res (Out × PV.Env)} {Q1 : VK} (rep : Rep K H [] σ ρ A) (h : RS K ca W io σ H A Z (ev cf a ρ >>= f))
    (hq : ∀ r ρ1 v H1 A1, Rep K H1 [] σ ρ1 A1 → Stp H A H1 A1 → RVal K H A H1 A1 (vars a ++ []) v r → (eff a = false → A1 = A ∧ Same H H1) → RS K ca W io σ H A Z (f (r, ρ1)) → Q1 v H1) : tS K ca cf [] W a σ H Q1 := by
  refine ⟨ρ, A, rep, ?_⟩
  rw [rn_rg]
  rcases e : ev cf a ρ with ⟨r, ρ1⟩ | ⟨c, k, p⟩ | _
  · rw [e] at h
    exact fun v H1 A1 r1 s1 rv ef => hq r ρ1 v H1 A1 r1 s1 rv ef h
  · rw [e] at h
    exact ExS.at h
  · rw [e] at h
    exact h
theorem sT {a : E} {f : Bool × PV.Env → Res (Out × PV.Env)} {Q1 : Bool → Hp → Prop} (rep : Rep K H [] σ ρ A) (h : RS K ca W io σ H A Z (ev cf a ρ >>= fun x => asBool x.1.2 >>= fun b => f (b, x.2)))
    (hq : ∀ b ρ1 H1 A1, Rep K H1 [] σ ρ1 A1 → Stp H A H1 A1 → RS K ca W io σ H A Z (f (b, ρ1)) → Q1 b H1) : tT K ca cf [] W a σ H Q1 := by
  refine ⟨ρ, A, rep, ?_⟩
  rcases e : ev cf a ρ with ⟨⟨o, d⟩, ρ1⟩ | ⟨c, k, p⟩ | _
  · rw [e] at h
    cases d <;> try exact h
    exact fun H1 A1 r1 s1 ef1 => hq _ ρ1 H1 A1 r1 s1 h
  · rw [e] at h
    exact ExS.at h
  · rw [e] at h
    exact h
theorem sI {a : PV.It} {f : List D × PV.Env → Res (Out × PV.Env)} {R1 : L2.It → Hp → Prop} (rep : Rep K H [] σ ρ A) (h : RS K ca W io σ H A Z (evi cf a ρ >>= f))
    (hq : ∀ ds ρ1 J H1 A1 F, Rep K H1 [] σ ρ1 A1 → Stp H A H1 A1 → ItFor K J H1 ds F → (∀ a' ∈ F, ∀ i, i ∉ varsi a ++ [] → a' ∉ A1 i) → (∀ a' ∈ F, ∃ xs, H1 a' = some (.lst xs)) → RS K ca W io σ H A Z (f (ds, ρ1)) → R1 J H1) : tIt K ca cf [] W a σ H R1 := by
  refine ⟨ρ, A, rep, ?_⟩
  rcases e : evi cf a ρ with ⟨r, ρ1⟩ | ⟨c, k, p⟩ | _
  · rw [e] at h
    exact fun J H1 A1 F r1 s1 it av tr ef1 => hq r ρ1 J H1 A1 F r1 s1 it av tr h
  · rw [e] at h
    exact ExS.at h
  · rw [e] at h
    exact h
theorem RS.pure {α : Type} {x : Res α} {f : α → Res (Out × PV.Env)} (hx : NE x) (h : RS K ca W io σ H A Z (x >>= f)) : ∃ b, x = .ok b ∧ RS K ca W io σ H A Z (f b) := by
  cases x with
  | ok b => exact ⟨b, rfl, h⟩
  | exc c k p => exact absurd rfl (hx c k p)
  | stuck => exact h.elim
theorem RS.ite {c : Bool} {x : Res (Out × PV.Env)} (h : RS K ca W io σ H A Z (if c = true then x else .stuck)) : c = true ∧ RS K ca W io σ H A Z x := by
  cases c with
  | true => exact ⟨rfl, h⟩
  | false => exact h.elim
def tStm (K : PySem.W.Frag) (ca : Nat → Addr) (cf : CF) (W : WX) (io : List Nat) (s : S) : TS := fun Z σ H => ∃ ρ A, Rep K H [] σ ρ A ∧ RS K ca W io σ H A Z (exec cf s ρ)
def tStms (K : PySem.W.Frag) (ca : Nat → Addr) (cf : CF) (W : WX) (io : List Nat) (s : Ss) : TS := fun Z σ H => ∃ ρ A, Rep K H [] σ ρ A ∧ RS K ca W io σ H A Z (execs cf s ρ)
end
end PV
set_option Elab.async false
set_option linter.all false
set_option maxRecDepth 100000
set_option maxHeartbeats 1000000
/-! PV24: statements, one by one. -/
namespace PV
open PySem PySem.Spec PyProof.Rows L2
def notLC : Expr → Bool
  | .ListComp .. => false
  | _ => true
def notTL : Expr → Bool
  | .Tuple .. => false
  | .List .. => false
  | _ => true
theorem swaps_no {x : Expr} {t : Option Expr} {l : Nat} {env : PySem.Env} (h : plainX x = true) (n : notLC x = true) : swapsWith x t l env = pure false := by
  cases x <;> first | rfl | (simp [plainX] at h; done) | (simp [notLC] at n; done)
def cellN (sc : Scope) : Expr → Bool
  | .Name y _ => match sc.names.lookup y with
    | some .cell => true
    | _ => false
  | _ => false
theorem swaps_cell {x y : Expr} {l : Nat} {env : PySem.Env} (h : cellN env.scope y = true) : swapsWith x (some y) l env = pure false := by
  unfold cellN at h
  split at h
  · rename_i y p
    split at h
    · rename_i e
      have ky : env.kindOf y = some .cell := e
      unfold swapsWith
      cases x <;> first | rfl | (simp only [ky]; simp [show (NameKind.cell == NameKind.local) = false from by decide])
    · cases h
  · cases h
structure CxS (J : Info) (fs : List Fn) (ca : Nat → Addr) (k : Nat) (N : List Str) (sc : Scope) (W : WX) (X : Cx) : Prop where
  C : Cxt J fs ca k N sc W X
  own : PassesOwn (model X.prog X.w) X.A X.env X.xe
  fn1 : ∀ y, X.fn y = true
section
variable {K : PySem.W.Frag} {σ : L2.St} {H H1 : Hp} {A A1 : Own} {ρ ρ1 : PV.Env}
theorem store_okP {i : Nat} {v : V} {r : R} {vs : List Nat} (rep : Rep K H1 [] σ ρ1 A1) (nb : noBor ρ1 = true) (st : Stp0 H A H1 A1) (rv : RVal K H A H1 A1 (vs ++ []) v r) : ∃ A2, Rep K H1 [] (σ.set i (some v)) (store ρ1 i r vs) A2 ∧ Stp0 H A H1 A2 := by
  have drop : ∀ {B : Own} {ρ' : PV.Env}, Stp0 H A H1 B → Stp0 H A H1 (B.put i []) := fun {B ρ'} s => ⟨fun a ⟨j, hj⟩ => by
    by_cases hji : j = i
    · rw [hji, Own.put_same] at hj; simp at hj
    · rw [Own.put_ne _ _ hji] at hj; exact s.own a ⟨j, hj⟩, s.keep, s.the⟩
  unfold store
  by_cases ho : (r.1 || imm r.2) = true
  · rw [if_pos ho]
    have item : ∃ as, DpR K H1 v r.2 as ∧ as.Nodup ∧ (∀ a ∈ as, ¬ Bd A1 a ∧ a ∉ A1.fr) ∧ ∀ a ∈ as, Bd A a ∨ H a = none := by
      by_cases hi : imm r.2 = true
      · obtain ⟨as, d1, _⟩ := rv.any
        have e0 := d1.imm hi
        subst e0
        exact ⟨[], d1, .nil, fun _ m => by simp at m, fun _ m => by simp at m⟩
      · rcases rv with ⟨_, as, h1, h2, h3, h4⟩ | ⟨e0, _⟩
        · exact ⟨as, h1, h2, h3, h4⟩
        · rw [e0] at ho
          exact absurd (by simpa using ho) hi
    obtain ⟨as, d1, d2, d3, d4⟩ := item
    by_cases hl : i < ρ1.length
    · refine ⟨A1.put i as, rep.put ?_ (fun z => absurd rfl (z r.2)) (.inr nb) (fun a ha j _ q => (d3 a ha).1 ⟨j, q⟩) d1.trk (fun a ha => (d3 a ha).2) hl, fun a ⟨j, hj⟩ => ?_, st.keep, st.the⟩
      · show DpR K H1 v r.2 ((A1.put i as) i) ∧ _
        rw [Own.put_same]
        exact ⟨d1, d2⟩
      · by_cases hji : j = i
        · rw [hji, Own.put_same] at hj; exact d4 a hj
        · rw [Own.put_ne _ _ hji] at hj; exact st.own a ⟨j, hj⟩
    · exact ⟨A1.put i [], rep.putNo hl, drop (ρ' := ρ1) st⟩
  · rw [if_neg ho]
    rcases rv with ⟨e0, _⟩ | ⟨e0, as, d1, d2⟩
    · rw [e0] at ho; exact absurd rfl ho
    · have rf := rep.frz vs (F := as) fun a ha => ⟨d1.trk a ha, fun j hj => d2 a ha j (by rw [List.append_nil]; exact hj)⟩
      have sf : Stp0 H A H1 (A1.frz vs as) := ⟨fun a hb => by
        obtain ⟨j, _, m⟩ := frz_bd hb
        exact st.own a ⟨j, m⟩, st.keep, st.the⟩
      refine ⟨(A1.frz vs as).put i [], ?_, drop (ρ' := ρ1) sf⟩
      by_cases hl : i < (freezes ρ1 vs).length
      · refine rf.put ?_ (fun _ => rfl) (.inl rfl) (fun a h => by simp at h) (fun a h => by simp at h) (fun a h => by simp at h) hl
        exact ⟨as, d1, fun a ha => List.mem_append_left _ ha⟩
      · exact rf.putNo hl
end
section
variable {J : Info} {fs : List Fn} {ca : Nat → Addr} {k : Nat} {N : List Str} {sc : Scope} {W : WX} {X : Cx} {io : List Nat}
abbrev SS (ca : Nat → Addr) (fs : List Fn) (k : Nat) (W : WX) (io : List Nat) (X : Cx) (s : S) (x : Stmt) : Prop := PS X x (tStm X.K ca (runF fs k) W io s)
abbrev SSs (ca : Nat → Addr) (fs : List Fn) (k : Nat) (W : WX) (io : List Nat) (X : Cx) (s : Ss) (x : List Stmt) : Prop := PSs X x (tStms X.K ca (runF fs k) W io s)
theorem _root_.L2.PS.weaken {X : Cx} {e : Stmt} {t t' : TS} (h : PS X e t) (w : ∀ Z σ H, t' Z σ H → t Z σ H) : PS X e t' := ⟨fun pins s σ H Z I q => h.run pins s σ H Z I (w Z σ H q)⟩
theorem _root_.L2.PSs.weaken {X : Cx} {e : List Stmt} {t t' : TS} (h : PSs X e t) (w : ∀ Z σ H, t' Z σ H → t Z σ H) : PSs X e t' := ⟨fun pins s σ H Z I q => h.run pins s σ H Z I (w Z σ H q)⟩
theorem fx_set {i : Nat} {v : V} {σ : L2.St} (h : io.contains i = false) : Fx io σ (σ.set i (some v)) := ⟨by rw [List.length_set], fun j hj => by
  rw [List.getElem?_set_ne]
  intro z
  rw [z, List.contains_iff_mem.mpr hj] at h
  cases h⟩
/-- name = value, by the value's reading -/
theorem w_asg {e : E} {i : Nat} {Z : Ends} {σ : L2.St} {H : Hp} (hio : io.contains i = false) (h : tStm X.K ca (runF fs k) W io (.asg i e) Z σ H) : tAsg (tX X.K ca (runF fs k) W e) (gName i) Z σ H := by
  obtain ⟨ρ, A, rep, q⟩ := h
  simp only [exec] at q
  refine sX rep q fun r ρ1 v H1 A1 r1 s1 rv q => ?_
  dsimp only at q
  obtain ⟨nb, q⟩ := RS.ite q
  obtain ⟨A2, r2, s2⟩ := store_okP (i := i) r1 nb s1.z rv
  exact q _ H1 A2 r2 s2 (fx_set hio)
theorem st_asg {e : E} {i : Nat} {y : Expr} {x : Expr} {pos : Pos} (Q : CxS J fs ca k N sc W X) (ht : tgtB (fun _ => true) N sc y i = true) (hio : io.contains i = false) (hsw : ∀ l, swapsWith x (some y) l X.env = pure false) (he : mE J N e sc x = true) : SS ca fs k W io X (.asg i e) (.Assign [y] x pos) := by
  unfold tgtB at ht
  split at ht
  · rename_i y p
    simp only [Bool.and_eq_true, decide_eq_true_eq] at ht
    obtain ⟨⟨h1, h2⟩, _⟩ := ht
    have hx : Loc X.env.scope y := by
      rw [Q.C.sc]
      split at h2 <;> rename_i e <;> first | exact .inl e | exact .inr e | cases h2
    exact (ps_set Q.C.nd (by rw [Q.C.N]; exact h1) hx (good_X e Q.C x he) (hsw _) (.inl (Q.fn1 y))).weaken fun Z σ H h => w_asg hio h
  · cases ht
theorem st_asgT {e : E} {is : List Nat} {y : Expr} {x : Expr} {pos : Pos} (Q : CxS J fs ca k N sc W X) (ht : targetB (fun _ => true) N sc y is false = true) (hio : is.all (fun i => !io.contains i) = true) (px : plainX x = true) (nl : notLC x = true) (nt : notTL x = true) (he : mE J N e sc x = true) : SS ca fs k W io X (.asgT is e) (.Assign [y] x pos) := by
  obtain ⟨es, kk, p, ey⟩ := single_tup ht rfl
  have g := pg_tgt (kc := .bor) (S := []) (fun d d' => by simp) Q.C (fun y _ => Q.fn1 y) ht
  subst ey
  refine (ps_asg (pos := pos) (good_X e Q.C x he) g (show swapsWithSole [.Tuple es kk p] x pos.line X.env = pure false from swaps_no (t := some (.Tuple es kk p)) (l := pos.line) (env := X.env) px nl) (by cases x <;> first | rfl | (simp [notTL] at nt; done)) rfl).weaken fun Z σ H ⟨ρ, A, rep, q⟩ => ?_
  simp only [exec] at q
  refine sX rep q fun r ρ1 v H1 A1 r1 s1 rv q => ?_
  dsimp only at q
  obtain ⟨him, q⟩ := RS.ite q
  obtain ⟨as, d1, _⟩ := rv.any
  have := d1.imm him
  subst this
  have ne : NE (bindT .bor is false r.2 ρ1) := by
    intro c k p z
    unfold bindT at z
    simp only [Bool.false_eq_true, if_false] at z
    split at z
    · split at z <;> cases z
    · cases z
  obtain ⟨ρ2, e2, q⟩ := RS.pure ne q
  refine ⟨ρ1, A1, r.2, [], ρ2, r1, d1, fun B _ _ => kok_bor (fun a h => by simp at h), e2, fun σ2 r2 o2 l2 => ?_⟩
  refine q _ H1 _ r2 ⟨fun a ⟨j, hj⟩ => s1.own a ⟨j, Own.wip_sub hj⟩, s1.keep, s1.the⟩ ⟨l2, fun j hj => o2 j fun m => ?_⟩
  have := List.all_eq_true.mp hio j m
  rw [List.contains_iff_mem.mpr hj] at this
  cases this
theorem st_ex {e : E} {x : Expr} {pos : Pos} (Q : CxS J fs ca k N sc W X) (px : plainX x = true) (nl : notLC x = true) (he : mE J N e sc x = true) : SS ca fs k W io X (.ex e) (.Expr x pos) := by
  refine (ps_expr (good_E e Q.C (fun _ => rfl) x he).1 (swaps_no px nl)).weaken fun Z σ H ⟨ρ, A, rep, q⟩ => ?_
  simp only [exec] at q
  refine sE rep q fun r ρ1 v H1 A1 r1 s1 rv ef q => ?_
  exact q σ H1 A1 r1 s1.z (Fx.refl _ _)
theorem st_ret {e : E} {x : Expr} {pos : Pos} (Q : CxS J fs ca k N sc W X) (he : mE J N e sc x = true) : SS ca fs k W io X (.ret e) (.Return (some x) pos) := by
  refine (ps_ret (good_X e Q.C x he)).weaken fun Z σ H ⟨ρ, A, rep, q⟩ => ?_
  simp only [exec] at q
  refine sX rep q fun r ρ1 v H1 A1 r1 s1 rv q => ?_
  dsimp only at q
  obtain ⟨ho, q⟩ := RS.ite q
  refine q v σ H1 A1 r1 s1.z (Fx.refl _ _) ?_
  by_cases hi : imm r.2 = true
  · obtain ⟨as, d1, _⟩ := rv.any
    have e0 := d1.imm hi
    subst e0
    exact ⟨[], d1, .nil, fun _ m => by simp at m, fun _ m => by simp at m⟩
  · rcases rv with ⟨_, as, h1, h2, h3, h4⟩ | ⟨e0, _⟩
    · exact ⟨as, h1, h2, h3, h4⟩
    · rw [e0] at ho
      exact absurd (by simpa using ho) hi
theorem st_retN {pos : Pos} : SS ca fs k W io X .retN (.Return none pos) := by
  refine ps_retN.weaken fun Z σ H ⟨ρ, A, rep, q⟩ => ?_
  simp only [exec] at q
  exact q .non σ H A rep (Stp.refl _ _).z (Fx.refl _ _) ⟨[], .non, .nil, fun _ m => by simp at m, fun _ m => by simp at m⟩
theorem st_pass {pos : Pos} : SS ca fs k W io X .pass (.Pass pos) := ps_pass.weaken fun Z σ H ⟨ρ, A, rep, q⟩ => q σ H A rep (Stp.refl _ _).z (Fx.refl _ _)
theorem st_brk {pos : Pos} : SS ca fs k W io X .brk (.Break pos) := ps_break.weaken fun Z σ H ⟨ρ, A, rep, q⟩ => q σ H A rep (Stp.refl _ _).z (Fx.refl _ _)
theorem st_cnt {pos : Pos} : SS ca fs k W io X .cnt (.Continue pos) := ps_continue.weaken fun Z σ H ⟨ρ, A, rep, q⟩ => q σ H A rep (Stp.refl _ _).z (Fx.refl _ _)
theorem sts_nil : SSs ca fs k W io X .nil [] := pss_nil.weaken fun Z σ H ⟨ρ, A, rep, q⟩ => q σ H A rep (Stp.refl _ _).z (Fx.refl _ _)
theorem sts_cons {s : S} {r : Ss} {x : Stmt} {xs : List Stmt} (i1 : SS ca fs k W io X s x) (i2 : SSs ca fs k W io X r xs) : SSs ca fs k W io X (.cons s r) (x :: xs) := by
  refine (pss_cons i1 i2).weaken fun Z σ H ⟨ρ, A, rep, q⟩ => ?_
  simp only [execs] at q
  refine ⟨ρ, A, rep, ?_⟩
  rcases e : exec (runF fs k) s ρ with ⟨o, ρ1⟩ | ⟨c, kk, p⟩ | _
  · rw [e] at q
    simp only [bind_ok] at q
    cases o with
    | nx => exact fun σ' H' A' r1 t g => ⟨ρ1, A', r1, q.later t g⟩
    | brk => exact q
    | cnt => exact q
    | ret d => exact q
  · rw [e] at q; exact q
  · rw [e] at q; exact q
theorem st_if {c : E} {a b : Ss} {x : Expr} {xs ys : List Stmt} {pos : Pos} (Q : CxS J fs ca k N sc W X) (he : mE J N c sc x = true) (ia : SSs ca fs k W io X a xs) (ib : SSs ca fs k W io X b ys) : SS ca fs k W io X (.iff c a b) (.If x xs ys pos) := by
  refine (ps_if (good_E c Q.C (fun _ => rfl) x he).2 ia ib).weaken fun Z σ H ⟨ρ, A, rep, q⟩ => ?_
  simp only [exec] at q
  refine sT (f := fun z => if z.1 = true then execs (runF fs k) a z.2 else execs (runF fs k) b z.2) rep q fun t ρ1 H1 A1 r1 s1 q => ?_
  cases t with
  | true => exact ⟨ρ1, A1, r1, q.later s1.z (Fx.refl _ _)⟩
  | false => exact ⟨ρ1, A1, r1, q.later s1.z (Fx.refl _ _)⟩
end
end PV
set_option Elab.async false
set_option linter.all false
set_option maxRecDepth 100000
set_option maxHeartbeats 1000000
/-! PV25: loops; comprehensions stored; lists changed. -/
namespace PV
open PySem PySem.Spec PyProof.Rows L2
section
variable {J : Info} {fs : List Fn} {ca : Nat → Addr} {k : Nat} {N : List Str} {sc : Scope} {W : WX} {X : Cx} {io : List Nat}
theorem forL_ne {f : D → PV.Env → Res (Out × PV.Env)} {d : D} {ds : List D} {ρ : PV.Env} : forL f (d :: ds) ρ = (f d ρ >>= fun x => match x.1 with
    | .ret r => .ok (.ret r, x.2)
    | .brk => .ok (.nx, x.2)
    | _ => forL f ds x.2) := by
  simp only [forL] <;> rfl
/-- the body's end, with what follows it in a loop -/
theorem RS.turn {K : PySem.W.Frag} {σ : L2.St} {H : Hp} {A : Own} {Z : Ends} {res : Res (Out × PV.Env)} {next : PV.Env → Res (Out × PV.Env)} {Nn : L2.St → Hp → Prop}
    (h : RS K ca W io σ H A Z (res >>= fun x => match x.1 with
      | .ret r => .ok (.ret r, x.2)
      | .brk => .ok (.nx, x.2)
      | _ => next x.2))
    (hn : ∀ σ' H' A' ρ', Rep K H' [] σ' ρ' A' → Stp0 H A H' A' → Fx io σ σ' → RS K ca W io σ' H' A' Z (next ρ') → Nn σ' H') : RS K ca W io σ H A { Z with nx := Nn, ct := Nn, bk := Z.nx } res := by
  rcases res with ⟨o, ρ'⟩ | ⟨c, kk, p⟩ | _
  · cases o with
    | nx => exact fun σ' H' A' r s f => hn σ' H' A' ρ' r s f (RS.later s f h)
    | cnt => exact fun σ' H' A' r s f => hn σ' H' A' ρ' r s f (RS.later s f h)
    | brk => exact h
    | ret d => exact h
  · exact h
  · exact h
theorem st_for {tgt : List Nat} {single : Bool} {it : PV.It} {b : Ss} {t x : Expr} {body : List Stmt} {pos : Pos} (Q : CxS J fs ca k N sc W X) (ht : targetB (fun _ => true) N sc t tgt single = true) (hio : tgt.all (fun i => !io.contains i) = true) (hp : pairB single it = true) (hi : mI J N it sc x = true)
    (ib : SSs ca fs k W io X b body) : SS ca fs k W io X (.for tgt single it b) (.For t x body [] pos) := by
  have g := pg_tgt (kc := .fz) (S := []) (fun d d' => by simp) Q.C (fun y _ => Q.fn1 y) ht
  refine (ps_for Q.own Q.C.calm (good_I it Q.C (fun _ => rfl) x t hi single hp (single_tup ht)) g ib (plain_iter (mI_plain hi))).weaken fun Z σ H ⟨ρ, A, rep, q⟩ => ?_
  simp only [exec] at q
  refine sI rep q fun ds ρ1 JJ H1 A1 F r1 s1 it1 av1 tr1 q => ?_
  dsimp only at q
  generalize hf : (fun (d : D) (σ : PV.Env) => bindT Cell.fz tgt single d σ >>= fun σ1 => execs (runF fs k) b σ1) = f at q
  have rf := r1.frz (varsi it) (F := F) fun a ha => ⟨tr1 a ha, fun j hj => av1 a ha j (by rw [List.append_nil]; exact hj)⟩
  generalize hA2 : A1.frz (varsi it) F = A2 at rf
  have s12 : Stp0 H1 A1 H1 A2 := ⟨fun a hb => by
    rw [← hA2] at hb
    obtain ⟨j, _, m⟩ := frz_bd hb
    exact .inl ⟨j, m⟩, fun a o h _ => h, fun a h => h⟩
  have Fbd : ∀ a ∈ F, ¬ Bd A2 a := fun a ha hb => by
    rw [← hA2] at hb
    obtain ⟨j, hj, m⟩ := frz_bd hb
    exact av1 a ha j (by rw [List.append_nil]; exact hj) m
  have q0 : RS X.K ca W io σ H1 A2 Z (forL f ds (freezes ρ1 (varsi it))) := q.later (s1.z.trans s12) (Fx.refl _ _)
  let Pv : Nat → L2.St → Hp → Prop := fun i σ' H' => i ≤ ds.length ∧ ∃ ρi Ai, Rep X.K H' [] σ' ρi Ai ∧ Stp0 H1 A2 H' Ai ∧ RS X.K ca W io σ' H' Ai Z (forL f (ds.drop i) ρi)
  refine ⟨fun i m σ' H' => m = ds.length - i ∧ Pv i σ' H', ⟨ds.length, by simp, Nat.zero_le _, _, A2, rf, ⟨fun a h => .inl h, fun a o h _ => h, fun a h => h⟩, by rw [List.drop_zero]; exact q0⟩, ?_⟩
  rintro i m σi Hi ⟨rfl, hle, ρi, Ai, ri, si, qi⟩
  have itc := it1 Hi (si.fix rf) (fun a ha xs e => si.keep a _ e (Fbd a ha)) i
  by_cases hlt : i < ds.length
  · refine .inr ?_
    have hd : ds[i]? = some ds[i] := List.getElem?_eq_getElem hlt
    obtain ⟨go, yl⟩ := itc.2 _ hd
    refine ⟨go, Pv (i + 1), fun σ' H' p' => ⟨ds.length - (i + 1), by omega, rfl, p'⟩, fun v H3 y => ?_⟩
    obtain ⟨sm3, as, dx, sub⟩ := yl v H3 y
    rw [getD_drop hlt, forL_ne] at qi
    have r3 := (ri.new sm3).frz [] (F := F) fun a ha => by
      obtain ⟨xs, e⟩ := tr1 a ha
      refine ⟨⟨xs, sm3 a _ (si.keep a _ e (Fbd a ha))⟩, fun j _ hj => ?_⟩
      rcases si.own a ⟨j, hj⟩ with z | z
      · exact Fbd a ha z
      · rw [e] at z; cases z
    have e0 : freezes ρi [] = ρi := rfl
    rw [e0] at r3
    have s3 : Stp0 Hi Ai H3 (Ai.frz [] F) := ⟨fun a hb => by
      obtain ⟨j, _, m⟩ := frz_bd hb
      exact .inl ⟨j, m⟩, fun a o h _ => sm3 a o h, fun a h => same_there sm3 h⟩
    have qi3 := qi.later s3 (Fx.refl io σi)
    subst hf
    dsimp only at qi3
    have ne : NE (bindT Cell.fz tgt single ds[i] ρi) := by
      intro c k p z
      unfold bindT at z
      split at z
      · split at z <;> cases z
      · split at z
        · split at z <;> cases z
        · cases z
    have assoc : RS X.K ca W io σi H3 (Ai.frz [] F) Z (bindT Cell.fz tgt single ds[i] ρi >>= fun σ1 => (execs (runF fs k) b σ1 >>= fun x => match x.1 with
        | .ret r => .ok (.ret r, x.2)
        | .brk => .ok (.nx, x.2)
        | _ => forL (fun d σ => bindT Cell.fz tgt single d σ >>= fun σ1 => execs (runF fs k) b σ1) (ds.drop (i + 1)) x.2)) := by
      cases e : bindT Cell.fz tgt single ds[i] ρi with
      | ok ρ2 => rw [e] at qi3; exact qi3
      | exc c k p => exact absurd e (ne c k p)
      | stuck => rw [e] at qi3; exact qi3
    obtain ⟨ρ2, e2, q2⟩ := RS.pure ne assoc
    refine ⟨ρi, Ai.frz [] F, ds[i], as, ρ2, r3, dx, fun B _ hB => kok_fz fun a ha => by rw [hB]; exact List.mem_append_left _ (sub a ha), e2, fun σ2 r4 o4 l4 => ?_⟩
    have s4 : Stp0 H3 (Ai.frz [] F) H3 ((Ai.frz [] F).wip tgt) := ⟨fun a ⟨j, hj⟩ => .inl ⟨j, Own.wip_sub hj⟩, fun a o h _ => h, fun a h => h⟩
    have f4 : Fx io σi σ2 := ⟨l4, fun j hj => o4 j fun m => by
      have := List.all_eq_true.mp hio j m
      rw [List.contains_iff_mem.mpr hj] at this
      cases this⟩
    have si4 : Stp0 H1 A2 H3 ((Ai.frz [] F).wip tgt) := (si.trans s3).trans s4
    refine ⟨ρ2, _, r4, RS.turn (q2.later s4 f4) fun σ' H' A' ρ' r' s' f' q' => ⟨hlt, ρ', A', r', si4.trans s', q'⟩⟩
  · have hle' : i = ds.length := by omega
    subst hle'
    refine .inl ⟨itc.1 (Nat.le_refl _), ?_⟩
    rw [List.drop_length] at qi
    simp only [forL] at qi
    exact qi σi Hi Ai ri (Stp.refl _ _).z (Fx.refl _ _)
theorem st_whl {c : E} {b : Ss} {x : Expr} {body : List Stmt} {pos : Pos} (Q : CxS J fs ca k N sc W X) (hc : mE J N c sc x = true) (ib : SSs ca fs k W io X b body) : SS ca fs k W io X (.whl c b) (.While x body [] pos) := by
  refine (ps_while Q.own (good_E c Q.C (fun _ => rfl) x hc).2 ib).weaken fun Z σ H ⟨ρ, A, rep, q⟩ => ?_
  simp only [exec] at q
  generalize hcf : (fun σ => ev (runF fs k) c σ >>= fun x => asBool x.1.2 >>= fun b => Res.ok (b, x.2)) = cf at q
  generalize hbf : (fun σ => execs (runF fs k) b σ) = bf at q
  refine ⟨fun m σ' H' => ∃ ρ' A', Rep X.K H' [] σ' ρ' A' ∧ RS X.K ca W io σ' H' A' Z (whileL cf bf m ρ'), ⟨fuel, ρ, A, rep, q⟩, ?_⟩
  rintro m σ1 H1 ⟨ρ1, A1, r1, q1⟩
  cases m with
  | zero => exact q1.elim
  | succ m =>
    simp only [whileL] at q1
    subst hcf
    have q1' : RS X.K ca W io σ1 H1 A1 Z (ev (runF fs k) c ρ1 >>= fun x => asBool x.1.2 >>= fun t => (fun z : Bool × PV.Env => if z.1 = true then (bf z.2 >>= fun x => match x.1 with
        | .ret r => .ok (.ret r, x.2)
        | .brk => .ok (.nx, x.2)
        | _ => whileL (fun σ => ev (runF fs k) c σ >>= fun x => asBool x.1.2 >>= fun b => Res.ok (b, x.2)) bf m x.2) else .ok (.nx, z.2)) (t, x.2)) := by
      dsimp only at q1
      rcases e : ev (runF fs k) c ρ1 with ⟨⟨o, d⟩, ρx⟩ | ⟨c', kk, p⟩ | _
      · rw [e] at q1
        cases d <;> try exact q1
      · rw [e] at q1; exact q1
      · rw [e] at q1; exact q1
    refine sT (f := fun z : Bool × PV.Env => if z.1 = true then (bf z.2 >>= fun x => match x.1 with
        | .ret r => .ok (.ret r, x.2)
        | .brk => .ok (.nx, x.2)
        | _ => whileL (fun σ => ev (runF fs k) c σ >>= fun x => asBool x.1.2 >>= fun b => Res.ok (b, x.2)) bf m x.2) else .ok (.nx, z.2)) r1 q1' fun t ρ2 H2 A2 r2 s2 q2 => ?_
    cases t with
    | true =>
      rw [if_pos rfl]
      simp only [if_true] at q2
      refine ⟨fun σ' H' => ∃ ρ' A', Rep X.K H' [] σ' ρ' A' ∧ RS X.K ca W io σ' H' A' Z (whileL (fun σ => ev (runF fs k) c σ >>= fun x => asBool x.1.2 >>= fun b => Res.ok (b, x.2)) bf m ρ'), fun σ' H' p' => ⟨m, Nat.lt_succ_self _, p'⟩, ρ2, A2, r2, ?_⟩
      subst hbf
      exact RS.turn (q2.later s2.z (Fx.refl _ _)) fun σ' H' A' ρ' r' s' f' q' => ⟨ρ', A', r', q'⟩
    | false =>
      rw [if_neg (by decide)]
      simp only [Bool.false_eq_true, if_false] at q2
      exact q2 σ1 H2 A2 r2 s2.z (Fx.refl _ _)
end
end PV
set_option Elab.async false
set_option linter.all false
set_option maxRecDepth 100000
set_option maxHeartbeats 1000000
/-! PV26: a comprehension stored; lists changed. -/
namespace PV
open PySem PySem.Spec PyProof.Rows L2
section
variable {J : Info} {fs : List Fn} {ca : Nat → Addr} {k : Nat} {N : List Str} {sc : Scope} {W : WX} {X : Cx} {io : List Nat}
/-- name = [.. for ..] on one line -/
theorem st_asgC {elt : E} {tgt : List Nat} {single : Bool} {it : PV.It} {cnd : Es} {own : List Nat} {j : Nat} {y : Str} {py : Pos} {x t i : Expr} {ifs : List Expr} {scope : Scope} {pos spos : Pos} (Q : CxS J fs ca k N sc W X)
    (hy : N[j]? = some y) (hl : sc.names.lookup y = some .local) (hio : io.contains j = false) (hk : sc.kind = .function) (hline : (py.line == pos.line) = true) (hsn : (scope.names.any fun (n, k) => n == y && (k == .local || k == .cell)) = false)
    (hb : blkC N sc scope (namesOf N own) = true) (ht : targetB (fun x => scope.names.lookup x == some .cell) N (relS scope sc) t tgt single = true) (hto : tgt.all (fun i => own.contains i) = true) (hp : pairB single it = true) (hi : mI J N it sc i = true) (hc : mCs J N cnd (relS scope sc) ifs = true) (he : mE J N elt (relS scope sc) x = true) :
    SS ca fs k W io X (.asg j (.comp elt tgt single it cnd own)) (.Assign [.Name y py] (.ListComp x [⟨t, i, ifs, 0⟩] scope pos) spos) := by
  have C := Q.C
  have tg : ∀ i ∈ tgt, i ∈ own := fun i hi => by
    have := List.all_eq_true.mp hto i hi
    exact List.contains_iff_mem.mp this
  have bo : BlkOk X.N X.env.scope scope (namesOf N own) := by rw [C.N, C.sc]; exact blkOk_by hb
  have hl' : X.env.scope.names.lookup y = some .local := by rw [C.sc]; exact hl
  have sw : swapsWith (.ListComp x [⟨t, i, ifs, 0⟩] scope pos) (some (.Name y py)) spos.line X.env = pure true := sw_true (by rw [C.sc]; exact hk) hl' hline hsn
  have go : ∀ S' : List Nat, ((eff elt || effs cnd) = true → S' = []) → PS X (.Assign [.Name y py] (.ListComp x [⟨t, i, ifs, 0⟩] scope pos) spos) (tAsg (tLc (tIt X.K ca (runF fs k) [] W it) (tTg X.K S' .bor tgt single) (tTests X.K ca (runF fs k) S' cnd) (tS X.K ca (runF fs k) S' WF elt) own) (gName j)) := fun S' h1 => by
    have := ps_setLc (i := j) (py := py) (spos := spos) (pos := pos) (elt := x) (te := tS X.K ca (runF fs k) S' WF elt) (tt := tTests X.K ca (runF fs k) S' cnd) (g := tTg X.K S' .bor tgt single) C.calm C.nd (by rw [C.N]; exact hy) hl' sw (good_I it C (fun _ => rfl) i t hi single hp (single_tup ht)) bo
      (fun s H D cl fp => pg_tgt (kc := .bor) (S := S') (fun d d' => by simp) (C.blk s H scope D cl fp) (fun y hy => hy) ht)
      (fun s H D cl fp => pts_of ((good_Es cnd (C.blk s H scope D cl fp) (or_r h1)).2 ifs hc))
      (fun s H D cl fp => (good_E elt (C.blk s H scope D cl fp) (or_l h1) x he).1) (plain_iter (mI_plain hi))
    rwa [names_snd] at this
  have one : ∀ e r, cnd = .cons e r → r = .nil := by
    intro e r h
    subst h
    cases r with
    | nil => rfl
    | cons e' r' => simp [mCs] at hc
  by_cases hf : (eff elt || effs cnd) = true
  · refine (go [] (fun _ => rfl)).weaken fun Z σ H h => ?_
    exact w_compE one tg hf (tX_tS rfl (w_asg hio h))
  · have hf' : (eff elt || effs cnd) = false := by simpa using hf
    refine (go (varsi it ++ []) (fun e => absurd e hf)).weaken fun Z σ H h => ?_
    exact w_compP one tg hf' (tX_tS rfl (w_asg hio h))
theorem ixN_same (n : Nat) (i : Int) (j : Nat) (h : PV.ixN n i = some j) : L2.ixN n i = some j := by
  unfold PV.ixN at h
  unfold L2.ixN
  exact h
/-- a value that goes into a list of a name -/
theorem into {K : PySem.W.Frag} {σ : L2.St} {H H1 : Hp} {A A1 : Own} {ρ1 : PV.Env} {us : List Nat} {v : V} {r : R} (rv : RVal K H A H1 A1 us v r) (ho : (r.1 || imm r.2) = true) : ∃ as, DpR K H1 v r.2 as ∧ as.Nodup ∧ (∀ a ∈ as, ¬ Bd A1 a ∧ a ∉ A1.fr) ∧ ∀ a ∈ as, Bd A a ∨ H a = none := by
  by_cases hi : imm r.2 = true
  · obtain ⟨as, d1, _⟩ := rv.any
    have e0 := d1.imm hi
    subst e0
    exact ⟨[], d1, .nil, fun _ m => by simp at m, fun _ m => by simp at m⟩
  · rcases rv with ⟨_, as, h1, h2, h3, h4⟩ | ⟨e0, _⟩
    · exact ⟨as, h1, h2, h3, h4⟩
    · rw [e0] at ho
      exact absurd (by simpa using ho) hi
/-- .. survives a step -/
theorem into_later {K : PySem.W.Frag} {σ : L2.St} {H1 H2 : Hp} {A1 A2 : Own} {ρ1 : PV.Env} {v : V} {d : D} {as : List Addr} (r1 : Rep K H1 [] σ ρ1 A1) (t : Stp H1 A1 H2 A2) (h1 : DpR K H1 v d as) (h3 : ∀ a ∈ as, ¬ Bd A1 a ∧ a ∉ A1.fr) : DpR K H2 v d as ∧ ∀ a ∈ as, ¬ Bd A2 a ∧ a ∉ A2.fr := by
  refine ⟨h1.keep (t.fix r1) (fun a ha ys hy => t.keep a _ hy (h3 a ha).1), fun a ha => ⟨fun b => ?_, fun b => ?_⟩⟩
  · rcases t.own a b with b | b
    · exact (h3 a ha).1 b
    · obtain ⟨ys, q⟩ := h1.trk a ha
      rw [b] at q
      cases q
  · rcases t.fro a b with b | b | b
    · exact (h3 a ha).2 b
    · exact (h3 a ha).1 b
    · obtain ⟨ys, q⟩ := h1.trk a ha
      rw [b] at q
      cases q
theorem DpRs.set {K : PySem.W.Frag} {H : Hp} : ∀ {v : List V} {d : List D} {as : List Addr} {j : Nat} {x : V} {y : D} {bs : List Addr}, DpRs K H v d as → j < d.length → DpR K H x y bs → as.Nodup → bs.Nodup → (∀ b ∈ bs, b ∉ as) → ∃ cs, DpRs K H (v.set j x) (d.set j y) cs ∧ cs.Nodup ∧ ∀ c ∈ cs, c ∈ as ∨ c ∈ bs
  | _, _, _, _, _, _, _, .nil, hj, _, _, _, _ => by simp at hj
  | _, _, _, 0, x, y, bs, .cons (as := a1) (bs := a2) r s, _, rx, na, nb, hd => by
    have na' := List.nodup_append.mp na
    refine ⟨bs ++ a2, .cons rx s, List.nodup_append.mpr ⟨nb, na'.2.1, fun a ha b hb e => hd a ha (List.mem_append_right _ (e ▸ hb))⟩, fun c hc => ?_⟩
    rcases List.mem_append.mp hc with m | m
    · exact .inr m
    · exact .inl (List.mem_append_right _ m)
  | _, _, _, j + 1, x, y, bs, .cons (as := a1) (bs := a2) r s, hj, rx, na, nb, hd => by
    have na' := List.nodup_append.mp na
    obtain ⟨cs, h1, h2, h3⟩ := DpRs.set (j := j) s (by simpa using hj) rx na'.2.1 nb fun b hb m => hd b hb (List.mem_append_right _ m)
    refine ⟨a1 ++ cs, .cons r h1, List.nodup_append.mpr ⟨na'.1, h2, fun a ha b hb e => ?_⟩, fun c hc => ?_⟩
    · subst e
      rcases h3 a hb with m | m
      · exact na'.2.2 a ha a m rfl
      · exact hd a m (List.mem_append_left _ ha)
    · rcases List.mem_append.mp hc with m | m
      · exact .inl (List.mem_append_left _ m)
      · exact (h3 c m).imp (fun m => List.mem_append_right _ m) id
/-- the list of a name has changed -/
theorem chg {K : PySem.W.Frag} {σ : L2.St} {H0 H : Hp} {A0 A : Own} {ρ : PV.Env} {i : Nat} {ds es : List D} {a : Addr} {xs ys : List V} {bs cs as : List Addr} (st : Stp0 H0 A0 H A) (rep : Rep K H [] σ ρ A) (nb : noBor ρ = true) (hg : PV.get ρ i = some (.own (.list ds))) (hv : σ[i]? = some (some (.ref a)))
    (hH : H a = some (.lst xs)) (hA : A i = a :: bs) (nd : (a :: bs).Nodup) (r : DpRs K H ys es cs) (nc : cs.Nodup) (hc : ∀ c ∈ cs, c ∈ bs ∨ c ∈ as) (ha : ∀ c ∈ as, ¬ Bd A c ∧ c ∉ A.fr) (ho : ∀ c ∈ as, Bd A0 c ∨ H0 c = none) :
    ∃ A2, Rep K (upd H a (.lst ys)) [] σ (ρ.set i (some (.own (.list es)))) A2 ∧ Stp0 H0 A0 (upd H a (.lst ys)) A2 := by
  have hAi : a ∈ A i := by rw [hA]; exact List.mem_cons_self
  have hn : a ∉ cs := fun m => by
    rcases hc a m with q | q
    · exact (List.nodup_cons.mp nd).1 q
    · exact (ha a q).1 ⟨i, hAi⟩
  have r' : DpRs K (upd H a (.lst ys)) ys es cs := r.upd hH fun b hb z => hn (z ▸ hb)
  refine ⟨A.put i (a :: cs), rep.upd1 nb hg hAi hH hv (.lst upd_same r') (List.nodup_cons.mpr ⟨hn, nc⟩) fun b hb => ?_, fun b ⟨j, hj⟩ => ?_, fun b o e n => ?_, fun b e => ?_⟩
  · rcases List.mem_cons.mp hb with e | hb
    · rw [e]; exact .inl hAi
    · rcases hc b hb with q | q
      · exact .inl (by rw [hA]; exact List.mem_cons_of_mem _ q)
      · exact .inr (ha b q)
  · by_cases hji : j = i
    · rw [hji, Own.put_same] at hj
      rcases List.mem_cons.mp hj with e | hj
      · rw [e]; exact st.own a ⟨i, hAi⟩
      · rcases hc b hj with q | q
        · exact st.own b ⟨i, by rw [hA]; exact List.mem_cons_of_mem _ q⟩
        · exact ho b q
    · rw [Own.put_ne _ _ hji] at hj
      exact st.own b ⟨j, hj⟩
  · have hb : b ≠ a := fun z => by
      subst z
      rcases st.own b ⟨i, hAi⟩ with q | q
      · exact n q
      · rw [e] at q; cases q
    rw [upd_ne hb]
    exact st.keep b o e n
  · by_cases hb : b = a
    · rw [hb, upd_same] at e; cases e
    · rw [upd_ne hb] at e; exact st.the b e
theorem sE2 {K : PySem.W.Frag} {cf : CF} {σ : L2.St} {H H1 : Hp} {A A1 : Own} {ρ : PV.Env} {Z : Ends} {a : E} {f : R × PV.Env → Res (Out × PV.Env)} {Q1 : VK} (s : Stp0 H A H1 A1) (rep : Rep K H1 [] σ ρ A1) (h : RS K ca W io σ H A Z (ev cf a ρ >>= f))
    (hq : ∀ r ρ1 v H2 A2, Rep K H2 [] σ ρ1 A2 → Stp H1 A1 H2 A2 → RVal K H1 A1 H2 A2 (vars a ++ []) v r → (eff a = false → A2 = A1 ∧ Same H1 H2) → RS K ca W io σ H A Z (f (r, ρ1)) → Q1 v H2) : tS K ca cf [] W a σ H1 Q1 := by
  refine ⟨ρ, A1, rep, ?_⟩
  rw [rn_rg]
  rcases e : ev cf a ρ with ⟨r, ρ1⟩ | ⟨c, k, p⟩ | _
  · rw [e] at h
    exact fun v H1 A1 r1 s1 rv ef => hq r ρ1 v H1 A1 r1 s1 rv ef h
  · rw [e] at h
    have h' : ExS K ca H A W σ c k p := h
    exact ExS.at (ExS.later s rfl h')
  · rw [e] at h
    exact h
theorem nodup_of {a : Addr} {bs : List Addr} (h : (a :: bs).Nodup) : bs.Nodup := (List.nodup_cons.mp h).2
theorem ixN_lt {n j : Nat} {i : Int} (hj : PV.ixN n i = some j) : j < n := by
  unfold PV.ixN at hj
  split at hj
  · split at hj
    · cases hj; omega
    · cases hj
  · split at hj
    · cases hj; omega
    · cases hj
theorem st_setv {i : Nat} {ix e : E} {y : Str} {p1 p2 pos : Pos} {xi x : Expr} (Q : CxS J fs ca k N sc W X) (hn : nameB N sc i y = true) (pi : plainX xi = true) (hi : mE J N ix sc xi = true) (px : plainX x = true) (nl : notLC x = true) (he : mE J N e sc x = true) :
    SS ca fs k W io X (.setv i ix e) (.Assign [.Subscript (.Name y p1) xi p2] x pos) := by
  have g := pg_sub (pos := p2) (pe_nm (p := p1) Q.C hn) (good_E ix Q.C (fun _ => rfl) xi hi).1 set_list (by intro v; cases xi <;> first | rfl | (simp [plainX] at pi; done))
  refine (ps_asg (pos := pos) (good_X e Q.C x he) g (show swapsWithSole [.Subscript (.Name y p1) xi p2] x pos.line X.env = pure false from swaps_no (t := some (.Subscript (.Name y p1) xi p2)) (l := pos.line) (env := X.env) px nl) (by cases x <;> rfl) rfl).weaken fun Z σ H ⟨ρ, A, rep, q⟩ => ?_
  simp only [exec] at q
  refine sX rep q fun r ρ1 v H1 A1 r1 s1 rv q => ?_
  dsimp only at q
  obtain ⟨ds0, eo, q⟩ := RS.pure (ne_own _ _) q
  obtain ⟨a0, xs0, bs0, hv0, hH0, _, _, _⟩ := r1.lst (own_inv eo)
  refine ⟨_, hv0, ?_⟩
  refine sE2 s1.z r1 q fun kx ρ2 w H2 A2 r2 s2 rw2 ef2 q2 => ?_
  dsimp only at q2
  obtain ⟨hk, q2⟩ := RS.ite q2
  simp only [Bool.and_eq_true] at hk
  obtain ⟨ho, nb⟩ := hk
  obtain ⟨ds, eo1, q2⟩ := RS.pure (ne_own _ _) q2
  obtain ⟨kk, ek, q2⟩ := RS.pure (ne_int _) q2
  obtain ⟨es, ees, q2⟩ := RS.pure (ne_set _ _ _) q2
  have hg := own_inv eo1
  obtain ⟨j, hj, hes⟩ := set_inv ees
  obtain ⟨a, xs, bs, hv, hH, rr, hA, nd⟩ := r2.lst hg
  rw [hv0] at hv
  cases hv
  obtain ⟨as, d1, d2, d3, d4⟩ := into (ρ1 := ρ1) (σ := σ) rv ho
  obtain ⟨d1', d3'⟩ := into_later r1 s2 d1 d3
  obtain ⟨is, dk, _⟩ := rw2.any
  rw [int_inv ek] at dk
  have dis : ∀ b ∈ as, b ∉ bs := fun b hb m => (d3' b hb).1 ⟨i, by rw [hA]; exact List.mem_cons_of_mem _ m⟩
  obtain ⟨cs, g1, g2, g3⟩ := rr.set (ixN_lt hj) d1' (nodup_of nd) d2 dis
  have st := s1.z.trans s2.z
  refine ⟨a0, xs, kk, j, rfl, dk.int_inv, hH, ixN_same _ _ _ (by rw [rr.length]; exact hj), ?_⟩
  rw [← hes] at g1
  obtain ⟨A3, r3, s3⟩ := chg st r2 nb hg hv0 hH hA nd g1 g2 g3 d3' d4
  exact q2 σ _ A3 r3 s3 (Fx.refl _ _)
theorem st_app {i : Nat} {e : E} {y : Str} {p1 p2 p3 pos : Pos} {x : Expr} (Q : CxS J fs ca k N sc W X) (hn : nameB N sc i y = true) (hl : lineB p2 p3 = true) (px : plainX x = true) (he : mE J N e sc x = true) :
    SS ca fs k W io X (.app i e) (.Expr (.Call (.Attribute (.Name y p1) "append" p2) [x] [] p3) pos) := by
  have ny : starEach [x] X.env = (false, eval x X.env) :: starEach [] X.env := star_of px
  have few : ((backTo p3 (starEach [x] X.env)).all (fun x => !x.1) && (backToKw p3 (keywordEach [] X.env)).all (fun x => x.1.isSome) && decide ([x].length + ([] : List Keyword).length + (if ([] : List Keyword).isEmpty then 0 else 1) < 30)) = true := by rw [ny]; rfl
  refine (ps_expr (pe_bm PySem.F.plainAttrs_list PySem.F.slot_list_append PySem.F.type_list_append mt_append (pe_nm Q.C hn) (pa_cons (good_X e Q.C x he) pa_nil ny) rfl few hl ny rfl)).weaken fun Z σ H ⟨ρ, A, rep, q⟩ => ?_
  simp only [exec] at q
  obtain ⟨ds0, eo, q⟩ := RS.pure (ne_own _ _) q
  obtain ⟨a0, xs0, bs0, hv0, hH0, _, _, _⟩ := rep.lst (own_inv eo)
  refine ⟨_, hv0, .inl ⟨rfl, xs0, SqL.of hH0⟩, ?_⟩
  refine sX rep q fun r ρ1 v H1 A1 r1 s1 rv q => ?_
  dsimp only at q
  obtain ⟨hk, q⟩ := RS.ite q
  simp only [Bool.and_eq_true] at hk
  obtain ⟨ho, nb⟩ := hk
  obtain ⟨ds, eo1, q⟩ := RS.pure (ne_own _ _) q
  split at q
  · rename_i hlt
    have hg := own_inv eo1
    obtain ⟨a, xs, bs, hv, hH, rr, hA, nd⟩ := r1.lst hg
    rw [hv0] at hv
    cases hv
    obtain ⟨as, d1, d2, d3, d4⟩ := into (ρ1 := ρ1) (σ := σ) rv ho
    have dis : ∀ b ∈ as, b ∉ bs := fun b hb m => (d3 b hb).1 ⟨i, by rw [hA]; exact List.mem_cons_of_mem _ m⟩
    have g1 : DpRs X.K H1 (xs ++ [v]) (ds ++ [r.2]) (bs ++ as) := rr.app (.one d1)
    have g2 : (bs ++ as).Nodup := List.nodup_append.mpr ⟨nodup_of nd, d2, fun c hc b hb e => dis b hb (e ▸ hc)⟩
    refine ⟨a0, xs, v, rfl, rfl, hH, by rw [rr.length]; exact hlt, ?_⟩
    obtain ⟨A3, r3, s3⟩ := chg s1.z r1 nb hg hv0 hH hA nd g1 g2 (fun c hc => List.mem_append.mp hc) d3 d4
    exact q σ _ A3 r3 s3 (Fx.refl _ _)
  · exact q.elim
/-- an item that is a list has got one more -/
theorem DpRs.app1 {K : PySem.W.Frag} {H : Hp} {b : Addr} {ys : List V} {v0 : V} {d0 : D} {as0 : List Addr} (hH : H b = some (.lst ys)) (r0 : DpR K H v0 d0 as0) (n0 : as0.Nodup) : ∀ {v : List V} {d : List D} {as : List Addr} {j : Nat} {es : List D}, DpRs K H v d as → as.Nodup → (∀ c ∈ as0, c ∉ as) → v[j]? = some (.ref b) → d[j]? = some (.list es) →
    b ∈ as ∧ es.length = ys.length ∧ ∃ cs, DpRs K (L2.upd H b (.lst (ys ++ [v0]))) v (d.set j (.list (es ++ [d0]))) cs ∧ cs.Nodup ∧ ∀ c ∈ cs, c ∈ as ∨ c ∈ as0
  | _, _, _, _, _, .nil, _, _, hv, _ => by simp at hv
  | _, _, _, 0, es, .cons (as := a1) (bs := a2) r s, na, hd, hv, hz => by
    simp only [List.getElem?_cons_zero, Option.some.injEq] at hv hz
    subst hv hz
    obtain ⟨b', ys', cs, e1, r2, h2, e2⟩ := r.list_inv
    cases e1
    rw [hH] at h2
    cases h2
    subst e2
    have n1 := List.nodup_append.mp na
    have n2 := List.nodup_cons.mp n1.1
    have hb0 : b ∉ as0 := fun m => hd b m (by simp)
    refine ⟨by simp, r2.length.symm, (b :: (cs ++ as0)) ++ a2, .cons (.lst upd_same ((r2.app (.one r0)).upd hH fun c hc e => ?_)) (s.upd hH fun c hc e => ?_), ?_, fun c hc => ?_⟩
    · subst e
      rcases List.mem_append.mp hc with m | m
      · exact n2.1 m
      · exact hb0 m
    · subst e
      exact n1.2.2 c List.mem_cons_self c hc rfl
    · have hp : ((b :: (cs ++ as0)) ++ a2).Perm ((b :: cs ++ a2) ++ as0) := by
        simp only [List.cons_append, List.append_assoc]
        exact List.Perm.cons _ (List.Perm.append_left _ List.perm_append_comm)
      rw [hp.nodup_iff]
      exact List.nodup_append.mpr ⟨na, n0, fun a ha c hc e => hd c hc (e ▸ ha)⟩
    · simp only [List.cons_append, List.append_assoc, List.mem_cons, List.mem_append] at hc ⊢
      rcases hc with m | m | m | m
      · exact .inl (.inl m)
      · exact .inl (.inr (.inl m))
      · exact .inr m
      · exact .inl (.inr (.inr m))
  | _, _, _, j + 1, es, .cons (as := a1) (bs := a2) r s, na, hd, hv, hz => by
    have n1 := List.nodup_append.mp na
    obtain ⟨g0, gl, cs, g1, g2, g3⟩ := DpRs.app1 hH r0 n0 (j := j) s n1.2.1 (fun c hc m => hd c hc (List.mem_append_right _ m)) (by simpa using hv) (by simpa using hz)
    refine ⟨List.mem_append_right _ g0, gl, a1 ++ cs, .cons (r.upd hH fun c hc e => ?_) g1, List.nodup_append.mpr ⟨n1.1, g2, fun a ha c hc e => ?_⟩, fun c hc => ?_⟩
    · subst e
      exact n1.2.2 c hc c g0 rfl
    · subst e
      rcases g3 a hc with m | m
      · exact n1.2.2 a ha a m rfl
      · exact hd a m (List.mem_append_left _ ha)
    · rcases List.mem_append.mp hc with m | m
      · exact .inl (List.mem_append_left _ m)
      · exact (g3 c m).imp (fun m => List.mem_append_right _ m) id
/-- a list that a name holds has changed, be it deep -/
theorem chg1 {K : PySem.W.Frag} {σ : L2.St} {H0 H : Hp} {A0 A : Own} {ρ : PV.Env} {i : Nat} {d d' : D} {a : Addr} {v : V} {xs ys : List V} {cs as : List Addr} (st : Stp0 H0 A0 H A) (rep : Rep K H [] σ ρ A) (nb : noBor ρ = true) (hg : PV.get ρ i = some (.own d)) (hv : σ[i]? = some (some v))
    (hH : H a = some (.lst xs)) (hAi : a ∈ A i) (r : DpR K (upd H a (.lst ys)) v d' cs) (nc : cs.Nodup) (hc : ∀ c ∈ cs, c ∈ A i ∨ c ∈ as) (ha : ∀ c ∈ as, ¬ Bd A c ∧ c ∉ A.fr) (ho : ∀ c ∈ as, Bd A0 c ∨ H0 c = none) :
    ∃ A2, Rep K (upd H a (.lst ys)) [] σ (ρ.set i (some (.own d'))) A2 ∧ Stp0 H0 A0 (upd H a (.lst ys)) A2 := by
  refine ⟨A.put i cs, rep.upd1 nb hg hAi hH hv r nc fun b hb => ?_, fun b ⟨j, hj⟩ => ?_, fun b o e n => ?_, fun b e => ?_⟩
  · exact (hc b hb).imp id (ha b)
  · by_cases hji : j = i
    · rw [hji, Own.put_same] at hj
      rcases hc b hj with q | q
      · exact st.own b ⟨i, q⟩
      · exact ho b q
    · rw [Own.put_ne _ _ hji] at hj
      exact st.own b ⟨j, hj⟩
  · have hb : b ≠ a := fun z => by
      subst z
      rcases st.own b ⟨i, hAi⟩ with q | q
      · exact n q
      · rw [e] at q; cases q
    rw [upd_ne hb]
    exact st.keep b o e n
  · by_cases hb : b = a
    · rw [hb, upd_same] at e; cases e
    · rw [upd_ne hb] at e; exact st.the b e
theorem st_app1 {i : Nat} {ix e : E} {y : Str} {p0 p1 p2 p3 pos : Pos} {xi x : Expr} (Q : CxS J fs ca k N sc W X) (hn : nameB N sc i y = true) (pi : plainX xi = true) (hi : mE J N ix sc xi = true) (hl : lineB p2 p3 = true) (px : plainX x = true) (he : mE J N e sc x = true) :
    SS ca fs k W io X (.app1 i ix e) (.Expr (.Call (.Attribute (.Subscript (.Name y p0) xi p1) "append" p2) [x] [] p3) pos) := by
  have ny : starEach [x] X.env = (false, eval x X.env) :: starEach [] X.env := star_of px
  have few : ((backTo p3 (starEach [x] X.env)).all (fun x => !x.1) && (backToKw p3 (keywordEach [] X.env)).all (fun x => x.1.isSome) && decide ([x].length + ([] : List Keyword).length + (if ([] : List Keyword).isEmpty then 0 else 1) < 30)) = true := by rw [ny]; rfl
  refine (ps_expr (pe_bm PySem.F.plainAttrs_list PySem.F.slot_list_append PySem.F.type_list_append mt_append (pe_ix ix_list (pe_nm Q.C hn) (good_E ix Q.C (fun _ => rfl) xi hi).1 (plainIx_of pi)) (pa_cons (good_E e Q.C (fun _ => rfl) x he).1 pa_nil ny) rfl few hl ny rfl)).weaken fun Z σ H ⟨ρ, A, rep, q⟩ => ?_
  simp only [exec] at q
  obtain ⟨ds0, eo, q⟩ := RS.pure (ne_own _ _) q
  obtain ⟨a0, xs0, bs0, hv0, hH0, _, _, _⟩ := rep.lst (own_inv eo)
  refine ⟨_, hv0, ?_⟩
  refine sE rep q fun kx ρ1 w H1 A1 r1 s1 rw1 _ q => ?_
  dsimp only at q
  obtain ⟨ds1, eo1, q⟩ := RS.pure (ne_own _ _) q
  obtain ⟨kk, ek, q⟩ := RS.pure (ne_int _) q
  obtain ⟨z, ez, q⟩ := RS.pure (ne_at _ _) q
  obtain ⟨es0, ees0, q⟩ := RS.pure (ne_lst _) q
  obtain ⟨a, xs, bs, hv, hH, rr, hA, nd⟩ := r1.lst (own_inv eo1)
  rw [hv0] at hv
  cases hv
  obtain ⟨j, hj, hz⟩ := at_inv ez
  obtain ⟨is, dk, _⟩ := rw1.any
  rw [int_inv ek] at dk
  obtain ⟨zv, zs, hzv, rz, _⟩ := rr.atD hz
  rw [lst_inv ees0] at rz
  obtain ⟨b, ys, cs, e1, _, hb, _⟩ := rz.list_inv
  subst e1
  refine ⟨a0, xs, kk, .ref b, rfl, dk.int_inv, SqL.of hH, ?_, .inl ⟨rfl, ys, SqL.of hb⟩, ?_⟩
  · unfold atI
    rw [← ixN_eq, rr.length, hj]
    exact hzv
  have q1 := q.later s1.z (Fx.refl _ _)
  refine sE r1 q1 fun r ρ2 v H2 A2 r2 s2 rv ef q2 => ?_
  dsimp only at q2
  obtain ⟨hk, q2⟩ := RS.ite q2
  simp only [Bool.and_eq_true, Bool.not_eq_true'] at hk
  obtain ⟨⟨⟨ho, nb⟩, _⟩, hef⟩ := hk
  obtain ⟨_, sm⟩ := ef hef
  rw [ek] at q2
  obtain ⟨ds, eo2, q3⟩ := RS.pure (ne_own _ _) q2
  clear q2 q1 q
  obtain ⟨z2, ez2, q4⟩ := RS.pure (ne_at _ _) q3
  obtain ⟨es, ees, q5⟩ := RS.pure (ne_lst _) q4
  clear q3 q4
  split at q5
  · rename_i hlt
    obtain ⟨fs', efs, q6⟩ := RS.pure (ne_set _ _ _) q5
    obtain ⟨j3, hj3, hes3⟩ := set_inv efs
    have hg := own_inv eo2
    obtain ⟨a2, xs2, bs2, hv2, hH2, rr2, hA2, nd2⟩ := r2.lst hg
    rw [hv0] at hv2
    cases hv2
    rw [sm _ _ hH] at hH2
    cases hH2
    obtain ⟨j2, hj2, hz2⟩ := at_inv ez2
    rw [← rr2.length, rr.length, hj] at hj2 hj3
    cases hj2
    cases hj3
    rw [lst_inv ees] at hz2
    have hb2 := sm _ _ hb
    obtain ⟨as, d1, d2, d3, d4⟩ := into (ρ1 := ρ2) (σ := σ) rv ho
    have dis : ∀ c ∈ as, c ∉ bs2 := fun c hc m => (d3 c hc).1 ⟨i, by rw [hA2]; exact List.mem_cons_of_mem _ m⟩
    obtain ⟨g0, gl, cs2, g1, g2, g3⟩ := DpRs.app1 hb2 d1 d2 rr2 (nodup_of nd2) dis hzv hz2
    refine ⟨b, ys, v, rfl, rfl, hb2, by rw [← gl]; exact hlt, ?_⟩
    have nb2 := (List.nodup_cons.mp nd2).1
    have hab : a0 ≠ b := fun e => nb2 (e ▸ g0)
    have ha2 : a0 ∈ A2 i := by rw [hA2]; exact List.mem_cons_self
    have hn2 : a0 ∉ cs2 := fun m => (g3 _ m).elim nb2 fun m => (d3 _ m).1 ⟨i, ha2⟩
    rw [← hes3] at g1
    obtain ⟨A3, r3, s3⟩ := chg1 (as := as) (st := Stp.z s2) r2 nb hg hv0 hb2 (by rw [hA2]; exact List.mem_cons_of_mem _ g0) (.lst (by rw [upd_ne hab]; exact sm _ _ hH) g1) (List.nodup_cons.mpr ⟨hn2, g2⟩)
      (fun c hc => by
        rcases List.mem_cons.mp hc with e | m
        · rw [e]; exact .inl ha2
        · exact (g3 c m).imp (fun m => by rw [hA2]; exact List.mem_cons_of_mem _ m) id) d3 d4
    exact q6 σ _ A3 r3 s3 (Fx.refl _ _)
  · exact q5.elim
theorem st_ext {i : Nat} {e : E} {y : Str} {p1 p2 p3 pos : Pos} {x : Expr} (Q : CxS J fs ca k N sc W X) (hn : nameB N sc i y = true) (hl : lineB p2 p3 = true) (px : plainX x = true) (he : mE J N e sc x = true) :
    SS ca fs k W io X (.ext i e) (.Expr (.Call (.Attribute (.Name y p1) "extend" p2) [x] [] p3) pos) := by
  have ny : starEach [x] X.env = (false, eval x X.env) :: starEach [] X.env := star_of px
  have few : ((backTo p3 (starEach [x] X.env)).all (fun x => !x.1) && (backToKw p3 (keywordEach [] X.env)).all (fun x => x.1.isSome) && decide ([x].length + ([] : List Keyword).length + (if ([] : List Keyword).isEmpty then 0 else 1) < 30)) = true := by rw [ny]; rfl
  refine (ps_expr (pe_bm PySem.F.plainAttrs_list PySem.F.slot_list_extend PySem.F.type_list_extend mt_extend (pe_nm Q.C hn) (pa_cons (good_E e Q.C (fun _ => rfl) x he).1 pa_nil ny) rfl few hl ny rfl)).weaken fun Z σ H ⟨ρ, A, rep, q⟩ => ?_
  simp only [exec] at q
  obtain ⟨ds0, eo, q⟩ := RS.pure (ne_own _ _) q
  obtain ⟨a0, xs0, bs0, hv0, hH0, _, _, _⟩ := rep.lst (own_inv eo)
  refine ⟨_, hv0, .inl ⟨rfl, xs0, SqL.of hH0⟩, ?_⟩
  refine sE rep q fun r ρ1 v H1 A1 r1 s1 rv _ q => ?_
  dsimp only at q
  obtain ⟨ds, eo1, q⟩ := RS.pure (ne_own _ _) q
  obtain ⟨es, ees, q⟩ := RS.pure (ne_lst _) q
  obtain ⟨hk, q⟩ := RS.ite q
  simp only [Bool.and_eq_true, lenOk, decide_eq_true_eq] at hk
  obtain ⟨⟨him, nb⟩, hlen⟩ := hk
  have hg := own_inv eo1
  obtain ⟨a, xs, bs, hv, hH, rr, hA, nd⟩ := r1.lst hg
  rw [hv0] at hv
  cases hv
  obtain ⟨as, d1, _⟩ := rv.any
  rw [lst_inv ees] at d1
  obtain ⟨b, zs, cs, e1, rz, hz, e3⟩ := d1.list_inv
  have hcs := rz.imm him
  subst e1 hcs
  have g1 : DpRs X.K H1 (xs ++ zs) (ds ++ es) (bs ++ []) := rr.app rz
  rw [List.append_nil] at g1
  refine ⟨a0, b, xs, zs, rfl, rfl, hH, hz, by rw [rr.length, rz.length]; exact hlen, ?_⟩
  obtain ⟨A3, r3, s3⟩ := chg (as := []) s1.z r1 nb hg hv0 hH hA nd g1 (nodup_of nd) (fun c hc => .inl hc) (fun c hc => by simp at hc) (fun c hc => by simp at hc)
  exact q σ _ A3 r3 s3 (Fx.refl _ _)
end
end PV
set_option Elab.async false
set_option linter.all false
set_option maxRecDepth 100000
set_option maxHeartbeats 1000000
/-! PV27: errors raised. -/
namespace PV
open PySem PySem.Spec PyProof.Rows L2
/-- self.code = code; self.place = place, of a fresh error -/
def spI (K : PySem.W.Frag) : Sp := fun vs H Q _ => ∃ (a C : Addr) (c p : V), vs = [.ref a, c, p] ∧ OexC K C ∧ PySem.W.findIn K (.ref C) "code" = some none ∧ PySem.W.findIn K (.ref C) "place" = some none ∧ H a = some (exo a C none) ∧
  ∀ dx, H dx = none → dx ≠ a → Q .non (upd (upd (upd H dx (exd dx [("code", c)])) a (exo a C (some dx))) dx (exd dx [("place", p), ("code", c)]))
/-- the errors' classes -/
structure ExcOk (J : Info) (ca : Nat → Addr) (X : Cx) : Prop where
  cls : ∀ c, c < J.nc → X.mg (J.cn c) = some (.ref (ca c)) ∧ OexC X.K (ca c) ∧ XfC X.K (ca c) ∧ PySem.W.findIn X.K (.ref (ca c)) "code" = some none ∧ PySem.W.findIn X.K (.ref (ca c)) "place" = some none ∧
    ∃ fI fd ps ds, PySem.W.findIn X.K (.ref (ca c)) "__init__" = some (some (.ref fI)) ∧ PySem.W.typeIn X.K (.ref fI) = some (.type "function") ∧ FnOk X.prog X.w X.K X.mg X.base (L2.CX X.prog X.w) 1 fI fd ps (spI X.K) ∧ Binds X.K fd ps ds ∧ Vals [.int 0] ds ∧ Binds X.K fd ps []
  cat : ∀ z c, z < J.nc → c < J.nc → J.cat z c = true → PySem.W.exmOne X.K (.ref (ca c)) (.ref (ca z)) = some true
section
variable {J : Info} {fs : List Fn} {ca : Nat → Addr} {k : Nat} {N : List Str} {sc : Scope} {W : WX} {X : Cx} {io : List Nat}
/-- an error is made -/
theorem made {H : Hp} {A : Own} {c : Nat} {code place : D} {cv pv : V} {Q : XK} {dvs ws : List V} (hw : ws ++ dvs = [cv, pv]) (T : OexC X.K (ca c)) (n1 : PySem.W.findIn X.K (.ref (ca c)) "code" = some none) (n2 : PySem.W.findIn X.K (.ref (ca c)) "place" = some none)
    (hc : ∀ H', (∀ a o, H a = some o → H' a = some o) → DpR X.K H' cv code []) (hp : ∀ H', (∀ a o, H a = some o → H' a = some o) → DpR X.K H' pv place []) (h : ExQ X.K ca H A (fun a b H' => Q a b H') c code place) :
    ∀ a, H a = none → spI X.K (.ref a :: (ws ++ dvs)) (upd H a (exo a (ca c) none)) (fun v H2 => v = .non ∧ ∃ (d : Addr) (fs : List (Str × V)), H2 a = some (exo a (ca c) (some d)) ∧ H2 d = some (exd d fs) ∧ H d = none ∧ Q (.ref (ca c)) (some d) (upd (del H2 a) d (.xd fs))) (fun _ _ _ => False) := by
  intro a ha
  refine ⟨a, ca c, cv, pv, by rw [hw], T, n1, n2, upd_same, fun dx hdx hne => ⟨rfl, dx, _, ?_, upd_same, ?_, ?_⟩⟩
  · rw [upd_ne (Ne.symm hne), upd_same]
  · rw [upd_ne hne] at hdx; exact hdx
  · have hd0 : H dx = none := by rw [upd_ne hne] at hdx; exact hdx
    have keep : ∀ b o, H b = some o → upd (del (upd (upd (upd (upd H a (exo a (ca c) none)) dx (exd dx [("code", cv)])) a (exo a (ca c) (some dx))) dx (exd dx [("place", pv), ("code", cv)])) a) dx (.xd [("place", pv), ("code", cv)]) b = some o := fun b o e => by
      have hba : b ≠ a := fun z => by rw [z, ha] at e; cases e
      have hbd : b ≠ dx := fun z => by rw [z, hd0] at e; cases e
      rw [upd_ne hbd, del_ne hba, upd_ne hbd, upd_ne hba, upd_ne hbd, upd_ne hba]
      exact e
    refine h dx _ cv pv (fun b o e _ => keep b o e) (fun b e => ?_) hd0 upd_same (hc _ keep) (hp _ keep)
    cases q : H b with
    | none => rfl
    | some o => rw [keep b o q] at e; cases e
theorem pas_false (C : Cxt J fs ca k N sc W X) : Passes (L2.CX X.prog X.w) X (fun _ _ _ => False) := fun pins σ H s e s' I c => passes_call C.takes (fun _ _ _ _ z => z.elim) pins σ H s e s' I c
theorem st_raise1 {c : Nat} {code : Str} {g : Str} {j : Nat} {p p2 pos pos' : Pos} (Q : CxS J fs ca k N sc W X) (E : ExcOk J ca X) (hc : c < J.nc) (hn : g = J.cn c) (hg : glB sc g = true) (ok : okName g = true) :
    SS ca fs k W io X (.raise1 c code) (.Raise (some (.Call (.Name g p) [.Constant (.str code) j p2] [] pos)) none pos') := by
  obtain ⟨m, T, _, n1, n2, fI, fd, ps, ds, iC, tI, F, hb, hd, _⟩ := E.cls c hc
  subst hn
  simp only [okName, Bool.and_eq_true, Bool.not_eq_true'] at ok
  have mk := pmk_oex (p := p) (pos := pos) T iC tI F (Q.C.room.mono (by omega)) hb hd (pas_false Q.C) (gl_of Q.C hg) m (pa_cons (pe_str (X := X) (x := code) (j := j) (pos := p2)) pa_nil rfl) ok.1.1 rfl rfl
  refine (ps_raise Q.C.calm Q.C.takes mk).weaken fun Z σ H ⟨ρ, A, rep, q⟩ => ?_
  simp only [exec] at q
  refine ⟨by show ([V.str code] : List V).length ≤ 1000; simp, ?_⟩
  have q' : ExS X.K ca H A W σ c (.str code) (.int 0) := q
  exact made (ws := [.str code]) (dvs := [.int 0]) rfl T n1 n2 (fun H' _ => .str code) (fun H' _ => .int 0) (ExS.at q')
theorem st_raise2 {c : Nat} {code : Str} {e : E} {x : Expr} {g : Str} {j : Nat} {p p2 pos pos' : Pos} (Q : CxS J fs ca k N sc W X) (E : ExcOk J ca X) (hc : c < J.nc) (hn : g = J.cn c) (hg : glB sc g = true) (ok : okName g = true) (px : plainX x = true) (he : mE J N e sc x = true) :
    SS ca fs k W io X (.raise2 c code e) (.Raise (some (.Call (.Name g p) [.Constant (.str code) j p2, x] [] pos)) none pos') := by
  obtain ⟨m, T, _, n1, n2, fI, fd, ps, ds, iC, tI, F, _, _, hb⟩ := E.cls c hc
  subst hn
  simp only [okName, Bool.and_eq_true, Bool.not_eq_true'] at ok
  have mk := pmk_oex (p := p) (pos := pos) (ds := []) (dvs := []) T iC tI F (Q.C.room.mono (by omega)) hb .nil (pas_false Q.C) (gl_of Q.C hg) m (pa_cons (pe_str (X := X) (x := code) (j := j) (pos := p2)) (pa_cons (good_E e Q.C (fun _ => rfl) x he).1 pa_nil (star_of px)) rfl) ok.1.1 rfl (back_of (xs := [x]) (by simp [plainAllX, px]))
  refine (ps_raise Q.C.calm Q.C.takes mk).weaken fun Z σ H ⟨ρ, A, rep, q⟩ => ?_
  simp only [exec] at q
  refine sE2 (Stp.refl _ _).z rep q fun r ρ1 v H1 A1 r1 s1 rv ef q => ?_
  dsimp only at q
  split at q
  · rename_i hk
    simp only [Bool.and_eq_true, Bool.not_eq_true'] at hk
    obtain ⟨as, d1, _⟩ := rv.any
    have := d1.imm hk.1
    subst this
    have q' : ExS X.K ca H A W σ c (.str code) r.2 := q
    have q1 := ExS.later s1.z rfl q'
    refine ⟨by show ([V.str code, v] : List V).length ≤ 1000; simp, ?_⟩
    refine made (ws := [.str code, v]) (dvs := []) rfl T n1 n2 (fun H' _ => .str code) (fun H' sm => d1.keep (Fix.of sm) fun a h => by simp at h) (ExS.at q1)
  · exact q.elim
end
end PV
set_option Elab.async false
set_option linter.all false
set_option maxRecDepth 100000
set_option maxHeartbeats 1000000
/-! PV28: errors caught. -/
namespace PV
open PySem PySem.Spec PyProof.Rows L2
section
variable {J : Info} {fs : List Fn} {ca : Nat → Addr} {k : Nat} {N : List Str} {sc : Scope} {W : WX} {X : Cx} {io : List Nat}
/-- the context of a try's body -/
theorem CxS.tr (Q : CxS J fs ca k N sc W X) {W' : WX} {pn : List (Addr × Obj)} {xe : Value → Shared → Prop} (tk : Takes (X.tr pn xe) W') (own : PassesOwn (model X.prog X.w) X.A X.env xe) : CxS J fs ca k N sc W' (X.tr pn xe) :=
  ⟨⟨Q.C.N, Q.C.sc, Q.C.calm, Q.C.nd, Q.C.room, Q.C.blt, Q.C.gc, tk, Q.C.fn⟩, own, Q.fn1⟩
/-- return e.code -/
theorem suite0 {i : Nat} {n : Str} {a : Addr} {oe : Obj} {cls : Value} {d : Option Addr} {pn : List (Addr × Obj)} {p1 p2 p3 : Pos} {C : Addr} (T : XfC X.K C) (hno : PySem.W.findIn X.K (.ref C) "code" = some none) (hz : Zc cls d oe) (hf : ∃ vs, oe.data = .fields vs)
    (hi : X.N[i]? = some n) (hv : Vis X.env.scope n) (h1 : (n == ("__debug__" : Str)) = false) (h2 : (n == ("__classdict__" : Str)) = false) :
    PSs (X.suite a ((a, oe) :: pn)) [.Return (some (.Attribute (.Name n p1) "code" p2)) p3] (tRet (tXf a cls d C "code" (tVar i))) :=
  pss_one (ps_ret (pe_xf T hno hz hf (pe_var hi hv h1 h2)))
/-- return (e.code, e.place) -/
theorem suite1 {i : Nat} {n : Str} {a : Addr} {oe : Obj} {cls : Value} {d : Option Addr} {pn : List (Addr × Obj)} {p1 p2 p3 p4 p5 p6 : Pos} {j : Nat} {C : Addr} (T : XfC X.K C) (hno : PySem.W.findIn X.K (.ref C) "code" = some none) (hno2 : PySem.W.findIn X.K (.ref C) "place" = some none) (hz : Zc cls d oe) (hf : ∃ vs, oe.data = .fields vs)
    (hi : X.N[i]? = some n) (hv : Vis X.env.scope n) (h1 : (n == ("__debug__" : Str)) = false) (h2 : (n == ("__classdict__" : Str)) = false) :
    PSs (X.suite a ((a, oe) :: pn)) [.Return (some (.Tuple [.Attribute (.Name n p1) "code" p2, .Attribute (.Name n p3) "place" p4] j p5)) p6] (tRet (tTup (tCons (tXf a cls d C "code" (tVar i)) (tCons (tXf a cls d C "place" (tVar i)) tNil)))) :=
  pss_one (ps_ret (pe_tup (pa_cons (pe_xf T hno hz hf (pe_var hi hv h1 h2)) (pa_cons (pe_xf T hno2 hz hf (pe_var hi hv h1 h2)) pa_nil rfl) rfl)))
/-- return False -/
theorem suite2 {a : Addr} {oe : Obj} {pn : List (Addr × Obj)} {p1 p2 : Pos} {j : Nat} {b : Bool} : PSs (X.suite a ((a, oe) :: pn)) [.Return (some (.Constant (.bool b) j p1)) p2] (tRet (tC (.bl b))) := pss_one (ps_ret pe_bl)
theorem _root_.L2.PSs.any {X : Cx} {e : List Stmt} {t' : TS} (h : ∀ Z σ H, t' Z σ H → ∃ t, PSs X e t ∧ t Z σ H) : PSs X e t' := ⟨fun pins s σ H Z I q => by
  obtain ⟨t, h1, h2⟩ := h Z σ H q
  exact h1.run pins s σ H Z I h2⟩
/-- the clause's suite, of the kind kd -/
def suiteB (n : Str) (kd : Nat) : List Stmt → Bool
  | [.Return (some (.Attribute (.Name m _) f _)) _] => decide (kd = 0) && decide (m = n) && decide (f = ("code" : Str))
  | [.Return (some (.Tuple [.Attribute (.Name m _) f _, .Attribute (.Name m2 _) f2 _] _ _)) _] => decide (kd = 1) && decide (m = n) && decide (f = ("code" : Str)) && decide (m2 = n) && decide (f2 = ("place" : Str))
  | [.Return (some (.Constant (.bool false) _ _)) _] => decide (2 ≤ kd)
  | _ => false
/-- the suite's reading -/
def tSu (J : Info) (ca : Nat → Addr) (i kd : Nat) (a : Addr) (cls : Value) (d : Option Addr) : TS := fun Z σ H => σ[i]? = some (some (.ref a)) ∧ ∃ (c : Nat) (dd : Addr) (cv pv : V), c < J.nc ∧ cls = .ref (ca c) ∧ d = some dd ∧ H dd = some (.xd [("place", pv), ("code", cv)]) ∧
  match kd with
  | 0 => Z.rt cv H
  | 1 => ∀ p, H p = none → Z.rt (.ref p) (upd H p (.tup [cv, pv]))
  | _ => Z.rt (.bl false) H
theorem lk_code {pv cv : V} : List.lookup ("code" : Str) [(("place" : Str), pv), (("code" : Str), cv)] = some cv := by
  have h : (("code" : Str) == ("place" : Str)) = false := by decide +kernel
  simp [List.lookup, h]
theorem lk_place {pv cv : V} : List.lookup ("place" : Str) [(("place" : Str), pv), (("code" : Str), cv)] = some pv := by
  simp [List.lookup]
theorem suite_ok {i kd : Nat} {n : Str} {su : List Stmt} (E : ExcOk J ca X) (hi : X.N[i]? = some n) (hv : Vis X.env.scope n) (h1 : (n == ("__debug__" : Str)) = false) (h2 : (n == ("__classdict__" : Str)) = false) (hs : suiteB n kd su = true) (a : Addr) (oe : Obj) (cls : Value) (d : Option Addr) (pn : List (Addr × Obj)) (hz : Zc cls d oe) (hf : ∃ vs, oe.data = .fields vs) :
    PSs (X.suite a ((a, oe) :: pn)) su (tSu J ca i kd a cls d) := by
  refine L2.PSs.any fun Z σ H ⟨hσ, c, dd, cv, pv, hc, ec, ed, hH, q⟩ => ?_
  obtain ⟨_, _, T, n1, n2, _⟩ := E.cls c hc
  unfold suiteB at hs
  split at hs
  · simp only [Bool.and_eq_true, decide_eq_true_eq] at hs
    obtain ⟨⟨e0, e1⟩, e2⟩ := hs
    subst e0 e1 e2
    exact ⟨_, suite0 T n1 hz hf hi hv h1 h2, _, hσ, rfl, ec, dd, _, cv, ed, hH, lk_code, q⟩
  · simp only [Bool.and_eq_true, decide_eq_true_eq] at hs
    obtain ⟨⟨⟨⟨e0, e1⟩, e2⟩, e3⟩, e4⟩ := hs
    subst e0 e1 e2 e3 e4
    refine ⟨_, suite1 T n1 n2 hz hf hi hv h1 h2, _, hσ, rfl, ec, dd, _, cv, ed, hH, lk_code, _, hσ, rfl, ec, dd, _, pv, ed, hH, lk_place, ?_⟩
    refine ⟨?_, q⟩
    show ([cv, pv] : List V).length ≤ sizeLine
    rw [sizeLine_eq]
    show 2 ≤ 16777216
    decide
  · simp only [decide_eq_true_eq] at hs
    refine ⟨_, suite2, ?_⟩
    match kd, hs, q with
    | kd + 2, _, q => exact q
  · cases hs
/-- every clause's class is caught, every kind is the suite's -/
def hsB (J : Info) (z kd : Nat) (hs : List (Nat × Nat)) : Bool := hs.all fun p => decide (p.2 = kd) && decide (p.1 < J.nc) && J.cat z p.1
theorem handle_in {c : Nat} {code place dd : D} : ∀ {hs : List (Nat × Nat)}, handle c code place hs = some dd → ∃ kd, (c, kd) ∈ hs ∧ dd = hd kd code place
  | [], h => by simp [handle] at h
  | (c', k') :: r, h => by
    simp only [handle] at h
    split at h
    · rename_i e
      subst e
      cases h
      exact ⟨k', List.mem_cons_self, rfl⟩
    · obtain ⟨kd, h1, h2⟩ := handle_in h
      exact ⟨kd, List.mem_cons_of_mem _ h1, h2⟩
theorem get_none {ρ : PV.Env} (i : Nat) : PV.get (ρ.map fun _ => (none : Option Cell)) i = none := by
  unfold PV.get
  rw [List.getElem?_map]
  cases ρ[i]? <;> rfl
theorem st_try {b : Ss} {hs : List (Nat × Nat)} {z kd i : Nat} {zn n : Str} {body : List Stmt} {b₀ : Stmt} {su : List Stmt} {np pos pos' : Pos} (Q : CxS J fs ca k N sc W X) (E : ExcOk J ca X) (hst : X.stack = X.env :: X.outer) (hfr : X.env.frame = some X.env.locals) (hi : N[i]? = some n) (hln : sc.names.lookup n = some .local) (okn : okName n = true)
    (hz : z < J.nc) (ezn : zn = J.cn z) (hg : glB sc zn = true) (okz : okName zn = true) (hsu : suiteB n kd (b₀ :: su) = true) (hh : hsB J z kd hs = true) (ib : ∀ {W' : WX} {X' : Cx}, CxS J fs ca k N sc W' X' → X'.K = X.K → ExcOk J ca X' → X'.stack = X'.env :: X'.outer → X'.env.frame = some X'.env.locals → SSs ca fs k W' io X' b body) :
    SS ca fs k W io X (.try_ i b hs) (.Try body [.ExceptHandler (some (.Name zn np)) (some n) (b₀ :: su) pos'] [] [] pos) := by
  subst ezn
  simp only [okName, Bool.and_eq_true, Bool.not_eq_true'] at okn okz
  have hi' : X.N[i]? = some n := by rw [Q.C.N]; exact hi
  have hl' : X.env.scope.names.lookup n = some .local := by rw [Q.C.sc]; exact hln
  have nm : Names X (J.cn z) (.ref (ca z)) := ⟨gl_of Q.C hg, okz.1.1, .inl (E.cls z hz).1⟩
  refine (ps_try_as (pos := pos) (np := np) (pos' := pos') (tb := fun W' => tStms X.K ca (runF fs k) W' io b) (ts := fun a cls d => tSu J ca i kd a cls d) hst hfr Q.C.nd hi' hl' nm Q.C.takes
    (fun W' pn xe tk own => ib (Q.tr tk own) rfl ⟨E.cls, E.cat⟩ hst hfr) (fun a oe cls d pn hz hf => suite_ok E hi' (.inl hl') okn.1.1 okn.1.2 hsu a oe cls d pn hz hf)).weaken fun Z σ H ⟨ρ, A, rep, q⟩ => ?_
  refine ⟨ρ, A, rep, ?_⟩
  simp only [exec] at q
  rcases e : execs (runF fs k) b ρ with ⟨o, ρ1⟩ | ⟨c, code, place⟩ | _
  · rw [e] at q
    exact q
  · rw [e] at q
    dsimp only at q
    split at q
    · rename_i dd eh
      split at q
      case isFalse => exact q.elim
      rename_i hil
      obtain ⟨kd', m, edd⟩ := handle_in eh
      have hm := List.all_eq_true.mp hh _ m
      simp only [Bool.and_eq_true, decide_eq_true_eq] at hm
      obtain ⟨⟨ek, hc⟩, hcat⟩ := hm
      subst ek
      subst edd
      have hq : OutQ X.K io σ H A Z (.ret (hd kd' code place), ρ.map fun _ => (none : Option Cell)) := q
      intro d H' cv pv keep the hd0 hH dc dp σ' hl
      refine ⟨true, E.cat z c hz hc hcat, fun _ a ha => ?_, fun q => by cases q⟩
      have il : i < σ'.length := by rw [hl]; exact Nat.lt_of_lt_of_le hil rep.len
      refine ⟨by rw [List.getElem?_set_self il], c, d, cv, pv, hc, rfl, rfl, hH, ?_⟩
      have fin : ∀ {v : V} {H2 : Hp}, Same H' H2 → DpR X.K H2 v (hd kd' code place) [] → Z.rt v H2 := fun {v H2} sm dv => by
        refine hq v σ H2 ⟨fun _ => [], []⟩ ⟨fun j c e => (by rw [get_none] at e; cases e), fun i j a h => (by simp at h), fun i a h => (by simp at h), fun a h => (by simp at h), fun a h => (by simp at h), fun _ _ _ => rfl, (by rw [List.length_map]; exact rep.len)⟩ ⟨fun a ⟨j, hj⟩ => (by simp at hj), fun a o e n => sm a o (keep a o e n), fun a e => the a (same_there sm e)⟩ (Fx.refl _ _) ⟨[], dv, .nil, fun a h => by simp at h, fun a h => by simp at h⟩
      rcases kd' with _ | _ | kd
      · exact fin (Same.refl _) dc
      · intro p hp
        have sm : Same H' (upd H' p (.tup [cv, pv])) := same_upd hp
        exact fin sm (.tup (.inl (.inl upd_same)) (.cons (as := []) (dc.keep (Fix.of sm) fun a h => by simp at h) (.one (dp.keep (Fix.of sm) fun a h => by simp at h))))
      · exact fin (Same.refl _) (.bl false)
    · exact q.elim
  · rw [e] at q
    exact q
end
end PV
set_option Elab.async false
set_option linter.all false
set_option maxRecDepth 100000
set_option maxHeartbeats 4000000
/-! PV29: all statements. -/
namespace PV
open PySem PySem.Spec PyProof.Rows L2
def fnB (sc : Scope) : Bool := match sc.kind with
  | .function => true
  | _ => false
def locB (sc : Scope) (y : Str) : Bool := match sc.names.lookup y with
  | some .local => true
  | _ => false
mutual
def mS (J : Info) (N : List Str) (io : List Nat) : S → Scope → Stmt → Bool
  | .asg i e, sc, s => match s with
    | .Assign [y] x _ => (cellN sc y && tgtB (fun _ => true) N sc y i && !io.contains i && mE J N e sc x) || match e, y, x with
      | .comp elt tgt single it cnd own, .Name y py, .ListComp x [⟨t, g, ifs, 0⟩] scope pos => decide (N[i]? = some y) && locB sc y && !io.contains i && fnB sc && (py.line == pos.line) && !(scope.names.any fun (n, k) => n == y && (k == .local || k == .cell)) &&
          blkC N sc scope (namesOf N own) && targetB (fun x => scope.names.lookup x == some .cell) N (relS scope sc) t tgt single && tgt.all (fun i => own.contains i) && pairB single it && mI J N it sc g && mCs J N cnd (relS scope sc) ifs && mE J N elt (relS scope sc) x
      | e, y, x => tgtB (fun _ => true) N sc y i && !io.contains i && plainX x && notLC x && mE J N e sc x
    | _ => false
  | .asgT is e, sc, s => match s with
    | .Assign [y] x _ => targetB (fun _ => true) N sc y is false && is.all (fun i => !io.contains i) && plainX x && notLC x && notTL x && mE J N e sc x
    | _ => false
  | .setv i ix e, sc, s => match s with
    | .Assign [.Subscript (.Name y _) xi _] x _ => nameB N sc i y && plainX xi && mE J N ix sc xi && plainX x && notLC x && mE J N e sc x
    | _ => false
  | .set2 _ _ _ _, _, _ => false
  | .app i e, sc, s => match s with
    | .Expr (.Call (.Attribute (.Name y _) g p2) [x] [] p3) _ => decide (g = ("append" : Str)) && nameB N sc i y && lineB p2 p3 && plainX x && mE J N e sc x
    | _ => false
  | .app1 i ix e, sc, s => match s with
    | .Expr (.Call (.Attribute (.Subscript (.Name y _) xi _) g p2) [x] [] p3) _ => decide (g = ("append" : Str)) && nameB N sc i y && plainX xi && mE J N ix sc xi && lineB p2 p3 && plainX x && mE J N e sc x
    | _ => false
  | .ext i e, sc, s => match s with
    | .Expr (.Call (.Attribute (.Name y _) g p2) [x] [] p3) _ => decide (g = ("extend" : Str)) && nameB N sc i y && lineB p2 p3 && plainX x && mE J N e sc x
    | _ => false
  | .ex e, sc, s => match s with
    | .Expr x _ => plainX x && notLC x && mE J N e sc x
    | _ => false
  | .iff c a b, sc, s => match s with
    | .If x xs ys _ => mE J N c sc x && mSs J N io a sc xs && mSs J N io b sc ys
    | _ => false
  | .for tgt single it b, sc, s => match s with
    | .For t x body [] _ => targetB (fun _ => true) N sc t tgt single && tgt.all (fun i => !io.contains i) && pairB single it && mI J N it sc x && mSs J N io b sc body
    | _ => false
  | .whl c b, sc, s => match s with
    | .While x body [] _ => mE J N c sc x && mSs J N io b sc body
    | _ => false
  | .ret e, sc, s => match s with
    | .Return (some x) _ => mE J N e sc x
    | _ => false
  | .retN, _, s => match s with
    | .Return none _ => true
    | _ => false
  | .raise1 c code, sc, s => match s with
    | .Raise (some (.Call (.Name g _) [.Constant (.str m) _ _] [] _)) none _ => decide (c < J.nc) && decide (g = J.cn c) && glB sc g && okName g && decide (m = code)
    | _ => false
  | .raise2 c code e, sc, s => match s with
    | .Raise (some (.Call (.Name g _) [.Constant (.str m) _ _, x] [] _)) none _ => decide (c < J.nc) && decide (g = J.cn c) && glB sc g && okName g && decide (m = code) && plainX x && mE J N e sc x
    | _ => false
  | .try_ i b hs, sc, s => match s with
    | .Try body [.ExceptHandler (some (.Name zn _)) (some n) (b₀ :: su) _] [] [] _ => decide (N[i]? = some n) && locB sc n && okName n && glB sc zn && okName zn && (List.range J.nc).any (fun z => decide (zn = J.cn z) && [0, 1, 2].any (fun kd => suiteB n kd (b₀ :: su) && hsB J z kd hs)) && mSs J N io b sc body
    | _ => false
  | .brk, _, s => match s with
    | .Break _ => true
    | _ => false
  | .cnt, _, s => match s with
    | .Continue _ => true
    | _ => false
  | .pass, _, s => match s with
    | .Pass _ => true
    | _ => false
def mSs (J : Info) (N : List Str) (io : List Nat) : Ss → Scope → List Stmt → Bool
  | .nil, _, l => match l with
    | [] => true
    | _ => false
  | .cons s r, sc, l => match l with
    | x :: xs => mS J N io s sc x && mSs J N io r sc xs
    | _ => false
end
/-- a def's context, or a try's body in it -/
structure CxF (J : Info) (fs : List Fn) (ca : Nat → Addr) (k : Nat) (N : List Str) (sc : Scope) (W : WX) (X : Cx) : Prop where
  Q : CxS J fs ca k N sc W X
  E : ExcOk J ca X
  st : X.stack = X.env :: X.outer
  fr : X.env.frame = some X.env.locals
theorem loc_of {sc : Scope} {y : Str} (h : locB sc y = true) : sc.names.lookup y = some .local := by
  unfold locB at h
  split at h
  · assumption
  · cases h
theorem fn_ofB {sc : Scope} (h : fnB sc = true) : sc.kind = .function := by
  unfold fnB at h
  split at h
  · assumption
  · cases h
mutual
theorem good_S : ∀ (s : S) ⦃J : Info⦄ ⦃fs : List Fn⦄ ⦃ca : Nat → Addr⦄ ⦃k : Nat⦄ ⦃N : List Str⦄ ⦃sc : Scope⦄ ⦃W : WX⦄ ⦃X : Cx⦄ ⦃io : List Nat⦄, CxF J fs ca k N sc W X → ∀ x, mS J N io s sc x = true → SS ca fs k W io X s x
  | .asg i e => by
    intro J fs ca k N sc W X io C x h
    simp only [mS] at h
    split at h <;> try (cases h; done)
    rw [Bool.or_eq_true] at h
    rcases h with h | h
    · simp only [Bool.and_eq_true, Bool.not_eq_true'] at h
      obtain ⟨⟨⟨h1, h2⟩, h3⟩, h4⟩ := h
      exact st_asg C.Q h2 h3 (fun l => swaps_cell (by rw [C.Q.C.sc]; exact h1)) h4
    split at h
    · simp only [Bool.and_eq_true, decide_eq_true_eq, Bool.not_eq_true'] at h
      obtain ⟨⟨⟨⟨⟨⟨⟨⟨⟨⟨⟨⟨h1, h2⟩, h3⟩, h4⟩, h5⟩, h6⟩, h7⟩, h8⟩, h9⟩, h10⟩, h11⟩, h12⟩, h13⟩ := h
      exact st_asgC C.Q h1 (loc_of h2) h3 (fn_ofB h4) h5 h6 h7 h8 h9 h10 h11 h12 h13
    · simp only [Bool.and_eq_true, Bool.not_eq_true'] at h
      obtain ⟨⟨⟨⟨h1, h2⟩, h3⟩, h4⟩, h5⟩ := h
      exact st_asg C.Q h1 h2 (fun l => swaps_no h3 h4) h5
  | .asgT is e => by
    intro J fs ca k N sc W X io C x h
    simp only [mS] at h
    split at h <;> try (cases h; done)
    simp only [Bool.and_eq_true] at h
    obtain ⟨⟨⟨⟨⟨h1, h2⟩, h3⟩, h4⟩, h5⟩, h6⟩ := h
    exact st_asgT C.Q h1 h2 h3 h4 h5 h6
  | .setv i ix e => by
    intro J fs ca k N sc W X io C x h
    simp only [mS] at h
    split at h <;> try (cases h; done)
    simp only [Bool.and_eq_true] at h
    obtain ⟨⟨⟨⟨⟨h1, h2⟩, h3⟩, h4⟩, h5⟩, h6⟩ := h
    exact st_setv C.Q h1 h2 h3 h4 h5 h6
  | .set2 _ _ _ _ => by
    intro J fs ca k N sc W X io C x h
    simp [mS] at h
  | .app i e => by
    intro J fs ca k N sc W X io C x h
    simp only [mS] at h
    split at h <;> try (cases h; done)
    simp only [Bool.and_eq_true, decide_eq_true_eq] at h
    obtain ⟨⟨⟨⟨e1, h1⟩, h2⟩, h3⟩, h4⟩ := h
    subst e1
    exact st_app C.Q h1 h2 h3 h4
  | .app1 i ix e => by
    intro J fs ca k N sc W X io C x h
    simp only [mS] at h
    split at h <;> try (cases h; done)
    simp only [Bool.and_eq_true, decide_eq_true_eq] at h
    obtain ⟨⟨⟨⟨⟨⟨e1, h1⟩, h2⟩, h3⟩, h4⟩, h5⟩, h6⟩ := h
    subst e1
    exact st_app1 C.Q h1 h2 h3 h4 h5 h6
  | .ext i e => by
    intro J fs ca k N sc W X io C x h
    simp only [mS] at h
    split at h <;> try (cases h; done)
    simp only [Bool.and_eq_true, decide_eq_true_eq] at h
    obtain ⟨⟨⟨⟨e1, h1⟩, h2⟩, h3⟩, h4⟩ := h
    subst e1
    exact st_ext C.Q h1 h2 h3 h4
  | .ex e => by
    intro J fs ca k N sc W X io C x h
    simp only [mS] at h
    split at h <;> try (cases h; done)
    simp only [Bool.and_eq_true] at h
    obtain ⟨⟨h1, h2⟩, h3⟩ := h
    exact st_ex C.Q h1 h2 h3
  | .iff c a b => by
    intro J fs ca k N sc W X io C x h
    simp only [mS] at h
    split at h <;> try (cases h; done)
    simp only [Bool.and_eq_true] at h
    obtain ⟨⟨h1, h2⟩, h3⟩ := h
    exact st_if C.Q h1 (good_Ss a C _ h2) (good_Ss b C _ h3)
  | .for tgt single it b => by
    intro J fs ca k N sc W X io C x h
    simp only [mS] at h
    split at h <;> try (cases h; done)
    simp only [Bool.and_eq_true] at h
    obtain ⟨⟨⟨⟨h1, h2⟩, h3⟩, h4⟩, h5⟩ := h
    exact st_for C.Q h1 h2 h3 h4 (good_Ss b C _ h5)
  | .whl c b => by
    intro J fs ca k N sc W X io C x h
    simp only [mS] at h
    split at h <;> try (cases h; done)
    simp only [Bool.and_eq_true] at h
    exact st_whl C.Q h.1 (good_Ss b C _ h.2)
  | .ret e => by
    intro J fs ca k N sc W X io C x h
    simp only [mS] at h
    split at h <;> try (cases h; done)
    exact st_ret C.Q h
  | .retN => by
    intro J fs ca k N sc W X io C x h
    simp only [mS] at h
    split at h <;> try (cases h; done)
    exact st_retN
  | .raise1 c code => by
    intro J fs ca k N sc W X io C x h
    simp only [mS] at h
    split at h <;> try (cases h; done)
    simp only [Bool.and_eq_true, decide_eq_true_eq] at h
    obtain ⟨⟨⟨⟨h1, h2⟩, h3⟩, h4⟩, h5⟩ := h
    subst h5
    exact st_raise1 C.Q C.E h1 h2 h3 h4
  | .raise2 c code e => by
    intro J fs ca k N sc W X io C x h
    simp only [mS] at h
    split at h <;> try (cases h; done)
    simp only [Bool.and_eq_true, decide_eq_true_eq] at h
    obtain ⟨⟨⟨⟨⟨⟨h1, h2⟩, h3⟩, h4⟩, h5⟩, h6⟩, h7⟩ := h
    subst h5
    exact st_raise2 C.Q C.E h1 h2 h3 h4 h6 h7
  | .try_ i b hs => by
    intro J fs ca k N sc W X io C x h
    have ib := good_Ss b
    simp only [mS] at h
    split at h <;> try (cases h; done)
    simp only [Bool.and_eq_true, decide_eq_true_eq] at h
    obtain ⟨⟨⟨⟨⟨⟨h1, h2⟩, h3⟩, h4⟩, h5⟩, h6⟩, h7⟩ := h
    obtain ⟨z, hz, h6⟩ := List.any_eq_true.mp h6
    simp only [Bool.and_eq_true, decide_eq_true_eq] at h6
    obtain ⟨ez, h6⟩ := h6
    obtain ⟨kd, _, h6⟩ := List.any_eq_true.mp h6
    simp only [Bool.and_eq_true] at h6
    exact st_try C.Q C.E C.st C.fr h1 (loc_of h2) h3 (List.mem_range.mp hz) ez h4 h5 h6.1 h6.2 fun Q' _ E' s' f' => ib ⟨Q', E', s', f'⟩ _ h7
  | .brk => by
    intro J fs ca k N sc W X io C x h
    simp only [mS] at h
    split at h <;> try (cases h; done)
    exact st_brk
  | .cnt => by
    intro J fs ca k N sc W X io C x h
    simp only [mS] at h
    split at h <;> try (cases h; done)
    exact st_cnt
  | .pass => by
    intro J fs ca k N sc W X io C x h
    simp only [mS] at h
    split at h <;> try (cases h; done)
    exact st_pass
theorem good_Ss : ∀ (s : Ss) ⦃J : Info⦄ ⦃fs : List Fn⦄ ⦃ca : Nat → Addr⦄ ⦃k : Nat⦄ ⦃N : List Str⦄ ⦃sc : Scope⦄ ⦃W : WX⦄ ⦃X : Cx⦄ ⦃io : List Nat⦄, CxF J fs ca k N sc W X → ∀ x, mSs J N io s sc x = true → SSs ca fs k W io X s x
  | .nil => by
    intro J fs ca k N sc W X io C x h
    simp only [mSs] at h
    split at h <;> try (cases h; done)
    exact sts_nil
  | .cons s r => by
    intro J fs ca k N sc W X io C x h
    simp only [mSs] at h
    split at h <;> try (cases h; done)
    simp only [Bool.and_eq_true] at h
    exact sts_cons (good_S s C _ h.1) (good_Ss r C _ h.2)
end
end PV
set_option Elab.async false
set_option linter.all false
set_option maxRecDepth 100000
set_option maxHeartbeats 1000000
/-! PV30: defs keep their promises. -/
namespace PV
open PySem PySem.Spec PyProof.Rows L2
/-- the text of a def is the reading's -/
structure FnD (J : Info) (fs : List Fn) (K : PySem.W.Frag) (mg : Str → Option Value) (f : Nat) (a : Addr) (fd : FuncData) (ps : List Str) : Prop where
  ex : ∃ x qual st N F, fs[f]? = some F ∧ Fun K x qual st a fd ∧ FnScope N ps (defScope st) ∧ mSs J N (J.io f) F.body (defScope st) (defBody st) = true ∧ ps.length = F.params ∧ N.length = F.slots
  mg : mg (J.nm f) = some (.ref a)
  bd : L2.Binds K fd ps []
section
variable {J : Info} {fs : List Fn} {ca : Nat → Addr} {P : Program} {w : World} {K : PySem.W.Frag} {mg : Str → Option Value} {base : Heap}
theorem take_get {ρ : PV.Env} {n i : Nat} : PV.get (ρ.take n) i = if i < n then PV.get ρ i else none := by
  unfold PV.get
  rw [List.getElem?_take]
  by_cases h : i < n <;> simp [h]
theorem Rep.front {H : Hp} {σ : L2.St} {ρ : PV.Env} {A : Own} (rep : Rep K H [] σ ρ A) (n : Nat) : Rep K H [] σ (ρ.take n) A where
  cell := fun i c h => by
    rw [take_get] at h
    split at h
    · exact rep.cell i c h
    · cases h
  disj := rep.disj
  trk := rep.trk
  fdis := rep.fdis
  ftrk := rep.ftrk
  emp := fun i hl h => by
    rw [List.length_take] at hl
    refine rep.emp i (by omega) fun d e => h d ?_
    rw [take_get, if_pos (by omega)]
    exact e
  len := by rw [List.length_take]; have := rep.len; omega
theorem rep_start {H : Hp} {vs : List V} {cs : List Cell} {A : Own} {N : List Str} {m : Nat} (rep : Rep K H [] (vs.map some) (cs.map some) A) (hl : vs.length = cs.length) (hm : cs.length + m = N.length) (hA : ∀ i, cs.length ≤ i → A i = []) :
    Rep K H [] (L2.start N vs) (cs.map some ++ List.replicate m none) A := by
  have hg : ∀ i, PV.get (cs.map some ++ List.replicate m none) i = PV.get (cs.map some) i := fun i => by
    unfold PV.get
    by_cases hi : i < cs.length
    · rw [List.getElem?_append_left (by simpa using hi)]
    · rw [List.getElem?_append_right (by simpa using hi), List.getElem?_eq_none (l := cs.map some) (by simpa using hi), List.getElem?_replicate]
      by_cases hj : i - cs.length < m <;> simp [hj]
  refine ⟨fun i c h => ?_, rep.disj, rep.trk, rep.fdis, rep.ftrk, fun i hl' h => ?_, ?_⟩
  · rw [hg] at h
    obtain ⟨v, e, ok⟩ := rep.cell i c h
    have hi : i < vs.length := by
      have := get_lt h
      rw [List.length_map] at this
      omega
    refine ⟨v, ?_, ok⟩
    unfold L2.start
    rw [List.getElem?_append_left (by simpa using hi)]
    exact e
  · by_cases hi : i < cs.length
    · refine rep.emp i (by simpa using hi) fun d e => h d ?_
      rw [hg]; exact e
    · exact hA i (by omega)
  · unfold L2.start
    rw [List.length_append, List.length_append, List.length_map, List.length_map, List.length_replicate, List.length_replicate]
    omega
/-- all defs, however deep -/
theorem fn_one (nf : ∀ f, f < J.nf → ∃ a fd ps, FnD J fs K mg f a fd ps) (hb : ∀ x ∈ blts, mg x = none) (hgc : ∀ x n, J.gc.lookup x = some n → ∃ t, mg x = some (.int n t))
    (hE : ∀ X : Cx, X.prog = P → X.w = w → X.K = K → X.mg = mg → X.base = base → ExcOk J ca X) : ∀ k f a fd ps, FnD J fs K mg f a fd ps → FnOk P w K mg base (L2.CX P w) (k + 2) a fd ps (spF J fs ca K k f) ∧ mg (J.nm f) = some (.ref a) ∧ PySem.W.keepIn K (.ref a) = true ∧ L2.Binds K fd ps [] := by
  intro k
  induction k with
  | zero =>
    intro f a fd ps D
    obtain ⟨x, qual, st, N, F, _, Fn, _⟩ := D.ex
    refine ⟨⟨fun vs H Q E h => ?_, fun A outer s H args us vs Q E _ _ _ _ h => ?_⟩, D.mg, Fn.kp, D.bd⟩
    · obtain ⟨cs, A, _, _, _, _, h⟩ := h
      exact h.elim
    · obtain ⟨cs, A, _, _, _, _, h⟩ := h
      exact h.elim
  | succ k ih0 =>
    intro f a fd ps D
    have ih : ∀ f, f < J.nf → ∃ a fd ps, FnOk P w K mg base (L2.CX P w) (k + 2) a fd ps (spF J fs ca K k f) ∧ mg (J.nm f) = some (.ref a) ∧ PySem.W.keepIn K (.ref a) = true ∧ L2.Binds K fd ps [] := fun f hf => by
      obtain ⟨a, fd, ps, D⟩ := nf f hf
      exact ⟨a, fd, ps, ih0 f a fd ps D⟩
    obtain ⟨x, qual, st, N, F, hF, Fn, S, hm, hps, hN⟩ := D.ex
    refine ⟨?_, D.mg, Fn.kp, D.bd⟩
    -- the call's reading, opened
    have opn : ∀ {vs : List V} {H : Hp} {Q : VK} {E : XK}, spF J fs ca K (k + 1) f vs H Q E → ∃ (cs : List Cell) (A : Own), Rep K H [] (vs.map some) (cs.map some) A ∧ vs.length = cs.length ∧ (∀ i, cs.length ≤ i → A i = []) ∧ cs.length = F.params ∧
        RS K ca (fun cls d _ H' => E cls d H') (J.io f) (L2.start N vs) H A { nx := fun _ H' => Q .non H', rt := Q } (execs (runF fs k) F.body (cs.map some ++ List.replicate (F.slots - F.params) none)) := fun {vs H Q E} h => by
      obtain ⟨cs, A, rep, hl, nb, hA, h⟩ := h
      simp only [runF, hF] at h
      by_cases hp : cs.length = F.params
      · rw [if_pos hp] at h
        refine ⟨cs, A, rep, hl, hA, hp, ?_⟩
        have hio : ∀ {σ' : L2.St}, Fx (J.io f) (L2.start N vs) σ' → ∀ j ∈ J.io f, ∀ y, vs[j]? = some y → σ'[j]? = some (some y) := fun fx j hj y e => by
          rw [fx.2 j hj]
          unfold L2.start
          have hjl : j < vs.length := (List.getElem?_eq_some_iff.mp e).1
          rw [List.getElem?_append_left (by simpa using hjl), List.getElem?_map, e]
          rfl
        rcases e : execs (runF fs k) F.body (cs.map some ++ List.replicate (F.slots - F.params) none) with ⟨o, ρ'⟩ | ⟨c, kk, p⟩ | _
        · rw [e] at h
          cases o with
          | ret d => exact fun v σ' H' A' r s fx rv => h v H' σ' A' (r.front _) (hio fx) s rv
          | nx => exact fun σ' H' A' r s fx => h .non H' σ' A' (r.front _) (hio fx) s ⟨[], .non, .nil, fun a q => by simp at q, fun a q => by simp at q⟩
          | brk => exact h.elim
          | cnt => exact h.elim
        · rw [e] at h
          exact ExQ.imp (E' := fun a b H' => ∀ σ' : L2.St, σ'.length = (L2.start N vs).length → E a b H') h fun a b H' q σ' _ => q
        · rw [e] at h
          exact h
      · rw [if_neg hp] at h
        exact h.elim
    refine Fn.okX S (fun vs H Q E h => ?_) fun cdv A outer s H vs Q E hr hsp => ?_
    · obtain ⟨cs, A, _, hl, _, hp, _⟩ := opn h
      rw [hl, hp, hps]
    · obtain ⟨cs, A0, rep, hl, hA, hp, q⟩ := opn hsp
      refine ⟨_, good_Ss F.body (X := cxOf (L2.CX P w) P w K mg base N qual (defScope st) a cdv A outer s H E) (ca := ca) (fs := fs) (k := k) (N := N) (sc := defScope st) (J := J) (W := fun cls d _ H' => E cls d H') (io := J.io f)
        ⟨⟨⟨rfl, rfl, rfl, S.nd, hr, hb, hgc, takes_of rfl rfl rfl rfl, ih⟩, passes_of rfl, fun _ => rfl⟩, hE _ rfl rfl rfl rfl rfl, rfl, rfl⟩ _ hm, _, A0, rep_start rep hl (m := F.slots - F.params) ?_ hA, q⟩
      have hpl : ps.length ≤ N.length := by have := congrArg List.length S.pre; rw [List.length_take] at this; omega
      omega
end
end PV
set_option Elab.async false
set_option linter.all false
set_option maxRecDepth 100000
set_option maxHeartbeats 1000000
/-! PV31: the law's own promise. -/
namespace PV
open PySem PySem.Spec PyProof.Rows L2
section
variable {J : Info} {fs : List Fn} {ca : Nat → Addr} {K : PySem.W.Frag}
theorem law_sp {k f : Nat} {ns : List Int} {outs : List (Option Cell)} {H : Hp} {a : Addr} (ho : Only H) (hs : SqL K H a (ns.map V.int)) (hr : runF fs k f [.scr ns] = .ok ((true, .bool true), outs)) : spF J fs ca K k f [.ref a] H (fun v _ => v = .bl true) fun _ _ _ => False := by
  have hx : ExtL K H a (ns.map V.int) := by
    rcases hs with (h | ⟨o, h⟩) | h
    · rcases ho a with e | ⟨o, xs, e⟩
      · rw [e] at h; cases h
      · rw [e] at h; cases h
    · exact .inl ⟨o, h⟩
    · exact .inr h
  refine ⟨[.scr ns], ⟨fun _ => [], []⟩, ⟨fun i c h => ?_, fun i j b h => by simp at h, fun i b h => by simp at h, fun b h => by simp at h, fun b h => by simp at h, fun _ _ _ => rfl, Nat.le_refl _⟩, rfl, rfl, fun _ _ => rfl, ?_⟩
  · cases i with
    | zero =>
      have e : c = .scr ns := by
        have := get_of h
        simp at this
        exact this.symm
      subst e
      exact ⟨.ref a, rfl, a, rfl, hx⟩
    | succ i =>
      have := get_of h
      simp at this
  · rw [hr]
    intro v H' σ' A' _ _ _ ⟨as, d, _⟩
    exact d.bool_inv
end
end PV
set_option Elab.async false
set_option linter.all false
set_option maxRecDepth 100000
set_option maxHeartbeats 1000000
/-! PV32: the errors' __init__. -/
namespace PV
open PySem PySem.Spec PyProof.Rows L2
/-- self.code = code; self.place = place -/
def initB (q1 q2 q3 q4 r1 r2 r3 r4 : Pos) : List Stmt := [.Assign [.Attribute (.Name "self" q1) "code" q2] (.Name "code" q3) q4, .Assign [.Attribute (.Name "self" r1) "place" r2] (.Name "place" r3) r4]
theorem init_ok {P : Program} {w : World} {K : PySem.W.Frag} {mg : Str → Option Value} {base : Heap} {x qual : Str} {pa : Arguments} {sc : Scope} {dvs : List V} {kws : List (Str × V)} {fI : Addr} {fd : FuncData} {q1 q2 q3 q4 r1 r2 r3 r4 : Pos}
    (F : FunD K x qual pa (initB q1 q2 q3 q4 r1 r2 r3 r4) sc dvs kws fI fd) (S : FnScope ["self", "code", "place"] ["self", "code", "place"] sc) (h1 : sc.names.lookup ("self" : Str) = some .local) (h2 : sc.names.lookup ("code" : Str) = some .local) (h3 : sc.names.lookup ("place" : Str) = some .local) :
    FnOk P w K mg base (L2.CX P w) 1 fI fd ["self", "code", "place"] (spI K) := by
  refine F.ok S (fun vs H Q E h => ?_) fun cdv A outer s H vs Q E hr hsp => ?_
  · obtain ⟨a, C, c, p, e, _⟩ := h
    rw [e]; rfl
  · obtain ⟨a, C, c, p, e, T, n1, n2, ea, q⟩ := hsp
    subst e
    refine ⟨_, pss_cons (ps_ost (pe_var (i := 0) rfl (.inl h1)) (pe_var (i := 1) rfl (.inl h2))) (pss_one (ps_ost (pe_var (i := 0) rfl (.inl h1)) (pe_var (i := 2) rfl (.inl h3)))), ?_⟩
    refine ⟨c, rfl, .ref a, rfl, a, C, rfl, T, n1, .inl ⟨ea, fun dx hdx hne => ?_⟩⟩
    refine ⟨p, rfl, .ref a, rfl, a, C, rfl, T, n2, .inr ⟨dx, [("code", c)], upd_same, ?_, ?_, ?_⟩⟩
    · rw [upd_ne hne, upd_same]
    · show 1 ≤ 900
      decide
    · exact q dx hdx hne
end PV
set_option Elab.async false
set_option linter.all false
set_option maxRecDepth 100000
set_option maxHeartbeats 1000000
/-! PV33: a law's end: what is read of the top, and what follows. -/
namespace PV
open PySem PySem.Spec PyProof.Rows L2
/-! ### error classes, read off the top -/
def oexB (K : PySem.W.Frag) (C : Addr) : Bool := match K.lookup C with
  | some ⟨.type "type", _, .cls cd, sl⟩ => (match cd.mro, sl.toList with
    | .ref C' :: bm, [_, _, _, _, some (.builtin n), _] => C' == C && (n == "ValueError.__new__") && !cd.hasDel && cd.hasDict && PySem.HandSPX.refsVE bm
    | _, _ => false)
  | _ => false
theorem oexB_ok {K : PySem.W.Frag} {C : Addr} (q : oexB K C = true) : ∃ nm q N bs bm sn sub ab col dd k0 k1 k2 k3 k5, K.lookup C = some (excClassObj nm q C N bs bm true sn sub ab col dd k0 k1 k2 k3 k5 "ValueError.__new__") ∧ PySem.HandSPX.refsVE bm = true := by
  unfold oexB at q
  split at q
  · rename_i dd cd sl ho
    split at q
    · rename_i C' bm k0 k1 k2 k3 n k5 hm hs
      simp only [Bool.and_eq_true, beq_iff_eq, Bool.not_eq_true'] at q
      obtain ⟨⟨⟨⟨rfl, rfl⟩, hdel⟩, hd⟩, ht⟩ := q
      obtain ⟨nm, bs, mro, ns, qn, hdd, sn, sub, ab, col, del⟩ := cd
      dsimp only at hm hdel hd
      subst hm hdel hd
      have hsl : sl = #[k0, k1, k2, k3, some (.builtin "ValueError.__new__"), k5] := by
        obtain ⟨l⟩ := sl
        simp only at hs
        rw [hs]
      subst hsl
      exact ⟨nm, qn, ns, bs, bm, sn, sub, ab, col, dd, k0, k1, k2, k3, k5, ho, ht⟩
    · cases q
  · cases q
/-- where the errors' maker stands -/
def initAt : Str × Option Str := ("WorkError", some "__init__")
def errB (K : PySem.W.Frag) (x : Str) : Bool :=
  He.eqO (PySem.W.nsIn K mainGlobals x) (some (some (.ref (He.ga K x)))) && oexB K (He.ga K x) && xfB K (He.ga K x) && He.eqO (PySem.W.findIn K (.ref (He.ga K x)) "__setattr__") (some (some (.builtin "object.__setattr__"))) &&
  decide (PySem.W.typeIn K (.ref (He.ga K x)) = some (.type "type")) && PySem.W.keepIn K (.ref (He.ga K x)) && He.eqO (PySem.W.findIn K (.ref (He.ga K x)) "code") (some none) && He.eqO (PySem.W.findIn K (.ref (He.ga K x)) "place") (some none) &&
  He.eqO (PySem.W.findIn K (.ref (He.ga K x)) "__init__") (some (some (.ref (He.fAd K initAt)))) && decide (PySem.W.typeIn K (.ref (He.fAd K initAt)) = some (.type "function"))
structure Err (K : PySem.W.Frag) (mg : Str → Option Value) (x : Str) : Prop where
  m : mg x = some (.ref (He.ga K x))
  o : OexC K (He.ga K x)
  f : XfC K (He.ga K x)
  n1 : PySem.W.findIn K (.ref (He.ga K x)) "code" = some none
  n2 : PySem.W.findIn K (.ref (He.ga K x)) "place" = some none
  i : PySem.W.findIn K (.ref (He.ga K x)) "__init__" = some (some (.ref (He.fAd K initAt)))
  t : PySem.W.typeIn K (.ref (He.fAd K initAt)) = some (.type "function")
theorem errB_ok {K : PySem.W.Frag} {h : Heap} {mg : Str → Option Value} (X : K.In h) (G : h.Ns mainGlobals mg) {x : Str} (e : errB K x = true) : Err K mg x := by
  unfold errB at e
  simp only [Bool.and_eq_true, decide_eq_true_eq] at e
  obtain ⟨⟨⟨⟨⟨⟨⟨⟨⟨a1, a2⟩, a3⟩, a4⟩, a5⟩, a6⟩, a7⟩, a8⟩, a9⟩, a10⟩ := e
  exact ⟨PySem.W.mg_of X G (He.eqO_ok a1), ⟨oexB_ok a2, He.eqO_ok a4, (xfB_ok a3).exC, a5, a6⟩, xfB_ok a3, He.eqO_ok a7, He.eqO_ok a8, He.eqO_ok a9, a10⟩
/-! ### a law's text -/
structure LawT where
  J : Info
  fs : List Fn
  /-- the slots' names -/
  N : Nat → List Str
  /-- which statement of the top each def is -/
  at_ : Nat → Nat
  P : Program
  /-- the class statement of the errors' base -/
  cls0 : Nat
def LawT.st (L : LawT) (f : Nat) : Stmt := L.P.main.body.getD (L.at_ f) (.Pass ⟨0, 0, 0, 0⟩)
def LawT.ps (L : LawT) (f : Nat) : List Str := (defArgs (L.st f)).args.map (·.arg)
def initSt (s : Stmt) : Stmt := match s with
  | .ClassDef _ _ _ (b :: _) _ _ _ _ _ _ _ => b
  | _ => .Pass ⟨0, 0, 0, 0⟩
def LawT.ini (L : LawT) : Stmt := initSt (L.P.main.body.getD L.cls0 (.Pass ⟨0, 0, 0, 0⟩))
def LawT.dfn (L : LawT) (f : Nat) : He.DefD := ⟨(L.J.nm f, none), L.J.nm f, L.J.nm f, defArgs (L.st f), defBody (L.st f), defScope (L.st f), [], []⟩
def LawT.dIni (L : LawT) : He.DefD := ⟨initAt, "__init__", "WorkError.__init__", defArgs L.ini, defBody L.ini, defScope L.ini, [.int 0], []⟩
def LawT.fn (L : LawT) : List He.DefD := (if L.J.nc = 0 then [] else [L.dIni]) ++ (List.range L.J.nf).map L.dfn
def LawT.fa (L : LawT) : List He.Fa := blts.map He.Fa.free ++ L.J.gc.map (fun q => He.Fa.int q.1 q.2) ++ (List.range L.J.nf).map fun f => He.Fa.glo (L.J.nm f)
def LawT.ex (L : LawT) (K : PySem.W.Frag) : Bool := ((List.range L.J.nc).all fun c => errB K (L.J.cn c)) &&
  (List.range L.J.nc).all fun z => (List.range L.J.nc).all fun c => !L.J.cat z c || decide (PySem.W.exmOne K (.ref (He.ga K (L.J.cn c))) (.ref (He.ga K (L.J.cn z))) = some true)
def scopeB (N P : List Str) (sc : Scope) : Bool := decide (sc.kind = .function) && decide (sc.isCoroutine = false) && decide (sc.isGenerator = false) && decide N.Nodup && decide (N.take P.length = P) &&
  (P.all fun x => decide (sc.names.lookup x = some .local) || decide (sc.names.lookup x = some .cell)) && sc.names.all fun y => decide (y.2 ≠ .free)
theorem scopeB_ok {N P : List Str} {sc : Scope} (h : scopeB N P sc = true) : FnScope N P sc := by
  unfold scopeB at h
  simp only [Bool.and_eq_true, decide_eq_true_eq, List.all_eq_true, Bool.or_eq_true] at h
  obtain ⟨⟨⟨⟨⟨⟨h1, h2⟩, h3⟩, h4⟩, h5⟩, h6⟩, h7⟩ := h
  exact ⟨h1, h2, h3, h4, h5, h6, h7⟩
/-- each def's text is the reading's -/
def LawT.ok1 (L : LawT) (f : Nat) : Bool := match L.fs[f]? with
  | some F => scopeB (L.N f) (L.ps f) (defScope (L.st f)) && mSs L.J (L.N f) (L.J.io f) F.body (defScope (L.st f)) (defBody (L.st f)) && decide ((L.ps f).length = F.params) && decide ((L.N f).length = F.slots)
  | none => false
def LawT.okI (L : LawT) : Bool := L.J.nc == 0 || (scopeB ["self", "code", "place"] ["self", "code", "place"] (defScope L.ini) && decide ((defScope L.ini).names.lookup ("self" : Str) = some .local) && decide ((defScope L.ini).names.lookup ("code" : Str) = some .local) && decide ((defScope L.ini).names.lookup ("place" : Str) = some .local))
def LawT.ok (L : LawT) : Bool := ((List.range L.J.nf).all fun f => L.ok1 f) && L.okI
/-! ### the Hook -/
abbrev AlP : Type := He.AlD × Bool
def obsP (fa : List He.Fa) (fn : List He.DefD) (ex : PySem.W.Frag → Bool) (K : PySem.W.Frag) : AlP := (He.obsD fa fn K, ex K)
def obsPG (n : Nat) (fa : List He.Fa) (fn : List He.DefD) (ex : PySem.W.Frag → Bool) (g : Addr → Option Obj) : AlP := obsP fa fn ex (He.frG g (He.asD g n))
structure SaysP (fa : List He.Fa) (fn : List He.DefD) (ex : PySem.W.Frag → Bool) (K : PySem.W.Frag) : Prop where
  d : He.SaysD fa fn K
  x : ex K = true
def hookP (n : Nat) (fa : List He.Fa) (fn : List He.DefD) (ex : PySem.W.Frag → Bool) : PySem.W.Hook where
  α := AlP
  obs := fun s => obsPG n fa fn ex s.heap.get?
  val := fun _ => (He.valD fn, true)
  says := fun _ h => ∃ K : PySem.W.Frag, K.In h ∧ SaysP fa fn ex K
  of := fun _ _ e => ⟨_, He.frG_in, congrArg (fun z : AlP => z.1) e, congrArg (fun z : AlP => z.2) e⟩
  keeps := fun _ _ _ ⟨K, hK, c⟩ k => ⟨K, PySem.W.Frag.In.keeps hK k, c⟩
theorem obsPG_eq {n : Nat} {fa : List He.Fa} {fn : List He.DefD} {ex : PySem.W.Frag → Bool} {g : Addr → Option Obj} {s : Shared} (h : ∀ a, g a = s.heap.get? a) : obsPG n fa fn ex g = (hookP n fa fn ex).obs s := by
  have e : g = s.heap.get? := funext h
  rw [e] <;> rfl
abbrev LawT.hk (L : LawT) : PySem.W.Hook := hookP 5 L.fa L.fn L.ex
def LawT.ob (L : LawT) (s : PySem.W.SharedT) : AlP := obsPG 5 L.fa L.fn L.ex (HandSHeadRun.getT s)
theorem LawT.ob_eq (L : LawT) (s : PySem.W.SharedT) : L.ob s = L.hk.obs s.abs := obsPG_eq (HandSHeadRun.getT_eq s)
/-! ### what follows -/
theorem fun_of {K : PySem.W.Frag} {x qual : Str} {st : Stmt} {a : Addr} {fd : FuncData} (F : FunD K x qual (defArgs st) (defBody st) (defScope st) [] [] a fd) : Fun K x qual st a fd := by
  obtain ⟨oc, od, dV, kV, doc, pm, an, cdv, ct, osl, rfl, lk, hcd, hD, _⟩ := F.ex
  rcases hD with ⟨_, rfl⟩ | ⟨e, _⟩
  · exact ⟨⟨oc, od, kV, doc, pm, an, cdv, ct, osl, rfl, lk, hcd⟩, F.kp⟩
  · exact absurd rfl e
theorem SaysD.mem {fa : List He.Fa} {fn : List He.DefD} {K : PySem.W.Frag} (c : He.SaysD fa fn K) {f : He.Fa} (h : f ∈ fa) : f.ok K = true := by
  obtain ⟨i, hi, e⟩ := List.mem_iff_getElem.mp h
  exact c.fact i (f := f) (by rw [List.getElem?_eq_getElem hi, e])
theorem SaysD.memD {fa : List He.Fa} {fn : List He.DefD} {K : PySem.W.Frag} (c : He.SaysD fa fn K) {d : He.DefD} (h : d ∈ fn) : ∃ fd, FunD K d.name d.qual d.params d.body d.scope (d.dvs K) (d.kws K) (He.fAd K d.at_) fd := by
  obtain ⟨i, hi, e⟩ := List.mem_iff_getElem.mp h
  exact c.def_ i (d := d) (by rw [List.getElem?_eq_getElem hi, e])
/-- how the arguments come to the parameters -/
def LawT.Bind (L : LawT) : Prop := ∀ f, f < L.J.nf → ∀ (kV doc pm : Value) (an : Option Addr) (cdv ct : Value) (us : List Value), us.length = (L.ps f).length →
  bindArgs (PySem.W.fnOf (L.J.nm f) (L.J.nm f) (defArgs (L.st f)) (defBody (L.st f)) (defScope (L.st f)) .none kV doc pm an cdv ct) ⟨us, []⟩ = pure ((L.ps f).zip us)
def LawT.BindI (L : LawT) (j : Nat) : Prop := ∀ (T : Addr) (kV doc pm : Value) (an : Option Addr) (cdv ct : Value) (us its : List Value), us.length = 2 + j → its.length = 1 →
  ∃ k, bindArgs (PySem.W.fnOf "__init__" "WorkError.__init__" (defArgs L.ini) (defBody L.ini) (defScope L.ini) (.ref T) kV doc pm an cdv ct) ⟨us, []⟩ = seqItems? (.ref T) >>= k ∧ k (some its.toArray) = pure ((["self", "code", "place"] : List Str).zip (us ++ its.drop j))
def LawT.IsI (L : LawT) : Prop := ∃ q1 q2 q3 q4 r1 r2 r3 r4, defBody L.ini = initB q1 q2 q3 q4 r1 r2 r3 r4
theorem facts (L : LawT) {P : Program} {w : World} {K : PySem.W.Frag} {h : Heap} {mg : Str → Option Value} {fl : Nat} {a : Addr} (X : K.In h) (G : h.Ns mainGlobals mg) (hl : fl < L.J.nf) (hfa : mg (L.J.nm fl) = some (.ref a)) (hp : L.ps fl = [("script" : Str)])
    (ok : L.ok = true) (hB : L.Bind) (hI : L.J.nc ≠ 0 → L.IsI ∧ L.BindI 0 ∧ L.BindI 1) (c : SaysP L.fa L.fn L.ex K) (k : Nat) :
    ∃ fd : FuncData, (∀ (s : Shared) (u : Value), BindsTo s fd ⟨[u], []⟩ [("script", u)]) ∧ ∀ base : Heap, K.In base → base.Ns mainGlobals mg → FnOk P w K mg base (L2.CX P w) (k + 2) a fd ["script"] (spF L.J L.fs (fun c => He.ga K (L.J.cn c)) K k fl) := by
  unfold LawT.ok at ok
  rw [Bool.and_eq_true, List.all_eq_true] at ok
  obtain ⟨ok1, okI⟩ := ok
  have glo : ∀ f, f < L.J.nf → mg (L.J.nm f) = some (.ref (He.ga K (L.J.nm f))) := fun f hf =>
    He.glo_ok X G (SaysD.mem c.d (List.mem_append_right _ (List.mem_map.mpr ⟨f, List.mem_range.mpr hf, rfl⟩)))
  have fre : ∀ x ∈ blts, mg x = none := fun x hx => He.free_ok X G (SaysD.mem c.d (List.mem_append_left _ (List.mem_append_left _ (List.mem_map.mpr ⟨x, hx, rfl⟩))))
  have hgc : ∀ x n, L.J.gc.lookup x = some n → ∃ t, mg x = some (.int n t) := fun x n h => by
    have hm : (x, n) ∈ L.J.gc := by
      revert h
      generalize L.J.gc = l
      induction l with
      | nil => intro h; cases h
      | cons q l ih =>
        intro h
        rw [List.lookup_cons] at h
        split at h
        · rename_i e
          cases h
          rw [eq_of_beq e]
          exact List.mem_cons_self
        · exact List.mem_cons_of_mem _ (ih h)
    exact He.int_ok X G (SaysD.mem c.d (List.mem_append_left _ (List.mem_append_right _ (List.mem_map.mpr ⟨(x, n), hm, rfl⟩))))
  have df : ∀ f, f < L.J.nf → ∃ fd, Fun K (L.J.nm f) (L.J.nm f) (L.st f) (He.ga K (L.J.nm f)) fd := fun f hf => by
    obtain ⟨fd, F⟩ := SaysD.memD c.d (d := L.dfn f) (List.mem_append_right _ (List.mem_map.mpr ⟨f, List.mem_range.mpr hf, rfl⟩))
    exact ⟨fd, fun_of F⟩
  have nf : ∀ f, f < L.J.nf → ∀ fd, Fun K (L.J.nm f) (L.J.nm f) (L.st f) (He.ga K (L.J.nm f)) fd → FnD L.J L.fs K mg f (He.ga K (L.J.nm f)) fd (L.ps f) := fun f hf fd F => by
    have o := ok1 f (List.mem_range.mpr hf)
    unfold LawT.ok1 at o
    split at o
    · rename_i Fn hFn
      simp only [Bool.and_eq_true, decide_eq_true_eq] at o
      obtain ⟨⟨⟨o1, o2⟩, o3⟩, o4⟩ := o
      exact ⟨⟨_, _, _, L.N f, Fn, hFn, F, scopeB_ok o1, o2, o3, o4⟩, glo f hf, F.binds fun kV doc pm an cdv ct us hl => hB f hf kV doc pm an cdv ct us hl⟩
    · cases o
  have er : ∀ c', c' < L.J.nc → Err K mg (L.J.cn c') := fun c' hc => by
    have := c.x
    unfold LawT.ex at this
    rw [Bool.and_eq_true, List.all_eq_true] at this
    exact errB_ok X G (this.1 c' (List.mem_range.mpr hc))
  have ct : ∀ z c', z < L.J.nc → c' < L.J.nc → L.J.cat z c' = true → PySem.W.exmOne K (.ref (He.ga K (L.J.cn c'))) (.ref (He.ga K (L.J.cn z))) = some true := fun z c' hz hc e => by
    have := c.x
    unfold LawT.ex at this
    rw [Bool.and_eq_true, List.all_eq_true, List.all_eq_true] at this
    have := List.all_eq_true.mp (this.2 z (List.mem_range.mpr hz)) c' (List.mem_range.mpr hc)
    rw [e] at this
    simpa using this
  obtain ⟨fd, F⟩ := df fl hl
  have D := nf fl hl fd F
  have e0 := hfa.symm.trans (glo fl hl)
  cases e0
  refine ⟨fd, fun s u => ?_, fun base hb hg => ?_⟩
  · have hBl := hB fl hl
    obtain ⟨oc, od, kV, doc, pm, an, cdv, ct', osl, e, _⟩ := F.ex
    subst e
    have := hBl kV doc pm an cdv ct' [u] (by rw [hp]; rfl)
    rw [hp] at this
    exact .of_eq this
  · have hE : ∀ Y : Cx, Y.prog = P → Y.w = w → Y.K = K → Y.mg = mg → Y.base = base → ExcOk L.J (fun c => He.ga K (L.J.cn c)) Y := fun Y e1 e2 e3 e4 e5 => by
      subst e1 e2 e3 e4 e5
      refine ⟨fun c' hc => ?_, ct⟩
      have E := er c' hc
      have hn : L.J.nc ≠ 0 := by omega
      obtain ⟨⟨q1, q2, q3, q4, r1, r2, r3, r4, hb'⟩, b0, b1⟩ := hI hn
      unfold LawT.okI at okI
      simp only [Bool.or_eq_true, beq_iff_eq, hn, false_or, Bool.and_eq_true, decide_eq_true_eq] at okI
      obtain ⟨⟨⟨i1, i2⟩, i3⟩, i4⟩ := okI
      obtain ⟨fdI, FI⟩ := SaysD.memD c.d (d := L.dIni) (List.mem_append_left _ (by rw [if_neg hn]; exact List.mem_singleton_self _))
      have FI' : FunD Y.K "__init__" "WorkError.__init__" (defArgs L.ini) (initB q1 q2 q3 q4 r1 r2 r3 r4) (defScope L.ini) [.int 0] [] (He.fAd Y.K initAt) fdI := by
        rw [← hb']; exact FI
      have B0 : ∃ ds, Binds Y.K fdI ["self", "code", "place"] ds ∧ Vals [.int 0] ds := by
        obtain ⟨ds, v, b⟩ := FI'.binds1 (ps := ["self", "code", "place"]) 2 0 (by simp) (by simp) fun T kV doc pm an cdv ct us its h1 h2 => by
          rw [← hb']
          exact b0 T kV doc pm an cdv ct us its h1 h2
        exact ⟨ds, b, v⟩
      have B1 : Binds Y.K fdI ["self", "code", "place"] [] := by
        obtain ⟨ds, v, b⟩ := FI'.binds1 (ps := ["self", "code", "place"]) 3 1 (by simp) (by simp) fun T kV doc pm an cdv ct us its h1 h2 => by
          rw [← hb']
          exact b1 T kV doc pm an cdv ct us its h1 h2
        cases v
        exact b
      obtain ⟨ds, b, v⟩ := B0
      exact ⟨E.m, E.o, E.f, E.n1, E.n2, _, fdI, _, ds, E.i, E.t, init_ok FI' (scopeB_ok i1) i2 i3 i4, b, v, B1⟩
    have nf' : ∀ f, f < L.J.nf → ∃ a fd ps, FnD L.J L.fs K mg f a fd ps := fun f hf => by
      obtain ⟨fd, F⟩ := df f hf
      exact ⟨_, fd, _, nf f hf fd F⟩
    have := (fn_one (w := w) (base := base) (ca := fun c => He.ga K (L.J.cn c)) nf' fre hgc hE k fl _ fd _ D).1
    rwa [hp] at this
end PV
set_option Elab.async false
set_option linter.all false
set_option maxRecDepth 100000
set_option maxHeartbeats 1000000
/-! PV34: the walk's end, from the plain law. -/
namespace PV
open PySem PySem.Spec PyProof.Rows L2
theorem walk_P {l : PySem.W.OpenLaw} {k fl : Nat} {q : Program} {loose : List Str} {XP : (Str → Option Value) → Heap → Prop} {d : DefRec} (L : LawT) (n63 : l.most = some 63) (dd : d.params.defaults = []) (rm : Room (k + 2) callerA) (hl : fl < L.J.nf) (hn : d.name = L.J.nm fl) (hp : L.ps fl = [("script" : Str)])
    (ok : L.ok = true) (hB : L.Bind) (hI : L.J.nc ≠ 0 → L.IsI ∧ L.BindI 0 ∧ L.BindI 1)
    (plain : ∀ ns : List Int, ns.length ≤ 63 → ∃ outs, runF L.fs k fl [.scr ns] = .ok ((true, .bool true), outs)) : PySem.W.WalkO q loose XP L.hk.says l.row.toRowW d [] (fun f vs => PySem.call f vs) :=
  Att.attach_call n63 dd fun w s0 s1 mg mb fa o pm cd doc a vs ns G Y ho hd hcd hmg hobj hints hlen hg => by
    obtain ⟨K, KX, c⟩ := Y
    rw [hn] at hmg
    obtain ⟨fd, hb, hF⟩ := facts L (P := l.prog) (w := w) KX G.T.g hl hmg hp ok hB hI c k
    obtain ⟨outs, hr⟩ := plain ns hlen
    refine law_call KX G.T.g G.T.b G.T.builtins G.T.nolimit hg hobj hints (by rw [sizeLine_eq]; omega) rm hF hb (fun H hO hS => law_sp hO hS hr) fun H e s' z => ?_
    obtain ⟨_, _, _, _, _, _, _, _, _, _, _, _, z⟩ := z
    exact z
end PV
set_option Elab.async false
set_option linter.all false
set_option maxRecDepth 100000
/-! PW0: what must hold so that the reading's run ends well: computed from the tree. -/
namespace PV
open PySem
/-- where simp is not to look: what a tag is of -/
inductive Tag {α : Sort u} (a : α) : Type where
  | mk
/-- .. and what a statement's kind hangs on -/
abbrev Hide {α : Sort u} (_a : α) : Type := Prop
abbrev XE := Nat → D → D → Prop
def WP {α : Type} (x : Res α) (Q : α → Prop) (E : XE) : Prop := match x with
  | .ok a => Q a
  | .exc c k p => E c k p
  | .stuck => False
theorem WP.mono {α : Type} {x : Res α} {Q Q' : α → Prop} {E : XE} (h : WP x Q E) (i : ∀ a, Q a → Q' a) : WP x Q' E := by
  cases x <;> first | exact i _ h | exact h
theorem WP.monoE {α : Type} {x : Res α} {Q Q' : α → Prop} {E E' : XE} (h : WP x Q E) (i : ∀ a, Q a → Q' a) (j : ∀ c k p, E c k p → E' c k p) : WP x Q' E' := by
  cases x <;> first | exact i _ h | exact j _ _ _ h | exact h
theorem WP.bind {α β : Type} {x : Res α} {f : α → Res β} {Q : β → Prop} {E : XE} (h : WP x (fun a => WP (f a) Q E) E) : WP (x >>= f) Q E := by
  cases x <;> exact h
theorem WP.ok {α : Type} {a : α} {Q : α → Prop} {E : XE} (h : Q a) : WP (Res.ok a) Q E := h
theorem WP.ite {α : Type} {c : Prop} [Decidable c] {x : Res α} {Q : α → Prop} {E : XE} (hc : c) (h : WP x Q E) : WP (if c then x else .stuck) Q E := by
  rw [if_pos hc]; exact h
/-- the values' flags, as they count -/
def nrm (r : R) : R := (r.1 || imm r.2, r.2)
def kp (b e : Bool) : Prop := b = true ∨ e = false
def kpv (b e f : Bool) : Prop := b = true ∨ e = false ∨ f = true
theorem keepv_of {r : R} {e f : Bool} (h : kpv (r.1 || imm r.2) e f) : (keeps r e || f) = true := by
  unfold keeps
  rcases h with h | h | h
  · cases h1 : r.1 <;> simp_all
  · simp [h]
  · simp [h]
theorem keeps_of {r : R} {e : Bool} (h : kp (r.1 || imm r.2) e) : keeps r e = true := by
  unfold keeps
  rcases h with h | h
  · cases h1 : r.1 <;> simp_all
  · simp [h]
abbrev EK := Bool → D → Env → Prop
/-! ### by values -/
def gk (c : Option Cell) (K : Bool → D → Prop) : Hide K := match c with
  | some (.scr _) => False
  | some c => K (imm c.d) c.d
  | none => False
def gx (ρ : Env) (i : Nat) (K : EK) : Hide K := match get ρ i with
  | some (.own d) => K true d (if imm d then ρ else ρ.set i none)
  | some (.scr _) => False
  | some c => K (imm c.d) c.d ρ
  | none => False
def w2 (o : O2) (x y : D) (K : D → Prop) : Hide K := match op2 o x y with
  | .ok d => K d
  | _ => False
def w1 (o : O1) (x : D) (K : D → Prop) : Hide K := match op1 o x with
  | .ok d => K d
  | _ => False
def wb (x : D) (A B : Prop) : Prop := match x with
  | .bool true => A
  | .bool false => B
  | _ => False
/-- .. of two ways on -/
def wbS (x : D) (A B : Prop) (_t : Tag (A ∧ B)) : Prop := wb x A B
def wv (x : D) (K : Bool → Prop) : Hide K := match x with
  | .bool b => K b
  | _ => False
def wand (x : D) (t : (Bool → Prop) → Prop) (K : Bool → Prop) : Hide K := match x with
  | .bool true => t K
  | .bool false => K false
  | _ => False
def wor (x : D) (t : (Bool → Prop) → Prop) (K : Bool → Prop) : Hide K := match x with
  | .bool true => K true
  | .bool false => t K
  | _ => False
/-- the same where the second changes things -/
def wandE (x : D) (t : (Bool → Env → Prop) → Prop) (ρ : Env) (K : Bool → Env → Prop) : Hide K := match x with
  | .bool true => t K
  | .bool false => K false ρ
  | _ => False
def worE (x : D) (t : (Bool → Env → Prop) → Prop) (ρ : Env) (K : Bool → Env → Prop) : Hide K := match x with
  | .bool true => K true ρ
  | .bool false => t K
  | _ => False
/-- one value of two, without effects -/
def wite (x : D) (t u : (Bool → D → Prop) → Prop) (K : Bool → D → Prop) (_t : Tag K) : Prop := match x with
  | .bool true => t K
  | .bool false => u K
  | _ => False
def wi (x : D) (K : Int → Prop) : Hide K := match x with
  | .int i => K i
  | _ => False
def wbi (f : Bi) (xs : List D) (K : D → Prop) : Hide K := match bi f xs with
  | .ok d => K d
  | _ => False
def wmt (m : Mt) (x : D) (xs : List D) (K : D → Prop) : Hide K := match mt m x xs with
  | .ok d => K d
  | _ => False
def wsub (x i : D) (K : D → Prop) : Hide K := match sub x i with
  | .ok d => K d
  | _ => False
def wslc (x : D) (l h : Option Int) (K : D → Prop) : Hide K := match slc x l h with
  | .ok d => K d
  | _ => False
def wrev (x : D) (K : D → Prop) : Hide K := match rev x with
  | .ok d => K d
  | _ => False
def wsset (x : D) (K : D → Prop) : Hide K := match ssetD x with
  | .ok d => K d
  | _ => False
def wlist (x : D) (K : List D → Prop) : Hide K := match x with
  | .list l => K l
  | _ => False
def wits (x : D) (K : List D → Prop) : Hide K := match x with
  | .list l => K l
  | .tuple l => K l
  | .str s => K (signsD s)
  | _ => False
def witr (x : D) (K : List D → Prop) : Hide K := match x with
  | .list l => K l
  | .tuple l => K l
  | _ => False
/-- the list that slot i owns -/
def wown (ρ : Env) (i : Nat) (K : List D → Prop) : Hide K := match get ρ i with
  | some (.own (.list ds)) => K ds
  | _ => False
def wscr (ρ : Env) (i : Nat) (K : List Int → Prop) : Hide K := match get ρ i with
  | some (.scr l) => K l
  | _ => False
def wzip (x y : D) (K : List D → Prop) : Hide K := match zipV x y with
  | .ok l => K l
  | _ => False
def wat (ds : List D) (i : Int) (K : D → Prop) : Hide K := match atD ds i with
  | .ok d => K d
  | _ => False
def wset (ds : List D) (i : Int) (d : D) (K : List D → Prop) : Hide K := match setAt ds i d with
  | .ok l => K l
  | _ => False
def allN (xs : List R) : Bool := xs.all fun x => x.1
def Ar.ok : Ar → Bool
  | .ref _ => false
  | _ => true
/-- a call without names handed over -/
def Call (cf : CF) (f : Nat) (cs : List Cell) (Q : D → Prop) (E : XE) : Prop := WP (cf f cs) (fun p => p.1.1 = true ∧ p.2.length = cs.length ∧ Q p.1.2) E
def wcall (cf : CF) (f : Nat) (sp : Bool) (xs : List Ar) (ρ : Env) (K : EK) (E : XE) (_t : Tag K) : Prop := WP (callA cf f sp xs ρ) (fun p => K (p.1.1 || imm p.1.2) p.1.2 p.2) E
def bodyC (cf : CF) (elt : E) (tgt : List Nat) (single : Bool) (cnd : Es) : D → Env → Res (Option R × Env) := fun d σ => do
  let σ1 ← bindT .bor tgt single d σ
  let (c, σ2) ← tests cf cnd σ1
  if c then
    let (r, σ3) ← ev cf elt σ2
    .ok (some r, σ3)
  else .ok (none, σ2)
/-- a comprehension, of its items -/
def wcomp (cf : CF) (elt : E) (tgt : List Nat) (single : Bool) (cnd : Es) (own : List Nat) (fz : List Nat) (ds : List D) (ρ1 : Env) (K : EK) (E : XE) (_t : Tag K) : Prop :=
  own.all (fun i => immAt ρ1 i && decide (i < ρ1.length)) = true ∧
  if eff elt || effs cnd then ds.all imm = true ∧ noBor ρ1 = true ∧ WP (noExc (compL (bodyC cf elt tgt single cnd) own ds (wipe (freezes ρ1 fz) own))) (fun p => lenOk p.1.length = true ∧ p.2.length = ρ1.length ∧ K true (.list p.1) (restore ρ1 p.2 own)) E
  else WP (noExc (compP (bodyC cf elt tgt single cnd) (wipe ρ1 own) ds)) (fun p => lenOk p.2.length = true ∧ K p.1 (.list p.2) ρ1) E

mutual
def we (cf : CF) : E → Env → EK → XE → Prop
  | .var i, ρ, K, _ => gk (get ρ i) fun b d => K b d ρ
  | .int n, ρ, K, _ => K true (.int n) ρ
  | .str s, ρ, K, _ => K true (.str s) ρ
  | .bl b, ρ, K, _ => K true (.bool b) ρ
  | .non, ρ, K, _ => K true .none ρ
  | .op2 o a b, ρ, K, E => we cf a ρ (fun b1 x ρ1 => we cf b ρ1 (fun _ y ρ2 => kp b1 (eff b) ∧ w2 o x y fun d => K (flat d) d ρ2) E) E
  | .op1 o a, ρ, K, E => we cf a ρ (fun _ x ρ1 => w1 o x fun d => K true d ρ1) E
  | .and a b, ρ, K, E => if eff b = true then we cf a ρ (fun _ x ρ1 => wandE x (fun K' => we cf b ρ1 (fun _ y ρ2 => wv y fun q => K' q ρ2) E) ρ1 fun q ρ2 => K true (.bool q) ρ2) E else we cf a ρ (fun _ x ρ1 => wand x (fun K' => we cf b ρ1 (fun _ y ρ2 => ρ2 = ρ1 ∧ wv y K') E) fun q => K true (.bool q) ρ1) E
  | .or a b, ρ, K, E => if eff b = true then we cf a ρ (fun _ x ρ1 => worE x (fun K' => we cf b ρ1 (fun _ y ρ2 => wv y fun q => K' q ρ2) E) ρ1 fun q ρ2 => K true (.bool q) ρ2) E else we cf a ρ (fun _ x ρ1 => wor x (fun K' => we cf b ρ1 (fun _ y ρ2 => ρ2 = ρ1 ∧ wv y K') E) fun q => K true (.bool q) ρ1) E
  | .ite c a b, ρ, K, E => we cf c ρ (fun _ x ρ1 => wite x (fun K' => we cf a ρ1 (fun b d ρ2 => ρ2 = ρ1 ∧ K' b d) E) (fun K' => we cf b ρ1 (fun b d ρ2 => ρ2 = ρ1 ∧ K' b d) E) (fun b d => K b d ρ1) .mk) E
  | .cmp3 o p a b c, ρ, K, E => we cf a ρ (fun b1 x ρ1 => we cf b ρ1 (fun b2 y ρ2 => kp b1 (eff b || eff c) ∧ kp b2 (eff c) ∧ w2 o x y fun d => wand d (fun K' => we cf c ρ2 (fun _ z ρ3 => ρ3 = ρ2 ∧ w2 p y z fun d2 => wv d2 K') E) fun q => K true (.bool q) ρ2) E) E
  | .bi f as, ρ, K, E => wes cf as ρ (fun xs ρ1 => wbi f (xs.map (·.2)) fun d => K (flat d) d ρ1) E
  | .mt m o as, ρ, K, E => we cf o ρ (fun b x ρ1 => wlist x fun _ => wes cf as ρ1 (fun xs ρ2 => kp b (effs as) ∧ wmt m x (xs.map (·.2)) fun d => K (imm d) d ρ2) E) E
  | .sub o i, ρ, K, E => we cf o ρ (fun b x ρ1 => we cf i ρ1 (fun _ y ρ2 => kpv b (eff i) (isFz ρ o) ∧ wsub x y fun d => K (imm d) d ρ2) E) E
  | .slc o lo hi, ρ, K, E => we cf o ρ (fun b x ρ1 => wo cf lo ρ1 (fun l ρ2 => wo cf hi ρ2 (fun h ρ3 => kp b (effo lo || effo hi) ∧ wslc x l h fun d => K (flat d) d ρ3) E) E) E
  | .rev o, ρ, K, E => we cf o ρ (fun _ x ρ1 => wrev x fun d => K (flat d) d ρ1) E
  | .tup es, ρ, K, E => wes cf es ρ (fun xs ρ1 => lenOk xs.length = true ∧ K (allN xs) (.tuple (xs.map (·.2))) ρ1) E
  | .lst es, ρ, K, E => wes cf es ρ (fun xs ρ1 => lenOk xs.length = true ∧ K (allN xs) (.list (xs.map (·.2))) ρ1) E
  | .call f as, ρ, K, E => wa cf as ρ (fun xs ρ1 => wcall cf f (sepE as) xs ρ1 K E .mk) E
  | .ref _, _, _, _ => False
  | .scr _, _, _, _ => False
  | .scrL i, ρ, K, _ => wscr ρ i fun l => lenOk l.length = true ∧ K true (.list (l.map .int)) ρ
  | .pop0 i, ρ, K, _ => wown ρ i fun ds => noBor ρ = true ∧ ∃ d, ds.getLast? = some d ∧ imm d = true ∧ K true d (ρ.set i (some (.own (.list ds.dropLast))))
  | .pop1 i e, ρ, K, E => wown ρ i fun _ => we cf e ρ (fun _ x ρ1 => wown ρ1 i fun ds => wi x fun k => noBor ρ1 = true ∧ smallI k = true ∧ ∃ j d, ixN ds.length k = some j ∧ ds[j]? = some d ∧ imm d = true ∧ K true d (ρ1.set i (some (.own (.list (ds.eraseIdx j)))))) E
  | .comp elt tgt single it cnd own, ρ, K, E => wit cf it ρ (fun ds ρ1 => wcomp cf elt tgt single cnd own (varsi it) ds ρ1 K E .mk) E
  | .rng a b, ρ, K, E => we cf a ρ (fun _ x ρ1 => we cf b ρ1 (fun _ y ρ2 => wi x fun i => wi y fun j => smallI i = true ∧ smallI j = true ∧ lenOk (j - i).toNat = true ∧ K true (.list (rangeD i j)) ρ2) E) E
  | .rng1 b, ρ, K, E => we cf b ρ (fun _ y ρ1 => wi y fun j => smallI j = true ∧ lenOk j.toNat = true ∧ K true (.list (rangeD 0 j)) ρ1) E
  | .isBool e, ρ, K, E => we cf e ρ (fun _ x ρ1 => K true (.bool (isBoolD x)) ρ1) E
  | .isTup e, ρ, K, E => we cf e ρ (fun _ x ρ1 => K true (.bool (isTupD x)) ρ1) E
  | .isInt e, ρ, K, E => we cf e ρ (fun _ x ρ1 => K true (.bool (isIntD x)) ρ1) E
  | .sset e, ρ, K, E => we cf e ρ (fun _ x ρ1 => wsset x fun d => K true d ρ1) E
def wes (cf : CF) : Es → Env → (List R → Env → Prop) → XE → Prop
  | .nil, ρ, K, _ => K [] ρ
  | .cons e r, ρ, K, E => we cf e ρ (fun b x ρ1 => wes cf r ρ1 (fun xs ρ2 => kp b (effs r) ∧ K ((b, x) :: xs) ρ2) E) E
def wa (cf : CF) : Es → Env → (List Ar → Env → Prop) → XE → Prop
  | .nil, ρ, K, _ => K [] ρ
  | .cons e r, ρ, K, E => match e with
    | .ref i => (get ρ i).isSome = true ∧ wa cf r ρ (fun xs ρ2 => K (.ref i :: xs) ρ2) E
    | .scr i => (get ρ i).isSome = true ∧ wa cf r ρ (fun xs ρ2 => K (.scr i :: xs) ρ2) E
    | e => we cf e ρ (fun b x ρ1 => wa cf r ρ1 (fun xs ρ2 => kp b (effs r) ∧ K (.val (b, x) :: xs) ρ2) E) E
def wo (cf : CF) : Oe → Env → (Option Int → Env → Prop) → XE → Prop
  | .none, ρ, K, _ => K none ρ
  | .some e, ρ, K, E => we cf e ρ (fun _ x ρ1 => wi x fun i => K (some i) ρ1) E
def wt (cf : CF) : Es → Env → (Bool → Env → Prop) → XE → Prop
  | .nil, ρ, K, _ => K true ρ
  | .cons e r, ρ, K, E => we cf e ρ (fun _ x ρ1 => wand x (fun K' => wt cf r ρ1 (fun q ρ2 => ρ2 = ρ1 ∧ K' q) E) fun q => K q ρ1) E
def wit (cf : CF) : It → Env → (List D → Env → Prop) → XE → Prop
  | .scr i, ρ, K, _ => wscr ρ i fun l => K (l.map .int) ρ
  | .seq e, ρ, K, E => we cf e ρ (fun _ x ρ1 => wits x fun l => K l ρ1) E
  | .r1 a, ρ, K, E => we cf a ρ (fun _ x ρ1 => wi x fun i => smallI i = true ∧ K (rangeD 0 i) ρ1) E
  | .r2 a b, ρ, K, E => we cf a ρ (fun _ x ρ1 => we cf b ρ1 (fun _ y ρ2 => wi x fun i => wi y fun j => smallI i = true ∧ smallI j = true ∧ K (rangeD i j) ρ2) E) E
  | .r3 a b c, ρ, K, E => we cf a ρ (fun _ x ρ1 => we cf b ρ1 (fun _ y ρ2 => we cf c ρ2 (fun _ z ρ3 => wi x fun i => wi y fun j => wi z fun k => Builtin.Range.small i j k = true ∧ k ≠ 0 ∧ k.natAbs < 1000000 ∧ K (rangeC i k (stepsOf i j k)) ρ3) E) E) E
  | .enum e, ρ, K, E => we cf e ρ (fun _ x ρ1 => wits x fun l => K (enumD 0 l) ρ1) E
  | .zip a b, ρ, K, E => we cf a ρ (fun b1 x ρ1 => we cf b ρ1 (fun _ y ρ2 => kp b1 (eff b) ∧ wzip x y fun l => K l ρ2) E) E
  | .rv e, ρ, K, E => we cf e ρ (fun _ x ρ1 => witr x fun l => K l.reverse ρ1) E
end
mutual
def wx (cf : CF) : E → Env → EK → XE → Prop
  | .var i, ρ, K, _ => gx ρ i K
  | .tup es, ρ, K, E => wxs cf es ρ (fun xs ρ1 => lenOk xs.length = true ∧ K true (.tuple (xs.map (·.2))) ρ1) E
  | .lst es, ρ, K, E => wxs cf es ρ (fun xs ρ1 => lenOk xs.length = true ∧ K true (.list (xs.map (·.2))) ρ1) E
  | e, ρ, K, E => we cf e ρ K E
def wxs (cf : CF) : Es → Env → (List R → Env → Prop) → XE → Prop
  | .nil, ρ, K, _ => K [] ρ
  | .cons e r, ρ, K, E => wx cf e ρ (fun b x ρ1 => wxs cf r ρ1 (fun xs ρ2 => b = true ∧ K ((b, x) :: xs) ρ2) E) E
end
end PV
set_option Elab.async false
set_option linter.all false
set_option maxRecDepth 100000
set_option maxHeartbeats 1000000
/-! PW1: .. and that it is enough. -/
namespace PV
open PySem
theorem flat_imm (d : D) : (flat d || imm d) = flat d := by
  cases d <;> simp [flat, imm]
theorem imm_flat {d : D} (h : imm d = true) : flat d = true := by have := flat_imm d; rw [h] at this; simpa using this.symm
theorem allN_imm : ∀ xs : List R, (allN (xs.map nrm) || immAll (xs.map (·.2))) = allN (xs.map nrm)
  | [] => rfl
  | x :: xs => by
    have ih := allN_imm xs
    unfold allN at *
    simp only [List.map_cons, List.all_cons, immAll, nrm] at *
    cases h1 : x.1 <;> cases h2 : imm x.2 <;> simp_all
theorem allN_eq (xs : List R) : (xs.all fun x => x.1 || imm x.2) = allN (xs.map nrm) := by
  unfold allN
  rw [List.all_map]
  rfl
theorem map_nrm (xs : List R) : (xs.map nrm).map (·.2) = xs.map (·.2) := by
  rw [List.map_map]; rfl
def narm : Ar → Ar
  | .val r => .val (nrm r)
  | a => a
theorem hasRef_n : ∀ xs : List Ar, hasRef (xs.map narm) = hasRef xs
  | [] => rfl
  | .val _ :: xs => by simp only [List.map_cons, narm, hasRef]; exact hasRef_n xs
  | .scr _ :: xs => by simp only [List.map_cons, narm, hasRef]; exact hasRef_n xs
  | .ref _ :: xs => rfl
theorem arVals_n : ∀ xs : List Ar, arVals (xs.map narm) = arVals xs
  | [] => rfl
  | .val _ :: xs => by simp only [List.map_cons, narm, nrm, arVals]; rw [arVals_n xs]
  | .scr _ :: xs => by simp only [List.map_cons, narm, arVals]; exact arVals_n xs
  | .ref _ :: xs => by simp only [List.map_cons, narm, arVals]; exact arVals_n xs
theorem arRefs_n : ∀ xs : List Ar, arRefs (xs.map narm) = arRefs xs
  | [] => rfl
  | .val _ :: xs => by simp only [List.map_cons, narm, arRefs]; exact arRefs_n xs
  | .scr _ :: xs => by simp only [List.map_cons, narm, arRefs]; exact arRefs_n xs
  | .ref _ :: xs => by simp only [List.map_cons, narm, arRefs]; rw [arRefs_n xs]
theorem arCells_n (ρ : Env) : ∀ xs : List Ar, arCells ρ (xs.map narm) = arCells ρ xs
  | [] => rfl
  | .val _ :: xs => by simp only [List.map_cons, narm, nrm, arCells]; rw [arCells_n ρ xs]
  | .scr _ :: xs => by simp only [List.map_cons, narm, arCells]; rw [arCells_n ρ xs]
  | .ref _ :: xs => by simp only [List.map_cons, narm, arCells]; rw [arCells_n ρ xs]
theorem arBack_n : ∀ (xs : List Ar) (ρ : Env) (outs : List (Option Cell)), arBack ρ (xs.map narm) outs = arBack ρ xs outs
  | [], _, _ => rfl
  | .val _ :: xs, ρ, outs => by
    cases outs with
    | nil => rfl
    | cons o outs => simp only [List.map_cons, narm, arBack]; exact arBack_n xs _ _
  | .scr _ :: xs, ρ, outs => by
    cases outs with
    | nil => rfl
    | cons o outs => simp only [List.map_cons, narm, arBack]; exact arBack_n xs _ _
  | .ref _ :: xs, ρ, outs => by
    cases outs with
    | nil => rfl
    | cons o outs =>
      cases o with
      | none => rfl
      | some c => cases c <;> first | rfl | (simp only [List.map_cons, narm, arBack]; exact arBack_n xs _ _)
theorem callA_n (cf : CF) (f : Nat) (sp : Bool) (xs : List Ar) (ρ : Env) : callA cf f sp (xs.map narm) ρ = callA cf f sp xs ρ := by
  unfold callA
  rw [hasRef_n, arVals_n, arRefs_n, arCells_n]
  simp only [arBack_n]
theorem op2_noExc {o : O2} {x y : D} {c : Nat} {k p : D} : op2 o x y = .exc c k p → False := by
  intro h
  unfold op2 at h
  split at h <;> first
    | cases h
    | (split at h <;> cases h)
    | (unfold eqD at h; split at h <;> cases h)
    | (unfold inD at h; split at h <;> cases h)
theorem w2_ok {o : O2} {x y : D} {K : D → Prop} {E : XE} (h : w2 o x y K) : WP (noExc (op2 o x y)) K E := by
  unfold w2 at h
  split at h
  · rename_i e; (try rw [e]); exact h
  · exact h.elim
theorem w1_ok {o : O1} {x : D} {K : D → Prop} {E : XE} (h : w1 o x K) : WP (noExc (op1 o x)) K E := by
  unfold w1 at h
  split at h
  · rename_i e; (try rw [e]); exact h
  · exact h.elim
theorem wbi_ok {f : Bi} {xs : List D} {K : D → Prop} {E : XE} (h : wbi f xs K) : WP (noExc (bi f xs)) K E := by
  unfold wbi at h
  split at h
  · rename_i e; (try rw [e]); exact h
  · exact h.elim
theorem wmt_ok {m : Mt} {x : D} {xs : List D} {K : D → Prop} {E : XE} (h : wmt m x xs K) : WP (noExc (mt m x xs)) K E := by
  unfold wmt at h
  split at h
  · rename_i e; (try rw [e]); exact h
  · exact h.elim
theorem wsub_ok {x y : D} {K : D → Prop} {E : XE} (h : wsub x y K) : WP (noExc (sub x y)) K E := by
  unfold wsub at h
  split at h
  · rename_i e; (try rw [e]); exact h
  · exact h.elim
theorem wslc_ok {x : D} {l r : Option Int} {K : D → Prop} {E : XE} (h : wslc x l r K) : WP (noExc (slc x l r)) K E := by
  unfold wslc at h
  split at h
  · rename_i e; (try rw [e]); exact h
  · exact h.elim
theorem wrev_ok {x : D} {K : D → Prop} {E : XE} (h : wrev x K) : WP (noExc (rev x)) K E := by
  unfold wrev at h
  split at h
  · rename_i e; (try rw [e]); exact h
  · exact h.elim
theorem wsset_ok {x : D} {K : D → Prop} {E : XE} (h : wsset x K) : WP (noExc (ssetD x)) K E := by
  unfold wsset at h
  split at h
  · rename_i e; (try rw [e]); exact h
  · exact h.elim
theorem wat_ok {ds : List D} {i : Int} {K : D → Prop} {E : XE} (h : wat ds i K) : WP (atD ds i) K E := by
  unfold wat at h
  split at h
  · rename_i e; (try rw [e]); exact h
  · exact h.elim
theorem wset_ok {ds : List D} {i : Int} {d : D} {K : List D → Prop} {E : XE} (h : wset ds i d K) : WP (setAt ds i d) K E := by
  unfold wset at h
  split at h
  · rename_i e; (try rw [e]); exact h
  · exact h.elim
theorem wi_ok {x : D} {K : Int → Prop} {E : XE} (h : wi x K) : WP (asInt x) K E := by
  cases x <;> first | exact h | exact h.elim
theorem wb_ok {x : D} {A B : Prop} {E : XE} (h : wb x A B) : WP (asBool x) (fun b => if b then A else B) E := by
  cases x <;> first | exact h.elim | (rename_i b; cases b <;> exact h)
theorem wits_ok {x : D} {K : List D → Prop} {E : XE} (h : wits x K) : WP (itemsS x) K E := by
  cases x <;> first | exact h | exact h.elim
theorem witr_ok {x : D} {K : List D → Prop} {E : XE} (h : witr x K) : WP (itemsOf x) K E := by
  cases x <;> first | exact h | exact h.elim
theorem wlist_ok {x : D} {K : List D → Prop} {E : XE} (h : wlist x K) : WP (listOf x) K E := by
  cases x <;> first | exact h | exact h.elim
theorem wzip_ok {x y : D} {K : List D → Prop} {E : XE} (h : wzip x y K) : WP (zipV x y) K E := by
  unfold wzip at h
  split at h
  · rename_i e; (try rw [e]); exact h
  · exact h.elim
theorem wown_ok {ρ : Env} {i : Nat} {K : List D → Prop} {E : XE} (h : wown ρ i K) : WP (ownList ρ i) K E := by
  unfold wown at h
  unfold ownList
  split at h
  · rename_i e; (try rw [e]); exact h
  · exact h.elim
theorem gk_ok {ρ : Env} {i : Nat} {K : EK} {E : XE} (h : gk (get ρ i) fun b d => K b d ρ) : WP (rd ρ i) (fun r => K (r.1 || imm r.2) r.2 ρ) E := by
  unfold gk at h
  unfold rd
  split at h
  · exact h.elim
  · rename_i c hc e
    (try rw [e])
    cases c with
    | scr l => exact (hc l rfl).elim
    | _ => simpa [WP, Bool.or_self] using h
  · exact h.elim
variable {cf : CF}
mutual
theorem we_ok : ∀ (e : E) {ρ : Env} {K : EK} {E : XE}, we cf e ρ K E → WP (ev cf e ρ) (fun p => K (p.1.1 || imm p.1.2) p.1.2 p.2) E
  | .var i, ρ, K, E, h => by
    simp only [we] at h
    simp only [ev]
    exact WP.bind (gk_ok h)
  | .int n, ρ, K, E, h => by simpa only [ev, we, WP, Bool.true_or] using h
  | .str n, ρ, K, E, h => by simpa only [ev, we, WP, Bool.true_or] using h
  | .bl n, ρ, K, E, h => by simpa only [ev, we, WP, Bool.true_or] using h
  | .non, ρ, K, E, h => by simpa only [ev, we, WP, Bool.true_or] using h
  | .op2 o a b, ρ, K, E, h => by
    simp only [we] at h
    simp only [ev]
    refine WP.bind ((we_ok a h).mono fun p h => WP.bind ((we_ok b h).mono fun q h => WP.ite (keeps_of h.1) (WP.bind ((w2_ok h.2).mono fun d h => ?_))))
    exact WP.ok (by rw [flat_imm]; exact h)
  | .op1 o a, ρ, K, E, h => by
    simp only [we] at h
    simp only [ev]
    exact WP.bind ((we_ok a h).mono fun p h => WP.bind ((w1_ok h).mono fun d h => WP.ok h))
  | .and a b, ρ, K, E, h => by
    simp only [we] at h
    simp only [ev]
    split at h
    · refine WP.bind ((we_ok a h).mono fun p h => ?_)
      obtain ⟨⟨f, x⟩, ρ1⟩ := p
      cases x <;> first | exact h.elim | skip
      rename_i q
      cases q with
      | false => exact h
      | true =>
        refine (we_ok b (show we cf b ρ1 _ E from h)).mono fun p h => ?_
        obtain ⟨⟨f2, y⟩, ρ2⟩ := p
        cases y <;> first | exact h.elim | skip
        simp only [imm, Bool.or_true]
        exact h
    · refine WP.bind ((we_ok a h).mono fun p h => ?_)
      obtain ⟨⟨f, x⟩, ρ1⟩ := p
      cases x <;> first | exact h.elim | skip
      rename_i q
      cases q with
      | false => exact h
      | true =>
        refine (we_ok b (show we cf b ρ1 _ E from h)).mono fun p h => ?_
        obtain ⟨⟨f2, y⟩, ρ2⟩ := p
        obtain ⟨e, h⟩ := h
        cases y <;> first | exact h.elim | skip
        simp only [imm, Bool.or_true]
        simp only at e
        (try rw [e])
        exact h
  | .or a b, ρ, K, E, h => by
    simp only [we] at h
    simp only [ev]
    split at h
    · refine WP.bind ((we_ok a h).mono fun p h => ?_)
      obtain ⟨⟨f, x⟩, ρ1⟩ := p
      cases x <;> first | exact h.elim | skip
      rename_i q
      cases q with
      | true => exact h
      | false =>
        refine (we_ok b (show we cf b ρ1 _ E from h)).mono fun p h => ?_
        obtain ⟨⟨f2, y⟩, ρ2⟩ := p
        cases y <;> first | exact h.elim | skip
        simp only [imm, Bool.or_true]
        exact h
    · refine WP.bind ((we_ok a h).mono fun p h => ?_)
      obtain ⟨⟨f, x⟩, ρ1⟩ := p
      cases x <;> first | exact h.elim | skip
      rename_i q
      cases q with
      | true => exact h
      | false =>
        refine (we_ok b (show we cf b ρ1 _ E from h)).mono fun p h => ?_
        obtain ⟨⟨f2, y⟩, ρ2⟩ := p
        obtain ⟨e, h⟩ := h
        cases y <;> first | exact h.elim | skip
        simp only [imm, Bool.or_true]
        simp only at e
        (try rw [e])
        exact h
  | .ite c a b, ρ, K, E, h => by
    simp only [we] at h
    simp only [ev]
    refine WP.bind ((we_ok c h).mono fun p h => ?_)
    obtain ⟨⟨f, x⟩, ρ1⟩ := p
    cases x <;> first | exact h.elim | skip
    rename_i q
    cases q with
    | true =>
      refine (we_ok a (show we cf a ρ1 _ E from h)).mono fun p h => ?_
      rw [h.1]
      exact h.2
    | false =>
      refine (we_ok b (show we cf b ρ1 _ E from h)).mono fun p h => ?_
      rw [h.1]
      exact h.2
  | .cmp3 o p a b c, ρ, K, E, h => by
    simp only [we] at h
    simp only [ev]
    refine WP.bind ((we_ok a h).mono fun p h => WP.bind ((we_ok b h).mono fun q h => ?_))
    obtain ⟨h1, h2, h⟩ := h
    refine WP.ite (by rw [keeps_of h1, keeps_of h2]; rfl) (WP.bind ((w2_ok h).mono fun d h => ?_))
    cases d <;> first | exact h.elim | skip
    rename_i z
    cases z with
    | false => exact h
    | true =>
      show WP (ev cf c q.2 >>= _) _ _
      refine WP.bind ((we_ok c (show we cf c q.2 _ E from h)).mono fun p h => ?_)
      obtain ⟨⟨f3, z⟩, ρ3⟩ := p
      obtain ⟨e, h⟩ := h
      refine WP.bind ((w2_ok h).mono fun d h => ?_)
      cases d <;> first | exact h.elim | skip
      simp only at e
      (try rw [e])
      exact h
  | .bi f as, ρ, K, E, h => by
    simp only [we] at h
    simp only [ev]
    refine WP.bind ((wes_ok as h).mono fun p h => WP.bind ((wbi_ok (by rw [map_nrm] at h; exact h)).mono fun d h => WP.ok (by rw [flat_imm]; exact h)))
  | .mt m o as, ρ, K, E, h => by
    simp only [we] at h
    simp only [ev]
    refine WP.bind ((we_ok o h).mono fun p h => ?_)
    refine WP.bind ((wlist_ok h).mono fun l h => WP.bind ((wes_ok as h).mono fun q h => WP.ite (keeps_of h.1) (WP.bind ((wmt_ok (by have h := h.2; rw [map_nrm] at h; exact h)).mono fun d h => WP.ok (by rw [Bool.or_self]; exact h)))))
  | .sub o i, ρ, K, E, h => by
    simp only [we] at h
    simp only [ev]
    refine WP.bind ((we_ok o h).mono fun p h => WP.bind ((we_ok i h).mono fun q h => WP.ite (keepv_of h.1) (WP.bind ((wsub_ok h.2).mono fun d h => ?_))))
    exact WP.ok (by rw [Bool.or_self]; exact h)
  | .slc o lo hi, ρ, K, E, h => by
    simp only [we] at h
    simp only [ev]
    refine WP.bind ((we_ok o h).mono fun p h => WP.bind ((wo_ok lo h).mono fun q h => WP.bind ((wo_ok hi h).mono fun r h => WP.ite (keeps_of h.1) (WP.bind ((wslc_ok h.2).mono fun d h => ?_)))))
    exact WP.ok (by rw [flat_imm]; exact h)
  | .rev o, ρ, K, E, h => by
    simp only [we] at h
    simp only [ev]
    refine WP.bind ((we_ok o h).mono fun p h => WP.bind ((wrev_ok h).mono fun d h => ?_))
    exact WP.ok (by rw [flat_imm]; exact h)
  | .tup es, ρ, K, E, h => by
    simp only [we] at h
    simp only [ev]
    refine WP.bind ((wes_ok es h).mono fun p h => WP.ite (by simpa using h.1) (WP.ok ?_))
    have h := h.2
    rw [map_nrm] at h
    rw [allN_eq, imm, allN_imm]
    exact h
  | .lst es, ρ, K, E, h => by
    simp only [we] at h
    simp only [ev]
    refine WP.bind ((wes_ok es h).mono fun p h => WP.ite (by simpa using h.1) (WP.ok ?_))
    have h := h.2
    rw [map_nrm] at h
    rw [allN_eq, imm, Bool.or_false]
    exact h
  | .call f as, ρ, K, E, h => by
    simp only [we] at h
    simp only [ev]
    refine WP.bind ((wa_ok as h).mono fun p h => ?_)
    unfold wcall at h
    rwa [callA_n] at h
  | .ref _, ρ, K, E, h => by simp only [we] at h
  | .scr _, ρ, K, E, h => by simp only [we] at h
  | .scrL i, ρ, K, E, h => by
    simp only [we, wscr] at h
    simp only [ev]
    split at h
    · rename_i e
      (try rw [e])
      exact WP.ite h.1 (WP.ok h.2)
    · exact h.elim
  | .pop0 i, ρ, K, E, h => by
    simp only [we] at h
    simp only [ev]
    refine WP.bind ((wown_ok h).mono fun ds h => ?_)
    obtain ⟨h1, d, h2, h3, h4⟩ := h
    unfold lastD
    rw [h2]
    exact WP.ite (by rw [h1, h3]; rfl) (WP.ok h4)
  | .pop1 i e, ρ, K, E, h => by
    simp only [we] at h
    simp only [ev]
    refine WP.bind ((wown_ok h).mono fun ds h => WP.bind ((we_ok e h).mono fun p h => WP.bind ((wown_ok h).mono fun ds h => WP.bind ((wi_ok h).mono fun k h => ?_))))
    obtain ⟨h1, h2, j, d, h3, h4, h5, h6⟩ := h
    unfold ixD
    rw [h3]
    unfold atD
    rw [h3]
    simp only [h4, bind_ok]
    exact WP.ite (by rw [h1, h2, h5]; rfl) (WP.ok h6)
  | .comp elt tgt single it cnd own, ρ, K, E, h => by
    simp only [we] at h
    simp only [ev]
    refine WP.bind ((wit_ok it h).mono fun p h => ?_)
    unfold wcomp at h
    refine WP.ite h.1 ?_
    have h := h.2
    split at h
    · rename_i e
      rw [if_pos e]
      refine WP.ite (by rw [h.1, h.2.1]; rfl) ?_
      refine WP.bind (h.2.2.mono fun q h => WP.ite (by simp [h.1, h.2.1]) (WP.ok ?_))
      exact h.2.2
    · rename_i e
      rw [if_neg e]
      refine WP.bind (h.mono fun q h => WP.ite h.1 (WP.ok ?_))
      simp only [imm, Bool.or_false]
      exact h.2
  | .rng a b, ρ, K, E, h => by
    simp only [we] at h
    simp only [ev]
    refine WP.bind ((we_ok a h).mono fun p h => WP.bind ((we_ok b h).mono fun q h => WP.bind ((wi_ok h).mono fun i h => WP.bind ((wi_ok h).mono fun j h => ?_))))
    exact WP.ite (by simp [h.1, h.2.1, h.2.2.1]) (WP.ok h.2.2.2)
  | .rng1 b, ρ, K, E, h => by
    simp only [we] at h
    simp only [ev]
    refine WP.bind ((we_ok b h).mono fun q h => WP.bind ((wi_ok h).mono fun j h => ?_))
    exact WP.ite (by simp [h.1, h.2.1]) (WP.ok h.2.2)
  | .isBool e, ρ, K, E, h => by
    simp only [we] at h
    simp only [ev]
    exact WP.bind ((we_ok e h).mono fun p h => WP.ok h)
  | .isTup e, ρ, K, E, h => by
    simp only [we] at h
    simp only [ev]
    exact WP.bind ((we_ok e h).mono fun p h => WP.ok h)
  | .isInt e, ρ, K, E, h => by
    simp only [we] at h
    simp only [ev]
    exact WP.bind ((we_ok e h).mono fun p h => WP.ok h)
  | .sset e, ρ, K, E, h => by
    simp only [we] at h
    simp only [ev]
    exact WP.bind ((we_ok e h).mono fun p h => WP.bind ((wsset_ok h).mono fun d h => WP.ok h))
theorem wes_ok : ∀ (es : Es) {ρ : Env} {K : List R → Env → Prop} {E : XE}, wes cf es ρ K E → WP (evs cf es ρ) (fun p => K (p.1.map nrm) p.2) E
  | .nil, ρ, K, E, h => by simpa only [evs, wes, WP, List.map_nil] using h
  | .cons e r, ρ, K, E, h => by
    simp only [wes] at h
    simp only [evs]
    exact WP.bind ((we_ok e h).mono fun p h => WP.bind ((wes_ok r h).mono fun q h => WP.ite (keeps_of h.1) (WP.ok h.2)))
theorem wa_ok : ∀ (es : Es) {ρ : Env} {K : List Ar → Env → Prop} {E : XE}, wa cf es ρ K E → WP (eva cf es ρ) (fun p => K (p.1.map narm) p.2) E
  | .nil, ρ, K, E, h => by simpa only [eva, wa, WP, List.map_nil] using h
  | .cons e r, ρ, K, E, h => by
    have gen : (we cf e ρ (fun b x ρ1 => wa cf r ρ1 (fun xs ρ2 => kp b (effs r) ∧ K (.val (b, x) :: xs) ρ2) E) E) → WP (do
      let (x, ρ1) ← ev cf e ρ
      let (xs, ρ2) ← eva cf r ρ1
      if keeps x (effs r) then .ok (.val x :: xs, ρ2) else .stuck : Res (List Ar × Env)) (fun p => K (p.1.map narm) p.2) E := fun h =>
      WP.bind ((we_ok e h).mono fun p h => WP.bind ((wa_ok r h).mono fun q h => WP.ite (keeps_of h.1) (WP.ok h.2)))
    cases e <;> simp only [wa] at h <;> simp only [eva] <;> first
      | exact gen h
      | exact WP.ite h.1 (WP.bind ((wa_ok r h.2).mono fun q h => WP.ok h))
theorem wo_ok : ∀ (o : Oe) {ρ : Env} {K : Option Int → Env → Prop} {E : XE}, wo cf o ρ K E → WP (evo cf o ρ) (fun p => K p.1 p.2) E
  | .none, ρ, K, E, h => by simpa only [evo, wo, WP] using h
  | .some e, ρ, K, E, h => by
    simp only [wo] at h
    simp only [evo]
    exact WP.bind ((we_ok e h).mono fun p h => WP.bind ((wi_ok h).mono fun i h => WP.ok h))
theorem wt_ok : ∀ (es : Es) {ρ : Env} {K : Bool → Env → Prop} {E : XE}, wt cf es ρ K E → WP (tests cf es ρ) (fun p => K p.1 p.2) E
  | .nil, ρ, K, E, h => by simpa only [tests, wt, WP] using h
  | .cons e r, ρ, K, E, h => by
    simp only [wt] at h
    simp only [tests]
    refine WP.bind ((we_ok e h).mono fun p h => ?_)
    obtain ⟨⟨f, x⟩, ρ1⟩ := p
    cases x <;> first | exact h.elim | skip
    rename_i q
    cases q with
    | false => exact h
    | true =>
      refine (wt_ok r (show wt cf r ρ1 _ E from h)).mono fun p h => ?_
      rw [h.1]
      exact h.2
theorem wit_ok : ∀ (it : It) {ρ : Env} {K : List D → Env → Prop} {E : XE}, wit cf it ρ K E → WP (evi cf it ρ) (fun p => K p.1 p.2) E
  | .scr i, ρ, K, E, h => by
    simp only [wit, wscr] at h
    simp only [evi]
    split at h
    · rename_i e; (try rw [e]); exact h
    · exact h.elim
  | .seq e, ρ, K, E, h => by
    simp only [wit] at h
    simp only [evi]
    exact WP.bind ((we_ok e h).mono fun p h => WP.bind ((wits_ok h).mono fun l h => WP.ok h))
  | .r1 a, ρ, K, E, h => by
    simp only [wit] at h
    simp only [evi]
    exact WP.bind ((we_ok a h).mono fun p h => WP.bind ((wi_ok h).mono fun i h => WP.ite h.1 (WP.ok h.2)))
  | .r2 a b, ρ, K, E, h => by
    simp only [wit] at h
    simp only [evi]
    exact WP.bind ((we_ok a h).mono fun p h => WP.bind ((we_ok b h).mono fun q h => WP.bind ((wi_ok h).mono fun i h => WP.bind ((wi_ok h).mono fun j h => WP.ite (by rw [h.1, h.2.1]; rfl) (WP.ok h.2.2)))))
  | .r3 a b c, ρ, K, E, h => by
    simp only [wit] at h
    simp only [evi]
    exact WP.bind ((we_ok a h).mono fun p h => WP.bind ((we_ok b h).mono fun q h => WP.bind ((we_ok c h).mono fun r h => WP.bind ((wi_ok h).mono fun i h => WP.bind ((wi_ok h).mono fun j h => WP.bind ((wi_ok h).mono fun k h =>
      WP.ite (by simp [h.1, h.2.1, h.2.2.1]) (WP.ok h.2.2.2)))))))
  | .enum e, ρ, K, E, h => by
    simp only [wit] at h
    simp only [evi]
    exact WP.bind ((we_ok e h).mono fun p h => WP.bind ((wits_ok h).mono fun l h => WP.ok h))
  | .zip a b, ρ, K, E, h => by
    simp only [wit] at h
    simp only [evi]
    exact WP.bind ((we_ok a h).mono fun p h => WP.bind ((we_ok b h).mono fun q h => WP.ite (keeps_of h.1) (WP.bind ((wzip_ok h.2).mono fun l h => WP.ok h))))
  | .rv e, ρ, K, E, h => by
    simp only [wit] at h
    simp only [evi]
    exact WP.bind ((we_ok e h).mono fun p h => WP.bind ((witr_ok h).mono fun l h => WP.ok h))
end
end PV
set_option Elab.async false
set_option linter.all false
set_option maxRecDepth 100000
set_option maxHeartbeats 1000000
/-! PW2: statements. -/
namespace PV
open PySem
variable {cf : CF}
theorem wx_all : True := trivial
mutual
theorem wx_ok : ∀ (e : E) {ρ : Env} {K : EK} {E : XE}, wx cf e ρ K E → WP (evX cf e ρ) (fun p => K (p.1.1 || imm p.1.2) p.1.2 p.2) E
  | .var i, ρ, K, E, h => by
    simp only [wx, gx] at h
    simp only [evX]
    split at h
    · rename_i d e
      (try rw [e])
      try dsimp only
      by_cases hi : imm d = true
      · rw [if_pos hi] at h ⊢
        exact WP.ok h
      · rw [if_neg hi] at h ⊢
        exact WP.ok h
    · exact h.elim
    · rename_i c n1 n2 e
      (try rw [e])
      cases c with
      | own d => exact (n1 d rfl).elim
      | scr l => exact (n2 l rfl).elim
      | fz d => exact WP.ok (by rw [Bool.or_self]; exact h)
      | bor d => exact WP.ok (by rw [Bool.or_self]; exact h)
    · exact h.elim
  | .tup es, ρ, K, E, h => by
    simp only [wx] at h
    simp only [evX]
    refine WP.bind ((wxs_ok es h).mono fun p h => ?_)
    obtain ⟨h0, h1, h⟩ := h
    refine WP.ite (by simpa using h1) (WP.ok ?_)
    rw [map_nrm] at h
    have : (p.1.all fun x => x.1 || imm x.2) = true := by
      rw [List.all_eq_true]
      exact h0
    rw [this, Bool.true_or]
    exact h
  | .lst es, ρ, K, E, h => by
    simp only [wx] at h
    simp only [evX]
    refine WP.bind ((wxs_ok es h).mono fun p h => ?_)
    obtain ⟨h0, h1, h⟩ := h
    refine WP.ite (by simpa using h1) (WP.ok ?_)
    rw [map_nrm] at h
    have : (p.1.all fun x => x.1 || imm x.2) = true := by
      rw [List.all_eq_true]
      exact h0
    rw [this, Bool.true_or]
    exact h
  | .int n, ρ, K, E, h => we_ok (cf := cf) (.int n) (ρ := ρ) (K := K) (E := E) h
  | .str n, ρ, K, E, h => we_ok (cf := cf) (.str n) (ρ := ρ) (K := K) (E := E) h
  | .bl n, ρ, K, E, h => we_ok (cf := cf) (.bl n) (ρ := ρ) (K := K) (E := E) h
  | .non, ρ, K, E, h => we_ok (cf := cf) .non (ρ := ρ) (K := K) (E := E) h
  | .op2 o a b, ρ, K, E, h => we_ok (cf := cf) (.op2 o a b) (ρ := ρ) (K := K) (E := E) h
  | .op1 o a, ρ, K, E, h => we_ok (cf := cf) (.op1 o a) (ρ := ρ) (K := K) (E := E) h
  | .and a b, ρ, K, E, h => we_ok (cf := cf) (.and a b) (ρ := ρ) (K := K) (E := E) h
  | .or a b, ρ, K, E, h => we_ok (cf := cf) (.or a b) (ρ := ρ) (K := K) (E := E) h
  | .ite c a b, ρ, K, E, h => we_ok (cf := cf) (.ite c a b) (ρ := ρ) (K := K) (E := E) h
  | .cmp3 o p a b c, ρ, K, E, h => we_ok (cf := cf) (.cmp3 o p a b c) (ρ := ρ) (K := K) (E := E) h
  | .bi f as, ρ, K, E, h => we_ok (cf := cf) (.bi f as) (ρ := ρ) (K := K) (E := E) h
  | .mt m o as, ρ, K, E, h => we_ok (cf := cf) (.mt m o as) (ρ := ρ) (K := K) (E := E) h
  | .sub o i, ρ, K, E, h => we_ok (cf := cf) (.sub o i) (ρ := ρ) (K := K) (E := E) h
  | .slc o lo hi, ρ, K, E, h => we_ok (cf := cf) (.slc o lo hi) (ρ := ρ) (K := K) (E := E) h
  | .rev o, ρ, K, E, h => we_ok (cf := cf) (.rev o) (ρ := ρ) (K := K) (E := E) h
  | .call f as, ρ, K, E, h => we_ok (cf := cf) (.call f as) (ρ := ρ) (K := K) (E := E) h
  | .ref i, ρ, K, E, h => we_ok (cf := cf) (.ref i) (ρ := ρ) (K := K) (E := E) h
  | .scr i, ρ, K, E, h => we_ok (cf := cf) (.scr i) (ρ := ρ) (K := K) (E := E) h
  | .scrL i, ρ, K, E, h => we_ok (cf := cf) (.scrL i) (ρ := ρ) (K := K) (E := E) h
  | .pop0 i, ρ, K, E, h => we_ok (cf := cf) (.pop0 i) (ρ := ρ) (K := K) (E := E) h
  | .pop1 i e, ρ, K, E, h => we_ok (cf := cf) (.pop1 i e) (ρ := ρ) (K := K) (E := E) h
  | .comp a b c d e f, ρ, K, E, h => we_ok (cf := cf) (.comp a b c d e f) (ρ := ρ) (K := K) (E := E) h
  | .rng a b, ρ, K, E, h => we_ok (cf := cf) (.rng a b) (ρ := ρ) (K := K) (E := E) h
  | .rng1 b, ρ, K, E, h => we_ok (cf := cf) (.rng1 b) (ρ := ρ) (K := K) (E := E) h
  | .isBool b, ρ, K, E, h => we_ok (cf := cf) (.isBool b) (ρ := ρ) (K := K) (E := E) h
  | .isTup b, ρ, K, E, h => we_ok (cf := cf) (.isTup b) (ρ := ρ) (K := K) (E := E) h
  | .isInt b, ρ, K, E, h => we_ok (cf := cf) (.isInt b) (ρ := ρ) (K := K) (E := E) h
  | .sset b, ρ, K, E, h => we_ok (cf := cf) (.sset b) (ρ := ρ) (K := K) (E := E) h
theorem wxs_ok : ∀ (es : Es) {ρ : Env} {K : List R → Env → Prop} {E : XE}, wxs cf es ρ K E → WP (evXs cf es ρ) (fun p => (∀ r ∈ p.1, (r.1 || imm r.2) = true) ∧ K (p.1.map nrm) p.2) E
  | .nil, ρ, K, E, h => by
    simp only [wxs] at h
    simp only [evXs, WP, List.map_nil]
    exact ⟨fun r hr => (nomatch hr), h⟩
  | .cons e r, ρ, K, E, h => by
    simp only [wxs] at h
    simp only [evXs]
    refine WP.bind ((wx_ok e h).mono fun p h => WP.bind ((wxs_ok r h).mono fun q h => ?_))
    obtain ⟨h0, h1, h2⟩ := h
    refine WP.ite (by simpa using h1) (WP.ok ⟨fun z hz => ?_, h2⟩)
    rcases List.mem_cons.mp hz with rfl | hz
    · exact h1
    · exact h0 z hz
end
def wbind (k : D → Cell) (tgt : List Nat) (single : Bool) (d : D) (ρ : Env) (K : Env → Prop) : Prop := match bindT k tgt single d ρ with
  | .ok ρ' => K ρ'
  | _ => False
theorem wbind_ok {k : D → Cell} {tgt : List Nat} {single : Bool} {d : D} {ρ : Env} {K : Env → Prop} {E : XE} (h : wbind k tgt single d ρ K) : WP (bindT k tgt single d ρ) K E := by
  unfold wbind at h
  split at h
  · rename_i e; (try rw [e]); exact h
  · exact h.elim
def loopB (cf : CF) (tgt : List Nat) (single : Bool) (b : Ss) : D → Env → Res (Out × Env) := fun d σ => do
  let σ1 ← bindT .fz tgt single d σ
  execs cf b σ1
def wfor (cf : CF) (tgt : List Nat) (single : Bool) (b : Ss) (ds : List D) (ρ : Env) (K : Out → Env → Prop) (E : XE) (_t : Tag K) : Prop := WP (forL (loopB cf tgt single b) ds ρ) (fun p => K p.1 p.2) E
def wwhl (cf : CF) (c : PV.E) (b : Ss) (ρ : Env) (K : Out → Env → Prop) (E : XE) (_t : Tag K) : Prop := WP (whileL (fun σ => do
      let (x, σ1) ← ev cf c σ
      .ok (← asBool x.2, σ1)) (fun σ => execs cf b σ) fuel ρ) (fun p => K p.1 p.2) E
def wtry (c : Nat) (k p : D) (hs : List (Nat × Nat)) (Q : D → Prop) : Hide Q := match handle c k p hs with
  | some d => Q d
  | none => False
def wnx (o : Out) (A : Prop) (B : Prop) : Prop := match o with
  | .nx => A
  | _ => B
mutual
def ws (cf : CF) : S → Env → (Out → Env → Prop) → XE → Prop
  | .asg i e, ρ, K, E => wx cf e ρ (fun b d ρ1 => noBor ρ1 = true ∧ K .nx (store ρ1 i (b, d) (vars e))) E
  | .asgT is e, ρ, K, E => wx cf e ρ (fun _ d ρ1 => imm d = true ∧ wbind .bor is false d ρ1 fun ρ2 => K .nx ρ2) E
  | .setv i ix e, ρ, K, E => wx cf e ρ (fun b d ρ1 => wown ρ1 i fun _ => we cf ix ρ1 (fun _ k ρ2 => b = true ∧ noBor ρ2 = true ∧ wown ρ2 i fun ds => wi k fun k => wset ds k d fun l => K .nx (ρ2.set i (some (.own (.list l))))) E) E
  | .set2 i ix jx e, ρ, K, E => wx cf e ρ (fun b d ρ1 => wown ρ1 i fun _ => we cf ix ρ1 (fun _ k ρ2 => we cf jx ρ2 (fun _ l ρ3 => b = true ∧ noBor ρ3 = true ∧ eff ix = false ∧ eff jx = false ∧ wown ρ3 i fun ds => wi k fun k1 =>
      wat ds k1 fun z => wlist z fun es => wi k fun k2 => wi l fun l => wset es l d fun es' => wset ds k2 (.list es') fun ds' => K .nx (ρ3.set i (some (.own (.list ds'))))) E) E) E
  | .app i e, ρ, K, E => wown ρ i fun _ => wx cf e ρ (fun b d ρ1 => b = true ∧ noBor ρ1 = true ∧ wown ρ1 i fun ds => ds.length < sizeLine ∧ K .nx (ρ1.set i (some (.own (.list (ds ++ [d])))))) E
  | .app1 i ix e, ρ, K, E => wown ρ i fun _ => we cf ix ρ (fun _ k ρ1 => wown ρ1 i fun ds1 => wi k fun k0 => wat ds1 k0 fun z0 => wlist z0 fun _ => we cf e ρ1 (fun b d ρ2 => b = true ∧ noBor ρ2 = true ∧ eff ix = false ∧ eff e = false ∧ wown ρ2 i fun ds => wi k fun k1 => wat ds k1 fun z => wlist z fun es => es.length < sizeLine ∧
      wi k fun k2 => wset ds k2 (.list (es ++ [d])) fun ds' => K .nx (ρ2.set i (some (.own (.list ds'))))) E) E
  | .ext i e, ρ, K, E => wown ρ i fun _ => we cf e ρ (fun _ d ρ1 => wown ρ1 i fun ds => wlist d fun es => immAll es = true ∧ noBor ρ1 = true ∧ lenOk (ds.length + es.length) = true ∧ K .nx (ρ1.set i (some (.own (.list (ds ++ es)))))) E
  | .ex e, ρ, K, E => we cf e ρ (fun _ _ ρ1 => K .nx ρ1) E
  | .iff c a b, ρ, K, E => we cf c ρ (fun _ x ρ1 => wbS x (wss cf a ρ1 K E) (wss cf b ρ1 K E) .mk) E
  | .for tgt single it b, ρ, K, E => wit cf it ρ (fun ds ρ1 => wfor cf tgt single b ds (freezes ρ1 (varsi it)) K E .mk) E
  | .whl c b, ρ, K, E => wwhl cf c b ρ K E .mk
  | .ret e, ρ, K, E => wx cf e ρ (fun b d ρ1 => b = true ∧ K (.ret d) ρ1) E
  | .retN, ρ, K, _ => K (.ret .none) ρ
  | .raise1 c code, _, _, E => E c (.str code) (.int 0)
  | .raise2 c code p, ρ, _, E => we cf p ρ (fun _ d _ => imm d = true ∧ eff p = false ∧ E c (.str code) d) E
  | .try_ i b hs, ρ, K, _ => wss cf b ρ K fun c k p => wtry c k p hs fun d => i < ρ.length ∧ K (.ret d) (ρ.map fun _ => none)
  | .brk, ρ, K, _ => K .brk ρ
  | .cnt, ρ, K, _ => K .cnt ρ
  | .pass, ρ, K, _ => K .nx ρ
def wss (cf : CF) : Ss → Env → (Out → Env → Prop) → XE → Prop
  | .nil, ρ, K, _ => K .nx ρ
  | .cons s r, ρ, K, E => ws cf s ρ (fun o ρ1 => wnx o (wss cf r ρ1 K E) (K o ρ1)) E
end
theorem store_n (ρ : Env) (i : Nat) (r : R) (vs : List Nat) : store ρ i (r.1 || imm r.2, r.2) vs = store ρ i r vs := by
  unfold store
  simp only [Bool.or_assoc, Bool.or_self]
mutual
theorem ws_ok : ∀ (s : S) {ρ : Env} {K : Out → Env → Prop} {E : XE}, ws cf s ρ K E → WP (exec cf s ρ) (fun p => K p.1 p.2) E
  | .asg i e, ρ, K, E, h => by
    simp only [ws] at h
    simp only [exec]
    refine WP.bind ((wx_ok e h).mono fun p h => WP.ite h.1 (WP.ok ?_))
    have h := h.2
    rwa [store_n] at h
  | .asgT is e, ρ, K, E, h => by
    simp only [ws] at h
    simp only [exec]
    exact WP.bind ((wx_ok e h).mono fun p h => WP.ite h.1 (WP.bind ((wbind_ok h.2).mono fun ρ2 h => WP.ok h)))
  | .setv i ix e, ρ, K, E, h => by
    simp only [ws] at h
    simp only [exec]
    refine WP.bind ((wx_ok e h).mono fun p h => WP.bind ((wown_ok h).mono fun _ h => WP.bind ((we_ok ix h).mono fun q h => WP.ite (by rw [h.1, h.2.1]; rfl) (WP.bind ((wown_ok h.2.2).mono fun ds h => WP.bind ((wi_ok h).mono fun k h => WP.bind ((wset_ok h).mono fun l h => WP.ok h)))))))
  | .set2 i ix jx e, ρ, K, E, h => by
    simp only [ws] at h
    simp only [exec]
    refine WP.bind ((wx_ok e h).mono fun p h => WP.bind ((wown_ok h).mono fun _ h => WP.bind ((we_ok ix h).mono fun q h => WP.bind ((we_ok jx h).mono fun r h => ?_))))
    obtain ⟨h1, h2, h3, h4, h⟩ := h
    exact WP.ite (by rw [h1, h2, h3, h4]; rfl) (WP.bind ((wown_ok h).mono fun ds h => WP.bind ((wi_ok h).mono fun k h => WP.bind ((wat_ok h).mono fun z h => WP.bind ((wlist_ok h).mono fun es h => WP.bind ((wi_ok h).mono fun k2 h => WP.bind ((wi_ok h).mono fun l h =>
      WP.bind ((wset_ok h).mono fun es' h => WP.bind ((wset_ok h).mono fun ds' h => WP.ok h)))))))))
  | .app i e, ρ, K, E, h => by
    simp only [ws] at h
    simp only [exec]
    refine WP.bind ((wown_ok h).mono fun _ h => WP.bind ((wx_ok e h).mono fun p h => WP.ite (by rw [h.1, h.2.1]; rfl) (WP.bind ((wown_ok h.2.2).mono fun ds h => WP.ite h.1 (WP.ok h.2)))))
  | .app1 i ix e, ρ, K, E, h => by
    simp only [ws] at h
    simp only [exec]
    refine WP.bind ((wown_ok h).mono fun _ h => WP.bind ((we_ok ix h).mono fun p h => WP.bind ((wown_ok h).mono fun ds1 h => WP.bind ((wi_ok h).mono fun k0 h => WP.bind ((wat_ok h).mono fun z0 h => WP.bind ((wlist_ok h).mono fun _ h => WP.bind ((we_ok e h).mono fun q h => ?_)))))))
    obtain ⟨h1, h2, h3, h4, h⟩ := h
    exact WP.ite (by rw [h1, h2, h3, h4]; rfl) (WP.bind ((wown_ok h).mono fun ds h => WP.bind ((wi_ok h).mono fun k h => WP.bind ((wat_ok h).mono fun z h => WP.bind ((wlist_ok h).mono fun es h => WP.ite h.1 (WP.bind ((wi_ok h.2).mono fun k2 h => WP.bind ((wset_ok h).mono fun ds' h => WP.ok h))))))))
  | .ext i e, ρ, K, E, h => by
    simp only [ws] at h
    simp only [exec]
    refine WP.bind ((wown_ok h).mono fun _ h => WP.bind ((we_ok e h).mono fun p h => WP.bind ((wown_ok h).mono fun ds h => WP.bind ((wlist_ok h).mono fun es h => WP.ite (by rw [h.1, h.2.1, h.2.2.1]; rfl) (WP.ok h.2.2.2)))))
  | .ex e, ρ, K, E, h => by
    simp only [ws] at h
    simp only [exec]
    exact WP.bind ((we_ok e h).mono fun p h => WP.ok h)
  | .iff c a b, ρ, K, E, h => by
    simp only [ws] at h
    simp only [exec]
    refine WP.bind ((we_ok c h).mono fun p h => WP.bind ((wb_ok h).mono fun z h => ?_))
    cases z with
    | true => exact wss_ok a h
    | false => exact wss_ok b h
  | .for tgt single it b, ρ, K, E, h => by
    simp only [ws] at h
    simp only [exec]
    exact WP.bind ((wit_ok it h).mono fun p h => h)
  | .whl c b, ρ, K, E, h => by
    simp only [ws] at h
    simp only [exec]
    exact h
  | .ret e, ρ, K, E, h => by
    simp only [ws] at h
    simp only [exec]
    exact WP.bind ((wx_ok e h).mono fun p h => WP.ite h.1 (WP.ok h.2))
  | .retN, ρ, K, E, h => by simpa only [ws, exec, WP] using h
  | .raise1 c code, ρ, K, E, h => by simpa only [ws, exec, WP] using h
  | .raise2 c code p, ρ, K, E, h => by
    simp only [ws] at h
    simp only [exec]
    exact WP.bind ((we_ok p h).mono fun p h => WP.ite (by rw [h.1, h.2.1]; rfl) h.2.2)
  | .try_ i b hs, ρ, K, E, h => by
    simp only [ws] at h
    simp only [exec]
    have h := wss_ok b h
    cases e : execs cf b ρ with
    | ok p => rw [e] at h; exact h
    | exc c k p =>
      rw [e] at h
      try dsimp only
      have h : wtry c k p hs _ := h
      unfold wtry at h
      split at h
      · rename_i d e
        (try rw [e])
        exact WP.ite h.1 (WP.ok h.2)
      · exact h.elim
    | stuck => rw [e] at h; exact h.elim
  | .brk, ρ, K, E, h => by simpa only [ws, exec, WP] using h
  | .cnt, ρ, K, E, h => by simpa only [ws, exec, WP] using h
  | .pass, ρ, K, E, h => by simpa only [ws, exec, WP] using h
theorem wss_ok : ∀ (s : Ss) {ρ : Env} {K : Out → Env → Prop} {E : XE}, wss cf s ρ K E → WP (execs cf s ρ) (fun p => K p.1 p.2) E
  | .nil, ρ, K, E, h => by simpa only [wss, execs, WP] using h
  | .cons s r, ρ, K, E, h => by
    simp only [wss] at h
    simp only [execs]
    refine WP.bind ((ws_ok s h).mono fun p h => ?_)
    obtain ⟨o, ρ1⟩ := p
    cases o <;> first | exact wss_ok r h | exact h
end
end PV
set_option Elab.async false
set_option linter.all false
set_option maxRecDepth 100000
set_option maxHeartbeats 1000000
/-! PW3: typed data; rules by which a run is followed. -/
namespace PV
open PySem
/-! ### where simp may look -/
def gx' (c : Option Cell) (ρ : Env) (i : Nat) (K : EK) : Hide K := match c with
  | some (.own d) => K true d (if imm d then ρ else ρ.set i none)
  | some (.scr _) => False
  | some c => K (imm c.d) c.d ρ
  | none => False
theorem gx_eq {ρ : Env} {i : Nat} {K : EK} : gx ρ i K = gx' (get ρ i) ρ i K := rfl
def wown' (c : Option Cell) (K : List D → Prop) : Hide K := match c with
  | some (.own (.list ds)) => K ds
  | _ => False
theorem wown_eq {ρ : Env} {i : Nat} {K : List D → Prop} : wown ρ i K = wown' (get ρ i) K := rfl
def wscr' (c : Option Cell) (K : List Int → Prop) : Hide K := match c with
  | some (.scr l) => K l
  | _ => False
theorem wscr_eq {ρ : Env} {i : Nat} {K : List Int → Prop} : wscr ρ i K = wscr' (get ρ i) K := rfl
/-! ### tree by tree -/
theorem wa_var {i} {cf : CF} {r : Es} {ρ : Env} {K : List Ar → Env → Prop} {E : XE} : wa cf (.cons (.var i) r) ρ K E = we cf (.var i) ρ (fun b x ρ1 => wa cf r ρ1 (fun xs ρ2 => kp b (effs r) ∧ K (.val (b, x) :: xs) ρ2) E) E := by simp only [wa]
theorem wx_int {n} {cf : CF} {ρ : Env} {K : EK} {E : XE} : wx cf (.int n) ρ K E = we cf (.int n) ρ K E := by simp only [wx]
theorem wa_int {n} {cf : CF} {r : Es} {ρ : Env} {K : List Ar → Env → Prop} {E : XE} : wa cf (.cons (.int n) r) ρ K E = we cf (.int n) ρ (fun b x ρ1 => wa cf r ρ1 (fun xs ρ2 => kp b (effs r) ∧ K (.val (b, x) :: xs) ρ2) E) E := by simp only [wa]
theorem wx_str {s} {cf : CF} {ρ : Env} {K : EK} {E : XE} : wx cf (.str s) ρ K E = we cf (.str s) ρ K E := by simp only [wx]
theorem wa_str {s} {cf : CF} {r : Es} {ρ : Env} {K : List Ar → Env → Prop} {E : XE} : wa cf (.cons (.str s) r) ρ K E = we cf (.str s) ρ (fun b x ρ1 => wa cf r ρ1 (fun xs ρ2 => kp b (effs r) ∧ K (.val (b, x) :: xs) ρ2) E) E := by simp only [wa]
theorem wx_bl {b} {cf : CF} {ρ : Env} {K : EK} {E : XE} : wx cf (.bl b) ρ K E = we cf (.bl b) ρ K E := by simp only [wx]
theorem wa_bl {b} {cf : CF} {r : Es} {ρ : Env} {K : List Ar → Env → Prop} {E : XE} : wa cf (.cons (.bl b) r) ρ K E = we cf (.bl b) ρ (fun b x ρ1 => wa cf r ρ1 (fun xs ρ2 => kp b (effs r) ∧ K (.val (b, x) :: xs) ρ2) E) E := by simp only [wa]
theorem wx_non {cf : CF} {ρ : Env} {K : EK} {E : XE} : wx cf .non ρ K E = we cf .non ρ K E := by simp only [wx]
theorem wa_non {cf : CF} {r : Es} {ρ : Env} {K : List Ar → Env → Prop} {E : XE} : wa cf (.cons .non r) ρ K E = we cf .non ρ (fun b x ρ1 => wa cf r ρ1 (fun xs ρ2 => kp b (effs r) ∧ K (.val (b, x) :: xs) ρ2) E) E := by simp only [wa]
theorem wx_op2 {o a b} {cf : CF} {ρ : Env} {K : EK} {E : XE} : wx cf (.op2 o a b) ρ K E = we cf (.op2 o a b) ρ K E := by simp only [wx]
theorem wa_op2 {o a b} {cf : CF} {r : Es} {ρ : Env} {K : List Ar → Env → Prop} {E : XE} : wa cf (.cons (.op2 o a b) r) ρ K E = we cf (.op2 o a b) ρ (fun b x ρ1 => wa cf r ρ1 (fun xs ρ2 => kp b (effs r) ∧ K (.val (b, x) :: xs) ρ2) E) E := by simp only [wa]
theorem wx_op1 {o a} {cf : CF} {ρ : Env} {K : EK} {E : XE} : wx cf (.op1 o a) ρ K E = we cf (.op1 o a) ρ K E := by simp only [wx]
theorem wa_op1 {o a} {cf : CF} {r : Es} {ρ : Env} {K : List Ar → Env → Prop} {E : XE} : wa cf (.cons (.op1 o a) r) ρ K E = we cf (.op1 o a) ρ (fun b x ρ1 => wa cf r ρ1 (fun xs ρ2 => kp b (effs r) ∧ K (.val (b, x) :: xs) ρ2) E) E := by simp only [wa]
theorem wx_and {a b} {cf : CF} {ρ : Env} {K : EK} {E : XE} : wx cf (.and a b) ρ K E = we cf (.and a b) ρ K E := by simp only [wx]
theorem wa_and {a b} {cf : CF} {r : Es} {ρ : Env} {K : List Ar → Env → Prop} {E : XE} : wa cf (.cons (.and a b) r) ρ K E = we cf (.and a b) ρ (fun b x ρ1 => wa cf r ρ1 (fun xs ρ2 => kp b (effs r) ∧ K (.val (b, x) :: xs) ρ2) E) E := by simp only [wa]
theorem wx_or {a b} {cf : CF} {ρ : Env} {K : EK} {E : XE} : wx cf (.or a b) ρ K E = we cf (.or a b) ρ K E := by simp only [wx]
theorem wa_or {a b} {cf : CF} {r : Es} {ρ : Env} {K : List Ar → Env → Prop} {E : XE} : wa cf (.cons (.or a b) r) ρ K E = we cf (.or a b) ρ (fun b x ρ1 => wa cf r ρ1 (fun xs ρ2 => kp b (effs r) ∧ K (.val (b, x) :: xs) ρ2) E) E := by simp only [wa]
theorem wx_ite {c a b} {cf : CF} {ρ : Env} {K : EK} {E : XE} : wx cf (.ite c a b) ρ K E = we cf (.ite c a b) ρ K E := by simp only [wx]
theorem wa_ite {c a b} {cf : CF} {r : Es} {ρ : Env} {K : List Ar → Env → Prop} {E : XE} : wa cf (.cons (.ite c a b) r) ρ K E = we cf (.ite c a b) ρ (fun b x ρ1 => wa cf r ρ1 (fun xs ρ2 => kp b (effs r) ∧ K (.val (b, x) :: xs) ρ2) E) E := by simp only [wa]
theorem wx_cmp3 {o p a b c} {cf : CF} {ρ : Env} {K : EK} {E : XE} : wx cf (.cmp3 o p a b c) ρ K E = we cf (.cmp3 o p a b c) ρ K E := by simp only [wx]
theorem wa_cmp3 {o p a b c} {cf : CF} {r : Es} {ρ : Env} {K : List Ar → Env → Prop} {E : XE} : wa cf (.cons (.cmp3 o p a b c) r) ρ K E = we cf (.cmp3 o p a b c) ρ (fun b x ρ1 => wa cf r ρ1 (fun xs ρ2 => kp b (effs r) ∧ K (.val (b, x) :: xs) ρ2) E) E := by simp only [wa]
theorem wx_bi {f as} {cf : CF} {ρ : Env} {K : EK} {E : XE} : wx cf (.bi f as) ρ K E = we cf (.bi f as) ρ K E := by simp only [wx]
theorem wa_bi {f as} {cf : CF} {r : Es} {ρ : Env} {K : List Ar → Env → Prop} {E : XE} : wa cf (.cons (.bi f as) r) ρ K E = we cf (.bi f as) ρ (fun b x ρ1 => wa cf r ρ1 (fun xs ρ2 => kp b (effs r) ∧ K (.val (b, x) :: xs) ρ2) E) E := by simp only [wa]
theorem wx_mt {m o as} {cf : CF} {ρ : Env} {K : EK} {E : XE} : wx cf (.mt m o as) ρ K E = we cf (.mt m o as) ρ K E := by simp only [wx]
theorem wa_mt {m o as} {cf : CF} {r : Es} {ρ : Env} {K : List Ar → Env → Prop} {E : XE} : wa cf (.cons (.mt m o as) r) ρ K E = we cf (.mt m o as) ρ (fun b x ρ1 => wa cf r ρ1 (fun xs ρ2 => kp b (effs r) ∧ K (.val (b, x) :: xs) ρ2) E) E := by simp only [wa]
theorem wx_sub {o i} {cf : CF} {ρ : Env} {K : EK} {E : XE} : wx cf (.sub o i) ρ K E = we cf (.sub o i) ρ K E := by simp only [wx]
theorem wa_sub {o i} {cf : CF} {r : Es} {ρ : Env} {K : List Ar → Env → Prop} {E : XE} : wa cf (.cons (.sub o i) r) ρ K E = we cf (.sub o i) ρ (fun b x ρ1 => wa cf r ρ1 (fun xs ρ2 => kp b (effs r) ∧ K (.val (b, x) :: xs) ρ2) E) E := by simp only [wa]
theorem wx_slc {o lo hi} {cf : CF} {ρ : Env} {K : EK} {E : XE} : wx cf (.slc o lo hi) ρ K E = we cf (.slc o lo hi) ρ K E := by simp only [wx]
theorem wa_slc {o lo hi} {cf : CF} {r : Es} {ρ : Env} {K : List Ar → Env → Prop} {E : XE} : wa cf (.cons (.slc o lo hi) r) ρ K E = we cf (.slc o lo hi) ρ (fun b x ρ1 => wa cf r ρ1 (fun xs ρ2 => kp b (effs r) ∧ K (.val (b, x) :: xs) ρ2) E) E := by simp only [wa]
theorem wx_rev {o} {cf : CF} {ρ : Env} {K : EK} {E : XE} : wx cf (.rev o) ρ K E = we cf (.rev o) ρ K E := by simp only [wx]
theorem wa_rev {o} {cf : CF} {r : Es} {ρ : Env} {K : List Ar → Env → Prop} {E : XE} : wa cf (.cons (.rev o) r) ρ K E = we cf (.rev o) ρ (fun b x ρ1 => wa cf r ρ1 (fun xs ρ2 => kp b (effs r) ∧ K (.val (b, x) :: xs) ρ2) E) E := by simp only [wa]
theorem wa_tup {es} {cf : CF} {r : Es} {ρ : Env} {K : List Ar → Env → Prop} {E : XE} : wa cf (.cons (.tup es) r) ρ K E = we cf (.tup es) ρ (fun b x ρ1 => wa cf r ρ1 (fun xs ρ2 => kp b (effs r) ∧ K (.val (b, x) :: xs) ρ2) E) E := by simp only [wa]
theorem wa_lst {es} {cf : CF} {r : Es} {ρ : Env} {K : List Ar → Env → Prop} {E : XE} : wa cf (.cons (.lst es) r) ρ K E = we cf (.lst es) ρ (fun b x ρ1 => wa cf r ρ1 (fun xs ρ2 => kp b (effs r) ∧ K (.val (b, x) :: xs) ρ2) E) E := by simp only [wa]
theorem wx_call {f as} {cf : CF} {ρ : Env} {K : EK} {E : XE} : wx cf (.call f as) ρ K E = we cf (.call f as) ρ K E := by simp only [wx]
theorem wa_call {f as} {cf : CF} {r : Es} {ρ : Env} {K : List Ar → Env → Prop} {E : XE} : wa cf (.cons (.call f as) r) ρ K E = we cf (.call f as) ρ (fun b x ρ1 => wa cf r ρ1 (fun xs ρ2 => kp b (effs r) ∧ K (.val (b, x) :: xs) ρ2) E) E := by simp only [wa]
theorem wx_scrL {i} {cf : CF} {ρ : Env} {K : EK} {E : XE} : wx cf (.scrL i) ρ K E = we cf (.scrL i) ρ K E := by simp only [wx]
theorem wa_scrL {i} {cf : CF} {r : Es} {ρ : Env} {K : List Ar → Env → Prop} {E : XE} : wa cf (.cons (.scrL i) r) ρ K E = we cf (.scrL i) ρ (fun b x ρ1 => wa cf r ρ1 (fun xs ρ2 => kp b (effs r) ∧ K (.val (b, x) :: xs) ρ2) E) E := by simp only [wa]
theorem wx_pop0 {i} {cf : CF} {ρ : Env} {K : EK} {E : XE} : wx cf (.pop0 i) ρ K E = we cf (.pop0 i) ρ K E := by simp only [wx]
theorem wa_pop0 {i} {cf : CF} {r : Es} {ρ : Env} {K : List Ar → Env → Prop} {E : XE} : wa cf (.cons (.pop0 i) r) ρ K E = we cf (.pop0 i) ρ (fun b x ρ1 => wa cf r ρ1 (fun xs ρ2 => kp b (effs r) ∧ K (.val (b, x) :: xs) ρ2) E) E := by simp only [wa]
theorem wx_pop1 {i e} {cf : CF} {ρ : Env} {K : EK} {E : XE} : wx cf (.pop1 i e) ρ K E = we cf (.pop1 i e) ρ K E := by simp only [wx]
theorem wa_pop1 {i e} {cf : CF} {r : Es} {ρ : Env} {K : List Ar → Env → Prop} {E : XE} : wa cf (.cons (.pop1 i e) r) ρ K E = we cf (.pop1 i e) ρ (fun b x ρ1 => wa cf r ρ1 (fun xs ρ2 => kp b (effs r) ∧ K (.val (b, x) :: xs) ρ2) E) E := by simp only [wa]
theorem wx_comp {elt tgt single it cnd own} {cf : CF} {ρ : Env} {K : EK} {E : XE} : wx cf (.comp elt tgt single it cnd own) ρ K E = we cf (.comp elt tgt single it cnd own) ρ K E := by simp only [wx]
theorem wa_comp {elt tgt single it cnd own} {cf : CF} {r : Es} {ρ : Env} {K : List Ar → Env → Prop} {E : XE} : wa cf (.cons (.comp elt tgt single it cnd own) r) ρ K E = we cf (.comp elt tgt single it cnd own) ρ (fun b x ρ1 => wa cf r ρ1 (fun xs ρ2 => kp b (effs r) ∧ K (.val (b, x) :: xs) ρ2) E) E := by simp only [wa]
theorem wx_rng {a b} {cf : CF} {ρ : Env} {K : EK} {E : XE} : wx cf (.rng a b) ρ K E = we cf (.rng a b) ρ K E := by simp only [wx]
theorem wa_rng {a b} {cf : CF} {r : Es} {ρ : Env} {K : List Ar → Env → Prop} {E : XE} : wa cf (.cons (.rng a b) r) ρ K E = we cf (.rng a b) ρ (fun b x ρ1 => wa cf r ρ1 (fun xs ρ2 => kp b (effs r) ∧ K (.val (b, x) :: xs) ρ2) E) E := by simp only [wa]
theorem wx_rng1 {b} {cf : CF} {ρ : Env} {K : EK} {E : XE} : wx cf (.rng1 b) ρ K E = we cf (.rng1 b) ρ K E := by simp only [wx]
theorem wa_rng1 {b} {cf : CF} {r : Es} {ρ : Env} {K : List Ar → Env → Prop} {E : XE} : wa cf (.cons (.rng1 b) r) ρ K E = we cf (.rng1 b) ρ (fun b x ρ1 => wa cf r ρ1 (fun xs ρ2 => kp b (effs r) ∧ K (.val (b, x) :: xs) ρ2) E) E := by simp only [wa]
theorem wx_isBool {e} {cf : CF} {ρ : Env} {K : EK} {E : XE} : wx cf (.isBool e) ρ K E = we cf (.isBool e) ρ K E := by simp only [wx]
theorem wx_isTup {e} {cf : CF} {ρ : Env} {K : EK} {E : XE} : wx cf (.isTup e) ρ K E = we cf (.isTup e) ρ K E := by simp only [wx]
theorem wx_isInt {e} {cf : CF} {ρ : Env} {K : EK} {E : XE} : wx cf (.isInt e) ρ K E = we cf (.isInt e) ρ K E := by simp only [wx]
theorem wx_sset {e} {cf : CF} {ρ : Env} {K : EK} {E : XE} : wx cf (.sset e) ρ K E = we cf (.sset e) ρ K E := by simp only [wx]
theorem wa_isBool {e} {cf : CF} {r : Es} {ρ : Env} {K : List Ar → Env → Prop} {E : XE} : wa cf (.cons (.isBool e) r) ρ K E = we cf (.isBool e) ρ (fun b x ρ1 => wa cf r ρ1 (fun xs ρ2 => kp b (effs r) ∧ K (.val (b, x) :: xs) ρ2) E) E := by simp only [wa]
theorem wa_isTup {e} {cf : CF} {r : Es} {ρ : Env} {K : List Ar → Env → Prop} {E : XE} : wa cf (.cons (.isTup e) r) ρ K E = we cf (.isTup e) ρ (fun b x ρ1 => wa cf r ρ1 (fun xs ρ2 => kp b (effs r) ∧ K (.val (b, x) :: xs) ρ2) E) E := by simp only [wa]
theorem wa_isInt {e} {cf : CF} {r : Es} {ρ : Env} {K : List Ar → Env → Prop} {E : XE} : wa cf (.cons (.isInt e) r) ρ K E = we cf (.isInt e) ρ (fun b x ρ1 => wa cf r ρ1 (fun xs ρ2 => kp b (effs r) ∧ K (.val (b, x) :: xs) ρ2) E) E := by simp only [wa]
theorem wa_sset {e} {cf : CF} {r : Es} {ρ : Env} {K : List Ar → Env → Prop} {E : XE} : wa cf (.cons (.sset e) r) ρ K E = we cf (.sset e) ρ (fun b x ρ1 => wa cf r ρ1 (fun xs ρ2 => kp b (effs r) ∧ K (.val (b, x) :: xs) ρ2) E) E := by simp only [wa]
/-! ### cells -/
theorem get_z {c : Option Cell} {ρ : Env} : get (c :: ρ) 0 = c := by cases c <;> rfl
theorem get_s {c : Option Cell} {ρ : Env} {n : Nat} : get (c :: ρ) (n + 1) = get ρ n := rfl
theorem gk_own {d : D} {K : Bool → D → Prop} : gk (some (.own d)) K = K (imm d) d := rfl
theorem gk_fz {d : D} {K : Bool → D → Prop} : gk (some (.fz d)) K = K (imm d) d := rfl
theorem gk_bor {d : D} {K : Bool → D → Prop} : gk (some (.bor d)) K = K (imm d) d := rfl
theorem gx_own {d : D} {ρ : Env} {i : Nat} {K : EK} : gx' (some (.own d)) ρ i K = K true d (if imm d = true then ρ else ρ.set i none) := rfl
theorem gx_fz {d : D} {ρ : Env} {i : Nat} {K : EK} : gx' (some (.fz d)) ρ i K = K (imm d) d ρ := rfl
theorem gx_bor {d : D} {ρ : Env} {i : Nat} {K : EK} : gx' (some (.bor d)) ρ i K = K (imm d) d ρ := rfl
theorem wscr_s {l : List Int} {K : List Int → Prop} : wscr' (some (.scr l)) K = K l := rfl
theorem noBor_n : noBor [] = true := Eq.trans rfl rfl
theorem noBor_z {ρ : Env} : noBor (none :: ρ) = noBor ρ := Eq.trans rfl rfl
theorem noBor_o {d : D} {ρ : Env} : noBor (some (.own d) :: ρ) = noBor ρ := Eq.trans rfl rfl
theorem noBor_f {d : D} {ρ : Env} : noBor (some (.fz d) :: ρ) = noBor ρ := Eq.trans rfl rfl
theorem noBor_s {l : List Int} {ρ : Env} : noBor (some (.scr l) :: ρ) = noBor ρ := Eq.trans rfl rfl
theorem store_t {ρ : Env} {i : Nat} {d : D} {vs : List Nat} : store ρ i (true, d) vs = ρ.set i (some (.own d)) := rfl
theorem store_q {ρ : Env} {i : Nat} {b : Bool} {d : D} {vs : List Nat} : store ρ i (b, d) vs = bif b || imm d then ρ.set i (some (.own d)) else (freezes ρ vs).set i (some (.fz d)) := by
  unfold store; simp only; cases b || imm d <;> rfl
theorem store_f {ρ : Env} {i : Nat} {d : D} {vs : List Nat} (h : imm d = false) : store ρ i (false, d) vs = (freezes ρ vs).set i (some (.fz d)) := by
  unfold store; rw [h]; rfl
/-- slot i is nobody's to change, cell by cell -/
def frz1 : Option Cell → Option Cell
  | some (.own d) => bif imm d then some (.own d) else some (.fz d)
  | c => c
theorem freeze_eq (ρ : Env) (i : Nat) : freeze ρ i = match ρ[i]? with
    | some c => ρ.set i (frz1 c)
    | none => ρ := by
  unfold freeze get
  split
  · rename_i d e
    split at e
    · rename_i c e2
      subst e
      (try rw [e2])
      by_cases hd : imm d = true
      · rw [if_pos hd]
        simp only [frz1, hd, cond_true]
        obtain ⟨hl, e⟩ := List.getElem?_eq_some_iff.mp e2
        rw [← e, List.set_getElem_self]
      · rw [if_neg hd]
        simp only [Bool.not_eq_true] at hd
        simp only [frz1, hd, cond_false]
    · cases e
  · rename_i n
    split
    · rename_i c e
      have n := n
      rw [e] at n
      have : frz1 c = c := by
        cases c with
        | none => rfl
        | some c => cases c <;> first | rfl | (rename_i d; exact (n d rfl).elim)
      rw [this]
      obtain ⟨hl, e⟩ := List.getElem?_eq_some_iff.mp e
      rw [← e, List.set_getElem_self]
    · rfl
theorem freeze_z {c : Option Cell} {ρ : Env} : freeze (c :: ρ) 0 = frz1 c :: ρ := by rw [freeze_eq]; rfl
theorem freeze_s {c : Option Cell} {ρ : Env} {i : Nat} : freeze (c :: ρ) (i + 1) = c :: freeze ρ i := by
  rw [freeze_eq, freeze_eq]
  simp only [List.getElem?_cons_succ]
  cases ρ[i]? <;> rfl
theorem frz1_o {d : D} : frz1 (some (.own d)) = bif imm d then some (.own d) else some (.fz d) := rfl
theorem frz1_f {d : D} : frz1 (some (.fz d)) = some (.fz d) := rfl
theorem frz1_s {l : List Int} : frz1 (some (.scr l)) = some (.scr l) := rfl
theorem frz1_n : frz1 none = none := rfl
theorem frz1_b {d : D} : frz1 (some (.bor d)) = some (.bor d) := rfl
theorem freezes_n {ρ : Env} : freezes ρ [] = ρ := rfl
theorem freezes_c {ρ : Env} {i : Nat} {l : List Nat} : freezes ρ (i :: l) = freezes (freeze ρ i) l := rfl
/-! ### no lists -/
theorem imm_int {n : Int} : imm (.int n) = true := Eq.trans rfl rfl
theorem imm_bool {n : Bool} : imm (.bool n) = true := Eq.trans rfl rfl
theorem imm_str {n : Str} : imm (.str n) = true := Eq.trans rfl rfl
theorem imm_none : imm .none = true := Eq.trans rfl rfl
theorem imm_list {l : List D} : imm (.list l) = false := Eq.trans rfl rfl
theorem imm_tuple {l : List D} : imm (.tuple l) = immAll l := Eq.trans rfl rfl
theorem immAll_n : immAll [] = true := Eq.trans rfl rfl
theorem immAll_c {x : D} {l : List D} : immAll (x :: l) = (imm x && immAll l) := Eq.trans rfl rfl
theorem flat_int {n : Int} : flat (.int n) = true := Eq.trans rfl rfl
theorem flat_bool {n : Bool} : flat (.bool n) = true := Eq.trans rfl rfl
theorem flat_str {n : Str} : flat (.str n) = true := Eq.trans rfl rfl
theorem flat_none : flat .none = true := Eq.trans rfl rfl
theorem flat_list {l : List D} : flat (.list l) = immAll l := Eq.trans rfl rfl
theorem flat_tuple {l : List D} : flat (.tuple l) = immAll l := Eq.trans rfl rfl
theorem kp_t {e : Bool} : kp true e = True := by simp [kp]
theorem kp_f {b : Bool} : kp b false = True := by simp [kp]
theorem kpv_t {e f : Bool} : kpv true e f = True := by simp [kpv]
theorem kpv_f {b f : Bool} : kpv b false f = True := by simp [kpv]
theorem kpv_fz {b e : Bool} : kpv b e true = True := by simp [kpv]
theorem kpv_n {f : Bool} : kpv false true f = (f = true) := by simp [kpv]
def isfz' : Option Cell → Bool
  | some (.fz _) => true
  | _ => false
theorem isFz_var {ρ : Env} {j : Nat} : isFz ρ (.var j) = isfz' (get ρ j) := by
  unfold isFz isfz'; rfl
theorem isfz_f {d : D} : isfz' (some (.fz d)) = true := Eq.trans rfl rfl
theorem kp_ft : kp false true = False := by simp [kp]
theorem lenOk_of {n : Nat} (h : n ≤ 16777216) : lenOk n = true := by
  unfold lenOk; exact decide_eq_true (Nat.le_trans h (by decide))
/-! ### encoders: f a is without lists; told apart by ==; at most k deep -/
class Enc {α : Type} [DecidableEq α] (f : α → D) (k : outParam Nat) : Prop where
  imm : ∀ a, PV.imm (f a) = true
  eqv : ∀ a b, PyData.eqv (f a) (f b) = decide (a = b)
  dep : ∀ a, (f a).depth ≤ k
def Tp {α : Type} (f : α → D) (l : List α) : D := .tuple (l.map f)
def Ls {α : Type} (f : α → D) (l : List α) : D := .list (l.map f)
/-- pairs -/
theorem imm_Ls {α : Type} {f : α → D} (l : List α) : imm (Ls f l) = false := Eq.trans rfl rfl
def Pr {α β : Type} (f : α → D) (g : β → D) (p : α × β) : D := .tuple [f p.1, g p.2]
theorem beq_dec {α : Type} [BEq α] [LawfulBEq α] [DecidableEq α] (a b : α) : (a == b) = decide (a = b) := by
  cases h : a == b with
  | true => rw [eq_of_beq h]; simp
  | false => exact (decide_eq_false fun e => by rw [e] at h; simp at h).symm
instance : Enc PyData.int 0 := ⟨fun _ => rfl, fun a b => by simp only [PyData.eqv]; rfl, fun _ => by simp [PyData.depth]⟩
instance : Enc PyData.bool 0 := ⟨fun _ => rfl, fun a b => by simp only [PyData.eqv]; cases a <;> cases b <;> rfl, fun _ => by simp [PyData.depth]⟩
instance : Enc PyData.str 0 := ⟨fun _ => rfl, fun a b => by simp only [PyData.eqv]; exact beq_dec a b, fun _ => by simp [PyData.depth]⟩
theorem depthAll_le {n : Nat} : ∀ l : List D, (∀ d ∈ l, d.depth ≤ n) → PyData.depthAll l ≤ n
  | [], _ => by simp [PyData.depthAll]
  | x :: l, h => by
    simp only [PyData.depthAll]
    have h1 := h x List.mem_cons_self
    have h2 := depthAll_le l fun d hd => h d (List.mem_cons_of_mem _ hd)
    omega
section
variable {α : Type} [DecidableEq α] {f : α → D} {k : Nat} [e : Enc f k]
include e
theorem immAll_map (l : List α) : immAll (l.map f) = true := by
  induction l with
  | nil => rfl
  | cons a l ih => rw [List.map_cons, immAll, e.imm, ih]; rfl
theorem imm_Tp (l : List α) : imm (Tp f l) = true := immAll_map l
theorem flat_Tp (l : List α) : flat (Tp f l) = true := immAll_map l
theorem flat_Ls (l : List α) : flat (Ls f l) = true := immAll_map l
theorem imm_enc (a : α) : imm (f a) = true := e.imm a
theorem flat_enc (a : α) : flat (f a) = true := imm_flat (e.imm a)
theorem eqvAll_map : ∀ l m : List α, PyData.eqvAll (l.map f) (m.map f) = decide (l = m)
  | [], [] => by simp [PyData.eqvAll]
  | [], b :: m => by simp [PyData.eqvAll]
  | a :: l, [] => by simp [PyData.eqvAll]
  | a :: l, b :: m => by
    simp only [List.map_cons, PyData.eqvAll, e.eqv, eqvAll_map l m, List.cons.injEq]
    by_cases h1 : a = b <;> by_cases h2 : l = m <;> simp [h1, h2]
theorem eqv_Tp (l m : List α) : PyData.eqv (Tp f l) (Tp f m) = decide (l = m) := by
  unfold Tp; simp only [PyData.eqv]; exact eqvAll_map l m
theorem eqv_Ls (l m : List α) : PyData.eqv (Ls f l) (Ls f m) = decide (l = m) := by
  unfold Ls; simp only [PyData.eqv]; exact eqvAll_map l m
theorem depthAll_map (l : List α) : PyData.depthAll (l.map f) ≤ k := depthAll_le _ fun d hd => by
  obtain ⟨a, _, rfl⟩ := List.mem_map.mp hd
  exact e.dep a
theorem depth_Tp (l : List α) : (Tp f l).depth ≤ k + 1 := by
  unfold Tp
  simp only [PyData.depth]
  have := depthAll_map (f := f) l
  omega
theorem depth_Ls (l : List α) : (Ls f l).depth ≤ k + 1 := by
  unfold Ls
  simp only [PyData.depth]
  have := depthAll_map (f := f) l
  omega
instance : Enc (Tp f) (k + 1) := ⟨imm_Tp, eqv_Tp, depth_Tp⟩
variable {β : Type} [DecidableEq β] {g : β → D} {j : Nat} [e2 : Enc g j]
instance : Enc (Pr f g) (max k j + 1) := ⟨fun p => by simp [Pr, imm, immAll, e.imm, e2.imm], fun p q => by
    obtain ⟨a, b⟩ := p
    obtain ⟨c, d⟩ := q
    simp only [Pr, PyData.eqv, PyData.eqvAll, e.eqv, e2.eqv, Prod.mk.injEq]
    by_cases h1 : a = c <;> by_cases h2 : b = d <;> simp [h1, h2],
  fun p => by
    have h1 := e.dep p.1
    have h2 := e2.dep p.2
    simp only [Pr, PyData.depth, PyData.depthAll]
    omega⟩
/-! ### operators -/
theorem w2_eq {a b : α} {K : D → Prop} (h : k ≤ 60) : w2 .eq (f a) (f b) K = K (.bool (decide (a = b))) := by
  have : eqD (f a) (f b) = .ok (decide (a = b)) := by
    unfold eqD
    rw [if_pos (by have := e.dep a; omega), e.eqv]
  simp only [w2, op2, this, bind_ok]
theorem w2_ne {a b : α} {K : D → Prop} (h : k ≤ 60) : w2 .ne (f a) (f b) K = K (.bool (!decide (a = b))) := by
  have : eqD (f a) (f b) = .ok (decide (a = b)) := by
    unfold eqD
    rw [if_pos (by have := e.dep a; omega), e.eqv]
  simp only [w2, op2, this, bind_ok]
theorem w2_eqL {a b : List α} {K : D → Prop} (h : k ≤ 50) : w2 .eq (Ls f a) (Ls f b) K = K (.bool (decide (a = b))) := by
  have : eqD (Ls f a) (Ls f b) = .ok (decide (a = b)) := by
    unfold eqD
    rw [if_pos (by have := depth_Ls (f := f) a; omega), eqv_Ls]
  simp only [w2, op2, this, bind_ok]
theorem w2_neL {a b : List α} {K : D → Prop} (h : k ≤ 50) : w2 .ne (Ls f a) (Ls f b) K = K (.bool (!decide (a = b))) := by
  have : eqD (Ls f a) (Ls f b) = .ok (decide (a = b)) := by
    unfold eqD
    rw [if_pos (by have := depth_Ls (f := f) a; omega), eqv_Ls]
  simp only [w2, op2, this, bind_ok]
theorem any_eqv (a : α) (l : List α) : ((l.map f).any fun y => PyData.eqv y (f a)) = decide (a ∈ l) := by
  induction l with
  | nil => simp
  | cons b l ih =>
    rw [List.map_cons, List.any_cons, ih, e.eqv]
    by_cases h : b = a
    · simp [h]
    · have h' : ¬ a = b := fun e => h e.symm
      by_cases h2 : a ∈ l <;> simp [h, h', h2]
theorem inD_map (a : α) (l : List α) (h : k ≤ 60) : inD (f a) (l.map f) = .ok (decide (a ∈ l)) := by
  unfold inD
  rw [if_pos (by have := e.dep a; omega), any_eqv]
theorem w2_inT {a : α} {l : List α} {K : D → Prop} (h : k ≤ 60) : w2 .inn (f a) (Tp f l) K = K (.bool (decide (a ∈ l))) := by
  simp only [w2, op2, Tp, inD_map a l h, bind_ok]
theorem w2_ninT {a : α} {l : List α} {K : D → Prop} (h : k ≤ 60) : w2 .nin (f a) (Tp f l) K = K (.bool (!decide (a ∈ l))) := by
  simp only [w2, op2, Tp, inD_map a l h, bind_ok]
theorem w2_inL {a : α} {l : List α} {K : D → Prop} (h : k ≤ 60) : w2 .inn (f a) (Ls f l) K = K (.bool (decide (a ∈ l))) := by
  simp only [w2, op2, Ls, inD_map a l h, bind_ok]
theorem w2_ninL {a : α} {l : List α} {K : D → Prop} (h : k ≤ 60) : w2 .nin (f a) (Ls f l) K = K (.bool (!decide (a ∈ l))) := by
  simp only [w2, op2, Ls, inD_map a l h, bind_ok]
theorem wmt_count {a : α} {l : List α} {K : D → Prop} (h : k ≤ 60) : wmt .count (Ls f l) [f a] K = K (.int (l.countP fun y => decide (y = a))) := by
  have : mt .count (Ls f l) [f a] = .ok (.int (l.countP fun y => decide (y = a))) := by
    unfold mt Ls
    dsimp only
    rw [if_pos (by have := e.dep a; omega), List.countP_map]
    have : ((fun y => PyData.eqv y (f a)) ∘ f) = fun y => decide (y = a) := funext fun y => e.eqv y a
    rw [this]
  simp only [wmt, this]
end
section
variable {α : Type} {f : α → D}
theorem w2_addT {a b : List α} {K : D → Prop} : w2 .add (Tp f a) (Tp f b) K = (a.length + b.length ≤ 16777216 ∧ K (Tp f (a ++ b))) := by
  simp only [w2, op2, Tp, List.length_map, lenOk, List.map_append]
  have : sizeLine = 16777216 := by decide
  rw [this]
  by_cases h : a.length + b.length ≤ 16777216 <;> simp [h]
theorem w2_addL {a b : List α} {K : D → Prop} : w2 .add (Ls f a) (Ls f b) K = (a.length + b.length ≤ 16777216 ∧ K (Ls f (a ++ b))) := by
  simp only [w2, op2, Ls, List.length_map, lenOk, List.map_append]
  have : sizeLine = 16777216 := by decide
  rw [this]
  by_cases h : a.length + b.length ≤ 16777216 <;> simp [h]
/-- an item by Python's index -/
def inR (n : Nat) (i : Int) : Prop := -(n : Int) ≤ i ∧ i < n
def pyg [Inhabited α] (l : List α) (i : Int) : α := if 0 ≤ i then l.getD i.toNat default else l.getD (i + l.length).toNat default
theorem ixN_of {n : Nat} {i : Int} (h : inR n i) : ixN n i = some (if 0 ≤ i then i.toNat else (i + n).toNat) := by
  unfold ixN
  obtain ⟨h1, h2⟩ := h
  by_cases h0 : 0 ≤ i
  · rw [if_pos h0, if_pos h2, if_pos h0]
  · rw [if_neg h0, if_pos h1, if_neg h0]
theorem ixN_not {n : Nat} {i : Int} (h : ¬ inR n i) : ixN n i = none := by
  unfold ixN
  by_cases h0 : 0 ≤ i
  · rw [if_pos h0, if_neg fun h2 => h ⟨by omega, h2⟩]
  · rw [if_neg h0, if_neg fun h1 => h ⟨h1, by omega⟩]
theorem atD_map [Inhabited α] {l : List α} {i : Int} (h : inR l.length i) : atD (l.map f) i = .ok (f (pyg l i)) := by
  unfold atD pyg
  rw [List.length_map, ixN_of h]
  obtain ⟨h1, h2⟩ := h
  dsimp only
  by_cases h0 : 0 ≤ i
  · rw [if_pos h0, if_pos h0, List.getElem?_map, List.getElem?_eq_getElem (by omega), List.getD_eq_getElem?_getD, List.getElem?_eq_getElem (by omega)]
    rfl
  · rw [if_neg h0, if_neg h0, List.getElem?_map, List.getElem?_eq_getElem (by omega), List.getD_eq_getElem?_getD, List.getElem?_eq_getElem (by omega)]
    rfl
theorem atD_not {l : List D} {i : Int} (h : ¬ inR l.length i) : atD l i = .stuck := by
  unfold atD
  rw [ixN_not h]
theorem wat_map [Inhabited α] {l : List α} {i : Int} {K : D → Prop} : wat (l.map f) i K = (inR l.length i ∧ K (f (pyg l i))) := by
  unfold wat
  by_cases h : inR l.length i
  · rw [atD_map h]; simp [h]
  · rw [atD_not (by rwa [List.length_map])]; simp [h]
theorem wsub_T [Inhabited α] {l : List α} {i : Int} {K : D → Prop} : wsub (Tp f l) (.int i) K = (inR l.length i ∧ K (f (pyg l i))) := wat_map
theorem wsub_L [Inhabited α] {l : List α} {i : Int} {K : D → Prop} : wsub (Ls f l) (.int i) K = (inR l.length i ∧ K (f (pyg l i))) := wat_map
theorem cut_map {l : List α} {lo hi : Option Int} : cut (l.map f) lo hi = (cut l lo hi).map f := by
  unfold cut
  rw [List.length_map, List.map_take, List.map_drop]
theorem wslc_T {l : List α} {lo hi : Option Int} {K : D → Prop} : wslc (Tp f l) lo hi K = K (Tp f (cut l lo hi)) := by
  show K (.tuple (cut (l.map f) lo hi)) = _
  rw [cut_map]; rfl
theorem wslc_L {l : List α} {lo hi : Option Int} {K : D → Prop} : wslc (Ls f l) lo hi K = K (Ls f (cut l lo hi)) := by
  show K (.list (cut (l.map f) lo hi)) = _
  rw [cut_map]; rfl
theorem wrev_T {l : List α} {K : D → Prop} : wrev (Tp f l) K = K (Tp f l.reverse) := by
  show K (.tuple (l.map f).reverse) = _
  rw [← List.map_reverse]; rfl
theorem wrev_L {l : List α} {K : D → Prop} : wrev (Ls f l) K = K (Ls f l.reverse) := by
  show K (.list (l.map f).reverse) = _
  rw [← List.map_reverse]; rfl
theorem wits_T {l : List α} {K : List D → Prop} : wits (Tp f l) K = K (l.map f) := rfl
theorem wits_L {l : List α} {K : List D → Prop} : wits (Ls f l) K = K (l.map f) := rfl
theorem witr_T {l : List α} {K : List D → Prop} : witr (Tp f l) K = K (l.map f) := rfl
theorem witr_L {l : List α} {K : List D → Prop} : witr (Ls f l) K = K (l.map f) := rfl
theorem wits_S {s : Str} {K : List D → Prop} : wits (.str s) K = K (signsD s) := rfl
theorem wlist_L {l : List α} {K : List D → Prop} : wlist (Ls f l) K = K (l.map f) := rfl
theorem wlist_l {l : List D} {K : List D → Prop} : wlist (.list l) K = K l := rfl
theorem wits_l {l : List D} {K : List D → Prop} : wits (.list l) K = K l := rfl
theorem wits_t {l : List D} {K : List D → Prop} : wits (.tuple l) K = K l := rfl
theorem wown_L {l : List α} {K : List D → Prop} : wown' (some (.own (Ls f l))) K = K (l.map f) := rfl
theorem wown_l {l : List D} {K : List D → Prop} : wown' (some (.own (.list l))) K = K l := rfl
theorem wset_map {l : List α} {i : Int} {a : α} {K : List D → Prop} : wset (l.map f) i (f a) K = (inR l.length i ∧ K ((l.set (if 0 ≤ i then i.toNat else (i + l.length).toNat) a).map f)) := by
  unfold wset setAt
  rw [List.length_map]
  by_cases h : inR l.length i
  · rw [ixN_of h, List.map_set]; simp [h]
  · rw [ixN_not h]; simp [h]
theorem wbi_lenT {l : List α} {K : D → Prop} : wbi .len [Tp f l] K = K (.int l.length) := by
  show K (.int (l.map f).length) = _
  rw [List.length_map]
theorem wbi_lenL {l : List α} {K : D → Prop} : wbi .len [Ls f l] K = K (.int l.length) := by
  show K (.int (l.map f).length) = _
  rw [List.length_map]
theorem wbi_tupL {l : List α} {K : D → Prop} : wbi .tup [Ls f l] K = K (Tp f l) := rfl
theorem wbi_tupT {l : List α} {K : D → Prop} : wbi .tup [Tp f l] K = K (Tp f l) := rfl
theorem wbi_lstL {l : List α} {K : D → Prop} : wbi .lst [Ls f l] K = K (Ls f l) := rfl
theorem wbi_lstT {l : List α} {K : D → Prop} : wbi .lst [Tp f l] K = K (Ls f l) := rfl
end
theorem intsOf_map (l : List Int) : intsOf (l.map .int) = some l := by
  induction l with
  | nil => rfl
  | cons a l ih => simp only [List.map_cons, intsOf, ih]
theorem boolsOf_map (l : List Bool) : boolsOf (l.map .bool) = some l := by
  induction l with
  | nil => rfl
  | cons a l ih => simp only [List.map_cons, boolsOf, ih]
theorem wbi_sumT {l : List Int} {K : D → Prop} : wbi .sum [Tp .int l] K = K (.int l.sum) := by simp only [wbi, bi, Tp, intsOf_map]
theorem wbi_sumL {l : List Int} {K : D → Prop} : wbi .sum [Ls .int l] K = K (.int l.sum) := by simp only [wbi, bi, Ls, intsOf_map]
theorem wbi_allL {l : List Bool} {K : D → Prop} : wbi .all [Ls .bool l] K = K (.bool (l.all id)) := by simp only [wbi, bi, Ls, boolsOf_map]
theorem wbi_anyL {l : List Bool} {K : D → Prop} : wbi .any [Ls .bool l] K = K (.bool (l.any id)) := by simp only [wbi, bi, Ls, boolsOf_map]
theorem wbi_sorted {α : Type} {f : α → D} {l : List α} {K : D → Prop} : wbi .sorted [Ls f l] K = (sortB (l.map f) = true ∧ K (.list ((l.map f).mergeSort leD))) := by
  simp only [wbi, bi, Ls]
  by_cases h : sortB (l.map f) = true <;> simp [h]
theorem wbi_max2 {a b : Int} {K : D → Prop} : wbi .max2 [.int a, .int b] K = K (.int (if b > a then b else a)) := rfl
theorem wbi_min2 {a b : Int} {K : D → Prop} : wbi .min2 [.int a, .int b] K = K (.int (if b < a then b else a)) := rfl
theorem wbi_abs {a : Int} {K : D → Prop} : wbi .abs [.int a] K = K (.int (if a < 0 then -a else a)) := rfl
theorem wbi_int {a : Int} {K : D → Prop} : wbi .int [.int a] K = K (.int a) := rfl
theorem wbi_intb {a : Bool} {K : D → Prop} : wbi .int [.bool a] K = K (.int (if a = true then 1 else 0)) := rfl
theorem w2_add {a b : Int} {K : D → Prop} : w2 .add (.int a) (.int b) K = K (.int (a + b)) := rfl
theorem w2_sub {a b : Int} {K : D → Prop} : w2 .sub (.int a) (.int b) K = K (.int (a - b)) := rfl
theorem w2_mul {a b : Int} {K : D → Prop} : w2 .mul (.int a) (.int b) K = (mulOk a b = true ∧ K (.int (a * b))) := by
  simp only [w2, op2]
  by_cases h : mulOk a b = true <;> simp [h]
theorem w2_fdiv {a b : Int} {K : D → Prop} : w2 .fdiv (.int a) (.int b) K = (divOk b = true ∧ K (.int (a.fdiv b))) := by
  simp only [w2, op2]
  by_cases h : divOk b = true <;> simp [h]
theorem w2_mod {a b : Int} {K : D → Prop} : w2 .mod (.int a) (.int b) K = (b ≠ 0 ∧ K (.int (a.fmod b))) := by
  simp only [w2, op2]
  by_cases h : b = 0 <;> simp [h]
theorem w2_pow {a b : Int} {K : D → Prop} : w2 .pow (.int a) (.int b) K = ((0 ≤ b ∧ b ≤ 1000000 ∧ a.natAbs < 2 ^ 64) ∧ K (.int (a ^ b.toNat))) := by
  simp only [w2, op2]
  by_cases h : 0 ≤ b ∧ b ≤ 1000000 ∧ a.natAbs < 2 ^ 64 <;> simp [h]
theorem w2_lt {a b : Int} {K : D → Prop} : w2 .lt (.int a) (.int b) K = K (.bool (decide (a < b))) := rfl
theorem w2_le {a b : Int} {K : D → Prop} : w2 .le (.int a) (.int b) K = K (.bool (decide (a ≤ b))) := rfl
theorem w2_gt {a b : Int} {K : D → Prop} : w2 .gt (.int a) (.int b) K = K (.bool (decide (b < a))) := rfl
theorem w2_ge {a b : Int} {K : D → Prop} : w2 .ge (.int a) (.int b) K = K (.bool (decide (b ≤ a))) := rfl
theorem w1_neg {a : Int} {K : D → Prop} : w1 .neg (.int a) K = K (.int (-a)) := rfl
theorem w1_not {a : Bool} {K : D → Prop} : w1 .nt (.bool a) K = K (.bool (!a)) := rfl
theorem wi_i {i : Int} {K : Int → Prop} : wi (.int i) K = K i := rfl
theorem wv_b {b : Bool} {K : Bool → Prop} : wv (.bool b) K = K b := rfl
theorem wb_t {A B : Prop} : wb (.bool true) A B = A := rfl
theorem wb_f {A B : Prop} : wb (.bool false) A B = B := rfl
theorem wb_if {b : Bool} {A B : Prop} (h1 : b = true → A) (h2 : b = false → B) : wb (.bool b) A B := by
  cases b with
  | true => exact h1 rfl
  | false => exact h2 rfl
theorem wand_b {p q : Bool} {K : Bool → Prop} : wand (.bool p) (fun K' => K' q) K = K (p && q) := by cases p <;> rfl
theorem wand_c1 {p : Bool} {C : Prop} {t : (Bool → Prop) → Prop} {K : Bool → Prop} : wand (.bool p) (fun K' => C ∧ t K') K = ((p = true → C) ∧ wand (.bool p) t K) := by cases p <;> simp [wand]
theorem wandE_t {t : (Bool → Env → Prop) → Prop} {ρ : Env} {K : Bool → Env → Prop} : wandE (.bool true) t ρ K = t K := rfl
theorem wandE_f {t : (Bool → Env → Prop) → Prop} {ρ : Env} {K : Bool → Env → Prop} : wandE (.bool false) t ρ K = K false ρ := rfl
theorem worE_t {t : (Bool → Env → Prop) → Prop} {ρ : Env} {K : Bool → Env → Prop} : worE (.bool true) t ρ K = K true ρ := rfl
theorem worE_f {t : (Bool → Env → Prop) → Prop} {ρ : Env} {K : Bool → Env → Prop} : worE (.bool false) t ρ K = t K := rfl
theorem wand_t {t : (Bool → Prop) → Prop} {K : Bool → Prop} : wand (.bool true) t K = t K := rfl
theorem wand_f {t : (Bool → Prop) → Prop} {K : Bool → Prop} : wand (.bool false) t K = K false := rfl
theorem wor_b {p q : Bool} {K : Bool → Prop} : wor (.bool p) (fun K' => K' q) K = K (p || q) := by cases p <;> rfl
theorem wor_c1 {p : Bool} {C : Prop} {t : (Bool → Prop) → Prop} {K : Bool → Prop} : wor (.bool p) (fun K' => C ∧ t K') K = ((p = false → C) ∧ wor (.bool p) t K) := by cases p <;> simp [wor]
theorem wor_t {t : (Bool → Prop) → Prop} {K : Bool → Prop} : wor (.bool true) t K = K true := rfl
theorem wor_f {t : (Bool → Prop) → Prop} {K : Bool → Prop} : wor (.bool false) t K = t K := rfl
theorem wbS_t {A B : Prop} {t : Tag (A ∧ B)} : wbS (.bool true) A B t = A := rfl
theorem wbS_f {A B : Prop} {t : Tag (A ∧ B)} : wbS (.bool false) A B t = B := rfl
theorem wbS_if {b : Bool} {A B : Prop} {t : Tag (A ∧ B)} (h1 : b = true → A) (h2 : b = false → B) : wbS (.bool b) A B t := wb_if h1 h2
theorem wite_t {t u : (Bool → D → Prop) → Prop} {K : Bool → D → Prop} {g : Tag K} : wite (.bool true) t u K g = t K := rfl
theorem wite_f {t u : (Bool → D → Prop) → Prop} {K : Bool → D → Prop} {g : Tag K} : wite (.bool false) t u K g = u K := rfl
theorem wite_c1 {p : Bool} {C : Prop} {t u : (Bool → D → Prop) → Prop} {K : Bool → D → Prop} {g : Tag K} : wite (.bool p) (fun K' => C ∧ t K') u K g = ((p = true → C) ∧ wite (.bool p) t u K g) := by cases p <;> simp [wite]
theorem wite_c2 {p : Bool} {C : Prop} {t u : (Bool → D → Prop) → Prop} {K : Bool → D → Prop} {g : Tag K} : wite (.bool p) t (fun K' => C ∧ u K') K g = ((p = false → C) ∧ wite (.bool p) t u K g) := by cases p <;> simp [wite]
theorem wite_int {p : Bool} {b : Bool} {x y : Int} {K : Bool → D → Prop} {g : Tag K} : wite (.bool p) (fun K' => K' b (.int x)) (fun K' => K' b (.int y)) K g = K b (.int (if p = true then x else y)) := by cases p <;> rfl
theorem wite_bool {p : Bool} {b : Bool} {x y : Bool} {K : Bool → D → Prop} {g : Tag K} : wite (.bool p) (fun K' => K' b (.bool x)) (fun K' => K' b (.bool y)) K g = K b (.bool (if p = true then x else y)) := by cases p <;> rfl
theorem wite_str {p : Bool} {b : Bool} {x y : Str} {K : Bool → D → Prop} {g : Tag K} : wite (.bool p) (fun K' => K' b (.str x)) (fun K' => K' b (.str y)) K g = K b (.str (if p = true then x else y)) := by cases p <;> rfl
theorem wite_T {p : Bool} {b : Bool} {α : Type} {f : α → D} {x y : List α} {K : Bool → D → Prop} {g : Tag K} : wite (.bool p) (fun K' => K' b (Tp f x)) (fun K' => K' b (Tp f y)) K g = K b (Tp f (if p = true then x else y)) := by cases p <;> rfl
theorem wite_L {p : Bool} {b : Bool} {α : Type} {f : α → D} {x y : List α} {K : Bool → D → Prop} {g : Tag K} : wite (.bool p) (fun K' => K' b (Ls f x)) (fun K' => K' b (Ls f y)) K g = K b (Ls f (if p = true then x else y)) := by cases p <;> rfl
theorem wite_if {p : Bool} {t u : (Bool → D → Prop) → Prop} {K : Bool → D → Prop} {g : Tag K} (h1 : p = true → t K) (h2 : p = false → u K) : wite (.bool p) t u K g := by
  cases p with
  | true => exact h1 rfl
  | false => exact h2 rfl
theorem wnx_n {A B : Prop} : wnx .nx A B = A := rfl
theorem wnx_r {d : D} {A B : Prop} : wnx (.ret d) A B = B := rfl
theorem wnx_b {A B : Prop} : wnx .brk A B = B := rfl
theorem wnx_k {A B : Prop} : wnx .cnt A B = B := rfl
/-! ### targets -/
theorem wbind_1 {k : D → Cell} {i : Nat} {d : D} {ρ : Env} {K : Env → Prop} : wbind k [i] true d ρ K = K (ρ.set i (some (cellOf k d))) := rfl
theorem wbind_2 {k : D → Cell} {i j : Nat} {c d : D} {ρ : Env} {K : Env → Prop} : wbind k [i, j] false (.tuple [c, d]) ρ K = K ((ρ.set i (some (cellOf k c))).set j (some (cellOf k d))) := rfl
theorem wbind_3 {k : D → Cell} {i j l : Nat} {c d e : D} {ρ : Env} {K : Env → Prop} : wbind k [i, j, l] false (.tuple [c, d, e]) ρ K = K (((ρ.set i (some (cellOf k c))).set j (some (cellOf k d))).set l (some (cellOf k e))) := rfl
theorem cellOf_q {k : D → Cell} {d : D} : cellOf k d = bif imm d then .own d else k d := by unfold cellOf; cases imm d <;> rfl
theorem cellOf_i {k : D → Cell} {d : D} (h : imm d = true) : cellOf k d = .own d := if_pos h
theorem cellOf_l {k : D → Cell} {d : D} (h : imm d = false) : cellOf k d = k d := if_neg (by rw [h]; decide)
/-! ### calls -/
theorem call_intro {fs : List Fn} {k f : Nat} {F : Fn} {cs : List Cell} {Q : D → Prop} {E : XE} (hF : fs[f]? = some F) (hl : cs.length = F.params)
    (h : wss (runF fs k) F.body (cs.map some ++ List.replicate (F.slots - F.params) none) (fun o ρ => F.params ≤ ρ.length ∧ match o with | .ret d => Q d | .nx => Q .none | _ => False) E) : Call (runF fs (k + 1)) f cs Q E := by
  unfold Call
  simp only [runF, hF]
  rw [if_pos hl]
  refine WP.bind ((wss_ok F.body h).mono fun p h => ?_)
  obtain ⟨o, ρ⟩ := p
  obtain ⟨h1, h2⟩ := h
  cases o <;> first | exact h2.elim | exact ⟨rfl, by rw [List.length_take]; simp only at h1 ⊢; omega, h2⟩
theorem Call.mono {cf : CF} {f : Nat} {cs : List Cell} {Q Q' : D → Prop} {E : XE} (h : Call cf f cs Q E) (i : ∀ d, Q d → Q' d) : Call cf f cs Q' E := WP.mono h fun p h => ⟨h.1, h.2.1, i _ h.2.2⟩
/-- what a call's argument is to the def -/
def arC : R → Cell := fun r => if imm r.2 then .own r.2 else .fz r.2
theorem arCells_v (ρ : Env) : ∀ rs : List R, arCells ρ (rs.map .val) = some (rs.map arC)
  | [] => rfl
  | r :: rs => by simp only [List.map_cons, arCells, arCells_v ρ rs, arC]
theorem arBack_v (ρ : Env) : ∀ (rs : List R) (outs : List (Option Cell)), outs.length = rs.length → arBack ρ (rs.map .val) outs = some ρ
  | [], [], _ => rfl
  | r :: rs, o :: outs, h => by simp only [List.map_cons, arBack]; exact arBack_v ρ rs outs (by simpa using h)
  | [], _ :: _, h => by simp at h
  | _ :: _, [], h => by simp at h
theorem hasRef_v : ∀ rs : List R, hasRef (rs.map .val) = false
  | [] => rfl
  | r :: rs => by simp only [List.map_cons, hasRef]; exact hasRef_v rs
theorem wcall_vals {sp : Bool} {cf : CF} {f : Nat} {rs : List R} {ρ : Env} {K : EK} {E : XE} (h : Call cf f (rs.map arC) (fun d => K true d ρ) E) : wcall cf f sp (rs.map .val) ρ K E .mk := by
  unfold wcall callA
  rw [hasRef_v, arCells_v]
  simp only [Bool.false_and, Bool.false_eq_true, if_false]
  refine WP.bind (WP.mono h fun p h => ?_)
  obtain ⟨h1, h2, h3⟩ := h
  rw [arBack_v _ _ _ (by simpa using h2)]
  refine WP.ok ?_
  rw [h1, Bool.true_or]
  exact h3
theorem wcall_1 {sp : Bool} {cf : CF} {f : Nat} {b1 : Bool} {x1 : D} {ρ : Env} {K : EK} {E : XE} (h : Call cf f [arC (b1, x1)] (fun d => K true d ρ) E) : wcall cf f sp [.val (b1, x1)] ρ K E .mk := wcall_vals (rs := [_]) h
theorem wcall_2 {sp : Bool} {cf : CF} {f : Nat} {b1 b2 : Bool} {x1 x2 : D} {ρ : Env} {K : EK} {E : XE} (h : Call cf f [arC (b1, x1), arC (b2, x2)] (fun d => K true d ρ) E) : wcall cf f sp [.val (b1, x1), .val (b2, x2)] ρ K E .mk := wcall_vals (rs := [_, _]) h
theorem wcall_3 {sp : Bool} {cf : CF} {f : Nat} {b1 b2 b3 : Bool} {x1 x2 x3 : D} {ρ : Env} {K : EK} {E : XE} (h : Call cf f [arC (b1, x1), arC (b2, x2), arC (b3, x3)] (fun d => K true d ρ) E) : wcall cf f sp [.val (b1, x1), .val (b2, x2), .val (b3, x3)] ρ K E .mk := wcall_vals (rs := [_, _, _]) h
theorem arC_q {b : Bool} {d : D} : arC (b, d) = bif imm d then .own d else .fz d := by unfold arC; cases h : imm d <;> simp [h]
theorem arC_i {b : Bool} {d : D} (h : imm d = true) : arC (b, d) = .own d := if_pos h
theorem arC_l {b : Bool} {d : D} (h : imm d = false) : arC (b, d) = .fz d := if_neg (by simp only; rw [h]; decide)
/-- a call that hands over the name i and takes a number -/
def CallR (cf : CF) (f : Nat) (cs : List Cell) (Q : D → D → Prop) (E : XE) : Prop := WP (cf f cs) (fun p => p.1.1 = true ∧ ∃ x' r, p.2 = some (.own x') :: r ∧ r.length + 1 = cs.length ∧ Q p.1.2 x') E
theorem wcall_r {sp : Bool} {cf : CF} {f i : Nat} {b : Bool} {x y : D} {ρ : Env} {K : EK} {E : XE} (hg : get ρ i = some (.own x)) (hn : noBor ρ = true) (hy : imm y = true) (h : CallR cf f [.own x, .own y] (fun d x' => K true d (ρ.set i (some (.own x')))) E) : wcall cf f sp [.ref i, .val (b, y)] ρ K E .mk := by
  unfold wcall callA
  simp only [hasRef, hn, arVals, Bool.true_or, List.all_cons, hy, List.all_nil, arRefs, List.nodup_cons, List.not_mem_nil, not_false_eq_true, List.nodup_nil, and_self, decide_true, Bool.and_self, Bool.not_true, Bool.and_false, Bool.false_eq_true, if_false, arCells, hg, if_true]
  refine WP.bind (WP.mono h fun p h => ?_)
  obtain ⟨h1, x', r, h2, h3, h4⟩ := h
  obtain ⟨⟨f1, d⟩, outs⟩ := p
  simp only at h2
  subst h2
  match r, h3 with
  | [c], _ =>
    refine WP.ok ?_
    simp only at h1
    rw [h1, Bool.true_or]
    exact h4
theorem wcall_r0 {sp : Bool} {cf : CF} {f i : Nat} {x : D} {ρ : Env} {K : EK} {E : XE} (hg : get ρ i = some (.own x)) (hn : noBor ρ = true) (h : CallR cf f [.own x] (fun d x' => K true d (ρ.set i (some (.own x')))) E) : wcall cf f sp [.ref i] ρ K E .mk := by
  unfold wcall callA
  simp only [hasRef, hn, arVals, Bool.true_or, List.all_nil, arRefs, List.nodup_cons, List.not_mem_nil, not_false_eq_true, List.nodup_nil, and_self, decide_true, Bool.and_self, Bool.not_true, Bool.and_false, Bool.false_eq_true, if_false, arCells, hg]
  refine WP.bind (WP.mono h fun p h => ?_)
  obtain ⟨h1, x', r, h2, h3, h4⟩ := h
  obtain ⟨⟨f1, d⟩, outs⟩ := p
  simp only at h2
  subst h2
  match r, h3 with
  | [], _ =>
    refine WP.ok ?_
    simp only at h1
    rw [h1, Bool.true_or]
    exact h4
theorem callR_intro {fs : List Fn} {k f : Nat} {F : Fn} {cs : List Cell} {Q : D → D → Prop} {E : XE} (hF : fs[f]? = some F) (hl : cs.length = F.params) (hp : 0 < F.params)
    (h : wss (runF fs k) F.body (cs.map some ++ List.replicate (F.slots - F.params) none) (fun o ρ => F.params ≤ ρ.length ∧ ∃ x', get ρ 0 = some (.own x') ∧ match o with | .ret d => Q d x' | .nx => Q .none x' | _ => False) E) : CallR (runF fs (k + 1)) f cs Q E := by
  unfold CallR
  simp only [runF, hF]
  rw [if_pos hl]
  refine WP.bind ((wss_ok F.body h).mono fun p h => ?_)
  obtain ⟨o, ρ⟩ := p
  obtain ⟨h1, x', h3, h2⟩ := h
  simp only at h1 h3
  have ht : ∃ r, ρ.take F.params = some (.own x') :: r ∧ r.length + 1 = cs.length := by
    cases ρ with
    | nil => simp at h1; omega
    | cons c ρ =>
      rw [get_z] at h3
      subst h3
      obtain ⟨n, hn⟩ : ∃ n, F.params = n + 1 := ⟨F.params - 1, by omega⟩
      rw [hn]
      refine ⟨ρ.take n, rfl, ?_⟩
      rw [List.length_take]
      simp only [List.length_cons] at h1
      omega
  obtain ⟨r, hr, hr2⟩ := ht
  cases o <;> first | exact h2.elim | exact ⟨rfl, x', r, hr, hr2, h2⟩
/-! ### loops -/
theorem wfor_core {cf : CF} {tgt : List Nat} {single : Bool} {b : Ss} {α : Type} {f : α → D} {l : List α} {ρ : Env} {K : Out → Env → Prop} {E : XE} (I : List α → Env → Prop) (h0 : I [] ρ)
    (h1 : ∀ pre a suf σ, l = pre ++ a :: suf → I pre σ → WP (loopB cf tgt single b (f a) σ) (fun p => match p.1 with
      | .ret d => K (.ret d) p.2
      | .brk => K .nx p.2
      | _ => I (pre ++ [a]) p.2) E) (h2 : ∀ σ, I l σ → K .nx σ) : wfor cf tgt single b (l.map f) ρ K E .mk := by
  unfold wfor
  have key : ∀ (suf pre : List α) (σ : Env), l = pre ++ suf → I pre σ → WP (forL (loopB cf tgt single b) (suf.map f) σ) (fun p => K p.1 p.2) E := by
    intro suf
    induction suf with
    | nil =>
      intro pre σ e hI
      rw [List.append_nil] at e
      subst e
      exact h2 σ hI
    | cons a suf ih =>
      intro pre σ e hI
      simp only [List.map_cons, forL]
      refine WP.bind ((h1 pre a suf σ e hI).mono fun p h => ?_)
      obtain ⟨o, σ2⟩ := p
      have e2 : l = (pre ++ [a]) ++ suf := by rw [e, List.append_assoc]; rfl
      cases o <;> first | exact h | exact ih _ _ e2 h
  exact key l [] ρ rfl h0
theorem loop_ok {cf : CF} {tgt : List Nat} {single : Bool} {b : Ss} {d : D} {σ : Env} {K : Out → Env → Prop} {E : XE} (h : wbind .fz tgt single d σ fun σ1 => wss cf b σ1 K E) : WP (loopB cf tgt single b d σ) (fun p => K p.1 p.2) E := by
  unfold loopB
  exact WP.bind ((wbind_ok h).mono fun σ1 h => wss_ok b h)
/-- what a turn leaves -/
def Turn (J : Env → Prop) (K : Out → Env → Prop) (o : Out) (σ : Env) : Prop := match o with
  | .ret d => K (.ret d) σ
  | .brk => K .nx σ
  | _ => J σ
theorem wfor_inv {cf : CF} {tgt : List Nat} {single : Bool} {b : Ss} {α : Type} {f : α → D} {l : List α} {ρ : Env} {K : Out → Env → Prop} {E : XE} (I : List α → Env → Prop) (h0 : I [] ρ)
    (h1 : ∀ pre a suf σ, l = pre ++ a :: suf → I pre σ → wbind .fz tgt single (f a) σ fun σ1 => wss cf b σ1 (Turn (I (pre ++ [a])) K) E) (h2 : ∀ σ, I l σ → K .nx σ) : wfor cf tgt single b (l.map f) ρ K E .mk :=
  wfor_core I h0 (fun pre a suf σ e hI => (loop_ok (h1 pre a suf σ e hI)).mono fun p h => by
    obtain ⟨o, σ2⟩ := p
    cases o <;> exact h) h2
/-- a fold: the names' state is st s g, g what does not matter -/
theorem wfor_fold {cf : CF} {tgt : List Nat} {single : Bool} {b : Ss} {α β γ : Type} {f : α → D} {l : List α} {ρ : Env} {K : Out → Env → Prop} {E : XE} (st : β → γ → Env) (step : β → α → β) (b0 : β) (g0 : γ) (hρ : ρ = st b0 g0)
    (h1 : ∀ s g a, a ∈ l → wbind .fz tgt single (f a) (st s g) fun σ1 => wss cf b σ1 (fun o σ2 => (o = .nx ∨ o = .cnt) ∧ ∃ g', σ2 = st (step s a) g') E) (h2 : ∀ g, K .nx (st (l.foldl step b0) g)) : wfor cf tgt single b (l.map f) ρ K E .mk := by
  refine wfor_core (I := fun pre σ => ∃ g, σ = st (pre.foldl step b0) g) ⟨g0, hρ⟩ (fun pre a suf σ e hI => ?_) (fun σ hI => ?_)
  · obtain ⟨g, rfl⟩ := hI
    refine (loop_ok (h1 (pre.foldl step b0) g a (by rw [e]; simp))).mono fun p h => ?_
    obtain ⟨o, σ2⟩ := p
    obtain ⟨ho, g', h⟩ := h
    simp only at ho h
    have : ∃ g, σ2 = st ((pre ++ [a]).foldl step b0) g := ⟨g', by rw [h, List.foldl_append]; rfl⟩
    rcases ho with rfl | rfl <;> exact this
  · obtain ⟨g, rfl⟩ := hI
    exact h2 g
/-- a while: at most n turns are left -/
theorem wwhl_inv {cf : CF} {c : PV.E} {b : Ss} {ρ : Env} {K : Out → Env → Prop} {E : XE} (I : Nat → Env → Prop) (n : Nat) (hn : n < 1000000) (h0 : I n ρ)
    (h1 : ∀ n σ, I n σ → we cf c σ (fun _ x σ1 => wb x (wss cf b σ1 (Turn (fun σ2 => ∃ m, m < n ∧ I m σ2) K) E) (K .nx σ1)) E) : wwhl cf c b ρ K E .mk := by
  unfold wwhl
  have key : ∀ (f n : Nat) (σ : Env), n < f → I n σ → WP (whileL (fun σ => do
      let (x, σ1) ← ev cf c σ
      .ok (← asBool x.2, σ1)) (fun σ => execs cf b σ) f σ) (fun p => K p.1 p.2) E := by
    intro f
    induction f with
    | zero => intro n σ h; omega
    | succ f ih =>
      intro n σ hf hI
      simp only [whileL]
      refine WP.bind (WP.bind ((we_ok c (h1 n σ hI)).mono fun p h => ?_))
      refine WP.bind ((wb_ok h).mono fun z h => WP.ok ?_)
      cases z with
      | false => exact h
      | true =>
        refine WP.bind ((wss_ok b h).mono fun p h => ?_)
        obtain ⟨o, σ2⟩ := p
        cases o with
        | ret d => exact h
        | brk => exact h
        | nx =>
          obtain ⟨m, hm, h⟩ := h
          exact ih m σ2 (by omega) h
        | cnt =>
          obtain ⟨m, hm, h⟩ := h
          exact ih m σ2 (by omega) h
  exact key fuel n ρ (by unfold fuel; omega) h0
/-! ### comprehensions -/
/-- one that changes nothing: of the items that c lets through, g -/
theorem wcomp_map {cf : CF} {elt : PV.E} {tgt : List Nat} {single : Bool} {cnd : Es} {own fz : List Nat} {α β : Type} {f : α → D} {l : List α} {ρ : Env} {K : EK} {E : XE} (e : β → D) (c : α → Bool) (g : α → β) (fl : Bool)
    (h1 : ∀ a, a ∈ l → wbind .bor tgt single (f a) (wipe ρ own) fun σ => wt cf cnd σ (fun q σ' => q = c a ∧ (c a = true → we cf elt σ' (fun b d _ => d = e (g a) ∧ (fl = true → b = true)) fun _ _ _ => False)) fun _ _ _ => False)
    (h2 : own.all (fun i => immAt ρ i && decide (i < ρ.length)) = true) (h3 : (eff elt || effs cnd) = false) (h4 : ((l.filter c).map g).length ≤ 16777216)
    (hK : ∀ b, (fl = true → b = true) → K b (Ls e ((l.filter c).map g)) ρ) : wcomp cf elt tgt single cnd own fz (l.map f) ρ K E .mk := by
  unfold wcomp
  refine ⟨h2, ?_⟩
  rw [if_neg (by rw [h3]; decide)]
  have key : ∀ l : List α, (∀ a, a ∈ l → wbind .bor tgt single (f a) (wipe ρ own) fun σ => wt cf cnd σ (fun q σ' => q = c a ∧ (c a = true → we cf elt σ' (fun b d _ => d = e (g a) ∧ (fl = true → b = true)) fun _ _ _ => False)) fun _ _ _ => False) →
      WP (compP (bodyC cf elt tgt single cnd) (wipe ρ own) (l.map f)) (fun p => (fl = true → p.1 = true) ∧ p.2 = ((l.filter c).map g).map e) (fun _ _ _ => False) := by
    intro l
    induction l with
    | nil => intro _; exact ⟨fun _ => rfl, rfl⟩
    | cons a l ih =>
      intro h
      simp only [List.map_cons, compP]
      refine WP.bind ?_
      have ha := h a List.mem_cons_self
      have : WP (bodyC cf elt tgt single cnd (f a) (wipe ρ own)) (fun p => match p.1 with
        | none => c a = false
        | some r => c a = true ∧ r.2 = e (g a) ∧ (fl = true → (r.1 || imm r.2) = true)) (fun _ _ _ => False) := by
        unfold bodyC
        refine WP.bind ((wbind_ok ha).mono fun σ h => WP.bind ((wt_ok cnd h).mono fun p h => ?_))
        obtain ⟨q, σ'⟩ := p
        obtain ⟨hq, h⟩ := h
        simp only at hq
        cases q with
        | false => exact hq.symm
        | true =>
          refine WP.bind ((we_ok elt (h hq.symm)).mono fun p h => WP.ok ?_)
          exact ⟨hq.symm, h.1, h.2⟩
      refine this.mono fun p h' => WP.bind ((ih fun a ha => h a (List.mem_cons_of_mem _ ha)).mono fun q hq => ?_)
      obtain ⟨o, σ'⟩ := p
      obtain ⟨k, ds⟩ := q
      obtain ⟨hk, hd⟩ := hq
      simp only at hk hd
      cases o with
      | none =>
        simp only at h'
        refine WP.ok ⟨hk, ?_⟩
        rw [hd, List.filter_cons_of_neg (by rw [h']; decide)]
      | some r =>
        obtain ⟨hc, hr, hb⟩ := h'
        refine WP.ok ⟨fun z => by rw [hk z]; simpa using hb z, ?_⟩
        rw [hd, List.filter_cons_of_pos hc, List.map_cons, List.map_cons, ← hr]
  have := key l h1
  have ne : WP (noExc (compP (bodyC cf elt tgt single cnd) (wipe ρ own) (l.map f))) (fun p => (fl = true → p.1 = true) ∧ p.2 = ((l.filter c).map g).map e) E := by
    cases q : compP (bodyC cf elt tgt single cnd) (wipe ρ own) (l.map f) with
    | ok p => rw [q] at this; exact this
    | exc _ _ _ => rw [q] at this; exact this.elim
    | stuck => rw [q] at this; exact this.elim
  refine ne.mono fun p h => ⟨?_, ?_⟩
  · rw [h.2, List.length_map]; exact lenOk_of h4
  · rw [h.2]; exact hK _ h.1
end PV
set_option Elab.async false
set_option linter.all false
set_option maxRecDepth 100000
set_option maxHeartbeats 1000000
/-! PW4: ranges, sums, lists. -/
namespace PV
open PySem
def nbc : Option Cell → Bool
  | some (.bor _) => false
  | _ => true
/-- a cell that does not matter -/
structure NB where
  c : Option Cell
  h : nbc c = true
theorem noBor_nb {c : NB} {ρ : Env} : noBor (c.c :: ρ) = noBor ρ := by
  obtain ⟨c, h⟩ := c
  cases c with
  | none => rfl
  | some c => cases c <;> first | rfl | cases h
def immc : Option Cell → Bool
  | some c => imm c.d
  | none => true
/-- .. and holds no list -/
structure NI where
  c : Option Cell
  h : nbc c = true
  i : immc c = true
theorem noBor_ni {c : NI} {ρ : Env} : noBor (c.c :: ρ) = noBor ρ := noBor_nb (c := ⟨c.c, c.h⟩)
theorem immAt_q {ρ : Env} {i : Nat} : immAt ρ i = immc (get ρ i) := by
  unfold immAt immc; rfl
theorem immc_ni {c : NI} : immc c.c = true := c.i
theorem immc_o {d : D} : immc (some (.own d)) = imm d := Eq.trans rfl rfl
theorem immc_f {d : D} : immc (some (.fz d)) = imm d := Eq.trans rfl rfl
theorem immc_b {d : D} : immc (some (.bor d)) = imm d := Eq.trans rfl rfl
theorem immc_n : immc none = true := Eq.trans rfl rfl
theorem Turn_n {J : Env → Prop} {K : Out → Env → Prop} {σ : Env} : Turn J K .nx σ = J σ := rfl
theorem Turn_k {J : Env → Prop} {K : Out → Env → Prop} {σ : Env} : Turn J K .cnt σ = J σ := rfl
theorem Turn_b {J : Env → Prop} {K : Out → Env → Prop} {σ : Env} : Turn J K .brk σ = K .nx σ := rfl
theorem Turn_r {J : Env → Prop} {K : Out → Env → Prop} {σ : Env} {d : D} : Turn J K (.ret d) σ = K (.ret d) σ := rfl
def rng (lo hi : Int) : List Int := (List.range (hi - lo).toNat).map fun k => lo + (k : Nat)
theorem rangeD_q {lo hi : Int} : rangeD lo hi = (rng lo hi).map PyData.int := by
  unfold rangeD rng
  rw [List.map_map]; rfl
theorem list_rangeD {lo hi : Int} : PyData.list (rangeD lo hi) = Ls .int (rng lo hi) := by rw [rangeD_q]; rfl
theorem list_map_q {α : Type} {f : α → D} {l : List α} : PyData.list (l.map f) = Ls f l := rfl
theorem tuple_map_q {α : Type} {f : α → D} {l : List α} : PyData.tuple (l.map f) = Tp f l := rfl
theorem map_snoc {α : Type} {f : α → D} {l : List α} {x : α} : l.map f ++ [f x] = (l ++ [x]).map f := by rw [List.map_append]; rfl
theorem map_app_q {α : Type} {f : α → D} {l m : List α} : l.map f ++ m.map f = (l ++ m).map f := List.map_append.symm
theorem lst1 {x : Int} : PyData.list [.int x] = Ls .int [x] := rfl
theorem map_rev_q {α : Type} {f : α → D} {l : List α} : (l.map f).reverse = l.reverse.map f := List.map_reverse.symm
theorem wipe_n {ρ : Env} : wipe ρ [] = ρ := rfl
theorem wipe_c {ρ : Env} {i : Nat} {r : List Nat} : wipe ρ (i :: r) = (wipe ρ r).set i none := rfl
theorem restore_n {ρ0 ρ : Env} : restore ρ0 ρ [] = ρ := rfl
theorem restore_c {ρ0 ρ : Env} {i : Nat} {r : List Nat} : restore ρ0 ρ (i :: r) = (restore ρ0 ρ r).set i (get ρ0 i) := rfl
theorem tup1 {x : Int} : PyData.tuple [.int x] = Tp .int [x] := rfl
theorem tup2 {x y : Int} : PyData.tuple [.int x, .int y] = Tp .int [x, y] := rfl
theorem tup0 {α : Type} {f : α → D} : PyData.tuple [] = Tp f [] := rfl
theorem lst0 {α : Type} {f : α → D} : PyData.list [] = Ls f [] := rfl
/-- the items with their places -/
def enl {α : Type} : Nat → List α → List (Int × α)
  | _, [] => []
  | k, a :: r => ((k : Int), a) :: enl (k + 1) r
theorem enumD_q {α : Type} {f : α → D} : ∀ {l : List α} {k : Nat}, enumD k (l.map f) = (enl k l).map (Pr PyData.int f)
  | [], _ => rfl
  | a :: r, k => by rw [List.map_cons, enumD, enumD_q, enl]; rfl
theorem enl_len {α : Type} : ∀ (l : List α) (k : Nat), (enl k l).length = l.length
  | [], _ => rfl
  | a :: r, k => by rw [enl, List.length_cons, enl_len r]; rfl
theorem enl_get {α : Type} : ∀ {l : List α} {k i : Nat}, (enl k l)[i]? = (l[i]?).map fun a => (((k + i : Nat) : Int), a)
  | [], _, _ => by simp [enl]
  | a :: r, k, 0 => by simp [enl]
  | a :: r, k, i + 1 => by
    rw [enl, List.getElem?_cons_succ, List.getElem?_cons_succ, enl_get]
    have : k + 1 + i = k + (i + 1) := by omega
    rw [this]
theorem mem_enl {α : Type} {l : List α} {p : Int × α} (h : p ∈ enl 0 l) : 0 ≤ p.1 ∧ p.1 < l.length ∧ l[p.1.toNat]? = some p.2 ∧ p.2 ∈ l := by
  obtain ⟨i, hi⟩ := List.mem_iff_getElem?.mp h
  rw [enl_get] at hi
  obtain ⟨a, ha, e⟩ := Option.map_eq_some_iff.mp hi
  subst e
  have := (List.getElem?_eq_some_iff.mp ha).1
  refine ⟨by simp, by simp; omega, ?_, List.mem_of_getElem? ha⟩
  simp only [Nat.zero_add, Int.toNat_natCast]
  exact ha
theorem enl_at {α : Type} {l : List α} {p : Int × α} {pre suf : List (Int × α)} (h : enl 0 l = pre ++ p :: suf) : p.1 = pre.length ∧ l[pre.length]? = some p.2 ∧ pre = enl 0 (l.take pre.length) := by
  have g : (enl 0 l)[pre.length]? = some p := by rw [h, List.getElem?_append_right (Nat.le_refl _), Nat.sub_self]; rfl
  rw [enl_get] at g
  obtain ⟨a, ha, e⟩ := Option.map_eq_some_iff.mp g
  subst e
  refine ⟨by simp, ha, ?_⟩
  have tk : ∀ (l : List α) (k n : Nat), enl k (l.take n) = (enl k l).take n := by
    intro l
    induction l with
    | nil => intro k n; simp [enl]
    | cons b l ih =>
      intro k n
      cases n with
      | zero => rfl
      | succ n => rw [List.take_succ_cons, enl, enl, List.take_succ_cons, ih]
  rw [tk, h, List.take_left' rfl]
theorem wbind_pr {k : D → Cell} {i j : Nat} {α β : Type} {f : α → D} {g : β → D} {p : α × β} {ρ : Env} {K : Env → Prop} : wbind k [i, j] false (Pr f g p) ρ K = K ((ρ.set i (some (cellOf k (f p.1)))).set j (some (cellOf k (g p.2)))) := rfl
theorem wsub_pr0 {α β : Type} {f : α → D} {g : β → D} {p : α × β} {K : D → Prop} : wsub (Pr f g p) (.int 0) K = K (f p.1) := by
  have : sub (Pr f g p) (.int 0) = .ok (f p.1) := by
    simp only [sub, Pr, atD, ixN, List.length_cons]
    rw [if_pos (by omega), if_pos (by omega)]
    rfl
  simp only [wsub, this]
theorem wsub_pr1 {α β : Type} {f : α → D} {g : β → D} {p : α × β} {K : D → Prop} : wsub (Pr f g p) (.int 1) K = K (g p.2) := by
  have : sub (Pr f g p) (.int 1) = .ok (g p.2) := by
    simp only [sub, Pr, atD, ixN, List.length_cons]
    rw [if_pos (by omega), if_pos (by omega)]
    rfl
  simp only [wsub, this]
theorem imm_Pr {α β : Type} [DecidableEq α] [DecidableEq β] {f : α → D} {g : β → D} {k j : Nat} [Enc f k] [Enc g j] (p : α × β) : imm (Pr f g p) = true := imm_enc p
theorem flat_Pr {α β : Type} [DecidableEq α] [DecidableEq β] {f : α → D} {g : β → D} {k j : Nat} [Enc f k] [Enc g j] (p : α × β) : flat (Pr f g p) = true := flat_enc p
theorem wtry_n {c : Nat} {k p : D} {Q : D → Prop} : wtry c k p [] Q = False := rfl
theorem wtry_c {c c' j : Nat} {k p : D} {r : List (Nat × Nat)} {Q : D → Prop} : wtry c k p ((c', j) :: r) Q = if c' = c then Q (hd j k p) else wtry c k p r Q := by
  unfold wtry
  simp only [handle]
  by_cases h : c' = c <;> simp [h]
theorem hd_0 {k p : D} : hd 0 k p = k := rfl
theorem hd_1 {k p : D} : hd 1 k p = .tuple [k, p] := rfl
theorem hd_2 {k p : D} : hd 2 k p = .bool false := rfl
theorem wor_i {p : Bool} (q : Bool) {t : (Bool → Prop) → Prop} {K : Bool → Prop} (h : p = false → ∀ K', K' q → t K') (hK : K (p || q)) : wor (.bool p) t K := by
  cases p with
  | true => exact hK
  | false => exact h rfl _ hK
theorem wand_i {p : Bool} (q : Bool) {t : (Bool → Prop) → Prop} {K : Bool → Prop} (h : p = true → ∀ K', K' q → t K') (hK : K (p && q)) : wand (.bool p) t K := by
  cases p with
  | true => exact h rfl _ hK
  | false => exact hK
theorem sizeLine_q : sizeLine = 16777216 := by decide
theorem rng_len {lo hi : Int} : (rng lo hi).length = (hi - lo).toNat := by simp [rng]
theorem mem_rng {lo hi a : Int} : a ∈ rng lo hi ↔ lo ≤ a ∧ a < hi := by
  unfold rng
  simp only [List.mem_map, List.mem_range]
  constructor
  · rintro ⟨k, h, rfl⟩; omega
  · rintro ⟨h1, h2⟩; exact ⟨(a - lo).toNat, by omega, by omega⟩
theorem rng_get {lo hi : Int} {i : Nat} (h : i < (hi - lo).toNat) : (rng lo hi)[i]? = some (lo + i) := by
  unfold rng
  rw [List.getElem?_map, List.getElem?_range h]; rfl
theorem rng_at {lo hi a : Int} {pre suf : List Int} (h : rng lo hi = pre ++ a :: suf) : a = lo + pre.length ∧ a < hi := by
  have hl : (pre ++ a :: suf).length = (hi - lo).toNat := by rw [← h, rng_len]
  simp only [List.length_append, List.length_cons] at hl
  have g := rng_get (lo := lo) (hi := hi) (i := pre.length) (by omega)
  rw [h, List.getElem?_append_right (Nat.le_refl _), Nat.sub_self] at g
  simp only [List.getElem?_cons_zero, Option.some.injEq] at g
  omega
theorem rng_snoc {lo hi : Int} (h : lo ≤ hi) : rng lo (hi + 1) = rng lo hi ++ [hi] := by
  unfold rng
  have : (hi + 1 - lo).toNat = (hi - lo).toNat + 1 := by omega
  rw [this, List.range_succ, List.map_append]
  congr 1
  simp only [List.map_cons, List.map_nil, List.cons.injEq, and_true]
  omega
theorem rng_nil {lo hi : Int} (h : hi ≤ lo) : rng lo hi = [] := by
  unfold rng
  have : (hi - lo).toNat = 0 := by omega
  rw [this]; rfl
theorem foldl_snoc {α β : Type} (g : α → β) : ∀ (l : List α) (z : List β), l.foldl (fun acc a => acc ++ [g a]) z = z ++ l.map g
  | [], z => by simp
  | a :: l, z => by rw [List.foldl_cons, foldl_snoc g l, List.append_assoc]; rfl
theorem foldl_app {α β : Type} (g : α → List β) : ∀ (l : List α) (z : List β), l.foldl (fun acc a => acc ++ g a) z = z ++ l.flatMap g
  | [], z => by simp
  | a :: l, z => by rw [List.foldl_cons, foldl_app g l, List.append_assoc]; simp
/-- a fold, the items behind it known -/
theorem wfor_fold' {cf : CF} {tgt : List Nat} {single : Bool} {b : Ss} {α β γ : Type} {f : α → D} {l : List α} {ρ : Env} {K : Out → Env → Prop} {E : XE} {t : Tag K} (st : β → γ → Env) (step : β → α → β) (b0 : β) (g0 : γ) (hρ : ρ = st b0 g0)
    (h1 : ∀ pre a suf g, l = pre ++ a :: suf → wbind .fz tgt single (f a) (st (pre.foldl step b0) g) fun σ1 => wss cf b σ1 (fun o σ2 => (o = .nx ∨ o = .cnt) ∧ ∃ g', σ2 = st (step (pre.foldl step b0) a) g') E) (h2 : ∀ g, K .nx (st (l.foldl step b0) g)) : wfor cf tgt single b (l.map f) ρ K E t := by
  refine wfor_core (I := fun pre σ => ∃ g, σ = st (pre.foldl step b0) g) ⟨g0, hρ⟩ (fun pre a suf σ e hI => ?_) (fun σ hI => ?_)
  · obtain ⟨g, rfl⟩ := hI
    refine (loop_ok (h1 pre a suf g e)).mono fun p h => ?_
    obtain ⟨o, σ2⟩ := p
    obtain ⟨ho, g', h⟩ := h
    simp only at ho h
    have : ∃ g, σ2 = st ((pre ++ [a]).foldl step b0) g := ⟨g', by rw [h, List.foldl_append]; rfl⟩
    rcases ho with rfl | rfl <;> exact this
  · obtain ⟨g, rfl⟩ := hI
    exact h2 g
/-- a list that is built, item by item -/
theorem wfor_map {cf : CF} {tgt : List Nat} {single : Bool} {b : Ss} {α β γ : Type} {f : α → D} {l : List α} {ρ : Env} {K : Out → Env → Prop} {E : XE} {t : Tag K} (st : List β → γ → Env) (h : α → β) (b0 : List β) (g0 : γ) (hρ : ρ = st b0 g0)
    (h1 : ∀ pre a suf g, l = pre ++ a :: suf → wbind .fz tgt single (f a) (st (b0 ++ pre.map h) g) fun σ1 => wss cf b σ1 (fun o σ2 => (o = .nx ∨ o = .cnt) ∧ ∃ g', σ2 = st (b0 ++ pre.map h ++ [h a]) g') E) (h2 : ∀ g, K .nx (st (b0 ++ l.map h) g)) : wfor cf tgt single b (l.map f) ρ K E t := by
  refine wfor_core (I := fun pre σ => ∃ g, σ = st (b0 ++ pre.map h) g) ⟨g0, by rw [List.map_nil, List.append_nil]; exact hρ⟩ (fun pre a suf σ e hI => ?_) (fun σ hI => ?_)
  · obtain ⟨g, rfl⟩ := hI
    refine (loop_ok (h1 pre a suf g e)).mono fun p hh => ?_
    obtain ⟨o, σ2⟩ := p
    obtain ⟨ho, g', hh⟩ := hh
    simp only at ho hh
    have : ∃ g, σ2 = st (b0 ++ (pre ++ [a]).map h) g := ⟨g', by rw [hh, List.map_append, List.append_assoc]; rfl⟩
    rcases ho with rfl | rfl <;> exact this
  · obtain ⟨g, rfl⟩ := hI
    exact h2 g
theorem pre_len {α : Type} {l pre suf : List α} {a : α} (h : l = pre ++ a :: suf) : pre.length < l.length := by
  rw [h, List.length_append, List.length_cons]; omega
theorem pre_mem {α : Type} {l pre suf : List α} {a : α} (h : l = pre ++ a :: suf) : a ∈ l := by rw [h]; simp
theorem smallI_of {i : Int} (h : -4611686018427387904 ≤ i ∧ i < 4611686018427387904) : smallI i = true := by
  unfold smallI; exact decide_eq_true h
theorem filter_t {α : Type} (l : List α) : l.filter (fun _ => true) = l := List.filter_eq_self.mpr fun _ _ => rfl
/-- a comprehension without a test -/
theorem wcomp_map1 {cf : CF} {elt : PV.E} {tgt : List Nat} {single : Bool} {own fz : List Nat} {α β : Type} {f : α → D} {l : List α} {ρ : Env} {K : EK} {E : XE} {t : Tag K} (e : β → D) (g : α → β) (fl : Bool)
    (h1 : ∀ a, a ∈ l → wbind .bor tgt single (f a) (wipe ρ own) fun σ => we cf elt σ (fun b d _ => d = e (g a) ∧ (fl = true → b = true)) fun _ _ _ => False)
    (h2 : own.all (fun i => immAt ρ i && decide (i < ρ.length)) = true) (h3 : eff elt = false) (h4 : l.length ≤ 16777216)
    (hK : ∀ b, (fl = true → b = true) → K b (Ls e (l.map g)) ρ) : wcomp cf elt tgt single .nil own fz (l.map f) ρ K E t := by
  refine wcomp_map e (fun _ => true) g fl (fun a ha => ?_) h2 (by rw [h3]; rfl) (by rw [filter_t, List.length_map]; exact h4) fun b hb => by rw [filter_t]; exact hK b hb
  have h := h1 a ha
  unfold wbind at h ⊢
  split at h
  · simp only [wt]; exact ⟨trivial, fun _ => h⟩
  · exact h.elim
end PV
namespace PV
theorem vz {a : Prop} : (True ∧ a) = a := true_and a
end PV
open PV in
local macro_rules | `(tactic| exists $es,*) => `(tactic| try simp -dsimp only [↓we.eq_1, ↓we.eq_2, ↓we.eq_3, ↓we.eq_4, ↓we.eq_5, ↓we.eq_6, ↓we.eq_7, ↓we.eq_8, ↓we.eq_9, ↓we.eq_10, ↓we.eq_11, ↓we.eq_12, ↓we.eq_13, ↓we.eq_14, ↓we.eq_15, ↓we.eq_16, ↓we.eq_17, ↓we.eq_18, ↓we.eq_19, ↓we.eq_20, ↓we.eq_21, ↓we.eq_22, ↓we.eq_23, ↓we.eq_24, ↓we.eq_25, ↓we.eq_26, ↓we.eq_27, ↓we.eq_28, ↓we.eq_29, ↓we.eq_30, ↓we.eq_31, ↓wes.eq_1, ↓wes.eq_2, ↓wa.eq_1, ↓wa.eq_2, ↓wa.eq_3, ↓wo.eq_1, ↓wo.eq_2, ↓wt.eq_1, ↓wt.eq_2, ↓wit.eq_1, ↓wit.eq_2, ↓wit.eq_3, ↓wit.eq_4, ↓wit.eq_5, ↓wit.eq_6, ↓wit.eq_7, ↓wit.eq_8, ↓wx.eq_1, ↓wx.eq_2, ↓wx.eq_3, ↓wxs.eq_1, ↓wxs.eq_2, ↓ws.eq_1, ↓ws.eq_2, ↓ws.eq_3, ↓ws.eq_4, ↓ws.eq_5, ↓ws.eq_6, ↓ws.eq_7, ↓ws.eq_8, ↓ws.eq_9, ↓ws.eq_10, ↓ws.eq_11, ↓ws.eq_12, ↓ws.eq_13, ↓ws.eq_14, ↓ws.eq_15, ↓ws.eq_16, ↓ws.eq_17, ↓ws.eq_18, ↓ws.eq_19, ↓wss.eq_1, ↓wss.eq_2, ↓wa_var, ↓wx_int, ↓wa_int, ↓wx_str, ↓wa_str, ↓wx_bl, ↓wa_bl, ↓wx_non, ↓wa_non, ↓wx_op2, ↓wa_op2, ↓wx_op1, ↓wa_op1, ↓wx_and, ↓wa_and, ↓wx_or, ↓wa_or, ↓wx_ite, ↓wa_ite, ↓wx_cmp3, ↓wa_cmp3, ↓wx_bi, ↓wa_bi, ↓wx_mt, ↓wa_mt, ↓wx_sub, ↓wa_sub, ↓wx_slc, ↓wa_slc, ↓wx_rev, ↓wa_rev, ↓wa_tup, ↓wa_lst, ↓wx_call, ↓wa_call, ↓wx_scrL, ↓wa_scrL, ↓wx_pop0, ↓wa_pop0, ↓wx_pop1, ↓wa_pop1, ↓wx_comp, ↓wa_comp, ↓wx_rng, ↓wa_rng, ↓wx_rng1, ↓wa_rng1, ↓wx_isBool, ↓wa_isBool, ↓wx_isTup, ↓wa_isTup, ↓wx_isInt, ↓wa_isInt, ↓wx_sset, ↓wa_sset, ↓gx_eq, ↓wown_eq, ↓wscr_eq, get_z, get_s, ↓gk_own, ↓gk_fz, ↓gk_bor, ↓gx_own, ↓gx_fz, ↓gx_bor, ↓wscr_s, noBor_n, noBor_z, noBor_o, noBor_f, noBor_s, freeze_z, freeze_s, frz1_o, frz1_f, frz1_s, frz1_n, frz1_b, freezes_n, freezes_c, imm_int, imm_bool, imm_str, imm_none, imm_list, imm_tuple, immAll_n, immAll_c, flat_int, flat_bool, flat_str, flat_none, flat_list, flat_tuple, kp_t, kp_f, kp_ft, ↓kpv_t, ↓kpv_f, kpv_fz, kpv_n, isFz_var, isfz_f, imm_Tp, flat_Tp, imm_Ls, flat_Ls, immAll_map, ↓w2_eq, ↓w2_ne, ↓w2_eqL, ↓w2_neL, ↓w2_inT, ↓w2_ninT, ↓w2_inL, ↓w2_ninL, ↓wmt_count, ↓w2_addT, ↓w2_addL, ↓wsub_T, ↓wsub_L, ↓wslc_T, ↓wslc_L, ↓wrev_T, ↓wrev_L, ↓wits_T, ↓wits_L, ↓wlist_L, ↓wlist_l, ↓wits_l, ↓wits_t, ↓wown_L, ↓wown_l, ↓wset_map, ↓wat_map, ↓wbi_lenT, ↓wbi_lenL, ↓wbi_tupL, ↓wbi_tupT, ↓wbi_lstL, ↓wbi_lstT, ↓wbi_sumT, ↓wbi_sumL, ↓wbi_allL, ↓wbi_anyL, ↓wbi_max2, ↓wbi_min2, ↓wbi_abs, ↓wbi_int, ↓wbi_intb, ↓w2_add, ↓w2_sub, ↓w2_mul, ↓w2_fdiv, ↓w2_mod, ↓w2_pow, ↓w2_lt, ↓w2_le, ↓w2_gt, ↓w2_ge, ↓w1_neg, ↓w1_not, ↓wi_i, ↓wv_b, ↓wb_t, ↓wb_f, ↓wand_b, ↓wand_c1, ↓wand_t, ↓wandE_t, ↓wandE_f, ↓worE_t, ↓worE_f, ↓wand_f, ↓wor_b, ↓wor_c1, ↓wor_t, ↓wor_f, ↓wnx_n, ↓wnx_r, ↓wnx_b, ↓wnx_k, ↓wbind_1, ↓wbind_2, ↓wbind_3, List.set_cons_zero, List.set_cons_succ, List.map_cons, List.map_nil, List.length_cons, List.length_nil, List.cons_append, List.nil_append, Bool.or_true, Bool.true_or, Bool.or_false, Bool.false_or, Bool.and_true, Bool.true_and, Bool.and_false, Bool.false_and, Bool.not_true, Bool.not_false, if_true, if_false, true_and, and_true, eff, effs, effo, effi, vars, varss, varso, varsi, List.replicate_succ, List.replicate_zero, Nat.reduceSub, Nat.reduceAdd, Nat.reduceLeDiff, Nat.reduceLT, ↓wbS_t, ↓wbS_f, ↓wite_t, ↓wite_f, ↓wite_c1, ↓wite_c2, ↓wite_int, ↓wite_bool, ↓wite_str, ↓wite_T, ↓wite_L, cellOf_q, arC_q, store_q, cond_true, cond_false, rangeD_q, list_rangeD, list_map_q, tuple_map_q, noBor_nb, ↓Turn_n, ↓Turn_k, ↓Turn_b, ↓Turn_r, map_snoc, sizeLine_q, List.length_map, decide_eq_true_eq, decide_eq_false_iff_not, Bool.and_eq_true, Bool.or_eq_true, Bool.not_eq_true', Bool.not_eq_false', map_rev_q, wipe_n, wipe_c, Bool.false_eq_true, ↓wtry_n, ↓wtry_c, hd_0, hd_1, hd_2, decide_true, decide_false, Nat.reduceEqDiff, reduceCtorEq, Option.isSome_some, noBor_ni, immAt_q, immc_ni, immc_o, immc_f, immc_b, immc_n, List.all_cons, List.all_nil, ↓witr_T, ↓witr_L, ↓wits_S, ↓wbi_sorted, map_app_q, enumD_q, ↓wbind_pr, ↓wsub_pr0, ↓wsub_pr1, imm_Pr, flat_Pr, restore_n, restore_c, Nat.max_self, $[$es:term],*])
set_option Elab.async false
set_option linter.all false
set_option exponentiation.threshold 5000
set_option maxRecDepth 100000
set_option maxHeartbeats 1000000
/-! PW5: the laws' draws. -/
namespace PV
open PySem
def takeF (m q : Int) : Fn := ⟨2, 4, (.cons (.iff (.and (.op2 .eq (.sub (.var 0) (.int 2)) (.int 0)) (.op2 .lt (.sub (.var 0) (.int 1)) (.bi .len (.cons (.sub (.var 0) (.int 0)) .nil)))) (.cons (.setv 0 (.int 2) (.bi .abs (.cons (.bi .int (.cons (.sub (.sub (.var 0) (.int 0)) (.sub (.var 0) (.int 1))) .nil)) .nil))) (.cons (.setv 0 (.int 1) (.op2 .add (.sub (.var 0) (.int 1)) (.int 1))) (.cons (.iff (.op2 .lt (.sub (.var 0) (.int 2)) (.op2 .pow (.int 10) (.int 18))) (.cons (.asg 2 (.bi .int (.cons (.sub (.var 0) (.int 2)) .nil))) (.cons (.setv 0 (.int 2) (.int 0)) (.cons (.ret (.op2 .mod (.var 2) (.var 1))) .nil))) .nil) .nil))) .nil) (.cons (.iff (.op2 .gt (.sub (.var 0) (.int 2)) (.int 0)) (.cons (.asg 3 (.op2 .mod (.bi .int (.cons (.sub (.var 0) (.int 2)) .nil)) (.var 1))) (.cons (.setv 0 (.int 2) (.op2 .fdiv (.bi .int (.cons (.sub (.var 0) (.int 2)) .nil)) (.var 1))) (.cons (.ret (.var 3)) .nil))) .nil) (.cons (.setv 0 (.int 3) (.op2 .mod (.bi .int (.cons (.op2 .add (.op2 .mul (.sub (.var 0) (.int 3)) (.int m)) (.int 13)) .nil)) (.int q))) (.cons (.ret (.op2 .mod (.bi .int (.cons (.op2 .fdiv (.sub (.var 0) (.int 3)) (.int 7)) .nil)) (.var 1))) .nil))))⟩
def beginF (s m a c q : Int) : Fn := ⟨1, 3, (.cons (.asg 1 (.int s)) (.cons (.for [2] true (.scr 0) (.cons (.asg 1 (.op2 .mod (.op2 .add (.op2 .add (.op2 .mul (.var 1) (.int m)) (.op2 .mod (.bi .int (.cons (.var 2) .nil)) (.int a))) (.int c)) (.int q))) .nil)) (.cons (.ret (.lst (.cons (.scrL 0) (.cons (.int 0) (.cons (.int 0) (.cons (.var 1) .nil)))))) .nil)))⟩
/-- the draws' state -/
def Dr (d : D) : Prop := ∃ (l : List Int) (a r s : Int), d = .list [Ls .int l, .int a, .int r, .int s] ∧ 0 ≤ a ∧ 0 ≤ r ∧ 0 ≤ s
theorem wsub_lit0 {d : D} {l : List D} {K : D → Prop} : wsub (.list (d :: l)) (.int 0) K = K d := by
  have : sub (.list (d :: l)) (.int 0) = .ok d := by
    simp only [sub, atD, ixN, List.length_cons]
    rw [if_pos (by omega), if_pos (by omega)]
    rfl
  simp only [wsub, this]
theorem wsub_lit1 {c d : D} {l : List D} {K : D → Prop} : wsub (.list (c :: d :: l)) (.int 1) K = K d := by
  have : sub (.list (c :: d :: l)) (.int 1) = .ok d := by
    simp only [sub, atD, ixN, List.length_cons]
    rw [if_pos (by omega), if_pos (by omega)]
    rfl
  simp only [wsub, this]
theorem wsub_lit2 {b c d : D} {l : List D} {K : D → Prop} : wsub (.list (b :: c :: d :: l)) (.int 2) K = K d := by
  have : sub (.list (b :: c :: d :: l)) (.int 2) = .ok d := by
    simp only [sub, atD, ixN, List.length_cons]
    rw [if_pos (by omega), if_pos (by omega)]
    rfl
  simp only [wsub, this]
theorem wsub_lit3 {a b c d : D} {l : List D} {K : D → Prop} : wsub (.list (a :: b :: c :: d :: l)) (.int 3) K = K d := by
  have : sub (.list (a :: b :: c :: d :: l)) (.int 3) = .ok d := by
    simp only [sub, atD, ixN, List.length_cons]
    rw [if_pos (by omega), if_pos (by omega)]
    rfl
  simp only [wsub, this]
theorem wset_1 {a b c d x : D} {K : List D → Prop} : wset [a, b, c, d] 1 x K = K [a, x, c, d] := rfl
theorem wset_2 {a b c d x : D} {K : List D → Prop} : wset [a, b, c, d] 2 x K = K [a, b, x, d] := rfl
theorem wset_3 {a b c d x : D} {K : List D → Prop} : wset [a, b, c, d] 3 x K = K [a, b, c, x] := rfl
theorem ite_abs (i : Int) : 0 ≤ (if i < 0 then -i else i) := by split <;> omega
theorem fmod_nn {a b : Int} (h : 0 < b) : 0 ≤ a.fmod b := Int.fmod_nonneg_of_pos a h
theorem fmod_ltt {a b : Int} (h : 0 < b) : a.fmod b < b := Int.fmod_lt_of_pos a h
theorem mulOk_r {a b : Int} (h : -(2 ^ 64) < b ∧ b < 2 ^ 64) : mulOk a b = true := by
  unfold mulOk; rw [decide_eq_true h]; simp
theorem mulOk_l {a b : Int} (h : -(2 ^ 64) < a ∧ a < 2 ^ 64) : mulOk a b = true := by
  unfold mulOk; rw [decide_eq_true h]; simp
theorem divOk_of {b : Int} (h : 0 < b) (h2 : b < 1073741824) : divOk b = true := by
  unfold divOk
  have : b ≠ 0 ∧ b.natAbs < 1073741824 := ⟨by omega, by omega⟩
  rw [decide_eq_true this]; rfl
theorem fdiv_nn {a b : Int} (ha : 0 ≤ a) (hb : 0 ≤ b) : 0 ≤ a.fdiv b := Int.fdiv_nonneg ha hb
theorem take_okD {fs : List Fn} {k f : Nat} {mm q : Int} (hF : fs[f]? = some (takeF mm q)) (hm : 0 < mm ∧ mm < 1000000) (hq : 0 < q ∧ q < 1000000000000) {x : D} {n : Int} (hx : Dr x) (h0 : 0 < n) (hd : divOk n = true) {Q : D → D → Prop} {E : XE}
    (h : ∀ r x', 0 ≤ r → r < n → Dr x' → Q (.int r) x') : CallR (runF fs (k + 1)) f [.own x, .own (.int n)] Q E := by
  obtain ⟨l, a, r, s, rfl, ha, hr, hs⟩ := hx
  refine callR_intro hF rfl (by decide : 0 < 2) ?_
  unfold takeF
  have hn : n ≠ 0 := by omega
  have hq0 : q ≠ 0 := by omega
  have h7 : divOk 7 = true := by decide
  have hmul : ∀ s : Int, mulOk s mm = true := fun s => mulOk_r ⟨by omega, by omega⟩
  have p64 : Int.natAbs 10 < 2 ^ 64 := by decide
  have seed : ∀ s : Int, 0 ≤ (s * mm + 13).fmod q := fun s => fmod_nn hq.1
  have nn : ∀ i : Int, 0 ≤ i.fmod n := fun i => fmod_nn h0
  have lt : ∀ i : Int, i.fmod n < n := fun i => fmod_ltt h0
  have dv : ∀ i : Int, 0 ≤ i → 0 ≤ i.fdiv n := fun i hi => fdiv_nn hi (by omega)
  exists wsub_lit0, wsub_lit1, wsub_lit2, wsub_lit3, wset_1, wset_2, wset_3
  -- the number behind the first test
  have fin : ∀ (a r s : Int), 0 ≤ a → 0 ≤ r → 0 ≤ s → ∀ {C : Option Cell}, wss (runF fs k) (Ss.cons (.iff (.op2 .gt (.sub (.var 0) (.int 2)) (.int 0)) (.cons (.asg 3 (.op2 .mod (.bi .int (.cons (.sub (.var 0) (.int 2)) .nil)) (.var 1))) (.cons (.setv 0 (.int 2) (.op2 .fdiv (.bi .int (.cons (.sub (.var 0) (.int 2)) .nil)) (.var 1))) (.cons (.ret (.var 3)) .nil))) .nil) (.cons (.setv 0 (.int 3) (.op2 .mod (.bi .int (.cons (.op2 .add (.op2 .mul (.sub (.var 0) (.int 3)) (.int mm)) (.int 13)) .nil)) (.int q))) (.cons (.ret (.op2 .mod (.bi .int (.cons (.op2 .fdiv (.sub (.var 0) (.int 3)) (.int 7)) .nil)) (.var 1))) .nil)))
      [some (.own (.list [Ls .int l, .int a, .int r, .int s])), some (.own (.int n)), none, none] (fun o ρ => 2 ≤ ρ.length ∧ ∃ x', get ρ 0 = some (.own x') ∧ match o with | .ret d => Q d x' | .nx => Q .none x' | _ => False) E := by
    intro a r s ha hr hs C
    exists wsub_lit0, wsub_lit1, wsub_lit2, wsub_lit3, wset_1, wset_2, wset_3
    refine wbS_if (fun hr0 => ?_) (fun hr0 => ?_) <;> (try simp only [decide_eq_true_eq, decide_eq_false_iff_not, Bool.or_eq_true, Bool.and_eq_true, Bool.or_eq_false_iff, Bool.and_eq_false_iff, Bool.not_eq_true', Bool.not_eq_false', Bool.not_eq_true, Bool.not_eq_false, Int.not_lt, Int.not_le, Bool.false_eq_true, Bool.true_eq_false, id] at hr0)
    · exists wsub_lit0, wsub_lit1, wsub_lit2, wsub_lit3, wset_1, wset_2, wset_3
      exact ⟨hn, hd, _, rfl, h _ _ (nn _) (lt _) ⟨l, a, _, s, rfl, ha, dv _ hr, hs⟩⟩
    · exists wsub_lit0, wsub_lit1, wsub_lit2, wsub_lit3, wset_1, wset_2, wset_3
      exact ⟨hmul _, hq0, h7, hn, _, rfl, h _ _ (nn _) (lt _) ⟨l, a, r, _, rfl, ha, hr, seed _⟩⟩
  refine wbS_if (fun hc => ?_) (fun hc => ?_) <;> (try simp only [decide_eq_true_eq, decide_eq_false_iff_not, Bool.or_eq_true, Bool.and_eq_true, Bool.or_eq_false_iff, Bool.and_eq_false_iff, Bool.not_eq_true', Bool.not_eq_false', Bool.not_eq_true, Bool.not_eq_false, Int.not_lt, Int.not_le, Bool.false_eq_true, Bool.true_eq_false, id] at hc)
  · exists wsub_lit0, wsub_lit1, wsub_lit2, wsub_lit3, wset_1, wset_2, wset_3
    have ab := ite_abs (pyg l a)
    refine ⟨⟨by omega, hc.2⟩, ⟨by decide, by decide, by decide⟩, ?_⟩
    refine wbS_if (fun hs1 => ?_) (fun hs1 => ?_) <;> (try simp only [decide_eq_true_eq, decide_eq_false_iff_not, Bool.or_eq_true, Bool.and_eq_true, Bool.or_eq_false_iff, Bool.and_eq_false_iff, Bool.not_eq_true', Bool.not_eq_false', Bool.not_eq_true, Bool.not_eq_false, Int.not_lt, Int.not_le, Bool.false_eq_true, Bool.true_eq_false, id] at hs1)
    · exists wsub_lit0, wsub_lit1, wsub_lit2, wsub_lit3, wset_1, wset_2, wset_3
      exact ⟨hn, _, rfl, h _ _ (nn _) (lt _) ⟨l, a + 1, 0, s, rfl, by omega, by omega, hs⟩⟩
    · simp only [↓wss.eq_1, ↓wnx_n]
      exact fin _ _ _ (by omega) ab hs (C := none)
  · simp only [↓wss.eq_1, ↓wnx_n]
    exact fin a r s ha hr hs (C := none)
theorem take_ok {fs : List Fn} {k f : Nat} {mm q : Int} (hF : fs[f]? = some (takeF mm q)) (hm : 0 < mm ∧ mm < 1000000) (hq : 0 < q ∧ q < 1000000000000) {x : D} {n : Int} (hx : Dr x) (h0 : 0 < n) (h1 : n < 1073741824) {Q : D → D → Prop} {E : XE}
    (h : ∀ r x', 0 ≤ r → r < n → Dr x' → Q (.int r) x') : CallR (runF fs (k + 1)) f [.own x, .own (.int n)] Q E := take_okD hF hm hq hx h0 (divOk_of h0 h1) h
theorem begin_ok {fs : List Fn} {k f : Nat} {s0 m a c q : Int} (hF : fs[f]? = some (beginF s0 m a c q)) (h0 : 0 ≤ s0) (hm : 0 < m ∧ m < 1000000) (ha : 0 < a) (hq : 0 < q) {ns : List Int} (hn : ns.length ≤ 63) {Q : D → Prop} {E : XE}
    (h : ∀ d, Dr d → Q d) : Call (runF fs (k + 1)) f [.scr ns] Q E := by
  refine call_intro hF rfl ?_
  unfold beginF
  exists vz
  refine wfor_inv (f := PyData.int) (I := fun pre σ => ∃ s c, 0 ≤ s ∧ σ = [some (.scr ns), some (.own (.int s)), c]) ⟨s0, none, h0, rfl⟩ ?_ ?_
  · rintro pre x suf σ _ ⟨s, c, hs, rfl⟩
    exists vz

    refine ⟨mulOk_r ⟨by omega, by omega⟩, by omega, by omega, ?_⟩
    exact ⟨_, _, fmod_nn hq, rfl⟩
  · rintro σ ⟨s, c, hs, rfl⟩
    exists vz
    exact ⟨lenOk_of (by omega), lenOk_of (by decide), h _ ⟨ns, 0, 0, s, rfl, by omega, by omega, hs⟩⟩
/-- a name handed over for a draw -/
theorem wcall_take {sp : Bool} {fs : List Fn} {k f : Nat} {mm q : Int} (hF : fs[f]? = some (takeF mm q)) (hm : 0 < mm ∧ mm < 1000000) (hq : 0 < q ∧ q < 1000000000000) {i : Nat} {b : Bool} {x : D} {n : Int} {ρ : Env} {K : EK} {E : XE} {t : Tag K} (hx : Dr x) (hg : get ρ i = some (.own x)) (hb : noBor ρ = true) (h0 : 0 < n) (h1 : n < 1073741824)
    (h : ∀ r x', 0 ≤ r → r < n → Dr x' → K true (.int r) (ρ.set i (some (.own x')))) : wcall (runF fs (k + 1)) f sp [.ref i, .val (b, .int n)] ρ K E t :=
  wcall_r hg hb rfl (take_ok hF hm hq hx h0 h1 h)
theorem wcall_takeD {sp : Bool} {fs : List Fn} {k f : Nat} {mm q : Int} (hF : fs[f]? = some (takeF mm q)) (hm : 0 < mm ∧ mm < 1000000) (hq : 0 < q ∧ q < 1000000000000) {i : Nat} {b : Bool} {x : D} {n : Int} {ρ : Env} {K : EK} {E : XE} {t : Tag K} (hx : Dr x) (hg : get ρ i = some (.own x)) (hb : noBor ρ = true) (h0 : 0 < n) (h1 : divOk n = true)
    (h : ∀ r x', 0 ≤ r → r < n → Dr x' → K true (.int r) (ρ.set i (some (.own x')))) : wcall (runF fs (k + 1)) f sp [.ref i, .val (b, .int n)] ρ K E t :=
  wcall_r hg hb rfl (take_okD hF hm hq hx h0 h1 h)
theorem divOk_big {b : Int} (h : 0 < b) (h2 : b < 1267650600228229401496703205376) : divOk b = true := by
  unfold divOk
  have : 0 < b ∧ b < 2 ^ 9000 := ⟨h, Int.lt_trans h2 (by decide +kernel)⟩
  rw [decide_eq_true this, Bool.or_true]
theorem wcall_begin {sp : Bool} {fs : List Fn} {k f : Nat} {s0 m a c q : Int} (hF : fs[f]? = some (beginF s0 m a c q)) (h0 : 0 ≤ s0) (hm : 0 < m ∧ m < 1000000) (ha : 0 < a) (hq : 0 < q) {ns : List Int} (hn : ns.length ≤ 63) {i : Nat} {ρ : Env} {K : EK} {E : XE} {t : Tag K} (hg : get ρ i = some (.scr ns))
    (h : ∀ d, Dr d → K true d ρ) : wcall (runF fs (k + 1)) f sp [.scr i] ρ K E t := by
  have hc : Call (runF fs (k + 1)) f [.scr ns] (fun d => K true d ρ) E := begin_ok hF h0 hm ha hq hn h
  unfold wcall callA
  simp only [hasRef, Bool.false_and, Bool.false_eq_true, if_false, arCells, hg]
  refine WP.bind (WP.mono hc fun p h => ?_)
  obtain ⟨h1, h2, h3⟩ := h
  obtain ⟨⟨f1, d⟩, outs⟩ := p
  match outs, h2 with
  | [c], _ =>
    refine WP.ok ?_
    simp only at h1
    rw [h1, Bool.true_or]
    exact h3
/-- a call that hands over the name i, and values -/
theorem wcall_rs {sp : Bool} {cf : CF} {f i : Nat} {x : D} {rs : List R} {ρ : Env} {K : EK} {E : XE} {t : Tag K} (hg : get ρ i = some (.own x)) (hn : noBor ρ = true) (hy : rs.all (fun r => imm r.2) = true)
    (h : CallR cf f (.own x :: rs.map arC) (fun d x' => K true d (ρ.set i (some (.own x')))) E) : wcall cf f sp (.ref i :: rs.map .val) ρ K E t := by
  have v1 : ∀ rs : List R, arVals (rs.map .val) = rs.map (·.2) := by
    intro rs
    induction rs with
    | nil => rfl
    | cons r rs ih => simp only [List.map_cons, arVals, ih]
  have v2 : ∀ rs : List R, arRefs (rs.map .val) = [] := by
    intro rs
    induction rs with
    | nil => rfl
    | cons r rs ih => simp only [List.map_cons, arRefs, ih]
  have hy' : (rs.map (·.2)).all imm = true := by rw [List.all_map]; exact hy
  unfold wcall callA
  simp only [hasRef, hn, arVals, v1, hy', Bool.true_or, arRefs, v2, List.nodup_cons, List.not_mem_nil, not_false_eq_true, List.nodup_nil, and_self, decide_true, Bool.and_self, Bool.not_true, Bool.and_false, Bool.false_eq_true, if_false, arCells, hg, arCells_v]
  refine WP.bind (WP.mono h fun p h => ?_)
  obtain ⟨h1, x', r, h2, h3, h4⟩ := h
  obtain ⟨⟨f1, d⟩, outs⟩ := p
  simp only at h2
  subst h2
  simp only [arBack]
  rw [arBack_v _ _ _ (by simp at h3; exact h3)]
  refine WP.ok ?_
  simp only at h1
  rw [h1, Bool.true_or]
  exact h4
theorem wcall_rsS {sp : Bool} {cf : CF} {f i : Nat} {x : D} {rs : List R} {ρ : Env} {K : EK} {E : XE} {t : Tag K} (hg : get ρ i = some (.own x)) (hn : noBor ρ = true) (hs : sp = true)
    (h : CallR cf f (.own x :: rs.map arC) (fun d x' => K true d (ρ.set i (some (.own x')))) E) : wcall cf f sp (.ref i :: rs.map .val) ρ K E t := by
  have v1 : ∀ rs : List R, arVals (rs.map .val) = rs.map (·.2) := by
    intro rs
    induction rs with
    | nil => rfl
    | cons r rs ih => simp only [List.map_cons, arVals, ih]
  have v2 : ∀ rs : List R, arRefs (rs.map .val) = [] := by
    intro rs
    induction rs with
    | nil => rfl
    | cons r rs ih => simp only [List.map_cons, arRefs, ih]
  unfold wcall callA
  simp only [hasRef, hn, arVals, v1, hs, Bool.or_true, arRefs, v2, List.nodup_cons, List.not_mem_nil, not_false_eq_true, List.nodup_nil, and_self, decide_true, Bool.and_self, Bool.not_true, Bool.and_false, Bool.false_eq_true, if_false, arCells, hg, arCells_v]
  refine WP.bind (WP.mono h fun p h => ?_)
  obtain ⟨h1, x', r, h2, h3, h4⟩ := h
  obtain ⟨⟨f1, d⟩, outs⟩ := p
  simp only at h2
  subst h2
  simp only [arBack]
  rw [arBack_v _ _ _ (by simp at h3; exact h3)]
  refine WP.ok ?_
  simp only at h1
  rw [h1, Bool.true_or]
  exact h4
/-- .. and takes what may be a list -/
theorem wcall_rL {sp : Bool} {cf : CF} {f i : Nat} {b : Bool} {x y : D} {ρ : Env} {K : EK} {E : XE} {t : Tag K} (hg : get ρ i = some (.own x)) (hn : noBor ρ = true) (hs : sp = true) (h : CallR cf f [.own x, arC (b, y)] (fun d x' => K true d (ρ.set i (some (.own x')))) E) : wcall cf f sp [.ref i, .val (b, y)] ρ K E t :=
  wcall_rsS (rs := [(b, y)]) hg hn hs h
theorem wcall_r3 {sp : Bool} {cf : CF} {f i : Nat} {b1 b2 : Bool} {x y z : D} {ρ : Env} {K : EK} {E : XE} {t : Tag K} (hg : get ρ i = some (.own x)) (hn : noBor ρ = true) (hy : imm y = true) (hz : imm z = true)
    (h : CallR cf f [.own x, .own y, .own z] (fun d x' => K true d (ρ.set i (some (.own x')))) E) : wcall cf f sp [.ref i, .val (b1, y), .val (b2, z)] ρ K E t := by
  refine wcall_rs (rs := [(b1, y), (b2, z)]) hg hn (by simp [hy, hz]) ?_
  simp only [List.map_cons, List.map_nil, arC, hy, hz, if_true]
  exact h
def E0 : XE := fun _ _ _ => False
/-- a comprehension whose turns change things: J what is done, the items made, the names -/
theorem wcomp_eff {cf : CF} {elt : PV.E} {tgt : List Nat} {single : Bool} {cnd : Es} {own fz : List Nat} {α : Type} {f : α → D} {l : List α} {ρ : Env} {K : EK} {E : XE} {t : Tag K} (J : List α → List D → Env → Prop)
    (he : (eff elt || effs cnd) = true) (h2 : own.all (fun i => immAt ρ i && decide (i < ρ.length)) = true) (hi : (l.map f).all imm = true) (hn : noBor ρ = true) (h0 : J [] [] (wipe (freezes ρ fz) own))
    (h1 : ∀ pre a suf out σ, l = pre ++ a :: suf → J pre out σ → wbind .bor tgt single (f a) σ fun σ1 => wt cf cnd σ1 (fun c σ2 => if c = true then we cf elt σ2 (fun b d σ3 => b = true ∧ noBor (wipe σ3 own) = true ∧ J (pre ++ [a]) (out ++ [d]) (wipe σ3 own)) E0
      else noBor (wipe σ2 own) = true ∧ J (pre ++ [a]) out (wipe σ2 own)) E0)
    (hK : ∀ out σ, J l out σ → lenOk out.length = true ∧ σ.length = ρ.length ∧ K true (.list out) (restore ρ σ own)) : wcomp cf elt tgt single cnd own fz (l.map f) ρ K E t := by
  unfold wcomp
  refine ⟨h2, ?_⟩
  rw [if_pos he]
  refine ⟨hi, hn, ?_⟩
  have key : ∀ (suf pre : List α) (out : List D) (σ : Env), l = pre ++ suf → J pre out σ → WP (compL (bodyC cf elt tgt single cnd) own (suf.map f) σ) (fun p => J l (out ++ p.1) p.2) E0 := by
    intro suf
    induction suf with
    | nil =>
      intro pre out σ e h
      rw [List.append_nil] at e
      subst e
      simp only [List.map_nil, compL]
      exact WP.ok (by rw [List.append_nil]; exact h)
    | cons a suf ih =>
      intro pre out σ e h
      have e2 : l = (pre ++ [a]) ++ suf := by rw [e, List.append_assoc]; rfl
      simp only [List.map_cons, compL]
      have hb : WP (bodyC cf elt tgt single cnd (f a) σ) (fun p => noBor (wipe p.2 own) = true ∧ match p.1 with
          | none => J (pre ++ [a]) out (wipe p.2 own)
          | some r => (r.1 || imm r.2) = true ∧ J (pre ++ [a]) (out ++ [r.2]) (wipe p.2 own)) E0 := by
        unfold bodyC
        refine WP.bind ((wbind_ok (h1 pre a suf out σ e h)).mono fun σ1 h => WP.bind ((wt_ok cnd h).mono fun p h => ?_))
        obtain ⟨c, σ2⟩ := p
        cases c with
        | false => exact WP.ok h
        | true =>
          refine WP.bind ((we_ok elt h).mono fun p h => WP.ok ?_)
          exact ⟨h.2.1, h.1, h.2.2⟩
      refine WP.bind (hb.mono fun p hp => ?_)
      obtain ⟨o, σ3⟩ := p
      obtain ⟨hn3, hp⟩ := hp
      refine WP.ite hn3 ?_
      cases o with
      | none => exact WP.bind ((ih (pre ++ [a]) out _ e2 hp).mono fun q hq => WP.ok hq)
      | some r =>
        refine WP.bind ((ih (pre ++ [a]) (out ++ [r.2]) _ e2 hp.2).mono fun q hq => ?_)
        refine WP.ite hp.1 (WP.ok ?_)
        simp only
        rw [List.append_assoc] at hq
        exact hq
  have := key l [] [] _ rfl h0
  have ne : WP (noExc (compL (bodyC cf elt tgt single cnd) own (l.map f) (wipe (freezes ρ fz) own))) (fun p => J l p.1 p.2) E := by
    cases q : compL (bodyC cf elt tgt single cnd) own (l.map f) (wipe (freezes ρ fz) own) with
    | ok p => rw [q] at this; exact this
    | exc _ _ _ => rw [q] at this; exact this.elim
    | stuck => rw [q] at this; exact this.elim
  exact ne.mono fun p h => hK _ _ h
end PV
set_option Elab.async false
set_option linter.all false
namespace PV
open PySem
/-- the plain law from its call -/
theorem of_call {cf : CF} {f : Nat} {cs : List Cell} (h : Call cf f cs (fun d => d = .bool true) fun _ _ _ => False) : ∃ outs, cf f cs = .ok ((true, .bool true), outs) := by
  unfold Call at h
  cases e : cf f cs with
  | ok p =>
    rw [e] at h
    obtain ⟨h1, _, h2⟩ := h
    obtain ⟨⟨b, d⟩, outs⟩ := p
    simp only at h1 h2
    subst h1 h2
    exact ⟨outs, rfl⟩
  | exc _ _ _ => rw [e] at h; exact h.elim
  | stuck => rw [e] at h; exact h.elim
/-! ### sorted, rows of ints -/
theorem leD_T (a b : List Int) : leD (Tp .int a) (Tp .int b) = decide (a ≤ b) := by
  have h : PySem.W.dataLt (Tp .int b) (Tp .int a) = decide (b < a) := PySem.W.dataLt_ints b a
  unfold leD
  rw [h]
  by_cases q : b < a
  · have : ¬ a ≤ b := fun z => absurd q (List.not_lt.mpr z)
    simp [q, this]
  · have : a ≤ b := List.not_lt.mp q
    simp [q, this]
theorem mergeSort_rows (l m : List (List Int)) (hp : m.Perm l) (hs : m.Pairwise (· ≤ ·)) : l.mergeSort (fun a b => decide (a ≤ b)) = m := by
  refine List.Perm.eq_of_pairwise (le := fun a b : List Int => a ≤ b) (fun a b _ _ h1 h2 => List.le_antisymm h1 h2) ?_ hs ((List.mergeSort_perm _ _).trans hp.symm)
  have := List.pairwise_mergeSort (le := fun a b : List Int => decide (a ≤ b)) (fun a b c h1 h2 => decide_eq_true (List.le_trans (of_decide_eq_true h1) (of_decide_eq_true h2))) (fun a b => by
    rcases List.le_total a b with h | h <;> simp [h]) l
  exact this.imp fun h => of_decide_eq_true h
theorem sorted_T (l m : List (List Int)) (hp : m.Perm l) (hs : m.Pairwise (· ≤ ·)) : (l.map (Tp PyData.int)).mergeSort leD = m.map (Tp .int) := by
  rw [← List.map_mergeSort (r := fun a b => decide (a ≤ b)) fun a _ b _ => (leD_T a b).symm, mergeSort_rows l m hp hs]
theorem alike_T (a b : List Int) : PySem.W.alike (Tp .int a) (Tp .int b) = true := PySem.W.alike_ints a b
theorem sortB_T (l : List (List Int)) (hl : l.length ≤ 16777216) (h : l.length ≤ 1 ∨ ∀ w ∈ l, w ≠ []) : sortB (l.map (Tp PyData.int)) = true := by
  unfold sortB
  have h1 : immAll (l.map (Tp PyData.int)) = true := immAll_map l
  have h2 : alikeAll2 (l.map (Tp PyData.int)) = true := by
    unfold alikeAll2
    rw [List.all_eq_true]
    intro x hx
    rw [List.all_eq_true]
    intro y hy
    obtain ⟨a, _, rfl⟩ := List.mem_map.mp hx
    obtain ⟨b, _, rfl⟩ := List.mem_map.mp hy
    exact alike_T a b
  have h3 : PyData.depthAll (l.map (Tp PyData.int)) ≤ 50 := Nat.le_trans (depthAll_map l) (by decide)
  have h4 : lenOk (l.map (Tp PyData.int)).length = true := lenOk_of (by rw [List.length_map]; exact hl)
  rw [h1, h2, decide_eq_true h3, h4]
  simp only [Bool.true_and, Bool.or_eq_true, decide_eq_true_eq, List.length_map]
  rcases h with h | h
  · exact .inl (.inl h)
  · refine .inl (.inr ?_)
    rw [List.all_eq_true]
    intro x hx
    obtain ⟨a, ha, rfl⟩ := List.mem_map.mp hx
    have := h a ha
    cases a with
    | nil => exact absurd rfl this
    | cons a r => rfl
end PV
set_option Elab.async false
set_option linter.all false
set_option maxRecDepth 100000
/-! PW7: texts, as lists of code points. -/
namespace PV
open PySem
def Sx (l : List Nat) : D := .str ⟨l.toArray⟩
instance : Enc Sx 0 := ⟨fun _ => rfl, fun a b => by
  simp only [Sx, PyData.eqv]
  rw [beq_dec]
  exact decide_eq_decide.mpr ⟨fun h => by injection h with h; exact congrArg Array.toList h, fun h => by rw [h]⟩, fun _ => by simp [Sx, PyData.depth]⟩
/-- one sign -/
def Sg (c : Nat) : D := .str ⟨#[c]⟩
instance : Enc Sg 0 := ⟨fun _ => rfl, fun a b => by
  simp only [Sg, PyData.eqv]
  rw [beq_dec]
  exact decide_eq_decide.mpr ⟨fun h => by injection h with h; exact List.head_eq_of_cons_eq (congrArg Array.toList h), fun h => by rw [h]⟩, fun _ => by simp [Sg, PyData.depth]⟩
theorem imm_Sx {l : List Nat} : imm (Sx l) = true := Eq.trans rfl rfl
theorem imm_Sg {l : Nat} : imm (Sg l) = true := Eq.trans rfl rfl
theorem flat_Sx {l : List Nat} : flat (Sx l) = true := Eq.trans rfl rfl
theorem flat_Sg {l : Nat} : flat (Sg l) = true := Eq.trans rfl rfl
theorem len_S (l : List Nat) : (⟨l.toArray⟩ : Str).length = l.length := List.size_toArray
theorem lenOk_q {n : Nat} : lenOk n = decide (n ≤ 16777216) := by
  have : sizeLine = 16777216 := by decide
  unfold lenOk
  rw [this]
theorem w2_addS {a b : List Nat} {K : D → Prop} : w2 .add (Sx a) (Sx b) K = (a.length + b.length ≤ 16777216 ∧ K (Sx (a ++ b))) := by
  simp only [w2, op2, Sx, len_S, lenOk_q]
  have e : (⟨a.toArray⟩ ++ ⟨b.toArray⟩ : Str) = ⟨(a ++ b).toArray⟩ := congrArg Str.mk (List.append_toArray a b)
  by_cases h : a.length + b.length ≤ 16777216 <;> simp [h, e]
theorem w2_addSg {a : List Nat} {b : Nat} {K : D → Prop} : w2 .add (Sx a) (Sg b) K = (a.length + 1 ≤ 16777216 ∧ K (Sx (a ++ [b]))) := w2_addS (b := [b])
theorem wbi_lenS {a : List Nat} {K : D → Prop} : wbi .len [Sx a] K = (a.length ≤ 16777216 ∧ K (.int a.length)) := by
  simp only [wbi, bi, Sx, len_S, lenOk_q]
  by_cases h : a.length ≤ 16777216 <;> simp [h]
theorem wits_Sx {a : List Nat} {K : List D → Prop} : wits (Sx a) K = K (a.map Sg) := rfl
theorem wslc_S {a : List Nat} {lo hi : Option Int} {K : D → Prop} : wslc (Sx a) lo hi K = (a.length ≤ 16777216 ∧ K (Sx (cut a lo hi))) := by
  simp only [wslc, slc, Sx, len_S, lenOk_q]
  by_cases h : a.length ≤ 16777216 <;> simp [h]
theorem sub_S {a : List Nat} {i : Int} (h : a.length ≤ 16777216) (h2 : inR a.length i) : sub (Sx a) (.int i) = .ok (Sg (pyg a i)) := by
  have e : (ixN a.length i).bind (fun j => a[j]?) = some (pyg a i) := by
    rw [ixN_of h2]
    obtain ⟨q1, q2⟩ := h2
    have e : ∀ j : Nat, j < a.length → a[j]? = some (a.getD j default) := fun j hj => by
      rw [List.getD_eq_getElem?_getD, List.getElem?_eq_getElem hj]; rfl
    unfold pyg
    by_cases h0 : 0 ≤ i
    · rw [if_pos h0, if_pos h0]; exact e _ (by omega)
    · rw [if_neg h0, if_neg h0]; exact e _ (by omega)
  show (if lenOk (⟨a.toArray⟩ : Str).length then (match (ixN a.length i).bind fun j => a[j]? with | some c => Res.ok (PyData.str ⟨#[c]⟩) | none => .stuck) else .stuck) = _
  rw [e, len_S, lenOk_q, if_pos (by simpa using h)]
  rfl
theorem sub_S1 {a : List Nat} {i : Int} (h : ¬ (a.length ≤ 16777216 ∧ inR a.length i)) : sub (Sx a) (.int i) = .stuck := by
  show (if lenOk (⟨a.toArray⟩ : Str).length then (match (ixN a.length i).bind fun j => a[j]? with | some c => Res.ok (PyData.str ⟨#[c]⟩) | none => .stuck) else .stuck) = _
  rw [len_S, lenOk_q]
  by_cases h1 : a.length ≤ 16777216
  · rw [ixN_not fun q => h ⟨h1, q⟩]
    exact ite_self _
  · rw [if_neg (by simpa using h1)]
theorem wsub_S {a : List Nat} {i : Int} {K : D → Prop} : wsub (Sx a) (.int i) K = (a.length ≤ 16777216 ∧ inR a.length i ∧ K (Sg (pyg a i))) := by
  unfold wsub
  by_cases h : a.length ≤ 16777216 ∧ inR a.length i
  · rw [sub_S h.1 h.2]; simp [h]
  · rw [sub_S1 h]
    simp only [eq_iff_iff, false_iff]
    exact fun q => h ⟨q.1, q.2.1⟩
theorem w2_inS {a : List Nat} {c : Nat} {K : D → Prop} : w2 .inn (Sg c) (Sx a) K = K (.bool (decide (c ∈ a))) := by
  have := StrLaws.found_one ⟨a.toArray⟩ c
  show K (.bool (!(Builtin.Str.occurrences _ _ 0 _ 1).isEmpty)) = _
  rw [this]
theorem w2_ninS {a : List Nat} {c : Nat} {K : D → Prop} : w2 .nin (Sg c) (Sx a) K = K (.bool (!decide (c ∈ a))) := by
  have := StrLaws.found_one ⟨a.toArray⟩ c
  show K (.bool (!(!(Builtin.Str.occurrences _ _ 0 _ 1).isEmpty))) = _
  rw [this]
theorem w2_ltS {a b : List Nat} {K : D → Prop} : w2 .lt (Sx a) (Sx b) K = K (.bool (decide (a < b))) := by
  have e : PySem.W.dataLt (Sx a) (Sx b) = decide (a < b) := PySem.W.dataLt_str _ _
  have e2 : ltOk (Sx a) (Sx b) = true := by
    simp [ltOk, Sx, PyData.depth, PySem.W.alike]
  simp only [w2, op2, Sx] at e e2 ⊢
  rw [e2, e]
  rfl
theorem w2_isN0 {K : D → Prop} : w2 .isN .none .none K = K (.bool true) := rfl
theorem w2_isNi {i : Int} {K : D → Prop} : w2 .isN (.int i) .none K = K (.bool false) := rfl
theorem w2_isNs {x : Str} {K : D → Prop} : w2 .isN (.str x) .none K = K (.bool false) := rfl
theorem w2_isNS {l : List Nat} {K : D → Prop} : w2 .isN (Sx l) .none K = K (.bool false) := rfl
theorem w2_isNt {l : List D} {K : D → Prop} : w2 .isN (.tuple l) .none K = K (.bool false) := rfl
theorem w2_isNl {l : List D} {K : D → Prop} : w2 .isN (.list l) .none K = K (.bool false) := rfl
theorem w2_isNT {α : Type} {f : α → D} {l : List α} {K : D → Prop} : w2 .isN (Tp f l) .none K = K (.bool false) := rfl
theorem w2_isNL {α : Type} {f : α → D} {l : List α} {K : D → Prop} : w2 .isN (Ls f l) .none K = K (.bool false) := rfl
theorem w2_ntN0 {K : D → Prop} : w2 .ntN .none .none K = K (.bool false) := rfl
theorem w2_ntNi {i : Int} {K : D → Prop} : w2 .ntN (.int i) .none K = K (.bool true) := rfl
theorem w2_ntNs {x : Str} {K : D → Prop} : w2 .ntN (.str x) .none K = K (.bool true) := rfl
theorem w2_ntNS {l : List Nat} {K : D → Prop} : w2 .ntN (Sx l) .none K = K (.bool true) := rfl
theorem w2_ntNt {l : List D} {K : D → Prop} : w2 .ntN (.tuple l) .none K = K (.bool true) := rfl
theorem w2_ntNl {l : List D} {K : D → Prop} : w2 .ntN (.list l) .none K = K (.bool true) := rfl
theorem w2_ntNT {α : Type} {f : α → D} {l : List α} {K : D → Prop} : w2 .ntN (Tp f l) .none K = K (.bool true) := rfl
theorem w2_ntNL {α : Type} {f : α → D} {l : List α} {K : D → Prop} : w2 .ntN (Ls f l) .none K = K (.bool true) := rfl
end PV
set_option Elab.async false
set_option linter.all false
set_option maxRecDepth 100000
/-! PW8: lists and tuples times a number; more. -/
namespace PV
open PySem
theorem flat_rep {α : Type} (a : α) : ∀ n : Nat, (List.replicate n [a]).flatten = List.replicate n a
  | 0 => rfl
  | n + 1 => by rw [List.replicate_succ, List.flatten_cons, flat_rep a n]; rfl
theorem map_flat_rep {α : Type} (f : α → D) (l : List α) (n : Nat) : (List.replicate n (l.map f)).flatten = ((List.replicate n l).flatten).map f := by
  rw [List.map_flatten, List.map_replicate]
theorem w2_repL {α : Type} {f : α → D} {l : List α} {n : Int} {K : D → Prop} : w2 .mul (Ls f l) (.int n) K = (l.length * n.toNat ≤ 16777216 ∧ -9223372036854775808 ≤ n ∧ n < 9223372036854775808 ∧ K (Ls f (List.replicate n.toNat l).flatten)) := by
  simp only [w2, op2, Ls, List.length_map, lenOk_q, map_flat_rep]
  by_cases h : l.length * n.toNat ≤ 16777216 <;> by_cases h2 : -9223372036854775808 ≤ n ∧ n < 9223372036854775808 <;> simp [h, h2] <;> omega
theorem w2_rep1 {x n : Int} {K : D → Prop} : w2 .mul (PyData.list [.int x]) (.int n) K = (n.toNat ≤ 16777216 ∧ -9223372036854775808 ≤ n ∧ n < 9223372036854775808 ∧ K (Ls .int (List.replicate n.toNat x))) := by
  show w2 .mul (Ls .int [x]) (.int n) K = _
  rw [w2_repL, flat_rep]
  simp
theorem w2_repT {α : Type} {f : α → D} {l : List α} {n : Int} {K : D → Prop} : w2 .mul (Tp f l) (.int n) K = (l.length ≤ 1000 ∧ -9223372036854775808 ≤ n ∧ n ≤ 1000 ∧ K (Tp f (List.replicate n.toNat l).flatten)) := by
  simp only [w2, op2, Tp, List.length_map, map_flat_rep]
  by_cases h : l.length ≤ 1000 ∧ -9223372036854775808 ≤ n ∧ n ≤ 1000 <;> simp [h] <;> omega
theorem w2_repT1 {x n : Int} {K : D → Prop} : w2 .mul (PyData.tuple [.int x]) (.int n) K = (-9223372036854775808 ≤ n ∧ n ≤ 1000 ∧ K (Tp .int (List.replicate n.toNat x))) := by
  show w2 .mul (Tp .int [x]) (.int n) K = _
  rw [w2_repT, flat_rep]
  simp
end PV
set_option Elab.async false
set_option linter.all false
set_option maxRecDepth 100000
/-! PW9: a law's body in parts; pairs. -/
namespace PV
open PySem
/-- what is left of a body behind n statements -/
def tailS : Nat → Ss → Ss
  | 0, s => s
  | n + 1, .cons _ r => tailS n r
  | _ + 1, .nil => .nil
/-- a law's end -/
def LP (o : Out) (ρ : Env) : Prop := 1 ≤ ρ.length ∧ match o with
  | .ret d => d = .bool true
  | .nx => PyData.none = .bool true
  | _ => False
theorem LP_r {d : D} {ρ : Env} : LP (.ret d) ρ = (1 ≤ ρ.length ∧ d = .bool true) := rfl
theorem prI {x y : Int} : PyData.tuple [.int x, .int y] = Pr PyData.int PyData.int (x, y) := rfl
theorem prT {α β : Type} {f : α → D} {g : β → D} {a : List α} {b : List β} : PyData.tuple [Tp f a, Tp g b] = Pr (Tp f) (Tp g) (a, b) := rfl
theorem all_imm {α : Type} [DecidableEq α] {f : α → D} {k : Nat} [Enc f k] (l : List α) : (l.map f).all imm = true := by
  rw [List.all_eq_true]
  intro d hd
  obtain ⟨a, _, rfl⟩ := List.mem_map.mp hd
  exact imm_enc a


theorem any_map {α : Type} (p : α → Bool) (l : List α) : ((l.map p).any id) = l.any p := by rw [List.any_map]; rfl
theorem all_map {α : Type} (p : α → Bool) (l : List α) : ((l.map p).all id) = l.all p := by rw [List.all_map]; rfl
end PV
set_option maxRecDepth 100000
namespace K03
open PySem PV
-- const MOST 40
-- io 8 [0]
-- io 7 [0]
/-- check_partition: shape, at, part -/
def c0 : Fn := ⟨1, 3, (.cons (.for [1, 2] false (.enum (.var 0)) (.cons (.iff (.or (.op2 .lt (.var 2) (.int 1)) (.and (.op2 .gt (.var 1) (.int 0)) (.op2 .gt (.var 2) (.sub (.var 0) (.op2 .sub (.var 1) (.int 1)))))) (.cons (.raise2 1 "parts" (.var 1)) .nil) .nil) .nil)) (.cons (.iff (.op2 .gt (.bi .sum (.cons (.var 0) .nil)) (.int 40)) (.cons (.raise1 1 "large") .nil) .nil) .nil))⟩
def n0 : List Str := ["shape", "at", "part"]
/-- columns_of: shape, k, part -/
def c1 : Fn := ⟨1, 3, (.cons (.ret (.bi .tup (.cons (.comp (.bi .len (.cons (.comp (.var 2) [2] true (.seq (.var 0)) (.cons (.op2 .gt (.var 2) (.var 1)) .nil) [2]) .nil)) [1] true (.r1 (.ite (.op2 .gt (.bi .len (.cons (.var 0) .nil)) (.int 0)) (.sub (.var 0) (.int 0)) (.int 0))) .nil [1]) .nil))) .nil)⟩
def n1 : List Str := ["shape", "k", "part"]
/-- frobenius: shape, down, many, k -/
def c2 : Fn := ⟨1, 4, (.cons (.ex (.call 0 (.cons (.var 0) .nil))) (.cons (.asg 1 (.call 1 (.cons (.var 0) .nil))) (.cons (.asg 2 (.bi .len (.cons (.comp (.var 3) [3] true (.r1 (.bi .len (.cons (.var 0) .nil))) (.cons (.op2 .gt (.sub (.var 0) (.var 3)) (.var 3)) .nil) [3]) .nil))) (.cons (.ret (.tup (.cons (.bi .tup (.cons (.comp (.op2 .sub (.op2 .sub (.sub (.var 0) (.var 3)) (.var 3)) (.int 1)) [3] true (.r1 (.var 2)) .nil [3]) .nil)) (.cons (.bi .tup (.cons (.comp (.op2 .sub (.op2 .sub (.sub (.var 1) (.var 3)) (.var 3)) (.int 1)) [3] true (.r1 (.var 2)) .nil [3]) .nil)) .nil)))) .nil))))⟩
def n2 : List Str := ["shape", "down", "many", "k"]
/-- from_frobenius: arms, legs, many, rows, r, value, k -/
def c3 : Fn := ⟨2, 7, (.cons (.asg 2 (.bi .len (.cons (.var 0) .nil))) (.cons (.iff (.or (.op2 .ne (.bi .len (.cons (.var 1) .nil)) (.var 2)) (.bi .any (.cons (.comp (.op2 .lt (.var 5) (.int 0)) [5] true (.seq (.op2 .add (.var 0) (.var 1))) .nil [5]) .nil))) (.cons (.raise1 1 "arms") .nil) .nil) (.cons (.iff (.bi .any (.cons (.comp (.or (.op2 .le (.sub (.var 0) (.var 6)) (.sub (.var 0) (.op2 .add (.var 6) (.int 1)))) (.op2 .le (.sub (.var 1) (.var 6)) (.sub (.var 1) (.op2 .add (.var 6) (.int 1))))) [6] true (.r1 (.op2 .sub (.var 2) (.int 1))) .nil [6]) .nil)) (.cons (.raise1 1 "arms") .nil) .nil) (.cons (.iff (.op2 .gt (.op2 .add (.op2 .add (.bi .sum (.cons (.var 0) .nil)) (.bi .sum (.cons (.var 1) .nil))) (.var 2)) (.int 40)) (.cons (.raise1 1 "large") .nil) .nil) (.cons (.asg 3 (.comp (.op2 .add (.op2 .add (.sub (.var 0) (.var 6)) (.var 6)) (.int 1)) [6] true (.r1 (.var 2)) .nil [6])) (.cons (.for [4] true (.r2 (.var 2) (.ite (.op2 .gt (.var 2) (.int 0)) (.op2 .add (.sub (.var 1) (.int 0)) (.int 1)) (.int 0))) (.cons (.app 3 (.bi .len (.cons (.comp (.var 6) [6] true (.r1 (.var 2)) (.cons (.op2 .ge (.op2 .add (.sub (.var 1) (.var 6)) (.var 6)) (.var 4)) .nil) [6]) .nil))) .nil)) (.cons (.ret (.bi .tup (.cons (.var 3) .nil))) .nil)))))))⟩
def n3 : List Str := ["arms", "legs", "many", "rows", "r", "value", "k"]
/-- edge_word: shape, told, at, part -/
def c4 : Fn := ⟨1, 4, (.cons (.ex (.call 0 (.cons (.var 0) .nil))) (.cons (.asg 1 (.lst .nil)) (.cons (.asg 2 (.int 0)) (.cons (.for [3] true (.rv (.var 0)) (.cons (.ext 1 (.op2 .mul (.lst (.cons (.int 0) .nil)) (.op2 .sub (.var 3) (.var 2)))) (.cons (.app 1 (.int 1)) (.cons (.asg 2 (.var 3)) .nil)))) (.cons (.ret (.bi .tup (.cons (.var 1) .nil))) .nil)))))⟩
def n4 : List Str := ["shape", "told", "at", "part"]
/-- shape_of_edge: word, rows, at, step, told -/
def c5 : Fn := ⟨1, 5, (.cons (.asg 1 (.lst .nil)) (.cons (.asg 2 (.int 0)) (.cons (.for [3] true (.seq (.var 0)) (.cons (.iff (.op2 .eq (.var 3) (.int 0)) (.cons (.asg 2 (.op2 .add (.var 2) (.int 1))) .nil) (.cons (.iff (.op2 .gt (.var 2) (.int 0)) (.cons (.app 1 (.var 2)) .nil) .nil) .nil)) .nil)) (.cons (.asg 4 (.bi .tup (.cons (.rev (.var 1)) .nil))) (.cons (.ex (.call 0 (.cons (.var 4) .nil))) (.cons (.ret (.var 4)) .nil))))))⟩
def n5 : List Str := ["word", "rows", "at", "step", "told"]
/-- _law_begin: script, seed, cell -/
def c6 : Fn := ⟨1, 3, (.cons (.asg 1 (.int 3)) (.cons (.for [2] true (.scr 0) (.cons (.asg 1 (.op2 .mod (.op2 .add (.op2 .add (.op2 .mul (.var 1) (.int 48271)) (.op2 .mod (.bi .int (.cons (.var 2) .nil)) (.int 2147483629))) (.int 5)) (.int 2147483647))) .nil)) (.cons (.ret (.lst (.cons (.scrL 0) (.cons (.int 0) (.cons (.int 0) (.cons (.var 1) .nil)))))) .nil)))⟩
def n6 : List Str := ["script", "seed", "cell"]
/-- _law_take: d, many, small, digit -/
def c7 : Fn := ⟨2, 4, (.cons (.iff (.and (.op2 .eq (.sub (.var 0) (.int 2)) (.int 0)) (.op2 .lt (.sub (.var 0) (.int 1)) (.bi .len (.cons (.sub (.var 0) (.int 0)) .nil)))) (.cons (.setv 0 (.int 2) (.bi .abs (.cons (.bi .int (.cons (.sub (.sub (.var 0) (.int 0)) (.sub (.var 0) (.int 1))) .nil)) .nil))) (.cons (.setv 0 (.int 1) (.op2 .add (.sub (.var 0) (.int 1)) (.int 1))) (.cons (.iff (.op2 .lt (.sub (.var 0) (.int 2)) (.op2 .pow (.int 10) (.int 18))) (.cons (.asg 2 (.bi .int (.cons (.sub (.var 0) (.int 2)) .nil))) (.cons (.setv 0 (.int 2) (.int 0)) (.cons (.ret (.op2 .mod (.var 2) (.var 1))) .nil))) .nil) .nil))) .nil) (.cons (.iff (.op2 .gt (.sub (.var 0) (.int 2)) (.int 0)) (.cons (.asg 3 (.op2 .mod (.bi .int (.cons (.sub (.var 0) (.int 2)) .nil)) (.var 1))) (.cons (.setv 0 (.int 2) (.op2 .fdiv (.bi .int (.cons (.sub (.var 0) (.int 2)) .nil)) (.var 1))) (.cons (.ret (.var 3)) .nil))) .nil) (.cons (.setv 0 (.int 3) (.op2 .mod (.bi .int (.cons (.op2 .add (.op2 .mul (.sub (.var 0) (.int 3)) (.int 69621)) (.int 13)) .nil)) (.int 2147483647))) (.cons (.ret (.op2 .mod (.bi .int (.cons (.op2 .fdiv (.sub (.var 0) (.int 3)) (.int 7)) .nil)) (.var 1))) .nil))))⟩
def n7 : List Str := ["d", "many", "small", "digit"]
/-- _law_partition: d, most, left, row, top, turn, part -/
def c8 : Fn := ⟨2, 7, (.cons (.asg 2 (.call 7 (.cons (.ref 0) (.cons (.op2 .add (.var 1) (.int 1)) .nil)))) (.cons (.asg 3 (.lst .nil)) (.cons (.asg 4 (.var 2)) (.cons (.for [5] true (.r1 (.var 1)) (.cons (.iff (.op2 .eq (.var 2) (.int 0)) (.cons .brk .nil) .nil) (.cons (.asg 6 (.op2 .add (.int 1) (.call 7 (.cons (.ref 0) (.cons (.bi .min2 (.cons (.var 2) (.cons (.var 4) .nil))) .nil))))) (.cons (.iff (.op2 .eq (.call 7 (.cons (.ref 0) (.cons (.int 3) .nil))) (.int 0)) (.cons (.asg 6 (.bi .min2 (.cons (.var 2) (.cons (.var 4) .nil)))) .nil) .nil) (.cons (.app 3 (.var 6)) (.cons (.asg 4 (.var 6)) (.cons (.asg 2 (.op2 .sub (.var 2) (.var 6))) .nil))))))) (.cons (.ret (.bi .tup (.cons (.var 3) .nil))) .nil)))))⟩
def n8 : List Str := ["d", "most", "left", "row", "top", "turn", "part"]
/-- _law_cell_list: shape, told, r, c -/
def c9 : Fn := ⟨1, 4, (.cons (.asg 1 (.lst .nil)) (.cons (.for [2] true (.r1 (.bi .len (.cons (.var 0) .nil))) (.cons (.ext 1 (.comp (.tup (.cons (.var 2) (.cons (.var 3) .nil))) [3] true (.r1 (.sub (.var 0) (.var 2))) .nil [3])) .nil)) (.cons (.ret (.var 1)) .nil)))⟩
def n9 : List Str := ["shape", "told", "r", "c"]
/-- _law_shape_of_cells: cells, rows, r, many, cell -/
def c10 : Fn := ⟨1, 5, (.cons (.asg 1 (.lst .nil)) (.cons (.for [2] true (.r1 (.int 50)) (.cons (.asg 3 (.bi .len (.cons (.comp (.var 4) [4] true (.seq (.var 0)) (.cons (.op2 .eq (.sub (.var 4) (.int 0)) (.var 2)) .nil) [4]) .nil))) (.cons (.iff (.op2 .eq (.var 3) (.int 0)) (.cons .brk .nil) .nil) (.cons (.app 1 (.var 3)) .nil)))) (.cons (.ret (.bi .tup (.cons (.var 1) .nil))) .nil)))⟩
def n10 : List Str := ["cells", "rows", "r", "many", "cell"]
/-- _law_turned_shape: shape, r, c -/
def c11 : Fn := ⟨1, 3, (.cons (.ret (.call 10 (.cons (.comp (.tup (.cons (.var 2) (.cons (.var 1) .nil))) [1, 2] false (.seq (.call 9 (.cons (.var 0) .nil))) .nil [1, 2]) .nil))) .nil)⟩
def n11 : List Str := ["shape", "r", "c"]
/-- _law_back: arms, legs, e -/
def c12 : Fn := ⟨2, 3, (.cons (.try_ 2 (.cons (.ret (.call 3 (.cons (.var 0) (.cons (.var 1) .nil)))) .nil) [(1, 0)]) .nil)⟩
def n12 : List Str := ["arms", "legs", "e"]
/-- _law_edge: shape, word, turned, r, c, turn -/
def c13 : Fn := ⟨1, 6, (.cons (.asg 1 (.lst .nil)) (.cons (.asg 2 (.call 11 (.cons (.var 0) .nil))) (.cons (.asg 3 (.bi .len (.cons (.var 0) .nil))) (.cons (.asg 4 (.int 0)) (.cons (.for [5] true (.r1 (.op2 .add (.bi .len (.cons (.var 0) .nil)) (.bi .len (.cons (.var 2) .nil)))) (.cons (.iff (.and (.op2 .lt (.var 4) (.bi .len (.cons (.var 2) .nil))) (.op2 .eq (.sub (.var 2) (.var 4)) (.var 3))) (.cons (.app 1 (.int 0)) (.cons (.asg 4 (.op2 .add (.var 4) (.int 1))) .nil)) (.cons (.app 1 (.int 1)) (.cons (.asg 3 (.op2 .sub (.var 3) (.int 1))) .nil))) .nil)) (.cons (.ret (.bi .tup (.cons (.var 1) .nil))) .nil))))))⟩
def n13 : List Str := ["shape", "word", "turned", "r", "c", "turn"]
/-- _law_shape_edge: word, e -/
def c14 : Fn := ⟨1, 2, (.cons (.try_ 1 (.cons (.ret (.call 5 (.cons (.var 0) .nil))) .nil) [(1, 0)]) .nil)⟩
def n14 : List Str := ["word", "e"]
/-- law: script, d, shape, turned, cells, many, arms, legs, word, longer, loose, rows, k, due, a, b, right, told, step, part, value, x, y -/
def c15 : Fn := ⟨1, 23, (.cons (.asg 1 (.call 6 (.cons (.scr 0) .nil))) (.cons (.asg 2 (.call 8 (.cons (.ref 1) (.cons (.int 40) .nil)))) (.cons (.asg 3 (.call 11 (.cons (.var 2) .nil))) (.cons (.asg 4 (.call 9 (.cons (.var 2) .nil))) (.cons (.asg 5 (.bi .len (.cons (.comp (.var 12) [12] true (.r1 (.bi .len (.cons (.var 2) .nil))) (.cons (.op2 .inn (.tup (.cons (.var 12) (.cons (.var 12) .nil))) (.var 4)) .nil) [12]) .nil))) (.cons (.asg 6 (.bi .tup (.cons (.comp (.op2 .sub (.op2 .sub (.sub (.var 2) (.var 12)) (.var 12)) (.int 1)) [12] true (.r1 (.var 5)) .nil [12]) .nil))) (.cons (.asg 7 (.bi .tup (.cons (.comp (.op2 .sub (.op2 .sub (.sub (.var 3) (.var 12)) (.var 12)) (.int 1)) [12] true (.r1 (.var 5)) .nil [12]) .nil))) (.cons (.iff (.or (.op2 .ne (.call 2 (.cons (.var 2) .nil)) (.tup (.cons (.var 6) (.cons (.var 7) .nil)))) (.or (.op2 .ne (.call 12 (.cons (.var 6) (.cons (.var 7) .nil))) (.var 2)) (.or (.op2 .ne (.call 2 (.cons (.var 3) .nil)) (.tup (.cons (.var 7) (.cons (.var 6) .nil)))) (.op2 .ne (.call 12 (.cons (.var 7) (.cons (.var 6) .nil))) (.var 3))))) (.cons (.ret (.bl false)) .nil) .nil) (.cons (.asg 8 (.call 4 (.cons (.var 2) .nil))) (.cons (.iff (.or (.op2 .ne (.var 8) (.call 13 (.cons (.var 2) .nil))) (.op2 .ne (.call 4 (.cons (.var 3) .nil)) (.bi .tup (.cons (.comp (.op2 .sub (.int 1) (.var 18)) [18] true (.seq (.rev (.var 8))) .nil [18]) .nil)))) (.cons (.ret (.bl false)) .nil) .nil) (.cons (.asg 9 (.op2 .add (.op2 .add (.op2 .mul (.tup (.cons (.int 1) .nil)) (.call 7 (.cons (.ref 1) (.cons (.int 4) .nil)))) (.var 8)) (.op2 .mul (.tup (.cons (.int 0) .nil)) (.call 7 (.cons (.ref 1) (.cons (.int 4) .nil)))))) (.cons (.iff (.or (.op2 .ne (.call 14 (.cons (.var 8) .nil)) (.var 2)) (.op2 .ne (.call 14 (.cons (.var 9) .nil)) (.var 2))) (.cons (.ret (.bl false)) .nil) .nil) (.cons (.asg 10 (.bi .tup (.cons (.comp (.call 7 (.cons (.ref 1) (.cons (.int 2) .nil))) [12] true (.r1 (.call 7 (.cons (.ref 1) (.cons (.int 16) .nil)))) .nil [12]) .nil))) (.cons (.asg 11 (.lst .nil)) (.cons (.for [12] true (.r1 (.bi .len (.cons (.var 10) .nil))) (.cons (.iff (.op2 .eq (.sub (.var 10) (.var 12)) (.int 1)) (.cons (.app 11 (.bi .len (.cons (.comp (.var 18) [18] true (.seq (.slc (.var 10) .none (.some (.var 12)))) (.cons (.op2 .eq (.var 18) (.int 0)) .nil) [18]) .nil))) .nil) .nil) .nil)) (.cons (.asg 13 (.bi .tup (.cons (.comp (.var 19) [19] true (.seq (.rev (.var 11))) (.cons (.op2 .gt (.var 19) (.int 0)) .nil) [19]) .nil))) (.cons (.iff (.op2 .ne (.call 14 (.cons (.var 10) .nil)) (.ite (.op2 .le (.bi .sum (.cons (.var 13) .nil)) (.int 40)) (.var 13) (.str "large"))) (.cons (.ret (.bl false)) .nil) .nil) (.cons (.asg 14 (.bi .tup (.cons (.comp (.op2 .sub (.call 7 (.cons (.ref 1) (.cons (.int 9) .nil))) (.int 1)) [12] true (.r1 (.call 7 (.cons (.ref 1) (.cons (.int 4) .nil)))) .nil [12]) .nil))) (.cons (.asg 15 (.bi .tup (.cons (.comp (.op2 .sub (.call 7 (.cons (.ref 1) (.cons (.int 9) .nil))) (.int 1)) [12] true (.r1 (.op2 .add (.bi .len (.cons (.var 14) .nil)) (.ite (.op2 .eq (.call 7 (.cons (.ref 1) (.cons (.int 6) .nil))) (.int 0)) (.int 1) (.int 0)))) .nil [12]) .nil))) (.cons (.iff (.op2 .eq (.call 7 (.cons (.ref 1) (.cons (.int 2) .nil))) (.int 0)) (.cons (.asg 14 (.bi .tup (.cons (.rev (.sset (.var 14))) .nil))) (.cons (.asg 15 (.bi .tup (.cons (.rev (.sset (.var 15))) .nil))) .nil)) .nil) (.cons (.asg 16 (.and (.op2 .eq (.bi .len (.cons (.var 14) .nil)) (.bi .len (.cons (.var 15) .nil))) (.bi .all (.cons (.comp (.op2 .ge (.var 20) (.int 0)) [20] true (.seq (.op2 .add (.var 14) (.var 15))) .nil [20]) .nil)))) (.cons (.asg 16 (.and (.var 16) (.and (.bi .all (.cons (.comp (.op2 .gt (.var 21) (.var 22)) [21, 22] false (.zip (.var 14) (.slc (.var 14) (.some (.int 1)) .none)) .nil [21, 22]) .nil)) (.bi .all (.cons (.comp (.op2 .gt (.var 21) (.var 22)) [21, 22] false (.zip (.var 15) (.slc (.var 15) (.some (.int 1)) .none)) .nil [21, 22]) .nil))))) (.cons (.asg 17 (.call 12 (.cons (.var 14) (.cons (.var 15) .nil)))) (.cons (.iff (.op1 .nt (.var 16)) (.cons (.ret (.op2 .eq (.var 17) (.str "arms"))) .nil) .nil) (.cons (.ret (.ite (.op2 .gt (.op2 .add (.op2 .add (.bi .sum (.cons (.var 14) .nil)) (.bi .sum (.cons (.var 15) .nil))) (.bi .len (.cons (.var 14) .nil))) (.int 40)) (.op2 .eq (.var 17) (.str "large")) (.op2 .eq (.call 2 (.cons (.var 17) .nil)) (.tup (.cons (.var 14) (.cons (.var 15) .nil)))))) .nil)))))))))))))))))))))))))⟩
def n15 : List Str := ["script", "d", "shape", "turned", "cells", "many", "arms", "legs", "word", "longer", "loose", "rows", "k", "due", "a", "b", "right", "told", "step", "part", "value", "x", "y"]
def fs : List Fn := [c0, c1, c2, c3, c4, c5, c6, c7, c8, c9, c10, c11, c12, c13, c14, c15]
-- law 15
end K03
set_option Elab.async false
set_option linter.all false
set_option maxRecDepth 100000
set_option maxHeartbeats 1000000
/-! QP: partitions as lists, turned; plain. -/
namespace PT
open PySem PV
def g (l : List Int) (k : Nat) : Int := l.getD k 0
/-- a partition -/
structure Pt (l : List Int) : Prop where
  fall : l.Pairwise (· ≥ ·)
  pos : ∀ x ∈ l, 1 ≤ x
theorem g_0 (x : Int) (l : List Int) : g (x :: l) 0 = x := rfl
theorem g_s (x : Int) (l : List Int) (k : Nat) : g (x :: l) (k + 1) = g l k := by simp [g]
theorem g_nil (k : Nat) : g [] k = 0 := by simp [g]
theorem g_out {l : List Int} {k : Nat} (h : l.length ≤ k) : g l k = 0 := by
  unfold g; rw [List.getD_eq_getElem?_getD, List.getElem?_eq_none h]; rfl
theorem g_in {l : List Int} {k : Nat} (h : k < l.length) : g l k = l[k] := by
  unfold g; rw [List.getD_eq_getElem?_getD, List.getElem?_eq_getElem h]; rfl
theorem g_some {l : List Int} {k : Nat} {x : Int} (h : l[k]? = some x) : g l k = x := by
  unfold g; rw [List.getD_eq_getElem?_getD, h]; rfl
theorem g_mem {l : List Int} {k : Nat} (h : k < l.length) : g l k ∈ l := by rw [g_in h]; exact List.getElem_mem h
theorem g_pyg {l : List Int} {i : Int} (h : 0 ≤ i) : pyg l i = g l i.toNat := by
  unfold pyg g; rw [if_pos h]; rfl
theorem g_ext {s t : List Int} (hl : s.length = t.length) (h : ∀ k, k < s.length → g s k = g t k) : s = t := by
  apply List.ext_getElem hl
  intro i h1 h2
  have := h i h1
  rwa [g_in h1, g_in h2] at this
theorem g_map (n : Nat) (f : Nat → Int) (k : Nat) : g ((List.range n).map f) k = if k < n then f k else 0 := by
  unfold g
  rw [List.getD_eq_getElem?_getD, List.getElem?_map]
  by_cases h : k < n
  · rw [List.getElem?_range h, if_pos h]; rfl
  · rw [List.getElem?_eq_none (by simpa using h), if_neg h]; rfl
theorem Pt.nn {l : List Int} (h : Pt l) (k : Nat) : 0 ≤ g l k := by
  by_cases q : k < l.length
  · have := h.pos _ (g_mem q); omega
  · rw [g_out (by omega)]; exact Int.le_refl _
theorem Pt.pos_iff {l : List Int} (h : Pt l) (k : Nat) : 0 < g l k ↔ k < l.length := by
  constructor
  · intro q
    refine Nat.lt_of_not_le fun z => ?_
    rw [g_out z] at q; omega
  · intro q
    have := h.pos _ (g_mem q); omega
theorem Pt.anti {l : List Int} (h : Pt l) {i j : Nat} (hij : i ≤ j) : g l j ≤ g l i := by
  by_cases q : j < l.length
  · by_cases e : i = j
    · rw [e]; exact Int.le_refl _
    · rw [g_in q, g_in (by omega)]
      exact List.pairwise_iff_getElem.mp h.fall i j (by omega) q (by omega)
  · rw [g_out (by omega)]; exact h.nn i
theorem Pt.nil : Pt [] := ⟨.nil, fun _ h => by cases h⟩
theorem Pt.tail {x : Int} {l : List Int} (h : Pt (x :: l)) : Pt l := ⟨(List.pairwise_cons.mp h.fall).2, fun y hy => h.pos y (List.mem_cons_of_mem _ hy)⟩
theorem Pt.hd {x : Int} {l : List Int} (h : Pt (x :: l)) : g l 0 ≤ x ∧ 1 ≤ x := by
  have := h.anti (i := 0) (j := 1) (by omega)
  rw [g_s, g_0] at this
  exact ⟨this, h.pos x List.mem_cons_self⟩
/-- by the items -/
theorem Pt.of {l : List Int} (h : ∀ k, k + 1 < l.length → g l (k + 1) ≤ g l k) (hp : ∀ k, k < l.length → 1 ≤ g l k) : Pt l := by
  refine ⟨?_, fun x hx => ?_⟩
  · rw [List.pairwise_iff_getElem]
    intro i j hi hj hij
    have key : ∀ d i : Nat, i + d < l.length → g l (i + d) ≤ g l i := by
      intro d
      induction d with
      | zero => intro i _; exact Int.le_refl _
      | succ d ih =>
        intro i hi
        have := ih i (by omega)
        have := h (i + d) (by omega)
        rw [show i + (d + 1) = i + d + 1 by omega]
        omega
    have := key (j - i) i (by omega)
    rw [show i + (j - i) = j by omega, g_in hj, g_in hi] at this
    exact this
  · obtain ⟨k, hk, rfl⟩ := List.mem_iff_getElem.mp hx
    rw [← g_in hk]; exact hp k hk
/-- the columns -/
def cnt (l : List Int) (k : Int) : Nat := l.countP fun x => decide (k < x)
def conj (l : List Int) : List Int := (List.range (g l 0).toNat).map fun k => (cnt l (k : Nat) : Int)
theorem cnt_lt {l : List Int} (h : Pt l) (j k : Nat) : j < cnt l (k : Int) ↔ (k : Int) < g l j := by
  induction l generalizing j with
  | nil => simp [cnt, g_nil]
  | cons x l ih =>
    have hx := h.hd
    have a := h.anti (i := 0) (j := j) (by omega)
    rw [g_0] at a
    unfold cnt at ih ⊢
    rw [List.countP_cons]
    by_cases q : (k : Int) < x
    · rw [decide_eq_true q, if_pos rfl]
      cases j with
      | zero => rw [g_0]; constructor <;> intro _ <;> omega
      | succ j => rw [g_s, ← ih h.tail j]; omega
    · rw [decide_eq_false q, if_neg Bool.false_ne_true]
      have z : (l.countP fun x => decide ((k : Int) < x)) = 0 := by
        rw [List.countP_eq_zero]
        intro y hy
        have := (List.pairwise_cons.mp h.fall).1 y hy
        simp; omega
      rw [z]
      constructor <;> intro _ <;> omega
theorem g_conj {l : List Int} (h : Pt l) (k : Nat) : g (conj l) k = (cnt l (k : Int) : Int) := by
  unfold conj
  rw [g_map]
  split
  · rfl
  · rename_i q
    have : ¬ 0 < cnt l (k : Int) := fun z => q (by have := (cnt_lt h 0 k).mp z; omega)
    omega
/-- a is l turned -/
def Tr (a l : List Int) : Prop := ∀ j k : Nat, (j : Int) < g a k ↔ (k : Int) < g l j
theorem conj_Tr {l : List Int} (h : Pt l) : Tr (conj l) l := fun j k => by
  rw [g_conj h, ← cnt_lt h j k]; omega
theorem Tr.symm {a l : List Int} (h : Tr a l) : Tr l a := fun j k => (h k j).symm
theorem conj_len (l : List Int) : (conj l).length = (g l 0).toNat := by simp [conj]
theorem conj_Pt {l : List Int} (h : Pt l) : Pt (conj l) := by
  have ht := conj_Tr h
  refine Pt.of (fun k _ => ?_) fun k hk => ?_
  · refine Int.not_lt.mp fun z => ?_
    have n0 : 0 ≤ g (conj l) k := by rw [g_conj h]; omega
    have e := (ht (g (conj l) k).toNat (k + 1)).mp (by omega)
    have := (ht (g (conj l) k).toNat k).mpr (by omega)
    omega
  · rw [conj_len] at hk
    have := (ht 0 k).mpr (by omega)
    omega
theorem Tr.uniq {a b l : List Int} (ha : Pt a) (hb : Pt b) (h1 : Tr a l) (h2 : Tr b l) : a = b := by
  have e : ∀ k, g a k = g b k := fun k => by
    have p := ha.nn k
    have q := hb.nn k
    refine Int.le_antisymm (Int.not_lt.mp fun z => ?_) (Int.not_lt.mp fun z => ?_)
    · have := (h2 (g b k).toNat k).mpr ((h1 (g b k).toNat k).mp (by omega)); omega
    · have := (h1 (g a k).toNat k).mpr ((h2 (g a k).toNat k).mp (by omega)); omega
  refine g_ext (Nat.le_antisymm (Nat.not_lt.mp fun z => ?_) (Nat.not_lt.mp fun z => ?_)) fun k _ => e k
  · have := (ha.pos_iff b.length).mpr z; rw [e, g_out (Nat.le_refl _)] at this; omega
  · have := (hb.pos_iff a.length).mpr z; rw [← e, g_out (Nat.le_refl _)] at this; omega
theorem conj_conj {l : List Int} (h : Pt l) : conj (conj l) = l :=
  Tr.uniq (conj_Pt (conj_Pt h)) h (conj_Tr (conj_Pt h)) (conj_Tr h).symm
/-- a row ahead -/
theorem conj_cons {p : Int} {r : List Int} (h : Pt (p :: r)) : conj (p :: r) = (conj r ++ List.replicate (p - g r 0).toNat 0).map (· + 1) := by
  have hp := h.hd
  have n0 := h.tail.nn 0
  refine g_ext (by rw [conj_len, List.length_map, List.length_append, conj_len, List.length_replicate, g_0]; omega) fun k hk => ?_
  rw [conj_len, g_0] at hk
  rw [g_conj h]
  have e1 : cnt (p :: r) (k : Int) = cnt r (k : Int) + 1 := by
    unfold cnt
    rw [List.countP_cons, decide_eq_true (by omega : (k : Int) < p), if_pos rfl]
  rw [e1]
  show _ = List.getD _ k 0
  rw [List.getD_eq_getElem?_getD, List.getElem?_map, List.getElem?_append]
  by_cases q : k < (conj r).length
  · rw [if_pos q, List.getElem?_eq_getElem q]
    simp only [Option.map_some, Option.getD_some]
    rw [← g_in q, g_conj h.tail]; omega
  · rw [if_neg q, List.getElem?_replicate, if_pos (by rw [conj_len] at q ⊢; omega)]
    have : g (conj r) k = 0 := g_out (by omega)
    rw [g_conj h.tail] at this
    simp only [Option.map_some, Option.getD_some]
    omega
end PT
set_option Elab.async false
set_option linter.all false
set_option maxRecDepth 100000
set_option maxHeartbeats 1000000
namespace K03
open PySem PV PT
/-- the way along the edge, from below -/
def ewS (s : List Int × Int) (p : Int) : List Int × Int := (s.1 ++ List.replicate (p - s.2).toNat 0 ++ [1], p)
def ewF (a : Int) (l : List Int) : List Int × Int := l.foldl ewS ([], a)
def ew (s : List Int) : List Int := (ewF 0 s.reverse).1
def rc (w : List Int) : List Int := w.reverse.map fun x => 1 - x
theorem ewS_q (w : List Int) (a p : Int) : ewS (w, a) p = (w ++ List.replicate (p - a).toNat 0 ++ [1], p) := rfl
theorem ewS_pre : ∀ (l w : List Int) (a : Int), l.foldl ewS (w, a) = (w ++ (ewF a l).1, (ewF a l).2)
  | [], w, a => by simp [ewF]
  | p :: l, w, a => by
    unfold ewF
    rw [List.foldl_cons, List.foldl_cons, ewS_q, ewS_q, List.nil_append, ewS_pre l, ewS_pre l (List.replicate (p - a).toNat 0 ++ [1])]
    simp only [List.append_assoc]
theorem ewF_last : ∀ (s : List Int), (ewF 0 s.reverse).2 = g s 0
  | [] => rfl
  | p :: r => by
    unfold ewF
    rw [List.reverse_cons, List.foldl_append]
    rfl
theorem ew_cons (p : Int) (r : List Int) : ew (p :: r) = ew r ++ List.replicate (p - g r 0).toNat 0 ++ [1] := by
  have := ewF_last r
  unfold ew ewF at *
  rw [List.reverse_cons, List.foldl_append, List.foldl_cons, List.foldl_nil]
  show _ ++ List.replicate (p - (List.foldl ewS ([], 0) r.reverse).2).toNat 0 ++ [1] = _
  rw [this]
theorem ew_nil : ew [] = [] := rfl
theorem ew_zeros (l : List Int) (m : Nat) : ew (l ++ List.replicate m 0) = List.replicate m 1 ++ ew l := by
  unfold ew
  rw [List.reverse_append, List.reverse_replicate]
  unfold ewF
  rw [List.foldl_append]
  have z : ∀ m : Nat, (List.replicate m (0 : Int)).foldl ewS ([], 0) = (List.replicate m 1, 0) := by
    intro m
    induction m with
    | zero => rfl
    | succ m ih =>
      rw [List.replicate_succ', List.foldl_append, ih, List.replicate_succ']
      simp [ewS]
  rw [z, ewS_pre]
  rfl
theorem ewF_up : ∀ (l : List Int) (a : Int), ewF (a + 1) (l.map (· + 1)) = ((ewF a l).1, (ewF a l).2 + 1)
  | [], a => rfl
  | p :: l, a => by
    unfold ewF
    rw [List.map_cons, List.foldl_cons, List.foldl_cons]
    have e1 : ewS ([], a + 1) (p + 1) = (List.replicate (p - a).toNat 0 ++ [1], p + 1) := by
      unfold ewS
      rw [show p + 1 - (a + 1) = p - a by omega]; rfl
    have e2 : ewS ([], a) p = (List.replicate (p - a).toNat 0 ++ [1], p) := rfl
    rw [e1, e2, ewS_pre, ewS_pre, ewF_up l p]
theorem ew_up (l : List Int) (hl : l ≠ []) (h0 : ∀ x ∈ l, 0 ≤ x) : ew (l.map (· + 1)) = 0 :: ew l := by
  obtain ⟨x, r, e⟩ : ∃ x r, l.reverse = x :: r := by
    cases h : l.reverse with
    | nil => exact absurd (List.reverse_eq_nil_iff.mp h) hl
    | cons x r => exact ⟨x, r, rfl⟩
  have hx : 0 ≤ x := h0 x (List.mem_reverse.mp (by rw [e]; exact List.mem_cons_self))
  unfold ew
  rw [← List.map_reverse, e]
  unfold ewF
  rw [List.map_cons, List.foldl_cons, List.foldl_cons]
  have e1 : ewS ([], 0) (x + 1) = (0 :: (List.replicate (x - 0).toNat 0 ++ [1]), x + 1) := by
    unfold ewS
    rw [show (x + 1 - 0).toNat = (x - 0).toNat + 1 by omega, List.replicate_succ]; rfl
  have e2 : ewS ([], 0) x = (List.replicate (x - 0).toNat 0 ++ [1], x) := rfl
  rw [e1, e2, ewS_pre, ewS_pre, ewF_up r x]
  rfl
theorem ew_conj : ∀ (s : List Int), Pt s → ew (conj s) = rc (ew s)
  | [], _ => rfl
  | p :: r, h => by
    have hp := h.hd
    have n0 := h.tail.nn 0
    rw [conj_cons h, ew_up _ ?_ ?_, ew_zeros, ew_conj r h.tail, ew_cons]
    · unfold rc
      simp
    · intro z
      have := congrArg List.length z
      simp [conj_len] at this
      omega
    · intro x hx
      rcases List.mem_append.mp hx with hx | hx
      · have := (conj_Pt h.tail).pos x hx; omega
      · rw [List.eq_of_mem_replicate hx]; exact Int.le_refl _
/-- back from a way -/
def seS (s : List Int × Int) (x : Int) : List Int × Int := if x = 0 then (s.1, s.2 + 1) else if 0 < s.2 then (s.1 ++ [s.2], s.2) else s
def se (w : List Int) : List Int := (w.foldl seS ([], 0)).1.reverse
theorem seS_inv : ∀ (w : List Int) (rows : List Int) (a : Int), Pt rows.reverse → 0 ≤ a → (∀ x ∈ rows, x ≤ a) → Pt (w.foldl seS (rows, a)).1.reverse
  | [], rows, a, h, _, _ => h
  | x :: w, rows, a, h, ha, hx => by
    rw [List.foldl_cons]
    unfold seS
    simp only
    split
    · exact seS_inv w rows (a + 1) h (by omega) fun y hy => by have := hx y hy; omega
    · split
      · rename_i ha0
        refine seS_inv w (rows ++ [a]) a ?_ ha fun y hy => ?_
        · rw [List.reverse_append]
          refine ⟨List.pairwise_cons.mpr ⟨fun y hy => hx y (List.mem_reverse.mp hy), h.fall⟩, fun y hy => ?_⟩
          rcases List.mem_cons.mp hy with rfl | hy
          · omega
          · exact h.pos y hy
        · rcases List.mem_append.mp hy with hy | hy
          · exact hx y hy
          · rw [List.mem_singleton.mp hy]; exact Int.le_refl _
      · exact seS_inv w rows a h ha hx
theorem se_Pt (w : List Int) : Pt (se w) := seS_inv w [] 0 Pt.nil (Int.le_refl _) fun x hx => by cases hx
theorem seS_zeros : ∀ (m : Nat) (rows : List Int) (a : Int), (List.replicate m 0).foldl seS (rows, a) = (rows, a + m)
  | 0, rows, a => by simp
  | m + 1, rows, a => by
    rw [List.replicate_succ, List.foldl_cons]
    have : seS (rows, a) 0 = (rows, a + 1) := rfl
    rw [this, seS_zeros m]
    congr 1
    omega
theorem seS_ones : ∀ (m : Nat) (rows : List Int), (List.replicate m (1 : Int)).foldl seS (rows, 0) = (rows, 0)
  | 0, rows => rfl
  | m + 1, rows => by
    rw [List.replicate_succ, List.foldl_cons]
    have : seS (rows, 0) 1 = (rows, 0) := rfl
    rw [this, seS_ones m]
theorem se_ew : ∀ (s : List Int), Pt s → (ew s).foldl seS ([], 0) = (s.reverse, g s 0)
  | [], _ => rfl
  | p :: r, h => by
    have hp := h.hd
    rw [ew_cons, List.foldl_append, List.foldl_append, se_ew r h.tail, seS_zeros, List.foldl_cons, List.foldl_nil]
    unfold seS
    rw [if_neg (by decide), if_pos (by simp only; omega), List.reverse_cons, g_0]
    simp only
    rw [show g r 0 + ((p - g r 0).toNat : Int) = p by omega]
theorem se_ew' {s : List Int} (h : Pt s) : se (ew s) = s := by unfold se; rw [se_ew s h, List.reverse_reverse]
theorem se_long {s : List Int} (h : Pt s) (x y : Nat) : se (List.replicate x 1 ++ ew s ++ List.replicate y 0) = s := by
  unfold se
  rw [List.foldl_append, List.foldl_append, seS_ones, se_ew s h, seS_zeros, List.reverse_reverse]
end K03
set_option Elab.async false
set_option linter.all false
set_option maxRecDepth 100000
set_option maxHeartbeats 1000000
namespace K03
open PySem PV PT
/-- sums over places -/
def S (n : Nat) (f : Nat → Int) : Int := ((List.range n).map f).sum
theorem S_0 (f : Nat → Int) : S 0 f = 0 := rfl
theorem S_s (n : Nat) (f : Nat → Int) : S (n + 1) f = S n f + f n := by
  unfold S; rw [List.range_succ, List.map_append, List.sum_append]; simp
theorem S_congr {n : Nat} {f h : Nat → Int} (e : ∀ k, k < n → f k = h k) : S n f = S n h := by
  unfold S; rw [List.map_congr_left fun k hk => e k (List.mem_range.mp hk)]
theorem S_add (n : Nat) (f h : Nat → Int) : S n (fun k => f k + h k) = S n f + S n h := by
  induction n with
  | zero => rfl
  | succ n ih => rw [S_s, S_s, S_s, ih]; omega
theorem S_swap (n m : Nat) (f : Nat → Nat → Int) : S n (fun r => S m fun k => f r k) = S m fun k => S n fun r => f r k := by
  induction n with
  | zero =>
    show (0 : Int) = _
    induction m with
    | zero => rfl
    | succ m ih => rw [S_s, ← ih]; rfl
  | succ n ih => rw [S_s, ih, ← S_add]; exact S_congr fun k _ => (S_s n _).symm
theorem S_box (lo hi : Nat) (h : lo ≤ hi) : ∀ n, S n (fun r => if lo ≤ r ∧ r < hi then 1 else 0) = if hi ≤ n then ((hi : Int) - lo) else if lo ≤ n then (n : Int) - lo else 0
  | 0 => by
    rw [S_0]
    repeat' split
    all_goals omega
  | n + 1 => by
    rw [S_s, S_box lo hi h n]
    repeat' split
    all_goals omega
theorem sum_S : ∀ l : List Int, l.sum = S l.length (g l)
  | [] => rfl
  | x :: l => by
    unfold S
    rw [List.length_cons, List.range_succ_eq_map, List.map_cons, List.map_map, List.sum_cons, List.sum_cons, sum_S l]
    rfl
/-- a test that falls once counts a beginning -/
theorem filt_pre (p : Nat → Bool) (hp : ∀ k, p (k + 1) = true → p k = true) : ∀ n k : Nat, k < ((List.range n).filter p).length ↔ k < n ∧ p k = true
  | 0, k => by simp
  | n + 1, k => by
    have ih := filt_pre p hp n
    have down : ∀ k, p n = true → k ≤ n → p k = true := by
      intro k hn hk
      obtain ⟨d, rfl⟩ : ∃ d, n = k + d := ⟨n - k, by omega⟩
      clear ih hk
      induction d with
      | zero => exact hn
      | succ d ihd => exact ihd (hp _ hn)
    rw [List.range_succ, List.filter_append, List.length_append]
    by_cases h : p n = true
    · have e : ((List.range n).filter p).length = n := by
        have : ((List.range n).filter p) = List.range n := List.filter_eq_self.mpr fun a ha => down a h (Nat.le_of_lt (List.mem_range.mp ha))
        rw [this, List.length_range]
      have e2 : [n].filter p = [n] := by simp [h]
      rw [e, e2, List.length_singleton]
      exact ⟨fun q => ⟨q, down k h (by omega)⟩, fun q => q.1⟩
    · have e2 : [n].filter p = [] := by simp [h]
      rw [e2, List.length_nil, Nat.add_zero, ih]
      exact ⟨fun q => ⟨by omega, q.2⟩, fun q => ⟨by have : k ≠ n := fun z => h (z ▸ q.2); omega, q.2⟩⟩
/-- the square's side -/
def du (s : List Int) : Nat := ((List.range s.length).filter fun (k : Nat) => decide ((k : Int) < g s k)).length
theorem du_iff {s : List Int} (h : Pt s) (k : Nat) : k < du s ↔ (k : Int) < g s k := by
  unfold du
  rw [filt_pre _ (fun k q => by
    simp only [decide_eq_true_eq] at q ⊢
    have := h.anti (i := k) (j := k + 1) (by omega)
    omega)]
  simp only [decide_eq_true_eq]
  constructor
  · exact fun q => q.2
  · intro q
    exact ⟨(h.pos_iff k).mp (by omega), q⟩
theorem du_eq {s : List Int} (h : Pt s) {m : Nat} (hm : ∀ k : Nat, (k : Int) < g s k ↔ k < m) : du s = m := by
  have a := fun k => (du_iff h k).trans (hm k)
  have := a m
  have := a (du s)
  omega
theorem du_conj {s : List Int} (h : Pt s) : du (conj s) = du s := du_eq (conj_Pt h) fun k => by rw [du_iff h]; exact conj_Tr h k k
def arms (s : List Int) : List Int := (List.range (du s)).map fun (k : Nat) => g s k - k - 1
theorem arms_len (s : List Int) : (arms s).length = du s := by simp [arms]
theorem g_arms (s : List Int) (k : Nat) : g (arms s) k = if k < du s then g s k - k - 1 else 0 := g_map _ _ k
/-- arms and legs as they have to be -/
structure Rt (a b : List Int) : Prop where
  len : b.length = a.length
  a0 : ∀ k, k < a.length → 0 ≤ g a k
  b0 : ∀ k, k < a.length → 0 ≤ g b k
  as : ∀ k, k + 1 < a.length → g a (k + 1) < g a k
  bs : ∀ k, k + 1 < a.length → g b (k + 1) < g b k
theorem fall_le {a : List Int} {m : Nat} (a0 : ∀ k, k < m → 0 ≤ g a k) (as : ∀ k, k + 1 < m → g a (k + 1) < g a k) : ∀ d k : Nat, k + d + 1 = m → (m : Int) ≤ g a k + k + 1
  | 0, k, h => by have := a0 k (by omega); omega
  | d + 1, k, h => by
    have := fall_le a0 as d (k + 1) (by omega)
    have := as k (by omega)
    omega
/-- how many reach down to row r -/
def low (b : List Int) (m : Nat) (r : Nat) : Nat := ((List.range m).filter fun k => decide ((r : Int) ≤ g b k + (k : Nat))).length
def bk (a b : List Int) : List Int := (List.range (if a.length = 0 then 0 else (g b 0 + 1).toNat)).map fun r => if r < a.length then g a r + (r : Nat) + 1 else (low b a.length r : Int)
theorem low_iff {a b : List Int} (h : Rt a b) (r k : Nat) : k < low b a.length r ↔ k < a.length ∧ (r : Int) ≤ g b k + k := by
  unfold low
  have := filt_pre (fun k => decide (k < a.length) && decide ((r : Int) ≤ g b k + (k : Nat))) (fun k q => by
    simp only [Bool.and_eq_true, decide_eq_true_eq] at q ⊢
    have := h.bs k q.1
    omega) a.length k
  have e : (List.range a.length).filter (fun k => decide (k < a.length) && decide ((r : Int) ≤ g b k + (k : Nat))) = (List.range a.length).filter fun k => decide ((r : Int) ≤ g b k + (k : Nat)) := by
    refine List.filter_congr fun k hk => ?_
    rw [decide_eq_true (List.mem_range.mp hk), Bool.true_and]
  rw [e] at this
  rw [this]
  simp only [Bool.and_eq_true, decide_eq_true_eq]
  exact ⟨fun q => q.2, fun q => ⟨q.1, q⟩⟩
theorem low_le (b : List Int) (m r : Nat) : low b m r ≤ m := by
  have := List.length_filter_le (fun k : Nat => decide ((r : Int) ≤ g b k + (k : Nat))) (List.range m)
  rw [List.length_range] at this
  exact this
theorem bk_len (a b : List Int) : (bk a b).length = if a.length = 0 then 0 else (g b 0 + 1).toNat := by simp [bk]
theorem bk_ge {a b : List Int} (h : Rt a b) : a.length ≤ (bk a b).length := by
  rw [bk_len]
  by_cases q : a.length = 0
  · rw [if_pos q]; omega
  · rw [if_neg q]
    have := fall_le (m := a.length) h.b0 h.bs (a.length - 1) 0 (by omega)
    omega
theorem g_bk {a b : List Int} (h : Rt a b) (r : Nat) : g (bk a b) r = if r < a.length then g a r + r + 1 else (low b a.length r : Int) := by
  have hl := bk_ge h
  rw [bk_len] at hl
  unfold bk
  rw [g_map]
  by_cases q : r < (if a.length = 0 then 0 else (g b 0 + 1).toNat)
  · rw [if_pos q]
  · rw [if_neg q]
    by_cases q2 : r < a.length
    · omega
    · rw [if_neg q2]
      have : ¬ 0 < low b a.length r := fun z => by
        have := (low_iff h r 0).mp z
        have z0 : ¬ a.length = 0 := by omega
        rw [if_neg z0] at q
        omega
      omega
theorem bk_Pt {a b : List Int} (h : Rt a b) : Pt (bk a b) := by
  have hl := bk_ge h
  have hlen := bk_len a b
  refine Pt.of (fun r hr => ?_) fun r hr => ?_
  · rw [g_bk h, g_bk h]
    by_cases q1 : r + 1 < a.length
    · rw [if_pos q1, if_pos (by omega)]
      have := h.as r q1
      omega
    · rw [if_neg q1]
      by_cases q2 : r < a.length
      · rw [if_pos q2]
        have := h.a0 r q2
        have := low_le b a.length (r + 1)
        omega
      · rw [if_neg q2]
        have : low b a.length (r + 1) ≤ low b a.length r := Nat.not_lt.mp fun z => by
          have := (low_iff h (r + 1) (low b a.length r)).mp z
          have := (low_iff h r (low b a.length r)).mpr ⟨this.1, by omega⟩
          omega
        omega
  · rw [g_bk h]
    by_cases q2 : r < a.length
    · rw [if_pos q2]
      have := h.a0 r q2
      omega
    · rw [if_neg q2]
      rw [hlen] at hr
      by_cases q : a.length = 0
      · rw [if_pos q] at hr; omega
      · rw [if_neg q] at hr
        have := (low_iff h r 0).mpr ⟨by omega, by have := h.b0 0 (by omega); omega⟩
        omega
theorem bk_arms {a b : List Int} (h : Rt a b) : arms (bk a b) = a := by
  have hp := bk_Pt h
  have hd : du (bk a b) = a.length := du_eq hp fun k => by
    rw [g_bk h]
    by_cases q : k < a.length
    · rw [if_pos q]
      have := h.a0 k q
      omega
    · rw [if_neg q]
      have := low_le b a.length k
      omega
  refine g_ext (by rw [arms_len, hd]) fun k hk => ?_
  rw [arms_len, hd] at hk
  rw [g_arms, hd, if_pos hk, g_bk h, if_pos hk]
  omega
theorem bk_legs {a b : List Int} (h : Rt a b) : arms (conj (bk a b)) = b := by
  have hp := bk_Pt h
  have hd : du (bk a b) = a.length := by
    have := congrArg List.length (bk_arms h)
    rwa [arms_len] at this
  have ht := conj_Tr hp
  refine g_ext (by rw [arms_len, du_conj hp, hd, h.len]) fun k hk => ?_
  rw [arms_len, du_conj hp, hd] at hk
  rw [g_arms, du_conj hp, hd, if_pos hk]
  have key : ∀ r : Nat, (r : Int) < g (conj (bk a b)) k ↔ (r : Int) < g b k + k + 1 := fun r => by
    rw [ht r k, g_bk h]
    by_cases q : r < a.length
    · rw [if_pos q]
      have := fall_le (m := a.length) h.a0 h.as (a.length - 1 - r) r (by omega)
      have := fall_le (m := a.length) h.b0 h.bs (a.length - 1 - k) k (by omega)
      omega
    · rw [if_neg q]
      have := low_iff h r k
      omega
  have n0 := (conj_Pt hp).nn k
  have := h.b0 k hk
  have k1 := key (g (conj (bk a b)) k).toNat
  have k2 := key (g b k + k + 1).toNat
  omega
theorem bk_sum {a b : List Int} (h : Rt a b) : (bk a b).sum = a.sum + b.sum + a.length := by
  have hl := bk_ge h
  have hp := bk_Pt h
  rw [sum_S, sum_S a, sum_S b, h.len]
  generalize hL : (bk a b).length = L at *
  have e1 : S L (g (bk a b)) = S L (fun r => (if r < a.length then g a r + r + 1 else 0) + S a.length fun k => if a.length ≤ r ∧ r < (g b k + k + 1).toNat then 1 else 0) := by
    refine S_congr fun r _ => ?_
    rw [g_bk h]
    by_cases q : r < a.length
    · rw [if_pos q, if_pos q]
      have : (S a.length fun k => if a.length ≤ r ∧ r < (g b k + k + 1).toNat then (1 : Int) else 0) = 0 := by
        have z : ∀ n : Nat, S n (fun _ => 0) = 0 := fun n => by induction n with | zero => rfl | succ n ih => rw [S_s, ih]; rfl
        exact Eq.trans (S_congr fun k _ => if_neg (by omega)) (z a.length)
      rw [this]; omega
    · rw [if_neg q, if_neg q, Int.zero_add]
      unfold low
      have cs : ∀ (n : Nat) (p : Nat → Bool), (((List.range n).filter p).length : Int) = S n fun k => if p k = true then 1 else 0 := by
        intro n p
        induction n with
        | zero => rfl
        | succ n ih =>
          rw [List.range_succ, List.filter_append, List.length_append, S_s, ← ih]
          by_cases hp : p n = true <;> simp [hp]
      rw [cs]
      refine S_congr fun k _ => ?_
      simp only [decide_eq_true_eq]
      by_cases z : (r : Int) ≤ g b k + k
      · rw [if_pos z, if_pos (by omega)]
      · rw [if_neg z, if_neg (by omega)]
  rw [e1, S_add, S_swap]
  have e2 : (S a.length fun k => S L fun r => if a.length ≤ r ∧ r < (g b k + k + 1).toNat then (1 : Int) else 0) = S a.length fun k => g b k + k + 1 - a.length := by
    refine S_congr fun k hk => ?_
    have h1 := fall_le (m := a.length) h.b0 h.bs (a.length - 1 - k) k (by omega)
    have h2 := h.b0 k hk
    have h3 : (g b k + k + 1).toNat ≤ L := by
      rw [← hL, bk_len, if_neg (by omega)]
      have : ∀ d k : Nat, k + d < a.length → g b (k + d) + (k + d : Nat) ≤ g b k + k := by
        intro d
        induction d with
        | zero => intro k _; exact Int.le_refl _
        | succ d ih =>
          intro k hk
          have := ih k (by omega)
          have := h.bs (k + d) (by omega)
          rw [show k + (d + 1) = k + d + 1 by omega]
          omega
      have := this k 0 (by omega)
      rw [Nat.zero_add] at this
      omega
    rw [S_box _ _ (by omega), if_pos h3]
    omega
  have e3 : (S L fun r => if r < a.length then g a r + r + 1 else 0) = S a.length fun r => g a r + r + 1 := by
    obtain ⟨d, rfl⟩ : ∃ d, L = a.length + d := ⟨L - a.length, by omega⟩
    clear hL hl e1 e2
    induction d with
    | zero => exact S_congr fun k hk => if_pos hk
    | succ d ih => rw [← Nat.add_assoc, S_s, ih, if_neg (by omega)]; omega
  rw [e2, e3, ← S_add]
  have e4 : ∀ m : Nat, (S m fun r => (g a r + r + 1) + (g b r + r + 1 - (a.length : Int))) = S m (g a) + S m (g b) + m * (m + 1) - m * a.length := by
    intro m
    induction m with
    | zero => simp [S_0]
    | succ m ih =>
      rw [S_s, S_s, S_s, ih]
      have : ((m + 1 : Nat) : Int) * (((m + 1 : Nat) : Int) + 1) = m * (m + 1) + 2 * (m + 1) := by
        rw [show ((m + 1 : Nat) : Int) = (m : Int) + 1 from by omega]
        simp only [Int.add_mul, Int.mul_add, Int.one_mul, Int.mul_one]
        omega
      have t2 : ((m + 1 : Nat) : Int) * (a.length : Int) = m * a.length + a.length := by rw [show ((m + 1 : Nat) : Int) = (m : Int) + 1 from by omega, Int.add_mul]; omega
      rw [this, t2]
      omega
  rw [e4]
  have : (a.length : Int) * ((a.length : Int) + 1) = a.length * a.length + a.length := by rw [Int.mul_add]; omega
  omega
/-- a partition's arms and legs are right, and lead back -/
theorem arms_Rt {s : List Int} (h : Pt s) : Rt (arms s) (arms (conj s)) := by
  have hc := conj_Pt h
  have one : ∀ {s : List Int}, Pt s → (∀ k, k < du s → 0 ≤ g (arms s) k) ∧ ∀ k, k + 1 < du s → g (arms s) (k + 1) < g (arms s) k := fun {s} h => by
    refine ⟨fun k hk => ?_, fun k hk => ?_⟩
    · rw [g_arms, if_pos hk]
      have := (du_iff h k).mp hk
      omega
    · rw [g_arms, g_arms, if_pos hk, if_pos (by omega)]
      have := h.anti (i := k) (j := k + 1) (by omega)
      omega
  have e := du_conj h
  refine ⟨by rw [arms_len, arms_len, e], ?_, ?_, ?_, ?_⟩ <;> rw [arms_len]
  · exact (one h).1
  · rw [← e]; exact (one hc).1
  · exact (one h).2
  · rw [← e]; exact (one hc).2
theorem bk_fr {s : List Int} (h : Pt s) : bk (arms s) (arms (conj s)) = s := by
  have hr := arms_Rt h
  have hb := bk_Pt hr
  have ht := conj_Tr h
  have e := du_conj h
  have pt : ∀ r, g (bk (arms s) (arms (conj s))) r = g s r := fun r => by
    rw [g_bk hr, arms_len]
    by_cases q : r < du s
    · rw [if_pos q, g_arms, if_pos q]; omega
    · rw [if_neg q]
      have n0 := h.nn r
      have hle : g s r ≤ du s := Int.not_lt.mp fun z => by
        have z1 := (du_iff h (du s)).mpr
        have := h.anti (i := du s) (j := r) (by omega)
        omega
      have key : ∀ k : Nat, k < low (arms (conj s)) (du s) r ↔ (k : Int) < g s r := fun k => by
        have := low_iff hr r k
        rw [arms_len] at this
        rw [this, ← ht r k]
        constructor
        · rintro ⟨h1, h2⟩
          rw [g_arms, e, if_pos h1] at h2
          omega
        · intro h1
          have h2 := (ht r k).mp h1
          refine ⟨by omega, ?_⟩
          rw [g_arms, e, if_pos (by omega)]
          omega
      have k1 := key (low (arms (conj s)) (du s) r)
      have k2 := key (g s r).toNat
      omega
  refine g_ext (Nat.le_antisymm (Nat.not_lt.mp fun z => ?_) (Nat.not_lt.mp fun z => ?_)) fun k _ => pt k
  · have := (hb.pos_iff s.length).mpr z; rw [pt, g_out (Nat.le_refl _)] at this; omega
  · have := (h.pos_iff (bk (arms s) (arms (conj s))).length).mpr z; rw [← pt, g_out (Nat.le_refl _)] at this; omega
theorem fr_sum {s : List Int} (h : Pt s) : (arms s).sum + (arms (conj s)).sum + (arms s).length = s.sum := by
  have := bk_sum (arms_Rt h)
  rw [bk_fr h] at this
  omega
end K03
set_option Elab.async false
set_option linter.all false
set_option maxRecDepth 100000
set_option maxHeartbeats 1000000
namespace K03
open PySem PV PT
theorem Pt.sum_ge {s : List Int} (h : Pt s) : (s.length : Int) ≤ s.sum ∧ (∀ x ∈ s, x ≤ s.sum) ∧ g s 0 ≤ s.sum := by
  induction s with
  | nil => exact ⟨by simp, fun x h => absurd h (by simp), by simp [g_nil]⟩
  | cons x r ih =>
    obtain ⟨i1, i2, _⟩ := ih h.tail
    have := h.hd
    rw [List.sum_cons, List.length_cons, g_0]
    refine ⟨by omega, fun y hy => ?_, by omega⟩
    rcases List.mem_cons.mp hy with rfl | hy
    · omega
    · have := i2 y hy; omega
/-- a small partition -/
structure Sm (s : List Int) : Prop where
  pt : Pt s
  s40 : s.sum ≤ 40
theorem Sm.len {s : List Int} (h : Sm s) : s.length ≤ 40 := by have := (Pt.sum_ge h.pt).1; have := h.s40; omega
theorem Sm.le {s : List Int} (h : Sm s) (k : Nat) : 0 ≤ g s k ∧ g s k ≤ 40 := by
  refine ⟨h.pt.nn k, ?_⟩
  have := h.pt.anti (i := 0) (j := k) (by omega)
  have := (Pt.sum_ge h.pt).2.2
  have := h.s40
  omega
theorem enl_pre {α : Type} {l : List α} {pre suf : List (Int × α)} {p : Int × α} (h : enl 0 l = pre ++ p :: suf) : p.1 = pre.length ∧ pre.length < l.length ∧ l[pre.length]? = some p.2 := by
  obtain ⟨h1, h2, _⟩ := enl_at h
  exact ⟨h1, (List.getElem?_eq_some_iff.mp h2).1, h2⟩
theorem check_ok (k : Nat) (s : List Int) (h : Pt s) (hl : s.length ≤ 1000) {Q : D → Prop} {E : XE} (q : if s.sum ≤ 40 then Q .none else E 1 (.str "large") (.int 0)) : Call (runF fs (k+1)) 0 [.own (Tp .int s)] Q E := by
  refine call_intro rfl rfl ?_
  unfold c0
  exists imm_Sx, imm_Sg, flat_Sx, flat_Sg, wbi_lenS, wits_Sx, w2_inS, w2_ninS, w2_addS, w2_addSg, wslc_S, wsub_S, w2_ltS, w2_isN0, w2_isNi, w2_isNs, w2_isNS, w2_isNt, w2_isNl, w2_isNT, w2_isNL, w2_ntN0, w2_ntNi, w2_ntNs, w2_ntNS, w2_ntNt, w2_ntNl, w2_ntNT, w2_ntNL, w2_repL, w2_rep1, w2_repT, w2_repT1
  refine wfor_inv (f := Pr PyData.int PyData.int) (I := fun pre σ => ∃ (c1 c2 : NI), σ = [some (.own (Tp .int s)), c1.c, c2.c]) ⟨⟨_, rfl, rfl⟩, ⟨_, rfl, rfl⟩, rfl⟩ ?_ ?_
  · rintro pre ⟨p1, x⟩ suf σ hp ⟨c1, c2, rfl⟩
    obtain ⟨g1, g2, g3⟩ := enl_pre hp
    simp only at g1 g3
    subst g1
    have ex := g_some g3
    have hx := h.pos x (List.mem_of_getElem? g3)
    have e1 : decide (x < 1) = false := decide_eq_false (by omega)
    exists imm_Sx, imm_Sg, flat_Sx, flat_Sg, wbi_lenS, wits_Sx, w2_inS, w2_ninS, w2_addS, w2_addSg, wslc_S, wsub_S, w2_ltS, w2_isN0, w2_isNi, w2_isNs, w2_isNS, w2_isNt, w2_isNl, w2_isNT, w2_isNL, w2_ntN0, w2_ntNi, w2_ntNs, w2_ntNS, w2_ntNt, w2_ntNl, w2_ntNT, w2_ntNL, w2_repL, w2_rep1, w2_repT, w2_repT1, e1
    refine ⟨fun _ z => ⟨by omega, by omega⟩, ?_⟩
    by_cases z : (0 : Int) < pre.length
    · have e2 : decide (pyg s ((pre.length : Int) - 1) < x) = false := decide_eq_false (by
        rw [g_pyg (by omega), ← ex]
        have := h.anti (i := ((pre.length : Int) - 1).toNat) (j := pre.length) (by omega)
        omega)
      rw [decide_eq_true z, e2]
      exists imm_Sx, imm_Sg, flat_Sx, flat_Sg, wbi_lenS, wits_Sx, w2_inS, w2_ninS, w2_addS, w2_addSg, wslc_S, wsub_S, w2_ltS, w2_isN0, w2_isNi, w2_isNs, w2_isNS, w2_isNt, w2_isNl, w2_isNT, w2_isNL, w2_ntN0, w2_ntNi, w2_ntNs, w2_ntNS, w2_ntNt, w2_ntNl, w2_ntNT, w2_ntNL, w2_repL, w2_rep1, w2_repT, w2_repT1
      exact ⟨⟨_, rfl, rfl⟩, ⟨_, rfl, rfl⟩, rfl⟩
    · rw [decide_eq_false z]
      exists imm_Sx, imm_Sg, flat_Sx, flat_Sg, wbi_lenS, wits_Sx, w2_inS, w2_ninS, w2_addS, w2_addSg, wslc_S, wsub_S, w2_ltS, w2_isN0, w2_isNi, w2_isNs, w2_isNS, w2_isNt, w2_isNl, w2_isNT, w2_isNL, w2_ntN0, w2_ntNi, w2_ntNs, w2_ntNS, w2_ntNt, w2_ntNl, w2_ntNT, w2_ntNL, w2_repL, w2_rep1, w2_repT, w2_repT1
      exact ⟨⟨_, rfl, rfl⟩, ⟨_, rfl, rfl⟩, rfl⟩
  · rintro σ ⟨c1, c2, rfl⟩
    exists imm_Sx, imm_Sg, flat_Sx, flat_Sg, wbi_lenS, wits_Sx, w2_inS, w2_ninS, w2_addS, w2_addSg, wslc_S, wsub_S, w2_ltS, w2_isN0, w2_isNi, w2_isNs, w2_isNS, w2_isNt, w2_isNl, w2_isNT, w2_isNL, w2_ntN0, w2_ntNi, w2_ntNs, w2_ntNS, w2_ntNt, w2_ntNl, w2_ntNT, w2_ntNL, w2_repL, w2_rep1, w2_repT, w2_repT1
    refine wbS_if (fun hs => ?_) (fun hs => ?_) <;> (try simp only [decide_eq_true_eq, decide_eq_false_iff_not, Bool.or_eq_true, Bool.and_eq_true, Bool.or_eq_false_iff, Bool.and_eq_false_iff, Bool.not_eq_true', Bool.not_eq_false', Bool.not_eq_true, Bool.not_eq_false, Int.not_lt, Int.not_le, Bool.false_eq_true, Bool.true_eq_false, id] at hs)
    · rw [if_neg (by omega)] at q
      exists imm_Sx, imm_Sg, flat_Sx, flat_Sg, wbi_lenS, wits_Sx, w2_inS, w2_ninS, w2_addS, w2_addSg, wslc_S, wsub_S, w2_ltS, w2_isN0, w2_isNi, w2_isNs, w2_isNS, w2_isNt, w2_isNl, w2_isNT, w2_isNL, w2_ntN0, w2_ntNi, w2_ntNs, w2_ntNS, w2_ntNt, w2_ntNl, w2_ntNT, w2_ntNL, w2_repL, w2_rep1, w2_repT, w2_repT1
      exact q
    · rw [if_pos (by omega)] at q
      exists imm_Sx, imm_Sg, flat_Sx, flat_Sg, wbi_lenS, wits_Sx, w2_inS, w2_ninS, w2_addS, w2_addSg, wslc_S, wsub_S, w2_ltS, w2_isN0, w2_isNi, w2_isNs, w2_isNS, w2_isNt, w2_isNl, w2_isNT, w2_isNL, w2_ntN0, w2_ntNi, w2_ntNs, w2_ntNS, w2_ntNt, w2_ntNl, w2_ntNT, w2_ntNL, w2_repL, w2_rep1, w2_repT, w2_repT1
      exact q
theorem columns_ok (k : Nat) (s : List Int) (h : Sm s) {Q : D → Prop} {E : XE} (q : Q (Tp .int (conj s))) : Call (runF fs (k+1)) 1 [.own (Tp .int s)] Q E := by
  have hl := h.len
  have h0 := h.le 0
  refine call_intro rfl rfl ?_
  unfold c1
  exists imm_Sx, imm_Sg, flat_Sx, flat_Sg, wbi_lenS, wits_Sx, w2_inS, w2_ninS, w2_addS, w2_addSg, wslc_S, wsub_S, w2_ltS, w2_isN0, w2_isNi, w2_isNs, w2_isNS, w2_isNt, w2_isNl, w2_isNT, w2_isNL, w2_ntN0, w2_ntNi, w2_ntNs, w2_ntNS, w2_ntNt, w2_ntNl, w2_ntNT, w2_ntNL, w2_repL, w2_rep1, w2_repT, w2_repT1
  have e0 : (if (0 : Int) < (s.length : Int) then pyg s 0 else 0) = g s 0 := by
    split
    · rw [g_pyg (by decide)]; rfl
    · rw [g_out (by omega)]
  rw [e0]
  refine ⟨fun _ => ⟨by omega, by omega⟩, smallI_of (by omega), ?_⟩
  refine wcomp_map1 (f := PyData.int) PyData.int (fun k => ((s.filter fun x => decide (k < x)).length : Int)) true (fun x hx => ?_) (by exists imm_Sx, imm_Sg, flat_Sx, flat_Sg, wbi_lenS, wits_Sx, w2_inS, w2_ninS, w2_addS, w2_addSg, wslc_S, wsub_S, w2_ltS, w2_isN0, w2_isNi, w2_isNs, w2_isNS, w2_isNt, w2_isNl, w2_isNT, w2_isNL, w2_ntN0, w2_ntNi, w2_ntNs, w2_ntNS, w2_ntNt, w2_ntNl, w2_ntNT, w2_ntNL, w2_repL, w2_rep1, w2_repT, w2_repT1) rfl (by rw [rng_len]; omega) fun b hb => ?_
  · exists imm_Sx, imm_Sg, flat_Sx, flat_Sg, wbi_lenS, wits_Sx, w2_inS, w2_ninS, w2_addS, w2_addSg, wslc_S, wsub_S, w2_ltS, w2_isN0, w2_isNi, w2_isNs, w2_isNS, w2_isNt, w2_isNl, w2_isNT, w2_isNL, w2_ntN0, w2_ntNi, w2_ntNs, w2_ntNS, w2_ntNt, w2_ntNl, w2_ntNT, w2_ntNL, w2_repL, w2_rep1, w2_repT, w2_repT1
    refine wcomp_map (f := PyData.int) PyData.int (fun y => decide (x < y)) (fun y => y) true (fun y hy => ?_) (by exists imm_Sx, imm_Sg, flat_Sx, flat_Sg, wbi_lenS, wits_Sx, w2_inS, w2_ninS, w2_addS, w2_addSg, wslc_S, wsub_S, w2_ltS, w2_isN0, w2_isNi, w2_isNs, w2_isNS, w2_isNt, w2_isNl, w2_isNT, w2_isNL, w2_ntN0, w2_ntNi, w2_ntNs, w2_ntNS, w2_ntNt, w2_ntNl, w2_ntNT, w2_ntNL, w2_repL, w2_rep1, w2_repT, w2_repT1) rfl ?_ fun b hb => ?_
    · exists imm_Sx, imm_Sg, flat_Sx, flat_Sg, wbi_lenS, wits_Sx, w2_inS, w2_ninS, w2_addS, w2_addSg, wslc_S, wsub_S, w2_ltS, w2_isN0, w2_isNi, w2_isNs, w2_isNS, w2_isNt, w2_isNl, w2_isNT, w2_isNL, w2_ntN0, w2_ntNi, w2_ntNs, w2_ntNS, w2_ntNt, w2_ntNl, w2_ntNT, w2_ntNL, w2_repL, w2_rep1, w2_repT, w2_repT1
      exact fun _ _ => trivial
    · rw [List.length_map]
      have := List.length_filter_le (fun y => decide (x < y)) s
      omega
    · obtain rfl := hb rfl
      exists imm_Sx, imm_Sg, flat_Sx, flat_Sg, wbi_lenS, wits_Sx, w2_inS, w2_ninS, w2_addS, w2_addSg, wslc_S, wsub_S, w2_ltS, w2_isN0, w2_isNi, w2_isNs, w2_isNS, w2_isNt, w2_isNl, w2_isNT, w2_isNL, w2_ntN0, w2_ntNi, w2_ntNs, w2_ntNS, w2_ntNt, w2_ntNl, w2_ntNT, w2_ntNL, w2_repL, w2_rep1, w2_repT, w2_repT1, List.map_id'
      exact fun _ => trivial
  obtain rfl := hb rfl
  have e1 : (rng 0 (g s 0)).map (fun k => ((s.filter fun x => decide (k < x)).length : Int)) = conj s := by
    unfold conj rng
    rw [List.map_map, show (g s 0 - 0).toNat = (g s 0).toNat by omega]
    refine List.map_congr_left fun k _ => ?_
    simp only [Function.comp, cnt, List.countP_eq_length_filter, Int.zero_add]
  rw [e1]
  exists imm_Sx, imm_Sg, flat_Sx, flat_Sg, wbi_lenS, wits_Sx, w2_inS, w2_ninS, w2_addS, w2_addSg, wslc_S, wsub_S, w2_ltS, w2_isN0, w2_isNi, w2_isNs, w2_isNS, w2_isNt, w2_isNl, w2_isNT, w2_isNL, w2_ntN0, w2_ntNi, w2_ntNs, w2_ntNS, w2_ntNt, w2_ntNl, w2_ntNT, w2_ntNL, w2_repL, w2_rep1, w2_repT, w2_repT1
  exact q
theorem Sm.conj_len {s : List Int} (h : Sm s) : (conj s).length ≤ 40 := by
  have := h.le 0
  rw [PT.conj_len]; omega
theorem frob_ok (k : Nat) (s : List Int) (h : Sm s) {Q : D → Prop} {E : XE} (q : Q (Pr (Tp .int) (Tp .int) (arms s, arms (conj s)))) : Call (runF fs (k+2)) 2 [.own (Tp .int s)] Q E := by
  have hl := h.len
  have hcl := h.conj_len
  refine call_intro rfl rfl ?_
  unfold c2
  exists imm_Sx, imm_Sg, flat_Sx, flat_Sg, wbi_lenS, wits_Sx, w2_inS, w2_ninS, w2_addS, w2_addSg, wslc_S, wsub_S, w2_ltS, w2_isN0, w2_isNi, w2_isNs, w2_isNS, w2_isNt, w2_isNl, w2_isNT, w2_isNL, w2_ntN0, w2_ntNi, w2_ntNs, w2_ntNS, w2_ntNt, w2_ntNl, w2_ntNT, w2_ntNL, w2_repL, w2_rep1, w2_repT, w2_repT1
  refine wcall_1 ?_
  exists imm_Sx, imm_Sg, flat_Sx, flat_Sg, wbi_lenS, wits_Sx, w2_inS, w2_ninS, w2_addS, w2_addSg, wslc_S, wsub_S, w2_ltS, w2_isN0, w2_isNi, w2_isNs, w2_isNS, w2_isNt, w2_isNl, w2_isNT, w2_isNL, w2_ntN0, w2_ntNi, w2_ntNs, w2_ntNS, w2_ntNt, w2_ntNl, w2_ntNT, w2_ntNL, w2_repL, w2_rep1, w2_repT, w2_repT1
  refine check_ok _ s h.pt (by omega) ?_
  rw [if_pos h.s40]
  (try exists imm_Sx, imm_Sg, flat_Sx, flat_Sg, wbi_lenS, wits_Sx, w2_inS, w2_ninS, w2_addS, w2_addSg, wslc_S, wsub_S, w2_ltS, w2_isN0, w2_isNi, w2_isNs, w2_isNS, w2_isNt, w2_isNl, w2_isNT, w2_isNL, w2_ntN0, w2_ntNi, w2_ntNs, w2_ntNS, w2_ntNt, w2_ntNl, w2_ntNT, w2_ntNL, w2_repL, w2_rep1, w2_repT, w2_repT1)
  refine wcall_1 ?_
  (try exists imm_Sx, imm_Sg, flat_Sx, flat_Sg, wbi_lenS, wits_Sx, w2_inS, w2_ninS, w2_addS, w2_addSg, wslc_S, wsub_S, w2_ltS, w2_isN0, w2_isNi, w2_isNs, w2_isNS, w2_isNt, w2_isNl, w2_isNT, w2_isNL, w2_ntN0, w2_ntNi, w2_ntNs, w2_ntNS, w2_ntNt, w2_ntNl, w2_ntNT, w2_ntNL, w2_repL, w2_rep1, w2_repT, w2_repT1)
  refine columns_ok _ s h ?_
  (try exists imm_Sx, imm_Sg, flat_Sx, flat_Sg, wbi_lenS, wits_Sx, w2_inS, w2_ninS, w2_addS, w2_addSg, wslc_S, wsub_S, w2_ltS, w2_isN0, w2_isNi, w2_isNs, w2_isNS, w2_isNt, w2_isNl, w2_isNT, w2_isNL, w2_ntN0, w2_ntNi, w2_ntNs, w2_ntNS, w2_ntNt, w2_ntNl, w2_ntNT, w2_ntNL, w2_repL, w2_rep1, w2_repT, w2_repT1)
  (repeat ((with_reducible refine And.intro ?_ ?_); focus (intros; first | (simp only [List.length_append, List.length_cons, List.length_nil]; omega) | ((with_reducible refine lenOk_of ?_); first | decide | omega) | ((with_reducible refine mulOk_l ?_); first | decide | omega) | ((with_reducible refine mulOk_r ?_); first | decide | omega) | ((with_reducible refine smallI_of ?_); omega) | ((with_reducible refine divOk_of ?_ ?_) <;> first | decide | omega) | exact And.intro (by omega) (by omega) | omega | (unfold kp; exact Or.inl rfl) | with_reducible rfl | with_reducible exact trivial)))
  refine wcomp_map (f := PyData.int) PyData.int (fun k => decide (k < pyg s k)) (fun k => k) true (fun x hx => ?_) (by (try exists imm_Sx, imm_Sg, flat_Sx, flat_Sg, wbi_lenS, wits_Sx, w2_inS, w2_ninS, w2_addS, w2_addSg, wslc_S, wsub_S, w2_ltS, w2_isN0, w2_isNi, w2_isNs, w2_isNS, w2_isNt, w2_isNl, w2_isNT, w2_isNL, w2_ntN0, w2_ntNi, w2_ntNs, w2_ntNS, w2_ntNt, w2_ntNl, w2_ntNT, w2_ntNL, w2_repL, w2_rep1, w2_repT, w2_repT1)) rfl ?_ fun b hb => ?_
  · rw [mem_rng] at hx
    (try exists imm_Sx, imm_Sg, flat_Sx, flat_Sg, wbi_lenS, wits_Sx, w2_inS, w2_ninS, w2_addS, w2_addSg, wslc_S, wsub_S, w2_ltS, w2_isN0, w2_isNi, w2_isNs, w2_isNS, w2_isNt, w2_isNl, w2_isNT, w2_isNL, w2_ntN0, w2_ntNi, w2_ntNs, w2_ntNS, w2_ntNt, w2_ntNl, w2_ntNT, w2_ntNL, w2_repL, w2_rep1, w2_repT, w2_repT1)
    exact ⟨⟨by omega, by omega⟩, fun _ _ => trivial⟩
  · rw [List.length_map]
    have := List.length_filter_le (fun k => decide (k < pyg s k)) (rng 0 (s.length : Int))
    rw [rng_len] at this
    omega
  obtain rfl := hb rfl
  have ed : ((rng 0 (s.length : Int)).filter fun k => decide (k < pyg s k)).length = du s := by
    unfold rng du
    rw [List.filter_map, List.length_map, show ((s.length : Int) - 0).toNat = s.length by omega]
    congr 1
    refine List.filter_congr fun k _ => ?_
    simp only [Function.comp, Int.zero_add]
    rw [g_pyg (by omega), Int.toNat_natCast]
  have du_le : du s ≤ s.length := Nat.not_lt.mp fun z => by
    have := (du_iff h.pt s.length).mp z
    rw [g_out (Nat.le_refl _)] at this
    omega
  have dc_le : du s ≤ (conj s).length := Nat.not_lt.mp fun z => by
    rw [← du_conj h.pt] at z
    have := (du_iff (conj_Pt h.pt) (conj s).length).mp z
    rw [g_out (Nat.le_refl _)] at this
    omega
  have ea : ∀ s : List Int, (rng 0 (du s : Int)).map (fun k => pyg s k - k - 1) = arms s := fun s => by
    unfold rng arms
    rw [List.map_map, show ((du s : Int) - 0).toNat = du s by omega]
    refine List.map_congr_left fun k _ => ?_
    simp only [Function.comp, Int.zero_add]
    rw [g_pyg (by omega), Int.toNat_natCast]
  exists imm_Sx, imm_Sg, flat_Sx, flat_Sg, wbi_lenS, wits_Sx, w2_inS, w2_ninS, w2_addS, w2_addSg, wslc_S, wsub_S, w2_ltS, w2_isN0, w2_isNi, w2_isNs, w2_isNS, w2_isNt, w2_isNl, w2_isNT, w2_isNL, w2_ntN0, w2_ntNi, w2_ntNs, w2_ntNS, w2_ntNt, w2_ntNl, w2_ntNT, w2_ntNL, w2_repL, w2_rep1, w2_repT, w2_repT1, List.map_id', ed
  (repeat ((with_reducible refine And.intro ?_ ?_); focus (intros; first | (simp only [List.length_append, List.length_cons, List.length_nil]; omega) | ((with_reducible refine lenOk_of ?_); first | decide | omega) | ((with_reducible refine mulOk_l ?_); first | decide | omega) | ((with_reducible refine mulOk_r ?_); first | decide | omega) | ((with_reducible refine smallI_of ?_); omega) | ((with_reducible refine divOk_of ?_ ?_) <;> first | decide | omega) | exact And.intro (by omega) (by omega) | omega | (unfold kp; exact Or.inl rfl) | with_reducible rfl | with_reducible exact trivial)))
  refine wcomp_map1 (f := PyData.int) PyData.int (fun k => pyg s k - k - 1) true (fun x hx => ?_) (by (try exists imm_Sx, imm_Sg, flat_Sx, flat_Sg, wbi_lenS, wits_Sx, w2_inS, w2_ninS, w2_addS, w2_addSg, wslc_S, wsub_S, w2_ltS, w2_isN0, w2_isNi, w2_isNs, w2_isNS, w2_isNt, w2_isNl, w2_isNT, w2_isNL, w2_ntN0, w2_ntNi, w2_ntNs, w2_ntNS, w2_ntNt, w2_ntNl, w2_ntNT, w2_ntNL, w2_repL, w2_rep1, w2_repT, w2_repT1)) rfl (by rw [rng_len]; omega) fun b hb => ?_
  · rw [mem_rng] at hx
    (try exists imm_Sx, imm_Sg, flat_Sx, flat_Sg, wbi_lenS, wits_Sx, w2_inS, w2_ninS, w2_addS, w2_addSg, wslc_S, wsub_S, w2_ltS, w2_isN0, w2_isNi, w2_isNs, w2_isNS, w2_isNt, w2_isNl, w2_isNT, w2_isNL, w2_ntN0, w2_ntNi, w2_ntNs, w2_ntNS, w2_ntNt, w2_ntNl, w2_ntNT, w2_ntNL, w2_repL, w2_rep1, w2_repT, w2_repT1)
    exact ⟨⟨by omega, by omega⟩, fun _ => trivial⟩
  obtain rfl := hb rfl
  rw [ea s]
  (try exists imm_Sx, imm_Sg, flat_Sx, flat_Sg, wbi_lenS, wits_Sx, w2_inS, w2_ninS, w2_addS, w2_addSg, wslc_S, wsub_S, w2_ltS, w2_isN0, w2_isNi, w2_isNs, w2_isNS, w2_isNt, w2_isNl, w2_isNT, w2_isNL, w2_ntN0, w2_ntNi, w2_ntNs, w2_ntNS, w2_ntNt, w2_ntNl, w2_ntNT, w2_ntNL, w2_repL, w2_rep1, w2_repT, w2_repT1)
  (repeat ((with_reducible refine And.intro ?_ ?_); focus (intros; first | (simp only [List.length_append, List.length_cons, List.length_nil]; omega) | ((with_reducible refine lenOk_of ?_); first | decide | omega) | ((with_reducible refine mulOk_l ?_); first | decide | omega) | ((with_reducible refine mulOk_r ?_); first | decide | omega) | ((with_reducible refine smallI_of ?_); omega) | ((with_reducible refine divOk_of ?_ ?_) <;> first | decide | omega) | exact And.intro (by omega) (by omega) | omega | (unfold kp; exact Or.inl rfl) | with_reducible rfl | with_reducible exact trivial)))
  refine wcomp_map1 (f := PyData.int) PyData.int (fun k => pyg (conj s) k - k - 1) true (fun x hx => ?_) (by (try exists imm_Sx, imm_Sg, flat_Sx, flat_Sg, wbi_lenS, wits_Sx, w2_inS, w2_ninS, w2_addS, w2_addSg, wslc_S, wsub_S, w2_ltS, w2_isN0, w2_isNi, w2_isNs, w2_isNS, w2_isNt, w2_isNl, w2_isNT, w2_isNL, w2_ntN0, w2_ntNi, w2_ntNs, w2_ntNS, w2_ntNt, w2_ntNl, w2_ntNT, w2_ntNL, w2_repL, w2_rep1, w2_repT, w2_repT1)) rfl (by rw [rng_len]; omega) fun b hb => ?_
  · rw [mem_rng] at hx
    (try exists imm_Sx, imm_Sg, flat_Sx, flat_Sg, wbi_lenS, wits_Sx, w2_inS, w2_ninS, w2_addS, w2_addSg, wslc_S, wsub_S, w2_ltS, w2_isN0, w2_isNi, w2_isNs, w2_isNS, w2_isNt, w2_isNl, w2_isNT, w2_isNL, w2_ntN0, w2_ntNi, w2_ntNs, w2_ntNS, w2_ntNt, w2_ntNl, w2_ntNT, w2_ntNL, w2_repL, w2_rep1, w2_repT, w2_repT1)
    exact ⟨⟨by omega, by omega⟩, fun _ => trivial⟩
  obtain rfl := hb rfl
  rw [← du_conj h.pt, ea (conj s)]
  (try exists imm_Sx, imm_Sg, flat_Sx, flat_Sg, wbi_lenS, wits_Sx, w2_inS, w2_ninS, w2_addS, w2_addSg, wslc_S, wsub_S, w2_ltS, w2_isN0, w2_isNi, w2_isNs, w2_isNS, w2_isNt, w2_isNl, w2_isNT, w2_isNL, w2_ntN0, w2_ntNi, w2_ntNs, w2_ntNS, w2_ntNt, w2_ntNl, w2_ntNT, w2_ntNL, w2_repL, w2_rep1, w2_repT, w2_repT1)
  (repeat ((with_reducible refine And.intro ?_ ?_); focus (intros; first | (simp only [List.length_append, List.length_cons, List.length_nil]; omega) | ((with_reducible refine lenOk_of ?_); first | decide | omega) | ((with_reducible refine mulOk_l ?_); first | decide | omega) | ((with_reducible refine mulOk_r ?_); first | decide | omega) | ((with_reducible refine smallI_of ?_); omega) | ((with_reducible refine divOk_of ?_ ?_) <;> first | decide | omega) | exact And.intro (by omega) (by omega) | omega | (unfold kp; exact Or.inl rfl) | with_reducible rfl | with_reducible exact trivial)))
  exact q
end K03
set_option Elab.async false
set_option linter.all false
set_option maxRecDepth 100000
set_option maxHeartbeats 1000000
namespace K03
open PySem PV PT
theorem any_f {α : Type} (p : α → Bool) (l : List α) : ((l.map p).any id) = l.any p := by rw [List.any_map]; rfl
theorem g_app (s t : List Int) (k : Nat) : g (s ++ t) k = if k < s.length then g s k else g t (k - s.length) := by
  unfold g
  rw [List.getD_eq_getElem?_getD, List.getElem?_append]
  split <;> rw [List.getD_eq_getElem?_getD]
theorem g_rng (lo hi : Int) (f : Int → Int) (k : Nat) : g ((rng lo hi).map f) k = if k < (hi - lo).toNat then f (lo + k) else 0 := by
  unfold rng
  rw [List.map_map, g_map]
  rfl
theorem bk_q {a b : List Int} (h : Rt a b) : (rng 0 (a.length : Int)).map (fun k => pyg a k + k + 1) ++ (rng (a.length : Int) (if (0 : Int) < (a.length : Int) then pyg b 0 + 1 else 0)).map (fun r => (low b a.length r.toNat : Int)) = bk a b := by
  have hge := bk_ge h
  have hbl := bk_len a b
  have e0 : pyg b 0 = g b 0 := by rw [g_pyg (by decide)]; rfl
  have hL : (a.length + ((if (0 : Int) < (a.length : Int) then pyg b 0 + 1 else 0) - (a.length : Int)).toNat) = (bk a b).length := by
    by_cases z : a.length = 0
    · rw [hbl, if_pos z, if_neg (by omega), z]; rfl
    · rw [if_neg z] at hbl
      rw [if_pos (by omega), e0]
      omega
  refine g_ext (by rw [List.length_append, List.length_map, List.length_map, rng_len, rng_len, ← hL]; omega) fun k hk => ?_
  rw [List.length_append, List.length_map, List.length_map, rng_len, rng_len] at hk
  rw [g_app, List.length_map, rng_len, g_bk h, show ((a.length : Int) - 0).toNat = a.length by omega, g_rng, g_rng]
  by_cases q : k < a.length
  · rw [if_pos q, if_pos (by omega), if_pos q, g_pyg (by omega), show ((0 : Int) + k).toNat = k by omega]
    omega
  · rw [if_neg q, if_neg q, if_pos (by omega), show ((a.length : Int) + (k - a.length : Nat)).toNat = k by omega]
theorem back_ok (k : Nat) (a b : List Int) (la : a.length ≤ 50) (lb : b.length ≤ 50) (sa : ∀ x ∈ a, -1000 ≤ x ∧ x ≤ 1000) (sb : ∀ x ∈ b, -1000 ≤ x ∧ x ≤ 1000) {Q : D → Prop} {E : XE}
    (q1 : Rt a b → if a.sum + b.sum + a.length ≤ 40 then Q (Tp .int (bk a b)) else E 1 (.str "large") (.int 0)) (q2 : ¬ Rt a b → E 1 (.str "arms") (.int 0)) : Call (runF fs (k+1)) 3 [.own (Tp .int a), .own (Tp .int b)] Q E := by
  refine call_intro rfl rfl ?_
  unfold c3
  exists imm_Sx, imm_Sg, flat_Sx, flat_Sg, wbi_lenS, wits_Sx, w2_inS, w2_ninS, w2_addS, w2_addSg, wslc_S, wsub_S, w2_ltS, w2_isN0, w2_isNi, w2_isNs, w2_isNS, w2_isNt, w2_isNl, w2_isNT, w2_isNL, w2_ntN0, w2_ntNi, w2_ntNs, w2_ntNS, w2_ntNt, w2_ntNl, w2_ntNT, w2_ntNL, w2_repL, w2_rep1, w2_repT, w2_repT1
  by_cases hl : b.length = a.length
  · have e1 : decide ((b.length : Int) = (a.length : Int)) = true := decide_eq_true (by omega)
    exists imm_Sx, imm_Sg, flat_Sx, flat_Sg, wbi_lenS, wits_Sx, w2_inS, w2_ninS, w2_addS, w2_addSg, wslc_S, wsub_S, w2_ltS, w2_isN0, w2_isNi, w2_isNs, w2_isNS, w2_isNt, w2_isNl, w2_isNT, w2_isNL, w2_ntN0, w2_ntNi, w2_ntNs, w2_ntNS, w2_ntNt, w2_ntNl, w2_ntNT, w2_ntNL, w2_repL, w2_rep1, w2_repT, w2_repT1, e1
    (repeat ((with_reducible refine And.intro ?_ ?_); focus (intros; first | (simp only [List.length_append, List.length_cons, List.length_nil]; omega) | ((with_reducible refine lenOk_of ?_); first | decide | omega) | ((with_reducible refine mulOk_l ?_); first | decide | omega) | ((with_reducible refine mulOk_r ?_); first | decide | omega) | ((with_reducible refine smallI_of ?_); omega) | ((with_reducible refine divOk_of ?_ ?_) <;> first | decide | omega) | exact And.intro (by omega) (by omega) | omega | (unfold kp; exact Or.inl rfl) | with_reducible rfl | with_reducible exact trivial)))
    refine wcomp_map1 (f := PyData.int) PyData.bool (fun v => decide (v < 0)) true (fun v hv => ?_) (by exists imm_Sx, imm_Sg, flat_Sx, flat_Sg, wbi_lenS, wits_Sx, w2_inS, w2_ninS, w2_addS, w2_addSg, wslc_S, wsub_S, w2_ltS, w2_isN0, w2_isNi, w2_isNs, w2_isNS, w2_isNt, w2_isNl, w2_isNT, w2_isNL, w2_ntN0, w2_ntNi, w2_ntNs, w2_ntNS, w2_ntNt, w2_ntNl, w2_ntNT, w2_ntNL, w2_repL, w2_rep1, w2_repT, w2_repT1) rfl (by rw [List.length_append]; omega) fun b' hb => ?_
    · exists imm_Sx, imm_Sg, flat_Sx, flat_Sg, wbi_lenS, wits_Sx, w2_inS, w2_ninS, w2_addS, w2_addSg, wslc_S, wsub_S, w2_ltS, w2_isN0, w2_isNi, w2_isNs, w2_isNS, w2_isNt, w2_isNl, w2_isNT, w2_isNL, w2_ntN0, w2_ntNi, w2_ntNs, w2_ntNS, w2_ntNt, w2_ntNl, w2_ntNT, w2_ntNL, w2_repL, w2_rep1, w2_repT, w2_repT1
      exact fun _ => trivial
    obtain rfl := hb rfl
    exists imm_Sx, imm_Sg, flat_Sx, flat_Sg, wbi_lenS, wits_Sx, w2_inS, w2_ninS, w2_addS, w2_addSg, wslc_S, wsub_S, w2_ltS, w2_isN0, w2_isNi, w2_isNs, w2_isNS, w2_isNt, w2_isNl, w2_isNT, w2_isNL, w2_ntN0, w2_ntNi, w2_ntNs, w2_ntNS, w2_ntNt, w2_ntNl, w2_ntNT, w2_ntNL, w2_repL, w2_rep1, w2_repT, w2_repT1
    rw [any_f]
    by_cases h1 : (a ++ b).any (fun v => decide (v < 0)) = true
    · rw [h1]
      exists imm_Sx, imm_Sg, flat_Sx, flat_Sg, wbi_lenS, wits_Sx, w2_inS, w2_ninS, w2_addS, w2_addSg, wslc_S, wsub_S, w2_ltS, w2_isN0, w2_isNi, w2_isNs, w2_isNS, w2_isNt, w2_isNl, w2_isNT, w2_isNL, w2_ntN0, w2_ntNi, w2_ntNs, w2_ntNS, w2_ntNt, w2_ntNl, w2_ntNT, w2_ntNL, w2_repL, w2_rep1, w2_repT, w2_repT1
      refine q2 fun h => ?_
      obtain ⟨x, hx, hx0⟩ := List.any_eq_true.mp h1
      simp only [decide_eq_true_eq] at hx0
      rcases List.mem_append.mp hx with hx | hx
      · obtain ⟨i, hi, rfl⟩ := List.mem_iff_getElem.mp hx
        have := h.a0 i hi
        rw [g_in hi] at this; omega
      · obtain ⟨i, hi, rfl⟩ := List.mem_iff_getElem.mp hx
        have := h.b0 i (by omega)
        rw [g_in hi] at this; omega
    · rw [Bool.eq_false_iff.mpr h1]
      have h0 : ∀ x ∈ a ++ b, 0 ≤ x := fun x hx => Int.not_lt.mp fun z => h1 (List.any_eq_true.mpr ⟨x, hx, decide_eq_true z⟩)
      exists imm_Sx, imm_Sg, flat_Sx, flat_Sg, wbi_lenS, wits_Sx, w2_inS, w2_ninS, w2_addS, w2_addSg, wslc_S, wsub_S, w2_ltS, w2_isN0, w2_isNi, w2_isNs, w2_isNS, w2_isNt, w2_isNl, w2_isNT, w2_isNL, w2_ntN0, w2_ntNi, w2_ntNs, w2_ntNS, w2_ntNt, w2_ntNl, w2_ntNT, w2_ntNL, w2_repL, w2_rep1, w2_repT, w2_repT1
      (repeat ((with_reducible refine And.intro ?_ ?_); focus (intros; first | (simp only [List.length_append, List.length_cons, List.length_nil]; omega) | ((with_reducible refine lenOk_of ?_); first | decide | omega) | ((with_reducible refine mulOk_l ?_); first | decide | omega) | ((with_reducible refine mulOk_r ?_); first | decide | omega) | ((with_reducible refine smallI_of ?_); omega) | ((with_reducible refine divOk_of ?_ ?_) <;> first | decide | omega) | exact And.intro (by omega) (by omega) | omega | (unfold kp; exact Or.inl rfl) | with_reducible rfl | with_reducible exact trivial)))
      refine wcomp_map1 (f := PyData.int) PyData.bool (fun k => decide (pyg a k ≤ pyg a (k + 1)) || decide (pyg b k ≤ pyg b (k + 1))) true (fun x hx => ?_) (by exists imm_Sx, imm_Sg, flat_Sx, flat_Sg, wbi_lenS, wits_Sx, w2_inS, w2_ninS, w2_addS, w2_addSg, wslc_S, wsub_S, w2_ltS, w2_isN0, w2_isNi, w2_isNs, w2_isNS, w2_isNt, w2_isNl, w2_isNT, w2_isNL, w2_ntN0, w2_ntNi, w2_ntNs, w2_ntNS, w2_ntNt, w2_ntNl, w2_ntNT, w2_ntNL, w2_repL, w2_rep1, w2_repT, w2_repT1) rfl (by rw [rng_len]; omega) fun b' hb => ?_
      · rw [mem_rng] at hx
        exists imm_Sx, imm_Sg, flat_Sx, flat_Sg, wbi_lenS, wits_Sx, w2_inS, w2_ninS, w2_addS, w2_addSg, wslc_S, wsub_S, w2_ltS, w2_isN0, w2_isNi, w2_isNs, w2_isNS, w2_isNt, w2_isNl, w2_isNT, w2_isNL, w2_ntN0, w2_ntNi, w2_ntNs, w2_ntNS, w2_ntNt, w2_ntNl, w2_ntNT, w2_ntNL, w2_repL, w2_rep1, w2_repT, w2_repT1
        exact ⟨⟨by omega, by omega⟩, ⟨by omega, by omega⟩, fun _ => ⟨by omega, by omega⟩, fun _ => ⟨by omega, by omega⟩, fun _ => trivial⟩
      obtain rfl := hb rfl
      exists imm_Sx, imm_Sg, flat_Sx, flat_Sg, wbi_lenS, wits_Sx, w2_inS, w2_ninS, w2_addS, w2_addSg, wslc_S, wsub_S, w2_ltS, w2_isN0, w2_isNi, w2_isNs, w2_isNS, w2_isNt, w2_isNl, w2_isNT, w2_isNL, w2_ntN0, w2_ntNi, w2_ntNs, w2_ntNS, w2_ntNt, w2_ntNl, w2_ntNT, w2_ntNL, w2_repL, w2_rep1, w2_repT, w2_repT1
      rw [any_f]
      by_cases h2 : (rng 0 ((a.length : Int) - 1)).any (fun k => decide (pyg a k ≤ pyg a (k + 1)) || decide (pyg b k ≤ pyg b (k + 1))) = true
      · rw [h2]
        exists imm_Sx, imm_Sg, flat_Sx, flat_Sg, wbi_lenS, wits_Sx, w2_inS, w2_ninS, w2_addS, w2_addSg, wslc_S, wsub_S, w2_ltS, w2_isN0, w2_isNi, w2_isNs, w2_isNS, w2_isNt, w2_isNl, w2_isNT, w2_isNL, w2_ntN0, w2_ntNi, w2_ntNs, w2_ntNS, w2_ntNt, w2_ntNl, w2_ntNT, w2_ntNL, w2_repL, w2_rep1, w2_repT, w2_repT1
        refine q2 fun h => ?_
        obtain ⟨x, hx, hx0⟩ := List.any_eq_true.mp h2
        rw [mem_rng] at hx
        simp only [Bool.or_eq_true, decide_eq_true_eq] at hx0
        rw [g_pyg (by omega), g_pyg (by omega), g_pyg (by omega), g_pyg (by omega), show (x + 1).toNat = x.toNat + 1 by omega] at hx0
        have := h.as x.toNat (by omega)
        have := h.bs x.toNat (by omega)
        omega
      · rw [Bool.eq_false_iff.mpr h2]
        have hs : ∀ k : Nat, k + 1 < a.length → g a (k + 1) < g a k ∧ g b (k + 1) < g b k := fun k hk => by
          have : ¬ (decide (pyg a (k : Int) ≤ pyg a ((k : Int) + 1)) || decide (pyg b (k : Int) ≤ pyg b ((k : Int) + 1))) = true := fun z => h2 (List.any_eq_true.mpr ⟨(k : Int), mem_rng.mpr ⟨by omega, by omega⟩, z⟩)
          simp only [Bool.or_eq_true, decide_eq_true_eq, not_or, Int.not_le] at this
          rw [g_pyg (by omega), g_pyg (by omega), g_pyg (by omega), g_pyg (by omega), show ((k : Int) + 1).toNat = k + 1 by omega, Int.toNat_natCast] at this
          omega
        have hr : Rt a b := ⟨hl, fun k hk => h0 _ (List.mem_append_left _ (g_mem hk)), fun k hk => h0 _ (List.mem_append_right _ (g_mem (by omega))), fun k hk => (hs k hk).1, fun k hk => (hs k hk).2⟩
        have q1 := q1 hr
        exists imm_Sx, imm_Sg, flat_Sx, flat_Sg, wbi_lenS, wits_Sx, w2_inS, w2_ninS, w2_addS, w2_addSg, wslc_S, wsub_S, w2_ltS, w2_isN0, w2_isNi, w2_isNs, w2_isNS, w2_isNt, w2_isNl, w2_isNT, w2_isNL, w2_ntN0, w2_ntNi, w2_ntNs, w2_ntNS, w2_ntNt, w2_ntNl, w2_ntNT, w2_ntNL, w2_repL, w2_rep1, w2_repT, w2_repT1
        refine wbS_if (fun h40 => ?_) (fun h40 => ?_) <;> (try simp only [decide_eq_true_eq, decide_eq_false_iff_not, Bool.or_eq_true, Bool.and_eq_true, Bool.or_eq_false_iff, Bool.and_eq_false_iff, Bool.not_eq_true', Bool.not_eq_false', Bool.not_eq_true, Bool.not_eq_false, Int.not_lt, Int.not_le, Bool.false_eq_true, Bool.true_eq_false, id] at h40)
        · rw [if_neg (by omega)] at q1
          exists imm_Sx, imm_Sg, flat_Sx, flat_Sg, wbi_lenS, wits_Sx, w2_inS, w2_ninS, w2_addS, w2_addSg, wslc_S, wsub_S, w2_ltS, w2_isN0, w2_isNi, w2_isNs, w2_isNS, w2_isNt, w2_isNl, w2_isNT, w2_isNL, w2_ntN0, w2_ntNi, w2_ntNs, w2_ntNS, w2_ntNt, w2_ntNl, w2_ntNT, w2_ntNL, w2_repL, w2_rep1, w2_repT, w2_repT1
          exact q1
        · rw [if_pos (by omega)] at q1
          exists imm_Sx, imm_Sg, flat_Sx, flat_Sg, wbi_lenS, wits_Sx, w2_inS, w2_ninS, w2_addS, w2_addSg, wslc_S, wsub_S, w2_ltS, w2_isN0, w2_isNi, w2_isNs, w2_isNS, w2_isNt, w2_isNl, w2_isNT, w2_isNL, w2_ntN0, w2_ntNi, w2_ntNs, w2_ntNS, w2_ntNt, w2_ntNl, w2_ntNT, w2_ntNL, w2_repL, w2_rep1, w2_repT, w2_repT1
          (repeat ((with_reducible refine And.intro ?_ ?_); focus (intros; first | (simp only [List.length_append, List.length_cons, List.length_nil]; omega) | ((with_reducible refine lenOk_of ?_); first | decide | omega) | ((with_reducible refine mulOk_l ?_); first | decide | omega) | ((with_reducible refine mulOk_r ?_); first | decide | omega) | ((with_reducible refine smallI_of ?_); omega) | ((with_reducible refine divOk_of ?_ ?_) <;> first | decide | omega) | exact And.intro (by omega) (by omega) | omega | (unfold kp; exact Or.inl rfl) | with_reducible rfl | with_reducible exact trivial)))
          refine wcomp_map1 (f := PyData.int) PyData.int (fun k => pyg a k + k + 1) true (fun x hx => ?_) (by exists imm_Sx, imm_Sg, flat_Sx, flat_Sg, wbi_lenS, wits_Sx, w2_inS, w2_ninS, w2_addS, w2_addSg, wslc_S, wsub_S, w2_ltS, w2_isN0, w2_isNi, w2_isNs, w2_isNS, w2_isNt, w2_isNl, w2_isNT, w2_isNL, w2_ntN0, w2_ntNi, w2_ntNs, w2_ntNS, w2_ntNt, w2_ntNl, w2_ntNT, w2_ntNL, w2_repL, w2_rep1, w2_repT, w2_repT1) rfl (by rw [rng_len]; omega) fun b' hb => ?_
          · rw [mem_rng] at hx
            exists imm_Sx, imm_Sg, flat_Sx, flat_Sg, wbi_lenS, wits_Sx, w2_inS, w2_ninS, w2_addS, w2_addSg, wslc_S, wsub_S, w2_ltS, w2_isN0, w2_isNi, w2_isNs, w2_isNS, w2_isNt, w2_isNl, w2_isNT, w2_isNL, w2_ntN0, w2_ntNi, w2_ntNs, w2_ntNS, w2_ntNt, w2_ntNl, w2_ntNT, w2_ntNL, w2_repL, w2_rep1, w2_repT, w2_repT1
            exact ⟨⟨by omega, by omega⟩, fun _ => trivial⟩
          obtain rfl := hb rfl
          have hb0 : 0 < b.length → -1000 ≤ pyg b 0 ∧ pyg b 0 ≤ 1000 := fun z => by
            rw [g_pyg (by decide)]
            exact sb _ (g_mem z)
          exists imm_Sx, imm_Sg, flat_Sx, flat_Sg, wbi_lenS, wits_Sx, w2_inS, w2_ninS, w2_addS, w2_addSg, wslc_S, wsub_S, w2_ltS, w2_isN0, w2_isNi, w2_isNs, w2_isNS, w2_isNt, w2_isNl, w2_isNT, w2_isNL, w2_ntN0, w2_ntNi, w2_ntNs, w2_ntNS, w2_ntNt, w2_ntNl, w2_ntNT, w2_ntNL, w2_repL, w2_rep1, w2_repT, w2_repT1
          have hsm : -1000 ≤ (if (0 : Int) < (a.length : Int) then pyg b 0 + 1 else 0) ∧ (if (0 : Int) < (a.length : Int) then pyg b 0 + 1 else 0) ≤ 1001 := by
            split
            · have := hb0 (by omega); omega
            · omega
          refine ⟨fun _ => ⟨by omega, by omega⟩, smallI_of (by omega), smallI_of (by omega), ?_⟩
          have bq := bk_q hr
          generalize hH : (if (0 : Int) < (a.length : Int) then pyg b 0 + 1 else 0) = H at *
          refine wfor_inv (f := PyData.int) (I := fun pre σ => ∃ (c4 : NI), σ = [some (.own (Tp .int a)), some (.own (Tp .int b)), some (.own (.int a.length)), some (.own (Ls .int ((rng 0 (a.length : Int)).map (fun k => pyg a k + k + 1) ++ pre.map (fun r => (low b a.length r.toNat : Int))))), c4.c, none, none])
            ⟨⟨_, rfl, rfl⟩, by rw [List.map_nil, List.append_nil]⟩ ?_ ?_
          · rintro pre r suf σ hp ⟨c4, rfl⟩
            have hr' := mem_rng.mp (pre_mem hp)
            have hpl := pre_len hp
            rw [rng_len] at hpl
            exists imm_Sx, imm_Sg, flat_Sx, flat_Sg, wbi_lenS, wits_Sx, w2_inS, w2_ninS, w2_addS, w2_addSg, wslc_S, wsub_S, w2_ltS, w2_isN0, w2_isNi, w2_isNs, w2_isNS, w2_isNt, w2_isNl, w2_isNT, w2_isNL, w2_ntN0, w2_ntNi, w2_ntNs, w2_ntNS, w2_ntNt, w2_ntNl, w2_ntNT, w2_ntNL, w2_repL, w2_rep1, w2_repT, w2_repT1
            (repeat ((with_reducible refine And.intro ?_ ?_); focus (intros; first | (simp only [List.length_append, List.length_cons, List.length_nil]; omega) | ((with_reducible refine lenOk_of ?_); first | decide | omega) | ((with_reducible refine mulOk_l ?_); first | decide | omega) | ((with_reducible refine mulOk_r ?_); first | decide | omega) | ((with_reducible refine smallI_of ?_); omega) | ((with_reducible refine divOk_of ?_ ?_) <;> first | decide | omega) | exact And.intro (by omega) (by omega) | omega | (unfold kp; exact Or.inl rfl) | with_reducible rfl | with_reducible exact trivial)))
            refine wcomp_map (f := PyData.int) PyData.int (fun k => decide (r ≤ pyg b k + k)) (fun k => k) true (fun x hx => ?_) (by exists imm_Sx, imm_Sg, flat_Sx, flat_Sg, wbi_lenS, wits_Sx, w2_inS, w2_ninS, w2_addS, w2_addSg, wslc_S, wsub_S, w2_ltS, w2_isN0, w2_isNi, w2_isNs, w2_isNS, w2_isNt, w2_isNl, w2_isNT, w2_isNL, w2_ntN0, w2_ntNi, w2_ntNs, w2_ntNS, w2_ntNt, w2_ntNl, w2_ntNT, w2_ntNL, w2_repL, w2_rep1, w2_repT, w2_repT1) rfl ?_ fun b' hb => ?_
            · rw [mem_rng] at hx
              exists imm_Sx, imm_Sg, flat_Sx, flat_Sg, wbi_lenS, wits_Sx, w2_inS, w2_ninS, w2_addS, w2_addSg, wslc_S, wsub_S, w2_ltS, w2_isN0, w2_isNi, w2_isNs, w2_isNS, w2_isNt, w2_isNl, w2_isNT, w2_isNL, w2_ntN0, w2_ntNi, w2_ntNs, w2_ntNS, w2_ntNt, w2_ntNl, w2_ntNT, w2_ntNL, w2_repL, w2_rep1, w2_repT, w2_repT1
              exact ⟨⟨by omega, by omega⟩, fun _ _ => trivial⟩
            · rw [List.length_map]
              have := List.length_filter_le (fun k => decide (r ≤ pyg b k + k)) (rng 0 (a.length : Int))
              rw [rng_len] at this
              omega
            obtain rfl := hb rfl
            have el : ((rng 0 (a.length : Int)).filter fun k => decide (r ≤ pyg b k + k)).length = low b a.length r.toNat := by
              unfold rng low
              rw [List.filter_map, List.length_map, show ((a.length : Int) - 0).toNat = a.length by omega]
              congr 1
              refine List.filter_congr fun k _ => ?_
              simp only [Function.comp, Int.zero_add]
              rw [g_pyg (by omega), Int.toNat_natCast, show ((r.toNat : Nat) : Int) = r by omega]
            exists imm_Sx, imm_Sg, flat_Sx, flat_Sg, wbi_lenS, wits_Sx, w2_inS, w2_ninS, w2_addS, w2_addSg, wslc_S, wsub_S, w2_ltS, w2_isN0, w2_isNi, w2_isNs, w2_isNS, w2_isNt, w2_isNl, w2_isNT, w2_isNL, w2_ntN0, w2_ntNi, w2_ntNs, w2_ntNS, w2_ntNt, w2_ntNl, w2_ntNT, w2_ntNL, w2_repL, w2_rep1, w2_repT, w2_repT1, List.map_id', el
            refine ⟨by rw [List.length_append, List.length_map, List.length_map, rng_len]; omega, ⟨some (.own (.int r)), rfl, rfl⟩, ?_⟩
            rw [List.map_append, List.append_assoc]
            rfl
          · rintro σ ⟨c4, rfl⟩
            rw [bq]
            exists imm_Sx, imm_Sg, flat_Sx, flat_Sg, wbi_lenS, wits_Sx, w2_inS, w2_ninS, w2_addS, w2_addSg, wslc_S, wsub_S, w2_ltS, w2_isN0, w2_isNi, w2_isNs, w2_isNS, w2_isNt, w2_isNl, w2_isNT, w2_isNL, w2_ntN0, w2_ntNi, w2_ntNs, w2_ntNS, w2_ntNt, w2_ntNl, w2_ntNT, w2_ntNL, w2_repL, w2_rep1, w2_repT, w2_repT1
            exact q1
  · have e1 : decide ((b.length : Int) = (a.length : Int)) = false := decide_eq_false (by omega)
    exists imm_Sx, imm_Sg, flat_Sx, flat_Sg, wbi_lenS, wits_Sx, w2_inS, w2_ninS, w2_addS, w2_addSg, wslc_S, wsub_S, w2_ltS, w2_isN0, w2_isNi, w2_isNs, w2_isNS, w2_isNt, w2_isNl, w2_isNT, w2_isNL, w2_ntN0, w2_ntNi, w2_ntNs, w2_ntNS, w2_ntNt, w2_ntNl, w2_ntNT, w2_ntNL, w2_repL, w2_rep1, w2_repT, w2_repT1, e1
    exact ⟨fun _ => by omega, q2 fun h => hl h.len⟩
end K03
set_option Elab.async false
set_option linter.all false
set_option maxRecDepth 100000
set_option maxHeartbeats 1000000
namespace K03
open PySem PV PT
theorem ew_len : ∀ (s : List Int), Pt s → ((ew s).length : Int) = g s 0 + s.length
  | [], _ => rfl
  | p :: r, h => by
    have := h.hd
    have := h.tail.nn 0
    have ih := ew_len r h.tail
    rw [ew_cons, List.length_append, List.length_append, List.length_replicate, List.length_singleton, g_0, List.length_cons]
    omega
theorem ewF_snoc (l : List Int) (p : Int) : (ewF 0 (l ++ [p])).1 = (ewF 0 l).1 ++ List.replicate (p - (ewF 0 l).2).toNat 0 ++ [1] ∧ (ewF 0 (l ++ [p])).2 = p := by
  unfold ewF
  rw [List.foldl_append]
  exact ⟨rfl, rfl⟩
theorem edge_ok (k : Nat) (s : List Int) (h : Sm s) {Q : D → Prop} {E : XE} (q : Q (Tp .int (ew s))) : Call (runF fs (k+2)) 4 [.own (Tp .int s)] Q E := by
  have hl := h.len
  refine call_intro rfl rfl ?_
  unfold c4
  exists imm_Sx, imm_Sg, flat_Sx, flat_Sg, wbi_lenS, wits_Sx, w2_inS, w2_ninS, w2_addS, w2_addSg, wslc_S, wsub_S, w2_ltS, w2_isN0, w2_isNi, w2_isNs, w2_isNS, w2_isNt, w2_isNl, w2_isNT, w2_isNL, w2_ntN0, w2_ntNi, w2_ntNs, w2_ntNS, w2_ntNt, w2_ntNl, w2_ntNT, w2_ntNL, w2_repL, w2_rep1, w2_repT, w2_repT1
  refine wcall_1 ?_
  exists imm_Sx, imm_Sg, flat_Sx, flat_Sg, wbi_lenS, wits_Sx, w2_inS, w2_ninS, w2_addS, w2_addSg, wslc_S, wsub_S, w2_ltS, w2_isN0, w2_isNi, w2_isNs, w2_isNS, w2_isNt, w2_isNl, w2_isNT, w2_isNL, w2_ntN0, w2_ntNi, w2_ntNs, w2_ntNS, w2_ntNt, w2_ntNl, w2_ntNT, w2_ntNL, w2_repL, w2_rep1, w2_repT, w2_repT1
  refine check_ok _ s h.pt (by omega) ?_
  rw [if_pos h.s40]
  (try exists imm_Sx, imm_Sg, flat_Sx, flat_Sg, wbi_lenS, wits_Sx, w2_inS, w2_ninS, w2_addS, w2_addSg, wslc_S, wsub_S, w2_ltS, w2_isN0, w2_isNi, w2_isNs, w2_isNS, w2_isNt, w2_isNl, w2_isNT, w2_isNL, w2_ntN0, w2_ntNi, w2_ntNs, w2_ntNS, w2_ntNt, w2_ntNl, w2_ntNT, w2_ntNL, w2_repL, w2_rep1, w2_repT, w2_repT1, lst0 (f := PyData.int))
  (repeat ((with_reducible refine And.intro ?_ ?_); focus (intros; first | (simp only [List.length_append, List.length_cons, List.length_nil]; omega) | ((with_reducible refine lenOk_of ?_); first | decide | omega) | ((with_reducible refine mulOk_l ?_); first | decide | omega) | ((with_reducible refine mulOk_r ?_); first | decide | omega) | ((with_reducible refine smallI_of ?_); omega) | ((with_reducible refine divOk_of ?_ ?_) <;> first | decide | omega) | exact And.intro (by omega) (by omega) | omega | (unfold kp; exact Or.inl rfl) | with_reducible rfl | with_reducible exact trivial)))
  refine wfor_inv (f := PyData.int) (I := fun pre σ => ∃ (c3 : NI), (ewF 0 pre).1.length ≤ 41 * pre.length ∧ 0 ≤ (ewF 0 pre).2 ∧ (ewF 0 pre).2 ≤ 40 ∧ σ = [some (.own (Tp .int s)), some (.own (Ls .int (ewF 0 pre).1)), some (.own (.int (ewF 0 pre).2)), c3.c])
    ⟨⟨_, rfl, rfl⟩, by simp [ewF], by simp [ewF], by simp [ewF], rfl⟩ ?_ ?_
  · rintro pre p suf σ hp ⟨c3, b1, b2, b3, rfl⟩
    have hm := List.mem_reverse.mp (pre_mem hp)
    have hpl := pre_len hp
    rw [List.length_reverse] at hpl
    have p1 := h.pt.pos p hm
    have p2 := (Pt.sum_ge h.pt).2.1 p hm
    have s40 := h.s40
    obtain ⟨e1, e2⟩ := ewF_snoc pre p
    exists imm_Sx, imm_Sg, flat_Sx, flat_Sg, wbi_lenS, wits_Sx, w2_inS, w2_ninS, w2_addS, w2_addSg, wslc_S, wsub_S, w2_ltS, w2_isN0, w2_isNi, w2_isNs, w2_isNS, w2_isNt, w2_isNl, w2_isNT, w2_isNL, w2_ntN0, w2_ntNi, w2_ntNs, w2_ntNS, w2_ntNt, w2_ntNl, w2_ntNT, w2_ntNL, w2_repL, w2_rep1, w2_repT, w2_repT1
    refine ⟨lenOk_of (by decide), by omega, by omega, by omega, lenOk_of (by rw [List.length_replicate]; omega), by rw [List.length_append, List.length_replicate]; omega, ⟨some (.own (.int p)), rfl, rfl⟩, ?_, by rw [e2]; omega, by rw [e2]; omega, by rw [e1, e2]⟩
    rw [e1, List.length_append, List.length_append, List.length_append, List.length_replicate, List.length_singleton, List.length_singleton]
    omega
  · rintro σ ⟨c3, b1, b2, b3, rfl⟩
    exists imm_Sx, imm_Sg, flat_Sx, flat_Sg, wbi_lenS, wits_Sx, w2_inS, w2_ninS, w2_addS, w2_addSg, wslc_S, wsub_S, w2_ltS, w2_isN0, w2_isNi, w2_isNs, w2_isNS, w2_isNt, w2_isNl, w2_isNT, w2_isNL, w2_ntN0, w2_ntNi, w2_ntNs, w2_ntNS, w2_ntNt, w2_ntNl, w2_ntNT, w2_ntNL, w2_repL, w2_rep1, w2_repT, w2_repT1
    exact q
theorem seS_len : ∀ (w : List Int) (rows : List Int) (a : Int), (w.foldl seS (rows, a)).1.length ≤ rows.length + w.length
  | [], rows, a => by simp
  | x :: w, rows, a => by
    rw [List.foldl_cons, List.length_cons]
    unfold seS
    simp only
    split
    · have := seS_len w rows (a + 1); unfold seS at this; omega
    · split
      · have := seS_len w (rows ++ [a]) a; rw [List.length_append, List.length_singleton] at this; unfold seS at this; omega
      · have := seS_len w rows a; unfold seS at this; omega
theorem shape_ok (k : Nat) (w : List Int) (hl : w.length ≤ 200) {Q : D → Prop} {E : XE} (q : if (se w).sum ≤ 40 then Q (Tp .int (se w)) else E 1 (.str "large") (.int 0)) : Call (runF fs (k+2)) 5 [.own (Tp .int w)] Q E := by
  refine call_intro rfl rfl ?_
  unfold c5
  exists imm_Sx, imm_Sg, flat_Sx, flat_Sg, wbi_lenS, wits_Sx, w2_inS, w2_ninS, w2_addS, w2_addSg, wslc_S, wsub_S, w2_ltS, w2_isN0, w2_isNi, w2_isNs, w2_isNS, w2_isNt, w2_isNl, w2_isNT, w2_isNL, w2_ntN0, w2_ntNi, w2_ntNs, w2_ntNS, w2_ntNt, w2_ntNl, w2_ntNT, w2_ntNL, w2_repL, w2_rep1, w2_repT, w2_repT1, lst0 (f := PyData.int)
  (repeat ((with_reducible refine And.intro ?_ ?_); focus (intros; first | (simp only [List.length_append, List.length_cons, List.length_nil]; omega) | ((with_reducible refine lenOk_of ?_); first | decide | omega) | ((with_reducible refine mulOk_l ?_); first | decide | omega) | ((with_reducible refine mulOk_r ?_); first | decide | omega) | ((with_reducible refine smallI_of ?_); omega) | ((with_reducible refine divOk_of ?_ ?_) <;> first | decide | omega) | exact And.intro (by omega) (by omega) | omega | (unfold kp; exact Or.inl rfl) | with_reducible rfl | with_reducible exact trivial)))
  refine wfor_inv (f := PyData.int) (I := fun pre σ => ∃ (c3 : NI), σ = [some (.own (Tp .int w)), some (.own (Ls .int (pre.foldl seS ([], 0)).1)), some (.own (.int (pre.foldl seS ([], 0)).2)), c3.c, none])
    ⟨⟨_, rfl, rfl⟩, rfl⟩ ?_ ?_
  · rintro pre x suf σ hp ⟨c3, rfl⟩
    have hpl := pre_len hp
    have sl := seS_len pre [] 0
    rw [List.length_nil] at sl
    have st : (pre ++ [x]).foldl seS ([], 0) = seS (pre.foldl seS ([], 0)) x := by rw [List.foldl_append]; rfl
    rw [st]
    generalize pre.foldl seS ([], 0) = t at *
    obtain ⟨rows, at_⟩ := t
    simp only at sl ⊢
    exists imm_Sx, imm_Sg, flat_Sx, flat_Sg, wbi_lenS, wits_Sx, w2_inS, w2_ninS, w2_addS, w2_addSg, wslc_S, wsub_S, w2_ltS, w2_isN0, w2_isNi, w2_isNs, w2_isNS, w2_isNt, w2_isNl, w2_isNT, w2_isNL, w2_ntN0, w2_ntNi, w2_ntNs, w2_ntNS, w2_ntNt, w2_ntNl, w2_ntNT, w2_ntNL, w2_repL, w2_rep1, w2_repT, w2_repT1
    refine wbS_if (fun h0 => ?_) (fun h0 => ?_) <;> (try simp only [decide_eq_true_eq, decide_eq_false_iff_not, Bool.or_eq_true, Bool.and_eq_true, Bool.or_eq_false_iff, Bool.and_eq_false_iff, Bool.not_eq_true', Bool.not_eq_false', Bool.not_eq_true, Bool.not_eq_false, Int.not_lt, Int.not_le, Bool.false_eq_true, Bool.true_eq_false, id] at h0)
    · exists imm_Sx, imm_Sg, flat_Sx, flat_Sg, wbi_lenS, wits_Sx, w2_inS, w2_ninS, w2_addS, w2_addSg, wslc_S, wsub_S, w2_ltS, w2_isN0, w2_isNi, w2_isNs, w2_isNS, w2_isNt, w2_isNl, w2_isNT, w2_isNL, w2_ntN0, w2_ntNi, w2_ntNs, w2_ntNS, w2_ntNt, w2_ntNl, w2_ntNT, w2_ntNL, w2_repL, w2_rep1, w2_repT, w2_repT1
      refine ⟨⟨some (.own (.int x)), rfl, rfl⟩, ?_⟩
      unfold seS
      rw [if_pos h0]
    · exists imm_Sx, imm_Sg, flat_Sx, flat_Sg, wbi_lenS, wits_Sx, w2_inS, w2_ninS, w2_addS, w2_addSg, wslc_S, wsub_S, w2_ltS, w2_isN0, w2_isNi, w2_isNs, w2_isNS, w2_isNt, w2_isNl, w2_isNT, w2_isNL, w2_ntN0, w2_ntNi, w2_ntNs, w2_ntNS, w2_ntNt, w2_ntNl, w2_ntNT, w2_ntNL, w2_repL, w2_rep1, w2_repT, w2_repT1
      refine wbS_if (fun h1 => ?_) (fun h1 => ?_) <;> (try simp only [decide_eq_true_eq, decide_eq_false_iff_not, Bool.or_eq_true, Bool.and_eq_true, Bool.or_eq_false_iff, Bool.and_eq_false_iff, Bool.not_eq_true', Bool.not_eq_false', Bool.not_eq_true, Bool.not_eq_false, Int.not_lt, Int.not_le, Bool.false_eq_true, Bool.true_eq_false, id] at h1)
      · exists imm_Sx, imm_Sg, flat_Sx, flat_Sg, wbi_lenS, wits_Sx, w2_inS, w2_ninS, w2_addS, w2_addSg, wslc_S, wsub_S, w2_ltS, w2_isN0, w2_isNi, w2_isNs, w2_isNS, w2_isNt, w2_isNl, w2_isNT, w2_isNL, w2_ntN0, w2_ntNi, w2_ntNs, w2_ntNS, w2_ntNt, w2_ntNl, w2_ntNT, w2_ntNL, w2_repL, w2_rep1, w2_repT, w2_repT1
        refine ⟨by omega, ⟨some (.own (.int x)), rfl, rfl⟩, ?_⟩
        unfold seS
        rw [if_neg h0, if_pos (by simpa using h1)]
      · exists imm_Sx, imm_Sg, flat_Sx, flat_Sg, wbi_lenS, wits_Sx, w2_inS, w2_ninS, w2_addS, w2_addSg, wslc_S, wsub_S, w2_ltS, w2_isN0, w2_isNi, w2_isNs, w2_isNS, w2_isNt, w2_isNl, w2_isNT, w2_isNL, w2_ntN0, w2_ntNi, w2_ntNs, w2_ntNS, w2_ntNt, w2_ntNl, w2_ntNT, w2_ntNL, w2_repL, w2_rep1, w2_repT, w2_repT1
        refine ⟨⟨some (.own (.int x)), rfl, rfl⟩, ?_⟩
        unfold seS
        rw [if_neg h0, if_neg (by simp only; omega)]
  · rintro σ ⟨c3, rfl⟩
    have sl := seS_len w [] 0
    rw [List.length_nil] at sl
    exists imm_Sx, imm_Sg, flat_Sx, flat_Sg, wbi_lenS, wits_Sx, w2_inS, w2_ninS, w2_addS, w2_addSg, wslc_S, wsub_S, w2_ltS, w2_isN0, w2_isNi, w2_isNs, w2_isNS, w2_isNt, w2_isNl, w2_isNT, w2_isNL, w2_ntN0, w2_ntNi, w2_ntNs, w2_ntNS, w2_ntNt, w2_ntNl, w2_ntNT, w2_ntNL, w2_repL, w2_rep1, w2_repT, w2_repT1
    refine wcall_1 ?_
    exists imm_Sx, imm_Sg, flat_Sx, flat_Sg, wbi_lenS, wits_Sx, w2_inS, w2_ninS, w2_addS, w2_addSg, wslc_S, wsub_S, w2_ltS, w2_isN0, w2_isNi, w2_isNs, w2_isNS, w2_isNt, w2_isNl, w2_isNT, w2_isNL, w2_ntN0, w2_ntNi, w2_ntNs, w2_ntNS, w2_ntNt, w2_ntNl, w2_ntNT, w2_ntNL, w2_repL, w2_rep1, w2_repT, w2_repT1
    refine check_ok _ (se w) (se_Pt w) (by unfold se; rw [List.length_reverse]; omega) ?_
    by_cases h : (se w).sum ≤ 40
    · rw [if_pos h] at q ⊢
      (try exists imm_Sx, imm_Sg, flat_Sx, flat_Sg, wbi_lenS, wits_Sx, w2_inS, w2_ninS, w2_addS, w2_addSg, wslc_S, wsub_S, w2_ltS, w2_isN0, w2_isNi, w2_isNs, w2_isNS, w2_isNt, w2_isNl, w2_isNT, w2_isNL, w2_ntN0, w2_ntNi, w2_ntNs, w2_ntNS, w2_ntNt, w2_ntNl, w2_ntNT, w2_ntNL, w2_repL, w2_rep1, w2_repT, w2_repT1)
      exact q
    · rw [if_neg h] at q ⊢
      exact q
theorem Pt.snoc {l : List Int} (h : Pt l) {y : Int} (h1 : ∀ x ∈ l, y ≤ x) (h2 : 1 ≤ y) : Pt (l ++ [y]) := by
  refine ⟨List.pairwise_append.mpr ⟨h.fall, by simp, fun x hx z hz => by rw [List.mem_singleton.mp hz]; exact h1 x hx⟩, fun x hx => ?_⟩
  rcases List.mem_append.mp hx with hx | hx
  · exact h.pos x hx
  · rw [List.mem_singleton.mp hx]; exact h2
theorem part_ok (k : Nat) {x : D} (hx : Dr x) {Q : D → D → Prop} {E : XE} (hq : ∀ s x', Sm s → Dr x' → Q (Tp .int s) x') : CallR (runF fs (k+2)) 8 [.own x, .own (.int 40)] Q E := by
  refine callR_intro rfl rfl (by decide : 0 < 2) ?_
  unfold c8
  exists imm_Sx, imm_Sg, flat_Sx, flat_Sg, wbi_lenS, wits_Sx, w2_inS, w2_ninS, w2_addS, w2_addSg, wslc_S, wsub_S, w2_ltS, w2_isN0, w2_isNi, w2_isNs, w2_isNS, w2_isNt, w2_isNl, w2_isNT, w2_isNL, w2_ntN0, w2_ntNi, w2_ntNs, w2_ntNS, w2_ntNt, w2_ntNl, w2_ntNT, w2_ntNL, w2_repL, w2_rep1, w2_repT, w2_repT1
  refine wcall_take (f := 7) (mm := 69621) (q := 2147483647) rfl (by decide) (by decide) hx rfl (by exists imm_Sx, imm_Sg, flat_Sx, flat_Sg, wbi_lenS, wits_Sx, w2_inS, w2_ninS, w2_addS, w2_addSg, wslc_S, wsub_S, w2_ltS, w2_isN0, w2_isNi, w2_isNs, w2_isNS, w2_isNt, w2_isNl, w2_isNT, w2_isNL, w2_ntN0, w2_ntNi, w2_ntNs, w2_ntNS, w2_ntNt, w2_ntNl, w2_ntNT, w2_ntNL, w2_repL, w2_rep1, w2_repT, w2_repT1) (by decide) (by decide) fun n x1 n0 n1 hx1 => ?_
  exists imm_Sx, imm_Sg, flat_Sx, flat_Sg, wbi_lenS, wits_Sx, w2_inS, w2_ninS, w2_addS, w2_addSg, wslc_S, wsub_S, w2_ltS, w2_isN0, w2_isNi, w2_isNs, w2_isNS, w2_isNt, w2_isNl, w2_isNT, w2_isNL, w2_ntN0, w2_ntNi, w2_ntNs, w2_ntNS, w2_ntNt, w2_ntNl, w2_ntNT, w2_ntNL, w2_repL, w2_rep1, w2_repT, w2_repT1, lst0 (f := PyData.int)
  (repeat ((with_reducible refine And.intro ?_ ?_); focus (intros; first | (simp only [List.length_append, List.length_cons, List.length_nil]; omega) | ((with_reducible refine lenOk_of ?_); first | decide | omega) | ((with_reducible refine mulOk_l ?_); first | decide | omega) | ((with_reducible refine mulOk_r ?_); first | decide | omega) | ((with_reducible refine smallI_of ?_); omega) | ((with_reducible refine divOk_of ?_ ?_) <;> first | decide | omega) | exact And.intro (by omega) (by omega) | omega | (unfold kp; exact Or.inl rfl) | with_reducible rfl | with_reducible exact trivial)))
  refine wfor_inv (f := PyData.int) (I := fun pre σ => ∃ (c5 c6 : NI) (x' : D) (left top : Int) (row : List Int), Pt row ∧ (∀ y ∈ row, top ≤ y) ∧ 0 ≤ left ∧ row.sum + left = n ∧ (0 < left → 1 ≤ top) ∧ row.length ≤ pre.length ∧ Dr x' ∧ σ = [some (.own x'), some (.own (.int 40)), some (.own (.int left)), some (.own (Ls .int row)), some (.own (.int top)), c5.c, c6.c])
    ⟨⟨_, rfl, rfl⟩, ⟨_, rfl, rfl⟩, x1, n, n, [], Pt.nil, fun y hy => absurd hy (by simp), n0, by simp, fun h => by omega, by simp, hx1, rfl⟩ ?_ ?_
  · rintro pre i suf σ hp ⟨c5, c6, x', left, top, row, hpt, htop, hl, hsum, ht1, hlen, hx', rfl⟩
    have hpl := pre_len hp
    rw [rng_len] at hpl
    exists imm_Sx, imm_Sg, flat_Sx, flat_Sg, wbi_lenS, wits_Sx, w2_inS, w2_ninS, w2_addS, w2_addSg, wslc_S, wsub_S, w2_ltS, w2_isN0, w2_isNi, w2_isNs, w2_isNS, w2_isNt, w2_isNl, w2_isNT, w2_isNL, w2_ntN0, w2_ntNi, w2_ntNs, w2_ntNS, w2_ntNt, w2_ntNl, w2_ntNT, w2_ntNL, w2_repL, w2_rep1, w2_repT, w2_repT1
    refine wbS_if (fun h0 => ?_) (fun h0 => ?_) <;> (try simp only [decide_eq_true_eq, decide_eq_false_iff_not, Bool.or_eq_true, Bool.and_eq_true, Bool.or_eq_false_iff, Bool.and_eq_false_iff, Bool.not_eq_true', Bool.not_eq_false', Bool.not_eq_true, Bool.not_eq_false, Int.not_lt, Int.not_le, Bool.false_eq_true, Bool.true_eq_false, id] at h0)
    · exists imm_Sx, imm_Sg, flat_Sx, flat_Sg, wbi_lenS, wits_Sx, w2_inS, w2_ninS, w2_addS, w2_addSg, wslc_S, wsub_S, w2_ltS, w2_isN0, w2_isNi, w2_isNs, w2_isNS, w2_isNt, w2_isNl, w2_isNT, w2_isNL, w2_ntN0, w2_ntNi, w2_ntNs, w2_ntNS, w2_ntNt, w2_ntNl, w2_ntNT, w2_ntNL, w2_repL, w2_rep1, w2_repT, w2_repT1
      exact ⟨x', rfl, hq row x' ⟨hpt, by omega⟩ hx'⟩
    · have := ht1 (by omega)
      have hm : 1 ≤ (if top < left then top else left) ∧ (if top < left then top else left) ≤ top ∧ (if top < left then top else left) ≤ left := by split <;> omega
      have hn : left ≤ 40 := by
        have : 0 ≤ row.sum := by have := (Pt.sum_ge hpt).1; omega
        omega
      have fin : ∀ (x3 : D) (p : Int), Dr x3 → 1 ≤ p → p ≤ top → p ≤ left → ∃ (c5 c6 : NI) (x' : D) (left' top' : Int) (row' : List Int), Pt row' ∧ (∀ y ∈ row', top' ≤ y) ∧ 0 ≤ left' ∧ row'.sum + left' = n ∧ (0 < left' → 1 ≤ top') ∧ row'.length ≤ (pre ++ [i]).length ∧ Dr x' ∧ [some (Cell.own x3), some (.own (.int 40)), some (.own (.int (left - p))), some (.own (Ls .int (row ++ [p]))), some (.own (.int p)), some (.own (.int i)), some (.own (.int p))] = [some (.own x'), some (.own (.int 40)), some (.own (.int left')), some (.own (Ls .int row')), some (.own (.int top')), c5.c, c6.c] := by
        intro x3 p hx3 p1 p2 p3
        refine ⟨⟨_, rfl, rfl⟩, ⟨_, rfl, rfl⟩, x3, left - p, p, row ++ [p], Pt.snoc hpt (fun y hy => by have := htop y hy; omega) p1, fun y hy => ?_, by omega, by rw [List.sum_append]; simp; omega, fun _ => p1, by simp; omega, hx3, rfl⟩
        rcases List.mem_append.mp hy with hy | hy
        · have := htop y hy; omega
        · rw [List.mem_singleton.mp hy]; exact Int.le_refl _
      exists imm_Sx, imm_Sg, flat_Sx, flat_Sg, wbi_lenS, wits_Sx, w2_inS, w2_ninS, w2_addS, w2_addSg, wslc_S, wsub_S, w2_ltS, w2_isN0, w2_isNi, w2_isNs, w2_isNS, w2_isNt, w2_isNl, w2_isNT, w2_isNL, w2_ntN0, w2_ntNi, w2_ntNs, w2_ntNS, w2_ntNt, w2_ntNl, w2_ntNT, w2_ntNL, w2_repL, w2_rep1, w2_repT, w2_repT1
      refine wcall_take (f := 7) (mm := 69621) (q := 2147483647) rfl (by decide) (by decide) hx' rfl (by exists imm_Sx, imm_Sg, flat_Sx, flat_Sg, wbi_lenS, wits_Sx, w2_inS, w2_ninS, w2_addS, w2_addSg, wslc_S, wsub_S, w2_ltS, w2_isN0, w2_isNi, w2_isNs, w2_isNS, w2_isNt, w2_isNl, w2_isNT, w2_isNL, w2_ntN0, w2_ntNi, w2_ntNs, w2_ntNS, w2_ntNt, w2_ntNl, w2_ntNT, w2_ntNL, w2_repL, w2_rep1, w2_repT, w2_repT1) (by omega) (by omega) fun z x2 z0 z1 hx2 => ?_
      exists imm_Sx, imm_Sg, flat_Sx, flat_Sg, wbi_lenS, wits_Sx, w2_inS, w2_ninS, w2_addS, w2_addSg, wslc_S, wsub_S, w2_ltS, w2_isN0, w2_isNi, w2_isNs, w2_isNS, w2_isNt, w2_isNl, w2_isNT, w2_isNL, w2_ntN0, w2_ntNi, w2_ntNs, w2_ntNS, w2_ntNt, w2_ntNl, w2_ntNT, w2_ntNL, w2_repL, w2_rep1, w2_repT, w2_repT1
      refine wcall_take (f := 7) (mm := 69621) (q := 2147483647) rfl (by decide) (by decide) hx2 rfl (by exists imm_Sx, imm_Sg, flat_Sx, flat_Sg, wbi_lenS, wits_Sx, w2_inS, w2_ninS, w2_addS, w2_addSg, wslc_S, wsub_S, w2_ltS, w2_isN0, w2_isNi, w2_isNs, w2_isNS, w2_isNt, w2_isNl, w2_isNT, w2_isNL, w2_ntN0, w2_ntNi, w2_ntNs, w2_ntNS, w2_ntNt, w2_ntNl, w2_ntNT, w2_ntNL, w2_repL, w2_rep1, w2_repT, w2_repT1) (by decide) (by decide) fun y x3 y0 y1 hx3 => ?_
      exists imm_Sx, imm_Sg, flat_Sx, flat_Sg, wbi_lenS, wits_Sx, w2_inS, w2_ninS, w2_addS, w2_addSg, wslc_S, wsub_S, w2_ltS, w2_isN0, w2_isNi, w2_isNs, w2_isNS, w2_isNt, w2_isNl, w2_isNT, w2_isNL, w2_ntN0, w2_ntNi, w2_ntNs, w2_ntNS, w2_ntNt, w2_ntNl, w2_ntNT, w2_ntNL, w2_repL, w2_rep1, w2_repT, w2_repT1
      refine wbS_if (fun hy => ?_) (fun hy => ?_) <;> (try simp only [decide_eq_true_eq, decide_eq_false_iff_not, Bool.or_eq_true, Bool.and_eq_true, Bool.or_eq_false_iff, Bool.and_eq_false_iff, Bool.not_eq_true', Bool.not_eq_false', Bool.not_eq_true, Bool.not_eq_false, Int.not_lt, Int.not_le, Bool.false_eq_true, Bool.true_eq_false, id] at hy)
      · exists imm_Sx, imm_Sg, flat_Sx, flat_Sg, wbi_lenS, wits_Sx, w2_inS, w2_ninS, w2_addS, w2_addSg, wslc_S, wsub_S, w2_ltS, w2_isN0, w2_isNi, w2_isNs, w2_isNS, w2_isNt, w2_isNl, w2_isNT, w2_isNL, w2_ntN0, w2_ntNi, w2_ntNs, w2_ntNS, w2_ntNt, w2_ntNl, w2_ntNT, w2_ntNL, w2_repL, w2_rep1, w2_repT, w2_repT1
        refine ⟨by omega, ?_⟩
        exact fin x3 _ hx3 hm.1 hm.2.1 hm.2.2
      · exists imm_Sx, imm_Sg, flat_Sx, flat_Sg, wbi_lenS, wits_Sx, w2_inS, w2_ninS, w2_addS, w2_addSg, wslc_S, wsub_S, w2_ltS, w2_isN0, w2_isNi, w2_isNs, w2_isNS, w2_isNt, w2_isNl, w2_isNT, w2_isNL, w2_ntN0, w2_ntNi, w2_ntNs, w2_ntNS, w2_ntNt, w2_ntNl, w2_ntNT, w2_ntNL, w2_repL, w2_rep1, w2_repT, w2_repT1
        refine ⟨by omega, ?_⟩
        exact fin x3 _ hx3 (by omega) (by omega) (by omega)
  · rintro σ ⟨c5, c6, x', left, top, row, hpt, htop, hl, hsum, ht1, hlen, hx', rfl⟩
    exists imm_Sx, imm_Sg, flat_Sx, flat_Sg, wbi_lenS, wits_Sx, w2_inS, w2_ninS, w2_addS, w2_addSg, wslc_S, wsub_S, w2_ltS, w2_isN0, w2_isNi, w2_isNs, w2_isNS, w2_isNt, w2_isNl, w2_isNT, w2_isNL, w2_ntN0, w2_ntNi, w2_ntNs, w2_ntNS, w2_ntNt, w2_ntNl, w2_ntNT, w2_ntNL, w2_repL, w2_rep1, w2_repT, w2_repT1
    exact ⟨x', rfl, hq row x' ⟨hpt, by omega⟩ hx'⟩
end K03
set_option Elab.async false
set_option linter.all false
set_option maxRecDepth 100000
set_option maxHeartbeats 1000000
namespace K03
open PySem PV PT
/-- the cells of the first n rows -/
def cl (s : List Int) (n : Nat) : List (Int × Int) := (List.range n).flatMap fun r => (rng 0 (g s r)).map fun c => ((r : Int), c)
theorem cl_s (s : List Int) (n : Nat) : cl s (n + 1) = cl s n ++ (rng 0 (g s n)).map fun c => ((n : Int), c) := by
  unfold cl
  rw [List.range_succ, List.flatMap_append, List.flatMap_singleton]
theorem cl_len {s : List Int} (h : Sm s) : ∀ n, (cl s n).length ≤ 40 * n
  | 0 => by simp [cl]
  | n + 1 => by
    have := cl_len h n
    have := h.le n
    rw [cl_s, List.length_append, List.length_map, rng_len]
    omega
theorem cl_mem {s : List Int} (h : Pt s) {n : Nat} {p : Int × Int} : p ∈ cl s n ↔ ∃ r c : Nat, r < n ∧ (c : Int) < g s r ∧ p = ((r : Int), (c : Int)) := by
  unfold cl
  rw [List.mem_flatMap]
  constructor
  · rintro ⟨r, hr, hp⟩
    obtain ⟨c, hc, rfl⟩ := List.mem_map.mp hp
    rw [mem_rng] at hc
    exact ⟨r, c.toNat, List.mem_range.mp hr, by omega, by rw [show ((c.toNat : Nat) : Int) = c by omega]⟩
  · rintro ⟨r, c, hr, hc, rfl⟩
    exact ⟨r, List.mem_range.mpr hr, List.mem_map.mpr ⟨c, mem_rng.mpr ⟨by omega, hc⟩, rfl⟩⟩
theorem cells_ok (k : Nat) (s : List Int) (h : Sm s) {Q : D → Prop} {E : XE} (q : Q (Ls (Pr .int .int) (cl s s.length))) : Call (runF fs (k+1)) 9 [.own (Tp .int s)] Q E := by
  have hl := h.len
  refine call_intro rfl rfl ?_
  unfold c9
  exists imm_Sx, imm_Sg, flat_Sx, flat_Sg, wbi_lenS, wits_Sx, w2_inS, w2_ninS, w2_addS, w2_addSg, wslc_S, wsub_S, w2_ltS, w2_isN0, w2_isNi, w2_isNs, w2_isNS, w2_isNt, w2_isNl, w2_isNT, w2_isNL, w2_ntN0, w2_ntNi, w2_ntNs, w2_ntNS, w2_ntNt, w2_ntNl, w2_ntNT, w2_ntNL, w2_repL, w2_rep1, w2_repT, w2_repT1, lst0 (f := Pr PyData.int PyData.int)
  (repeat ((with_reducible refine And.intro ?_ ?_); focus (intros; first | (simp only [List.length_append, List.length_cons, List.length_nil]; omega) | ((with_reducible refine lenOk_of ?_); first | decide | omega) | ((with_reducible refine mulOk_l ?_); first | decide | omega) | ((with_reducible refine mulOk_r ?_); first | decide | omega) | ((with_reducible refine smallI_of ?_); omega) | ((with_reducible refine divOk_of ?_ ?_) <;> first | decide | omega) | exact And.intro (by omega) (by omega) | omega | (unfold kp; exact Or.inl rfl) | with_reducible rfl | with_reducible exact trivial)))
  refine wfor_inv (f := PyData.int) (I := fun pre σ => ∃ (c2 c3 : NI), σ = [some (.own (Tp .int s)), some (.own (Ls (Pr .int .int) (cl s pre.length))), c2.c, c3.c])
    ⟨⟨_, rfl, rfl⟩, ⟨_, rfl, rfl⟩, rfl⟩ ?_ ?_
  · rintro pre r suf σ hp ⟨c2, c3, rfl⟩
    obtain ⟨g1, g2⟩ := rng_at hp
    have er : r = (pre.length : Int) := by omega
    subst er
    have hg := h.le pre.length
    have hcl := cl_len h pre.length
    have eg : pyg s (pre.length : Int) = g s pre.length := by rw [g_pyg (by omega), Int.toNat_natCast]
    exists imm_Sx, imm_Sg, flat_Sx, flat_Sg, wbi_lenS, wits_Sx, w2_inS, w2_ninS, w2_addS, w2_addSg, wslc_S, wsub_S, w2_ltS, w2_isN0, w2_isNi, w2_isNs, w2_isNS, w2_isNt, w2_isNl, w2_isNT, w2_isNL, w2_ntN0, w2_ntNi, w2_ntNs, w2_ntNS, w2_ntNt, w2_ntNl, w2_ntNT, w2_ntNL, w2_repL, w2_rep1, w2_repT, w2_repT1, eg
    refine ⟨⟨by omega, by omega⟩, smallI_of (by omega), ?_⟩
    refine wcomp_map1 (f := PyData.int) (Pr PyData.int PyData.int) (fun c => ((pre.length : Int), c)) true (fun x hx => ?_) (by exists imm_Sx, imm_Sg, flat_Sx, flat_Sg, wbi_lenS, wits_Sx, w2_inS, w2_ninS, w2_addS, w2_addSg, wslc_S, wsub_S, w2_ltS, w2_isN0, w2_isNi, w2_isNs, w2_isNS, w2_isNt, w2_isNl, w2_isNT, w2_isNL, w2_ntN0, w2_ntNi, w2_ntNs, w2_ntNS, w2_ntNt, w2_ntNl, w2_ntNT, w2_ntNL, w2_repL, w2_rep1, w2_repT, w2_repT1) rfl (by rw [rng_len]; omega) fun b' hb => ?_
    · exists imm_Sx, imm_Sg, flat_Sx, flat_Sg, wbi_lenS, wits_Sx, w2_inS, w2_ninS, w2_addS, w2_addSg, wslc_S, wsub_S, w2_ltS, w2_isN0, w2_isNi, w2_isNs, w2_isNS, w2_isNt, w2_isNl, w2_isNT, w2_isNL, w2_ntN0, w2_ntNi, w2_ntNs, w2_ntNS, w2_ntNt, w2_ntNl, w2_ntNT, w2_ntNL, w2_repL, w2_rep1, w2_repT, w2_repT1
      exact ⟨lenOk_of (by decide), rfl, fun _ => rfl⟩
    obtain rfl := hb rfl
    exists imm_Sx, imm_Sg, flat_Sx, flat_Sg, wbi_lenS, wits_Sx, w2_inS, w2_ninS, w2_addS, w2_addSg, wslc_S, wsub_S, w2_ltS, w2_isN0, w2_isNi, w2_isNs, w2_isNS, w2_isNt, w2_isNl, w2_isNT, w2_isNL, w2_ntN0, w2_ntNi, w2_ntNs, w2_ntNS, w2_ntNt, w2_ntNl, w2_ntNT, w2_ntNL, w2_repL, w2_rep1, w2_repT, w2_repT1
    refine ⟨lenOk_of (by rw [rng_len]; omega), ⟨some (.own (.int pre.length)), rfl, rfl⟩, c3, ?_⟩
    rw [List.length_append, List.length_singleton, cl_s]
  · rintro σ ⟨c2, c3, rfl⟩
    rw [rng_len, show ((s.length : Int) - 0).toNat = s.length by omega]
    exists imm_Sx, imm_Sg, flat_Sx, flat_Sg, wbi_lenS, wits_Sx, w2_inS, w2_ninS, w2_addS, w2_addSg, wslc_S, wsub_S, w2_ltS, w2_isN0, w2_isNi, w2_isNs, w2_isNS, w2_isNt, w2_isNl, w2_isNT, w2_isNL, w2_ntN0, w2_ntNi, w2_ntNs, w2_ntNS, w2_ntNt, w2_ntNl, w2_ntNT, w2_ntNL, w2_repL, w2_rep1, w2_repT, w2_repT1
    exact q
theorem cnt_q : ∀ (l : List Int) (k : Int), cnt l k = ((List.range l.length).filter fun r => decide (k < g l r)).length
  | [], k => rfl
  | x :: l, k => by
    have ih := cnt_q l k
    unfold cnt at ih ⊢
    rw [List.countP_cons, ih, List.length_cons, List.range_succ_eq_map, List.filter_cons, List.filter_map, g_0]
    have e : ((fun r => decide (k < g (x :: l) r)) ∘ Nat.succ) = fun r => decide (k < g l r) := by
      funext r
      simp only [Function.comp, Nat.succ_eq_add_one, g_s]
    rw [e]
    by_cases h : k < x
    · rw [decide_eq_true h, if_pos rfl, if_pos rfl, List.length_cons, List.length_map]
    · rw [decide_eq_false h, if_neg Bool.false_ne_true, if_neg Bool.false_ne_true, List.length_map]; rfl
theorem col_cnt {s : List Int} (h : Pt s) (k : Nat) : ∀ n, (((cl s n).map fun p => (p.2, p.1)).filter fun p => decide (p.1 = (k : Int))).length = ((List.range n).filter fun r => decide ((k : Int) < g s r)).length
  | 0 => rfl
  | n + 1 => by
    rw [cl_s, List.map_append, List.filter_append, List.length_append, col_cnt h k n, List.range_succ, List.filter_append, List.length_append]
    congr 1
    rw [List.map_map, List.filter_map, List.length_map]
    have n0 := h.nn n
    have e : (((fun p : Int × Int => decide (p.1 = (k : Int))) ∘ (fun p : Int × Int => (p.2, p.1)) ∘ fun c => ((n : Int), c))) = fun c : Int => decide (c = (k : Int)) := rfl
    rw [e]
    unfold rng
    rw [List.filter_map, List.length_map, show (g s n - 0).toNat = (g s n).toNat by omega]
    have key : ∀ m : Nat, ((List.range m).filter ((fun c : Int => decide (c = (k : Int))) ∘ fun j : Nat => (0 : Int) + (j : Nat))).length = if k < m then 1 else 0 := by
      intro m
      induction m with
      | zero => rfl
      | succ m ih =>
        rw [List.range_succ, List.filter_append, List.length_append, ih]
        by_cases hk : m = k
        · subst hk
          rw [if_neg (by omega), if_pos (by omega)]
          simp
        · have : ([m].filter ((fun c : Int => decide (c = (k : Int))) ∘ fun j : Nat => (0 : Int) + (j : Nat))) = [] := by
            simp; omega
          rw [this]
          by_cases h2 : k < m
          · rw [if_pos h2, if_pos (by omega)]; rfl
          · rw [if_neg h2, if_neg (by omega)]; rfl
    rw [key]
    by_cases hk : (k : Int) < g s n
    · rw [if_pos (by omega)]; simp [hk]
    · rw [if_neg (by omega)]; simp [hk]
/-- shape of cells: their columns -/
theorem soc_ok (k : Nat) (s : List Int) (h : Sm s) (X : List (Int × Int)) (hX : X.length ≤ 10000) (hc : ∀ j : Nat, (X.filter fun p => decide (p.1 = (j : Int))).length = cnt s j) {Q : D → Prop} {E : XE} (q : Q (Tp .int (conj s))) : Call (runF fs (k+1)) 10 [.fz (Ls (Pr .int .int) X)] Q E := by
  have h0 := h.le 0
  refine call_intro rfl rfl ?_
  unfold c10
  exists imm_Sx, imm_Sg, flat_Sx, flat_Sg, wbi_lenS, wits_Sx, w2_inS, w2_ninS, w2_addS, w2_addSg, wslc_S, wsub_S, w2_ltS, w2_isN0, w2_isNi, w2_isNs, w2_isNS, w2_isNt, w2_isNl, w2_isNT, w2_isNL, w2_ntN0, w2_ntNi, w2_ntNs, w2_ntNS, w2_ntNt, w2_ntNl, w2_ntNT, w2_ntNL, w2_repL, w2_rep1, w2_repT, w2_repT1, lst0 (f := PyData.int)
  (repeat ((with_reducible refine And.intro ?_ ?_); focus (intros; first | (simp only [List.length_append, List.length_cons, List.length_nil]; omega) | ((with_reducible refine lenOk_of ?_); first | decide | omega) | ((with_reducible refine mulOk_l ?_); first | decide | omega) | ((with_reducible refine mulOk_r ?_); first | decide | omega) | ((with_reducible refine smallI_of ?_); omega) | ((with_reducible refine divOk_of ?_ ?_) <;> first | decide | omega) | exact And.intro (by omega) (by omega) | omega | (unfold kp; exact Or.inl rfl) | with_reducible rfl | with_reducible exact trivial)))
  refine wfor_inv (f := PyData.int) (I := fun pre σ => ∃ (c2 c3 : NI), (pre.length : Int) ≤ g s 0 ∧ σ = [some (.fz (Ls (Pr .int .int) X)), some (.own (Ls .int ((conj s).take pre.length))), c2.c, c3.c, none])
    ⟨⟨_, rfl, rfl⟩, ⟨_, rfl, rfl⟩, h0.1, rfl⟩ ?_ ?_
  · rintro pre r suf σ hp ⟨c2, c3, hle, rfl⟩
    obtain ⟨g1, g2⟩ := rng_at hp
    have er : r = (pre.length : Int) := by omega
    subst er
    exists imm_Sx, imm_Sg, flat_Sx, flat_Sg, wbi_lenS, wits_Sx, w2_inS, w2_ninS, w2_addS, w2_addSg, wslc_S, wsub_S, w2_ltS, w2_isN0, w2_isNi, w2_isNs, w2_isNS, w2_isNt, w2_isNl, w2_isNT, w2_isNL, w2_ntN0, w2_ntNi, w2_ntNs, w2_ntNS, w2_ntNt, w2_ntNl, w2_ntNT, w2_ntNL, w2_repL, w2_rep1, w2_repT, w2_repT1
    refine wcomp_map (f := Pr PyData.int PyData.int) (Pr PyData.int PyData.int) (fun p => decide (p.1 = (pre.length : Int))) (fun p => p) true (fun y hy => ?_) (by exists imm_Sx, imm_Sg, flat_Sx, flat_Sg, wbi_lenS, wits_Sx, w2_inS, w2_ninS, w2_addS, w2_addSg, wslc_S, wsub_S, w2_ltS, w2_isN0, w2_isNi, w2_isNs, w2_isNS, w2_isNt, w2_isNl, w2_isNT, w2_isNL, w2_ntN0, w2_ntNi, w2_ntNs, w2_ntNS, w2_ntNt, w2_ntNl, w2_ntNT, w2_ntNL, w2_repL, w2_rep1, w2_repT, w2_repT1) rfl ?_ fun b hb => ?_
    · exists imm_Sx, imm_Sg, flat_Sx, flat_Sg, wbi_lenS, wits_Sx, w2_inS, w2_ninS, w2_addS, w2_addSg, wslc_S, wsub_S, w2_ltS, w2_isN0, w2_isNi, w2_isNs, w2_isNS, w2_isNt, w2_isNl, w2_isNT, w2_isNL, w2_ntN0, w2_ntNi, w2_ntNs, w2_ntNS, w2_ntNt, w2_ntNl, w2_ntNT, w2_ntNL, w2_repL, w2_rep1, w2_repT, w2_repT1
      exact fun _ _ => trivial
    · rw [List.length_map]
      have := List.length_filter_le (fun p : Int × Int => decide (p.1 = (pre.length : Int))) X
      omega
    obtain rfl := hb rfl
    exists imm_Sx, imm_Sg, flat_Sx, flat_Sg, wbi_lenS, wits_Sx, w2_inS, w2_ninS, w2_addS, w2_addSg, wslc_S, wsub_S, w2_ltS, w2_isN0, w2_isNi, w2_isNs, w2_isNS, w2_isNt, w2_isNl, w2_isNT, w2_isNL, w2_ntN0, w2_ntNi, w2_ntNs, w2_ntNS, w2_ntNt, w2_ntNl, w2_ntNT, w2_ntNL, w2_repL, w2_rep1, w2_repT, w2_repT1, List.map_id', hc
    refine wbS_if (fun hz => ?_) (fun hz => ?_) <;> (try simp only [decide_eq_true_eq, decide_eq_false_iff_not, Bool.or_eq_true, Bool.and_eq_true, Bool.or_eq_false_iff, Bool.and_eq_false_iff, Bool.not_eq_true', Bool.not_eq_false', Bool.not_eq_true, Bool.not_eq_false, Int.not_lt, Int.not_le, Bool.false_eq_true, Bool.true_eq_false, id] at hz)
    · have : (pre.length : Int) = g s 0 := by
        have := cnt_lt h.pt 0 pre.length
        omega
      rw [List.take_of_length_le (by rw [PT.conj_len]; omega)]
      exists imm_Sx, imm_Sg, flat_Sx, flat_Sg, wbi_lenS, wits_Sx, w2_inS, w2_ninS, w2_addS, w2_addSg, wslc_S, wsub_S, w2_ltS, w2_isN0, w2_isNi, w2_isNs, w2_isNS, w2_isNt, w2_isNl, w2_isNT, w2_isNL, w2_ntN0, w2_ntNi, w2_ntNs, w2_ntNS, w2_ntNt, w2_ntNl, w2_ntNT, w2_ntNL, w2_repL, w2_rep1, w2_repT, w2_repT1
      exact q
    · have hlt : (pre.length : Int) < g s 0 := (cnt_lt h.pt 0 pre.length).mp (by omega)
      have hk : pre.length < (conj s).length := by rw [PT.conj_len]; omega
      exists imm_Sx, imm_Sg, flat_Sx, flat_Sg, wbi_lenS, wits_Sx, w2_inS, w2_ninS, w2_addS, w2_addSg, wslc_S, wsub_S, w2_ltS, w2_isN0, w2_isNi, w2_isNs, w2_isNS, w2_isNt, w2_isNl, w2_isNT, w2_isNL, w2_ntN0, w2_ntNi, w2_ntNs, w2_ntNS, w2_ntNt, w2_ntNl, w2_ntNT, w2_ntNL, w2_repL, w2_rep1, w2_repT, w2_repT1
      refine ⟨by rw [List.length_take]; omega, ⟨some (.own (.int pre.length)), rfl, rfl⟩, ⟨some (.own (.int (cnt s (pre.length : Int)))), rfl, rfl⟩, by rw [List.length_append, List.length_singleton]; omega, ?_⟩
      rw [List.length_append, List.length_singleton, List.take_succ, List.getElem?_eq_getElem hk, ← g_in hk, g_conj h.pt, hc pre.length]
      rfl
  · rintro σ ⟨c2, c3, hle, rfl⟩
    rw [rng_len] at hle
    omega
theorem turned_ok (k : Nat) (s : List Int) (h : Sm s) {Q : D → Prop} {E : XE} (q : Q (Tp .int (conj s))) : Call (runF fs (k+2)) 11 [.own (Tp .int s)] Q E := by
  have hl := h.len
  have hcl := cl_len h s.length
  refine call_intro rfl rfl ?_
  unfold c11
  exists imm_Sx, imm_Sg, flat_Sx, flat_Sg, wbi_lenS, wits_Sx, w2_inS, w2_ninS, w2_addS, w2_addSg, wslc_S, wsub_S, w2_ltS, w2_isN0, w2_isNi, w2_isNs, w2_isNS, w2_isNt, w2_isNl, w2_isNT, w2_isNL, w2_ntN0, w2_ntNi, w2_ntNs, w2_ntNS, w2_ntNt, w2_ntNl, w2_ntNT, w2_ntNL, w2_repL, w2_rep1, w2_repT, w2_repT1
  refine wcall_1 ?_
  exists imm_Sx, imm_Sg, flat_Sx, flat_Sg, wbi_lenS, wits_Sx, w2_inS, w2_ninS, w2_addS, w2_addSg, wslc_S, wsub_S, w2_ltS, w2_isN0, w2_isNi, w2_isNs, w2_isNS, w2_isNt, w2_isNl, w2_isNT, w2_isNL, w2_ntN0, w2_ntNi, w2_ntNs, w2_ntNS, w2_ntNt, w2_ntNl, w2_ntNT, w2_ntNL, w2_repL, w2_rep1, w2_repT, w2_repT1
  refine cells_ok _ s h ?_
  (try exists imm_Sx, imm_Sg, flat_Sx, flat_Sg, wbi_lenS, wits_Sx, w2_inS, w2_ninS, w2_addS, w2_addSg, wslc_S, wsub_S, w2_ltS, w2_isN0, w2_isNi, w2_isNs, w2_isNS, w2_isNt, w2_isNl, w2_isNT, w2_isNL, w2_ntN0, w2_ntNi, w2_ntNs, w2_ntNS, w2_ntNt, w2_ntNl, w2_ntNT, w2_ntNL, w2_repL, w2_rep1, w2_repT, w2_repT1)
  refine wcomp_map1 (f := Pr PyData.int PyData.int) (Pr PyData.int PyData.int) (fun p => (p.2, p.1)) true (fun x hx => ?_) (by (try exists imm_Sx, imm_Sg, flat_Sx, flat_Sg, wbi_lenS, wits_Sx, w2_inS, w2_ninS, w2_addS, w2_addSg, wslc_S, wsub_S, w2_ltS, w2_isN0, w2_isNi, w2_isNs, w2_isNS, w2_isNt, w2_isNl, w2_isNT, w2_isNL, w2_ntN0, w2_ntNi, w2_ntNs, w2_ntNS, w2_ntNt, w2_ntNl, w2_ntNT, w2_ntNL, w2_repL, w2_rep1, w2_repT, w2_repT1)) rfl (by omega) fun b' hb => ?_
  · (try exists imm_Sx, imm_Sg, flat_Sx, flat_Sg, wbi_lenS, wits_Sx, w2_inS, w2_ninS, w2_addS, w2_addSg, wslc_S, wsub_S, w2_ltS, w2_isN0, w2_isNi, w2_isNs, w2_isNS, w2_isNt, w2_isNl, w2_isNT, w2_isNL, w2_ntN0, w2_ntNi, w2_ntNs, w2_ntNS, w2_ntNt, w2_ntNl, w2_ntNT, w2_ntNL, w2_repL, w2_rep1, w2_repT, w2_repT1)
    exact ⟨lenOk_of (by decide), rfl, fun _ => rfl⟩
  obtain rfl := hb rfl
  (try exists imm_Sx, imm_Sg, flat_Sx, flat_Sg, wbi_lenS, wits_Sx, w2_inS, w2_ninS, w2_addS, w2_addSg, wslc_S, wsub_S, w2_ltS, w2_isN0, w2_isNi, w2_isNs, w2_isNS, w2_isNt, w2_isNl, w2_isNT, w2_isNL, w2_ntN0, w2_ntNi, w2_ntNs, w2_ntNS, w2_ntNt, w2_ntNl, w2_ntNT, w2_ntNL, w2_repL, w2_rep1, w2_repT, w2_repT1)
  refine wcall_1 ?_
  (try exists imm_Sx, imm_Sg, flat_Sx, flat_Sg, wbi_lenS, wits_Sx, w2_inS, w2_ninS, w2_addS, w2_addSg, wslc_S, wsub_S, w2_ltS, w2_isN0, w2_isNi, w2_isNs, w2_isNS, w2_isNt, w2_isNl, w2_isNT, w2_isNL, w2_ntN0, w2_ntNi, w2_ntNs, w2_ntNS, w2_ntNt, w2_ntNl, w2_ntNT, w2_ntNL, w2_repL, w2_rep1, w2_repT, w2_repT1)
  refine soc_ok _ s h _ (by rw [List.length_map]; omega) (fun j => by rw [col_cnt h.pt, cnt_q]) ?_
  (try exists imm_Sx, imm_Sg, flat_Sx, flat_Sg, wbi_lenS, wits_Sx, w2_inS, w2_ninS, w2_addS, w2_addSg, wslc_S, wsub_S, w2_ltS, w2_isN0, w2_isNi, w2_isNs, w2_isNS, w2_isNt, w2_isNl, w2_isNT, w2_isNL, w2_ntN0, w2_ntNi, w2_ntNs, w2_ntNS, w2_ntNt, w2_ntNl, w2_ntNT, w2_ntNL, w2_repL, w2_rep1, w2_repT, w2_repT1)
  exact q
theorem tback_ok (k : Nat) (a b : List Int) (la : a.length ≤ 50) (lb : b.length ≤ 50) (sa : ∀ x ∈ a, -1000 ≤ x ∧ x ≤ 1000) (sb : ∀ x ∈ b, -1000 ≤ x ∧ x ≤ 1000) {Q : D → Prop} {E : XE}
    (q1 : Rt a b → if a.sum + b.sum + a.length ≤ 40 then Q (Tp .int (bk a b)) else Q (.str "large")) (q2 : ¬ Rt a b → Q (.str "arms")) : Call (runF fs (k+2)) 12 [.own (Tp .int a), .own (Tp .int b)] Q E := by
  refine call_intro rfl rfl ?_
  unfold c12
  exists imm_Sx, imm_Sg, flat_Sx, flat_Sg, wbi_lenS, wits_Sx, w2_inS, w2_ninS, w2_addS, w2_addSg, wslc_S, wsub_S, w2_ltS, w2_isN0, w2_isNi, w2_isNs, w2_isNS, w2_isNt, w2_isNl, w2_isNT, w2_isNL, w2_ntN0, w2_ntNi, w2_ntNs, w2_ntNS, w2_ntNt, w2_ntNl, w2_ntNT, w2_ntNL, w2_repL, w2_rep1, w2_repT, w2_repT1
  refine wcall_2 ?_
  (try exists imm_Sx, imm_Sg, flat_Sx, flat_Sg, wbi_lenS, wits_Sx, w2_inS, w2_ninS, w2_addS, w2_addSg, wslc_S, wsub_S, w2_ltS, w2_isN0, w2_isNi, w2_isNs, w2_isNS, w2_isNt, w2_isNl, w2_isNT, w2_isNL, w2_ntN0, w2_ntNi, w2_ntNs, w2_ntNS, w2_ntNt, w2_ntNl, w2_ntNT, w2_ntNL, w2_repL, w2_rep1, w2_repT, w2_repT1)
  refine back_ok _ a b la lb sa sb (fun h => ?_) (fun h => ?_)
  · have q1 := q1 h
    by_cases z : a.sum + b.sum + a.length ≤ 40
    · rw [if_pos z] at q1 ⊢
      (try exists imm_Sx, imm_Sg, flat_Sx, flat_Sg, wbi_lenS, wits_Sx, w2_inS, w2_ninS, w2_addS, w2_addSg, wslc_S, wsub_S, w2_ltS, w2_isN0, w2_isNi, w2_isNs, w2_isNS, w2_isNt, w2_isNl, w2_isNT, w2_isNL, w2_ntN0, w2_ntNi, w2_ntNs, w2_ntNS, w2_ntNt, w2_ntNl, w2_ntNT, w2_ntNL, w2_repL, w2_rep1, w2_repT, w2_repT1)
      exact q1
    · rw [if_neg z] at q1 ⊢
      (try exists imm_Sx, imm_Sg, flat_Sx, flat_Sg, wbi_lenS, wits_Sx, w2_inS, w2_ninS, w2_addS, w2_addSg, wslc_S, wsub_S, w2_ltS, w2_isN0, w2_isNi, w2_isNs, w2_isNS, w2_isNt, w2_isNl, w2_isNT, w2_isNL, w2_ntN0, w2_ntNi, w2_ntNs, w2_ntNS, w2_ntNt, w2_ntNl, w2_ntNT, w2_ntNL, w2_repL, w2_rep1, w2_repT, w2_repT1)
      exact q1
  · (try exists imm_Sx, imm_Sg, flat_Sx, flat_Sg, wbi_lenS, wits_Sx, w2_inS, w2_ninS, w2_addS, w2_addSg, wslc_S, wsub_S, w2_ltS, w2_isN0, w2_isNi, w2_isNs, w2_isNS, w2_isNt, w2_isNl, w2_isNT, w2_isNL, w2_ntN0, w2_ntNi, w2_ntNs, w2_ntNS, w2_ntNt, w2_ntNl, w2_ntNT, w2_ntNL, w2_repL, w2_rep1, w2_repT, w2_repT1)
    exact q2 h
theorem tshape_ok (k : Nat) (w : List Int) (hl : w.length ≤ 200) {Q : D → Prop} {E : XE} (q : if (se w).sum ≤ 40 then Q (Tp .int (se w)) else Q (.str "large")) : Call (runF fs (k+3)) 14 [.own (Tp .int w)] Q E := by
  refine call_intro rfl rfl ?_
  unfold c14
  exists imm_Sx, imm_Sg, flat_Sx, flat_Sg, wbi_lenS, wits_Sx, w2_inS, w2_ninS, w2_addS, w2_addSg, wslc_S, wsub_S, w2_ltS, w2_isN0, w2_isNi, w2_isNs, w2_isNS, w2_isNt, w2_isNl, w2_isNT, w2_isNL, w2_ntN0, w2_ntNi, w2_ntNs, w2_ntNS, w2_ntNt, w2_ntNl, w2_ntNT, w2_ntNL, w2_repL, w2_rep1, w2_repT, w2_repT1
  refine wcall_1 ?_
  (try exists imm_Sx, imm_Sg, flat_Sx, flat_Sg, wbi_lenS, wits_Sx, w2_inS, w2_ninS, w2_addS, w2_addSg, wslc_S, wsub_S, w2_ltS, w2_isN0, w2_isNi, w2_isNs, w2_isNS, w2_isNt, w2_isNl, w2_isNT, w2_isNL, w2_ntN0, w2_ntNi, w2_ntNs, w2_ntNS, w2_ntNt, w2_ntNl, w2_ntNT, w2_ntNL, w2_repL, w2_rep1, w2_repT, w2_repT1)
  refine shape_ok _ w hl ?_
  by_cases z : (se w).sum ≤ 40
  · rw [if_pos z] at q ⊢
    (try exists imm_Sx, imm_Sg, flat_Sx, flat_Sg, wbi_lenS, wits_Sx, w2_inS, w2_ninS, w2_addS, w2_addSg, wslc_S, wsub_S, w2_ltS, w2_isN0, w2_isNi, w2_isNs, w2_isNS, w2_isNt, w2_isNl, w2_isNT, w2_isNL, w2_ntN0, w2_ntNi, w2_ntNs, w2_ntNS, w2_ntNt, w2_ntNl, w2_ntNT, w2_ntNL, w2_repL, w2_rep1, w2_repT, w2_repT1)
    exact q
  · rw [if_neg z] at q ⊢
    (try exists imm_Sx, imm_Sg, flat_Sx, flat_Sg, wbi_lenS, wits_Sx, w2_inS, w2_ninS, w2_addS, w2_addSg, wslc_S, wsub_S, w2_ltS, w2_isN0, w2_isNi, w2_isNs, w2_isNS, w2_isNt, w2_isNl, w2_isNT, w2_isNL, w2_ntN0, w2_ntNi, w2_ntNs, w2_ntNS, w2_ntNt, w2_ntNl, w2_ntNT, w2_ntNL, w2_repL, w2_rep1, w2_repT, w2_repT1)
    exact q
theorem ew_drop {s : List Int} (h : Pt s) {r : Nat} (hr : r < s.length) : ew (s.drop r) = ew (s.drop (r + 1)) ++ List.replicate (g s r - g s (r + 1)).toNat 0 ++ [1] := by
  have e : s.drop r = g s r :: s.drop (r + 1) := by rw [g_in hr]; exact List.drop_eq_getElem_cons hr
  have e2 : g (s.drop (r + 1)) 0 = g s (r + 1) := by
    unfold g
    rw [List.getD_eq_getElem?_getD, List.getElem?_drop, List.getD_eq_getElem?_getD]
    (try rfl)
  rw [e, ew_cons, e2]
theorem ledge_ok (k : Nat) (s : List Int) (h : Sm s) {Q : D → Prop} {E : XE} (q : Q (Tp .int (ew s))) : Call (runF fs (k+3)) 13 [.own (Tp .int s)] Q E := by
  have hl := h.len
  have hcl := PT.conj_len s
  have h0 := h.le 0
  refine call_intro rfl rfl ?_
  unfold c13
  exists imm_Sx, imm_Sg, flat_Sx, flat_Sg, wbi_lenS, wits_Sx, w2_inS, w2_ninS, w2_addS, w2_addSg, wslc_S, wsub_S, w2_ltS, w2_isN0, w2_isNi, w2_isNs, w2_isNS, w2_isNt, w2_isNl, w2_isNT, w2_isNL, w2_ntN0, w2_ntNi, w2_ntNs, w2_ntNS, w2_ntNt, w2_ntNl, w2_ntNT, w2_ntNL, w2_repL, w2_rep1, w2_repT, w2_repT1, lst0 (f := PyData.int)
  (repeat ((with_reducible refine And.intro ?_ ?_); focus (intros; first | (simp only [List.length_append, List.length_cons, List.length_nil]; omega) | ((with_reducible refine lenOk_of ?_); first | decide | omega) | ((with_reducible refine mulOk_l ?_); first | decide | omega) | ((with_reducible refine mulOk_r ?_); first | decide | omega) | ((with_reducible refine smallI_of ?_); omega) | ((with_reducible refine divOk_of ?_ ?_) <;> first | decide | omega) | exact And.intro (by omega) (by omega) | omega | (unfold kp; exact Or.inl rfl) | with_reducible rfl | with_reducible exact trivial)))
  refine wcall_1 ?_
  exists imm_Sx, imm_Sg, flat_Sx, flat_Sg, wbi_lenS, wits_Sx, w2_inS, w2_ninS, w2_addS, w2_addSg, wslc_S, wsub_S, w2_ltS, w2_isN0, w2_isNi, w2_isNs, w2_isNS, w2_isNt, w2_isNl, w2_isNT, w2_isNL, w2_ntN0, w2_ntNi, w2_ntNs, w2_ntNS, w2_ntNt, w2_ntNl, w2_ntNT, w2_ntNL, w2_repL, w2_rep1, w2_repT, w2_repT1
  refine turned_ok _ s h ?_
  (try exists imm_Sx, imm_Sg, flat_Sx, flat_Sg, wbi_lenS, wits_Sx, w2_inS, w2_ninS, w2_addS, w2_addSg, wslc_S, wsub_S, w2_ltS, w2_isN0, w2_isNi, w2_isNs, w2_isNS, w2_isNt, w2_isNl, w2_isNT, w2_isNL, w2_ntN0, w2_ntNi, w2_ntNs, w2_ntNS, w2_ntNt, w2_ntNl, w2_ntNT, w2_ntNL, w2_repL, w2_rep1, w2_repT, w2_repT1)
  (repeat ((with_reducible refine And.intro ?_ ?_); focus (intros; first | (simp only [List.length_append, List.length_cons, List.length_nil]; omega) | ((with_reducible refine lenOk_of ?_); first | decide | omega) | ((with_reducible refine mulOk_l ?_); first | decide | omega) | ((with_reducible refine mulOk_r ?_); first | decide | omega) | ((with_reducible refine smallI_of ?_); omega) | ((with_reducible refine divOk_of ?_ ?_) <;> first | decide | omega) | exact And.intro (by omega) (by omega) | omega | (unfold kp; exact Or.inl rfl) | with_reducible rfl | with_reducible exact trivial)))
  refine wfor_inv (f := PyData.int) (I := fun pre σ => ∃ (c5 : NI) (r c : Nat), r ≤ s.length ∧ pre.length + r = s.length + c ∧ g s r ≤ c ∧ (∀ r', r = r' + 1 → (c : Int) ≤ g s r') ∧ σ = [some (.own (Tp .int s)), some (.own (Ls .int (ew (s.drop r) ++ List.replicate ((c : Int) - g s r).toNat 0))), some (.own (Tp .int (conj s))), some (.own (.int r)), some (.own (.int c)), c5.c])
    ⟨⟨_, rfl, rfl⟩, s.length, 0, Nat.le_refl _, by simp, by rw [g_out (Nat.le_refl _)]; exact Int.le_refl _, fun r' e => h.pt.nn r', by rw [List.drop_length, g_out (Nat.le_refl _)]; rfl⟩ ?_ ?_
  · rintro pre i suf σ hp ⟨c5, r, c, hr, ht, hg, hc, rfl⟩
    have hpl := pre_len hp
    rw [rng_len] at hpl
    have hgc := h.le r
    have hew : (ew (s.drop r) ++ List.replicate ((c : Int) - g s r).toNat 0).length ≤ 10000 := by
      have hd : Pt (s.drop r) := ⟨h.pt.fall.sublist (List.drop_sublist r s), fun x hx => h.pt.pos x (List.mem_of_mem_drop hx)⟩
      have := ew_len _ hd
      have e2 : g (s.drop r) 0 = g s r := by
        unfold g
        rw [List.getD_eq_getElem?_getD, List.getElem?_drop, List.getD_eq_getElem?_getD]
        rfl
      rw [e2, List.length_drop] at this
      rw [List.length_append, List.length_replicate]
      omega
    exists imm_Sx, imm_Sg, flat_Sx, flat_Sg, wbi_lenS, wits_Sx, w2_inS, w2_ninS, w2_addS, w2_addSg, wslc_S, wsub_S, w2_ltS, w2_isN0, w2_isNi, w2_isNs, w2_isNS, w2_isNt, w2_isNl, w2_isNT, w2_isNL, w2_ntN0, w2_ntNi, w2_ntNs, w2_ntNS, w2_ntNt, w2_ntNl, w2_ntNT, w2_ntNL, w2_repL, w2_rep1, w2_repT, w2_repT1
    refine ⟨fun z => ⟨by omega, by omega⟩, ?_⟩
    by_cases hcase : ∃ r', r = r' + 1 ∧ (c : Int) < g s r'
    · obtain ⟨r', rfl, hlt⟩ := hcase
      have hct : (c : Int) < (conj s).length := by
        have := h.pt.anti (i := 0) (j := r') (by omega)
        omega
      have hcn : pyg (conj s) (c : Int) = ((r' + 1 : Nat) : Int) := by
        rw [g_pyg (by omega), Int.toNat_natCast, g_conj h.pt]
        have a1 := (cnt_lt h.pt r' c).mpr hlt
        have a2 : ¬ r' + 1 < cnt s (c : Int) := fun z => by
          have := (cnt_lt h.pt (r' + 1) c).mp z
          omega
        omega
      rw [decide_eq_true hct, decide_eq_true hcn]
      exists imm_Sx, imm_Sg, flat_Sx, flat_Sg, wbi_lenS, wits_Sx, w2_inS, w2_ninS, w2_addS, w2_addSg, wslc_S, wsub_S, w2_ltS, w2_isN0, w2_isNi, w2_isNs, w2_isNS, w2_isNt, w2_isNl, w2_isNT, w2_isNL, w2_ntN0, w2_ntNi, w2_ntNs, w2_ntNS, w2_ntNt, w2_ntNl, w2_ntNT, w2_ntNL, w2_repL, w2_rep1, w2_repT, w2_repT1
      refine ⟨by omega, ⟨some (.own (.int i)), rfl, rfl⟩, r' + 1, c + 1, hr, by simp; omega, by omega, fun r'' e => ?_, ?_⟩
      · have : r'' = r' := by omega
        subst this; omega
      · rw [List.append_assoc, show (((c + 1 : Nat) : Int) - g s (r' + 1)).toNat = ((c : Int) - g s (r' + 1)).toNat + 1 by omega, List.replicate_succ']
        rfl
    · have hr1 : ∃ r', r = r' + 1 ∧ (c : Int) = g s r' := by
        cases r with
        | zero =>
          exfalso
          omega
        | succ r' =>
          refine ⟨r', rfl, ?_⟩
          have := hc r' rfl
          by_cases z : (c : Int) < g s r'
          · exact absurd ⟨r', rfl, z⟩ hcase
          · omega
      obtain ⟨r', rfl, hceq⟩ := hr1
      have hne : (decide ((c : Int) < ((conj s).length : Int)) && decide (pyg (conj s) (c : Int) = ((r' + 1 : Nat) : Int))) = false := by
        rw [Bool.and_eq_false_iff]
        right
        refine decide_eq_false fun z => ?_
        rw [g_pyg (by omega), Int.toNat_natCast, g_conj h.pt] at z
        have := (cnt_lt h.pt r' c).mp (by omega)
        omega
      rw [hne]
      exists imm_Sx, imm_Sg, flat_Sx, flat_Sg, wbi_lenS, wits_Sx, w2_inS, w2_ninS, w2_addS, w2_addSg, wslc_S, wsub_S, w2_ltS, w2_isN0, w2_isNi, w2_isNs, w2_isNS, w2_isNt, w2_isNl, w2_isNT, w2_isNL, w2_ntN0, w2_ntNi, w2_ntNs, w2_ntNS, w2_ntNt, w2_ntNl, w2_ntNT, w2_ntNL, w2_repL, w2_rep1, w2_repT, w2_repT1
      refine ⟨by omega, ⟨some (.own (.int i)), rfl, rfl⟩, r', c, by omega, by simp; omega, by omega, fun r'' e => ?_, ?_⟩
      · subst e
        have := h.pt.anti (i := r'') (j := r'' + 1) (by omega)
        omega
      · rw [ew_drop h.pt (by omega : r' < s.length), hceq, Int.sub_self, show ((r' + 1 : Nat) : Int) - 1 = (r' : Int) by omega]
        simp
  · rintro σ ⟨c5, r, c, hr, ht, hg, hc, rfl⟩
    rw [rng_len] at ht
    have hr0 : r = 0 := by
      cases r with
      | zero => rfl
      | succ r' =>
        have := hc r' rfl
        have := h.pt.anti (i := 0) (j := r') (by omega)
        omega
    subst hr0
    have : (c : Int) - g s 0 = 0 := by omega
    rw [this, List.drop_zero]
    exists imm_Sx, imm_Sg, flat_Sx, flat_Sg, wbi_lenS, wits_Sx, w2_inS, w2_ninS, w2_addS, w2_addSg, wslc_S, wsub_S, w2_ltS, w2_isN0, w2_isNi, w2_isNs, w2_isNS, w2_isNt, w2_isNl, w2_isNT, w2_isNL, w2_ntN0, w2_ntNi, w2_ntNs, w2_ntNS, w2_ntNt, w2_ntNl, w2_ntNT, w2_ntNL, w2_repL, w2_rep1, w2_repT, w2_repT1
    simpa using q
end K03
set_option Elab.async false
set_option linter.all false
set_option maxRecDepth 100000
set_option maxHeartbeats 1000000
namespace K03
open PySem PV PT
theorem Sm.conj {s : List Int} (h : Sm s) : Sm (conj s) := by
  refine ⟨conj_Pt h.pt, ?_⟩
  have h1 := fr_sum h.pt
  have h2 := fr_sum (conj_Pt h.pt)
  rw [conj_conj h.pt, arms_len, du_conj h.pt] at h2
  rw [arms_len] at h1
  have := h.s40
  omega
theorem arms_b {s : List Int} (h : Sm s) : (arms s).length ≤ 40 ∧ ∀ x ∈ arms s, -1000 ≤ x ∧ x ≤ 1000 := by
  have hl := h.len
  have hd : du s ≤ s.length := Nat.not_lt.mp fun z => by
    have := (du_iff h.pt s.length).mp z
    rw [g_out (Nat.le_refl _)] at this
    omega
  refine ⟨by rw [arms_len]; omega, fun x hx => ?_⟩
  obtain ⟨i, hi, rfl⟩ := List.mem_iff_getElem.mp hx
  rw [← g_in hi, g_arms]
  have := h.le i
  rw [arms_len] at hi
  rw [if_pos hi]
  omega
theorem arms_q (s : List Int) : (rng 0 (du s : Int)).map (fun k => pyg s k - k - 1) = arms s := by
  unfold rng arms
  rw [List.map_map, show ((du s : Int) - 0).toNat = du s by omega]
  refine List.map_congr_left fun k _ => ?_
  simp only [Function.comp, Int.zero_add]
  rw [g_pyg (by omega), Int.toNat_natCast]
end K03
set_option Elab.async false
set_option linter.all false
set_option maxRecDepth 100000
set_option maxHeartbeats 1000000
namespace K03
open PySem PV PT
theorem cut_take {α : Type} (w : List α) {i : Int} (h : 0 ≤ i) (h2 : i ≤ w.length) : cut w none (some i) = w.take i.toNat := by
  simp only [cut, sIx]
  rw [if_neg (by omega), Nat.sub_zero, List.drop_zero, Nat.min_eq_left (by omega)]
theorem seS_at : ∀ (w rows : List Int) (a : Int), (w.foldl seS (rows, a)).2 = a + ((w.filter fun x => decide (x = 0)).length : Int)
  | [], rows, a => by simp
  | x :: w, rows, a => by
    rw [List.foldl_cons, List.filter_cons]
    by_cases h : x = 0
    · have e : seS (rows, a) x = (rows, a + 1) := by unfold seS; rw [if_pos h]
      rw [e, seS_at w, decide_eq_true h, if_pos rfl, List.length_cons]; omega
    · rw [decide_eq_false h, if_neg Bool.false_ne_true]
      by_cases h2 : 0 < a
      · have e : seS (rows, a) x = (rows ++ [a], a) := by unfold seS; rw [if_neg h, if_pos h2]
        rw [e, seS_at w]
      · have e : seS (rows, a) x = (rows, a) := by unfold seS; rw [if_neg h, if_neg h2]
        rw [e, seS_at w]
theorem wzip_T {f h : Int → D} {l m : List Int} {K : List D → Prop} : wzip (Tp f l) (Tp h m) K = K ((l.zip m).map (Pr f h)) := by
  have : zipV (Tp f l) (Tp h m) = .ok ((l.zip m).map (Pr f h)) := by
    have z : ∀ l m : List Int, zipD (l.map f) (m.map h) = (l.zip m).map (Pr f h) := by
      intro l
      induction l with
      | nil => intro m; simp [zipD]
      | cons x l ih =>
        intro m
        cases m with
        | nil => simp [zipD]
        | cons y m => simp only [List.map_cons, zipD, List.zip_cons_cons, ih]; rfl
    show Res.ok (zipD (l.map f) (m.map h)) = _
    rw [z]
  simp only [wzip, this]
theorem zip_fall : ∀ a : List Int, (a.zip (a.drop 1)).all (fun p => decide (p.2 < p.1)) = true ↔ ∀ k, k + 1 < a.length → g a (k + 1) < g a k
  | [] => by simp
  | [x] => by simp
  | x :: y :: r => by
    have ih := zip_fall (y :: r)
    simp only [List.drop_succ_cons, List.drop_zero] at ih ⊢
    rw [List.zip_cons_cons, List.all_cons, Bool.and_eq_true, ih]
    constructor
    · rintro ⟨h1, h2⟩ k hk
      cases k with
      | zero => exact of_decide_eq_true h1
      | succ k =>
        have := h2 k (by simp at hk ⊢; omega)
        rw [g_s, g_s]
        exact this
    · intro h
      refine ⟨decide_eq_true (h 0 (by simp)), fun k hk => ?_⟩
      have := h (k + 1) (by simp at hk ⊢; omega)
      rw [g_s, g_s] at this
      exact this
theorem rest5 (k : Nat) (ns : List Int) (c2 c3 c4 c5 c6 c7 c8 c9 c10 c11 c13 : NB) (c12 : NI) (d1 : D) (hd1 : Dr d1) (a b : List Int) (la : a.length ≤ 10) (lb : b.length ≤ 10) (sa : ∀ x ∈ a, -1000 ≤ x ∧ x ≤ 1000) (sb : ∀ x ∈ b, -1000 ≤ x ∧ x ≤ 1000) (r : Bool) (hr : r = true ↔ Rt a b) {E : XE} : wss (runF fs (k+4)) (tailS 22 c15.body) [some (.scr ns), some (.own d1), c2.c, c3.c, c4.c, c5.c, c6.c, c7.c, c8.c, c9.c, c10.c, c11.c, c12.c, c13.c, some (.own (Tp .int a)), some (.own (Tp .int b)), some (.own (.bool r)), none, none, none, none, none, none] LP E := by
  unfold c15
  simp only [tailS]
  exists imm_Sx, imm_Sg, flat_Sx, flat_Sg, wbi_lenS, wits_Sx, w2_inS, w2_ninS, w2_addS, w2_addSg, wslc_S, wsub_S, w2_ltS, w2_isN0, w2_isNi, w2_isNs, w2_isNS, w2_isNt, w2_isNl, w2_isNT, w2_isNL, w2_ntN0, w2_ntNi, w2_ntNs, w2_ntNS, w2_ntNt, w2_ntNl, w2_ntNT, w2_ntNL, w2_repL, w2_rep1, w2_repT, w2_repT1
  refine wcall_2 ?_
  (try exists imm_Sx, imm_Sg, flat_Sx, flat_Sg, wbi_lenS, wits_Sx, w2_inS, w2_ninS, w2_addS, w2_addSg, wslc_S, wsub_S, w2_ltS, w2_isN0, w2_isNi, w2_isNs, w2_isNS, w2_isNt, w2_isNl, w2_isNT, w2_isNL, w2_ntN0, w2_ntNi, w2_ntNs, w2_ntNS, w2_ntNt, w2_ntNl, w2_ntNT, w2_ntNL, w2_repL, w2_rep1, w2_repT, w2_repT1)
  refine tback_ok _ a b (by omega) (by omega) sa sb (fun h => ?_) (fun h => ?_)
  · obtain rfl := hr.mpr h
    by_cases h40 : a.sum + b.sum + a.length ≤ 40
    · rw [if_pos h40]
      have hS : Sm (bk a b) := ⟨bk_Pt h, by rw [bk_sum h]; exact h40⟩
      (try exists imm_Sx, imm_Sg, flat_Sx, flat_Sg, wbi_lenS, wits_Sx, w2_inS, w2_ninS, w2_addS, w2_addSg, wslc_S, wsub_S, w2_ltS, w2_isN0, w2_isNi, w2_isNs, w2_isNS, w2_isNt, w2_isNl, w2_isNT, w2_isNL, w2_ntN0, w2_ntNi, w2_ntNs, w2_ntNS, w2_ntNt, w2_ntNl, w2_ntNT, w2_ntNL, w2_repL, w2_rep1, w2_repT, w2_repT1)
      rw [show decide (40 < a.sum + b.sum + (a.length : Int)) = false from decide_eq_false (by omega)]
      (try exists imm_Sx, imm_Sg, flat_Sx, flat_Sg, wbi_lenS, wits_Sx, w2_inS, w2_ninS, w2_addS, w2_addSg, wslc_S, wsub_S, w2_ltS, w2_isN0, w2_isNi, w2_isNs, w2_isNS, w2_isNt, w2_isNl, w2_isNT, w2_isNL, w2_ntN0, w2_ntNi, w2_ntNs, w2_ntNS, w2_ntNt, w2_ntNl, w2_ntNT, w2_ntNL, w2_repL, w2_rep1, w2_repT, w2_repT1)
      refine wcall_1 ?_
      (try exists imm_Sx, imm_Sg, flat_Sx, flat_Sg, wbi_lenS, wits_Sx, w2_inS, w2_ninS, w2_addS, w2_addSg, wslc_S, wsub_S, w2_ltS, w2_isN0, w2_isNi, w2_isNs, w2_isNS, w2_isNt, w2_isNl, w2_isNT, w2_isNL, w2_ntN0, w2_ntNi, w2_ntNs, w2_ntNS, w2_ntNt, w2_ntNl, w2_ntNT, w2_ntNL, w2_repL, w2_rep1, w2_repT, w2_repT1)
      refine frob_ok _ _ hS ?_
      rw [bk_arms h, bk_legs h]
      (try exists imm_Sx, imm_Sg, flat_Sx, flat_Sg, wbi_lenS, wits_Sx, w2_inS, w2_ninS, w2_addS, w2_addSg, wslc_S, wsub_S, w2_ltS, w2_isN0, w2_isNi, w2_isNs, w2_isNS, w2_isNt, w2_isNl, w2_isNT, w2_isNL, w2_ntN0, w2_ntNi, w2_ntNs, w2_ntNS, w2_ntNt, w2_ntNl, w2_ntNT, w2_ntNL, w2_repL, w2_rep1, w2_repT, w2_repT1, prT)
      (try exists imm_Sx, imm_Sg, flat_Sx, flat_Sg, wbi_lenS, wits_Sx, w2_inS, w2_ninS, w2_addS, w2_addSg, wslc_S, wsub_S, w2_ltS, w2_isN0, w2_isNi, w2_isNs, w2_isNS, w2_isNt, w2_isNl, w2_isNT, w2_isNL, w2_ntN0, w2_ntNi, w2_ntNs, w2_ntNS, w2_ntNt, w2_ntNl, w2_ntNT, w2_ntNL, w2_repL, w2_rep1, w2_repT, w2_repT1, eq_self, LP_r)
      exact lenOk_of (by decide)
    · rw [if_neg h40]
      (try exists imm_Sx, imm_Sg, flat_Sx, flat_Sg, wbi_lenS, wits_Sx, w2_inS, w2_ninS, w2_addS, w2_addSg, wslc_S, wsub_S, w2_ltS, w2_isN0, w2_isNi, w2_isNs, w2_isNS, w2_isNt, w2_isNl, w2_isNT, w2_isNL, w2_ntN0, w2_ntNi, w2_ntNs, w2_ntNS, w2_ntNt, w2_ntNl, w2_ntNT, w2_ntNL, w2_repL, w2_rep1, w2_repT, w2_repT1)
      rw [show decide (40 < a.sum + b.sum + (a.length : Int)) = true from decide_eq_true (by omega)]
      (try exists imm_Sx, imm_Sg, flat_Sx, flat_Sg, wbi_lenS, wits_Sx, w2_inS, w2_ninS, w2_addS, w2_addSg, wslc_S, wsub_S, w2_ltS, w2_isN0, w2_isNi, w2_isNs, w2_isNS, w2_isNt, w2_isNl, w2_isNT, w2_isNL, w2_ntN0, w2_ntNi, w2_ntNs, w2_ntNS, w2_ntNt, w2_ntNl, w2_ntNT, w2_ntNL, w2_repL, w2_rep1, w2_repT, w2_repT1, LP_r)
  · have : r = false := by
      cases r with
      | false => rfl
      | true => exact absurd (hr.mp rfl) h
    subst this
    (try exists imm_Sx, imm_Sg, flat_Sx, flat_Sg, wbi_lenS, wits_Sx, w2_inS, w2_ninS, w2_addS, w2_addSg, wslc_S, wsub_S, w2_ltS, w2_isN0, w2_isNi, w2_isNs, w2_isNS, w2_isNt, w2_isNl, w2_isNT, w2_isNL, w2_ntN0, w2_ntNi, w2_ntNs, w2_ntNS, w2_ntNt, w2_ntNl, w2_ntNT, w2_ntNL, w2_repL, w2_rep1, w2_repT, w2_repT1, LP_r)
theorem rest4 (k : Nat) (ns : List Int) (c2 c3 c4 c5 c6 c7 c8 c9 c10 c11 c13 : NB) (c12 : NI) (d1 : D) (hd1 : Dr d1) (a b : List Int) (la : a.length ≤ 10) (lb : b.length ≤ 10) (sa : ∀ x ∈ a, -1000 ≤ x ∧ x ≤ 1000) (sb : ∀ x ∈ b, -1000 ≤ x ∧ x ≤ 1000) {E : XE} : wss (runF fs (k+4)) (tailS 20 c15.body) [some (.scr ns), some (.own d1), c2.c, c3.c, c4.c, c5.c, c6.c, c7.c, c8.c, c9.c, c10.c, c11.c, c12.c, c13.c, some (.own (Tp .int a)), some (.own (Tp .int b)), none, none, none, none, none, none, none] LP E := by
  have drp : cut a (some 1) none = a.drop 1 := by
    simp only [PV.cut, sIx]
    rw [if_neg (by decide)]
    cases a with
    | nil => rfl
    | cons x r => simp [Nat.min_eq_left]
  have drpb : cut b (some 1) none = b.drop 1 := by
    simp only [PV.cut, sIx]
    rw [if_neg (by decide)]
    cases b with
    | nil => rfl
    | cons x r => simp [Nat.min_eq_left]
  unfold c15
  simp only [tailS]
  exists imm_Sx, imm_Sg, flat_Sx, flat_Sg, wbi_lenS, wits_Sx, w2_inS, w2_ninS, w2_addS, w2_addSg, wslc_S, wsub_S, w2_ltS, w2_isN0, w2_isNi, w2_isNs, w2_isNS, w2_isNt, w2_isNl, w2_isNT, w2_isNL, w2_ntN0, w2_ntNi, w2_ntNs, w2_ntNS, w2_ntNt, w2_ntNl, w2_ntNT, w2_ntNL, w2_repL, w2_rep1, w2_repT, w2_repT1
  by_cases hl : b.length = a.length
  · rw [show decide ((a.length : Int) = (b.length : Int)) = true from decide_eq_true (by omega)]
    (try exists imm_Sx, imm_Sg, flat_Sx, flat_Sg, wbi_lenS, wits_Sx, w2_inS, w2_ninS, w2_addS, w2_addSg, wslc_S, wsub_S, w2_ltS, w2_isN0, w2_isNi, w2_isNs, w2_isNS, w2_isNt, w2_isNl, w2_isNT, w2_isNL, w2_ntN0, w2_ntNi, w2_ntNs, w2_ntNS, w2_ntNt, w2_ntNl, w2_ntNT, w2_ntNL, w2_repL, w2_rep1, w2_repT, w2_repT1)
    (repeat ((with_reducible refine And.intro ?_ ?_); focus (intros; first | (simp only [List.length_append, List.length_cons, List.length_nil]; omega) | ((with_reducible refine lenOk_of ?_); first | decide | omega) | ((with_reducible refine mulOk_l ?_); first | decide | omega) | ((with_reducible refine mulOk_r ?_); first | decide | omega) | ((with_reducible refine smallI_of ?_); omega) | ((with_reducible refine divOk_of ?_ ?_) <;> first | decide | omega) | exact And.intro (by omega) (by omega) | omega | (unfold kp; exact Or.inl rfl) | with_reducible rfl | with_reducible exact trivial)))
    refine wcomp_map1 (f := PyData.int) PyData.bool (fun v => decide (0 ≤ v)) true (fun v hv => ?_) (by (try exists imm_Sx, imm_Sg, flat_Sx, flat_Sg, wbi_lenS, wits_Sx, w2_inS, w2_ninS, w2_addS, w2_addSg, wslc_S, wsub_S, w2_ltS, w2_isN0, w2_isNi, w2_isNs, w2_isNS, w2_isNt, w2_isNl, w2_isNT, w2_isNL, w2_ntN0, w2_ntNi, w2_ntNs, w2_ntNS, w2_ntNt, w2_ntNl, w2_ntNT, w2_ntNL, w2_repL, w2_rep1, w2_repT, w2_repT1)) rfl (by rw [List.length_append]; omega) fun b' hb => ?_
    · (try exists imm_Sx, imm_Sg, flat_Sx, flat_Sg, wbi_lenS, wits_Sx, w2_inS, w2_ninS, w2_addS, w2_addSg, wslc_S, wsub_S, w2_ltS, w2_isN0, w2_isNi, w2_isNs, w2_isNS, w2_isNt, w2_isNl, w2_isNT, w2_isNL, w2_ntN0, w2_ntNi, w2_ntNs, w2_ntNS, w2_ntNt, w2_ntNl, w2_ntNT, w2_ntNL, w2_repL, w2_rep1, w2_repT, w2_repT1)
      exact fun _ => trivial
    obtain rfl := hb rfl
    (try exists imm_Sx, imm_Sg, flat_Sx, flat_Sg, wbi_lenS, wits_Sx, w2_inS, w2_ninS, w2_addS, w2_addSg, wslc_S, wsub_S, w2_ltS, w2_isN0, w2_isNi, w2_isNs, w2_isNS, w2_isNt, w2_isNl, w2_isNT, w2_isNL, w2_ntN0, w2_ntNi, w2_ntNs, w2_ntNS, w2_ntNt, w2_ntNl, w2_ntNT, w2_ntNL, w2_repL, w2_rep1, w2_repT, w2_repT1)
    rw [all_map]
    by_cases h0 : (a ++ b).all (fun v => decide (0 ≤ v)) = true
    · rw [h0]
      have h0' : ∀ x ∈ a ++ b, 0 ≤ x := fun x hx => of_decide_eq_true (List.all_eq_true.mp h0 x hx)
      (try exists imm_Sx, imm_Sg, flat_Sx, flat_Sg, wbi_lenS, wits_Sx, w2_inS, w2_ninS, w2_addS, w2_addSg, wslc_S, wsub_S, w2_ltS, w2_isN0, w2_isNi, w2_isNs, w2_isNS, w2_isNt, w2_isNl, w2_isNT, w2_isNL, w2_ntN0, w2_ntNi, w2_ntNs, w2_ntNS, w2_ntNt, w2_ntNl, w2_ntNT, w2_ntNL, w2_repL, w2_rep1, w2_repT, w2_repT1, wzip_T, drp)
      refine wcomp_map1 (f := Pr PyData.int PyData.int) PyData.bool (fun p => decide (p.2 < p.1)) true (fun v hv => ?_) (by (try exists imm_Sx, imm_Sg, flat_Sx, flat_Sg, wbi_lenS, wits_Sx, w2_inS, w2_ninS, w2_addS, w2_addSg, wslc_S, wsub_S, w2_ltS, w2_isN0, w2_isNi, w2_isNs, w2_isNS, w2_isNt, w2_isNl, w2_isNT, w2_isNL, w2_ntN0, w2_ntNi, w2_ntNs, w2_ntNS, w2_ntNt, w2_ntNl, w2_ntNT, w2_ntNL, w2_repL, w2_rep1, w2_repT, w2_repT1)) rfl (by rw [List.length_zip, List.length_drop]; omega) fun b' hb => ?_
      · (try exists imm_Sx, imm_Sg, flat_Sx, flat_Sg, wbi_lenS, wits_Sx, w2_inS, w2_ninS, w2_addS, w2_addSg, wslc_S, wsub_S, w2_ltS, w2_isN0, w2_isNi, w2_isNs, w2_isNS, w2_isNt, w2_isNl, w2_isNT, w2_isNL, w2_ntN0, w2_ntNi, w2_ntNs, w2_ntNS, w2_ntNt, w2_ntNl, w2_ntNT, w2_ntNL, w2_repL, w2_rep1, w2_repT, w2_repT1)
        exact fun _ => trivial
      obtain rfl := hb rfl
      (try exists imm_Sx, imm_Sg, flat_Sx, flat_Sg, wbi_lenS, wits_Sx, w2_inS, w2_ninS, w2_addS, w2_addSg, wslc_S, wsub_S, w2_ltS, w2_isN0, w2_isNi, w2_isNs, w2_isNS, w2_isNt, w2_isNl, w2_isNT, w2_isNL, w2_ntN0, w2_ntNi, w2_ntNs, w2_ntNS, w2_ntNt, w2_ntNl, w2_ntNT, w2_ntNL, w2_repL, w2_rep1, w2_repT, w2_repT1)
      rw [all_map]
      by_cases h1 : (a.zip (a.drop 1)).all (fun p => decide (p.2 < p.1)) = true
      · rw [h1]
        (try exists imm_Sx, imm_Sg, flat_Sx, flat_Sg, wbi_lenS, wits_Sx, w2_inS, w2_ninS, w2_addS, w2_addSg, wslc_S, wsub_S, w2_ltS, w2_isN0, w2_isNi, w2_isNs, w2_isNS, w2_isNt, w2_isNl, w2_isNT, w2_isNL, w2_ntN0, w2_ntNi, w2_ntNs, w2_ntNS, w2_ntNt, w2_ntNl, w2_ntNT, w2_ntNL, w2_repL, w2_rep1, w2_repT, w2_repT1, wzip_T, drpb)
        refine wcomp_map1 (f := Pr PyData.int PyData.int) PyData.bool (fun p => decide (p.2 < p.1)) true (fun v hv => ?_) (by (try exists imm_Sx, imm_Sg, flat_Sx, flat_Sg, wbi_lenS, wits_Sx, w2_inS, w2_ninS, w2_addS, w2_addSg, wslc_S, wsub_S, w2_ltS, w2_isN0, w2_isNi, w2_isNs, w2_isNS, w2_isNt, w2_isNl, w2_isNT, w2_isNL, w2_ntN0, w2_ntNi, w2_ntNs, w2_ntNS, w2_ntNt, w2_ntNl, w2_ntNT, w2_ntNL, w2_repL, w2_rep1, w2_repT, w2_repT1)) rfl (by rw [List.length_zip, List.length_drop]; omega) fun b' hb => ?_
        · (try exists imm_Sx, imm_Sg, flat_Sx, flat_Sg, wbi_lenS, wits_Sx, w2_inS, w2_ninS, w2_addS, w2_addSg, wslc_S, wsub_S, w2_ltS, w2_isN0, w2_isNi, w2_isNs, w2_isNS, w2_isNt, w2_isNl, w2_isNT, w2_isNL, w2_ntN0, w2_ntNi, w2_ntNs, w2_ntNS, w2_ntNt, w2_ntNl, w2_ntNT, w2_ntNL, w2_repL, w2_rep1, w2_repT, w2_repT1)
          exact fun _ => trivial
        obtain rfl := hb rfl
        (try exists imm_Sx, imm_Sg, flat_Sx, flat_Sg, wbi_lenS, wits_Sx, w2_inS, w2_ninS, w2_addS, w2_addSg, wslc_S, wsub_S, w2_ltS, w2_isN0, w2_isNi, w2_isNs, w2_isNS, w2_isNt, w2_isNl, w2_isNT, w2_isNL, w2_ntN0, w2_ntNi, w2_ntNs, w2_ntNS, w2_ntNt, w2_ntNl, w2_ntNT, w2_ntNL, w2_repL, w2_rep1, w2_repT, w2_repT1)
        rw [all_map]
        have hrt : (b.zip (b.drop 1)).all (fun p => decide (p.2 < p.1)) = true ↔ Rt a b := by
          rw [zip_fall, hl]
          constructor
          · intro h2
            exact ⟨hl, fun k hk => h0' _ (List.mem_append_left _ (g_mem hk)), fun k hk => h0' _ (List.mem_append_right _ (g_mem (by omega))), (zip_fall a).mp h1, h2⟩
          · exact fun z => z.bs
        generalize (b.zip (b.drop 1)).all (fun p => decide (p.2 < p.1)) = r at *
        (have hcut := rest5 k ns c2 c3 c4 c5 c6 c7 c8 c9 c10 c11 c13 c12 d1 hd1 a b la lb sa sb r hrt (E := E); unfold c15 at hcut; simp only [tailS] at hcut; revert hcut; exists imm_Sx, imm_Sg, flat_Sx, flat_Sg, wbi_lenS, wits_Sx, w2_inS, w2_ninS, w2_addS, w2_addSg, wslc_S, wsub_S, w2_ltS, w2_isN0, w2_isNi, w2_isNs, w2_isNS, w2_isNt, w2_isNl, w2_isNT, w2_isNL, w2_ntN0, w2_ntNi, w2_ntNs, w2_ntNS, w2_ntNt, w2_ntNl, w2_ntNT, w2_ntNL, w2_repL, w2_rep1, w2_repT, w2_repT1; exact id)
      · rw [Bool.eq_false_iff.mpr h1]
        have hn : ¬ Rt a b := fun z => h1 ((zip_fall a).mpr z.as)
        (try exists imm_Sx, imm_Sg, flat_Sx, flat_Sg, wbi_lenS, wits_Sx, w2_inS, w2_ninS, w2_addS, w2_addSg, wslc_S, wsub_S, w2_ltS, w2_isN0, w2_isNi, w2_isNs, w2_isNS, w2_isNt, w2_isNl, w2_isNT, w2_isNL, w2_ntN0, w2_ntNi, w2_ntNs, w2_ntNS, w2_ntNt, w2_ntNl, w2_ntNT, w2_ntNL, w2_repL, w2_rep1, w2_repT, w2_repT1)
        (have hcut := rest5 k ns c2 c3 c4 c5 c6 c7 c8 c9 c10 c11 c13 c12 d1 hd1 a b la lb sa sb false ⟨fun z => Bool.noConfusion z, fun z => absurd z hn⟩ (E := E); unfold c15 at hcut; simp only [tailS] at hcut; revert hcut; exists imm_Sx, imm_Sg, flat_Sx, flat_Sg, wbi_lenS, wits_Sx, w2_inS, w2_ninS, w2_addS, w2_addSg, wslc_S, wsub_S, w2_ltS, w2_isN0, w2_isNi, w2_isNs, w2_isNS, w2_isNt, w2_isNl, w2_isNT, w2_isNL, w2_ntN0, w2_ntNi, w2_ntNs, w2_ntNS, w2_ntNt, w2_ntNl, w2_ntNT, w2_ntNL, w2_repL, w2_rep1, w2_repT, w2_repT1; exact id)
    · rw [Bool.eq_false_iff.mpr h0]
      have hn : ¬ Rt a b := fun z => h0 (List.all_eq_true.mpr fun x hx => decide_eq_true (by
        rcases List.mem_append.mp hx with hx | hx
        · obtain ⟨i, hi, rfl⟩ := List.mem_iff_getElem.mp hx
          rw [← g_in hi]; exact z.a0 i hi
        · obtain ⟨i, hi, rfl⟩ := List.mem_iff_getElem.mp hx
          rw [← g_in hi]; exact z.b0 i (by omega)))
      (try exists imm_Sx, imm_Sg, flat_Sx, flat_Sg, wbi_lenS, wits_Sx, w2_inS, w2_ninS, w2_addS, w2_addSg, wslc_S, wsub_S, w2_ltS, w2_isN0, w2_isNi, w2_isNs, w2_isNS, w2_isNt, w2_isNl, w2_isNT, w2_isNL, w2_ntN0, w2_ntNi, w2_ntNs, w2_ntNS, w2_ntNt, w2_ntNl, w2_ntNT, w2_ntNL, w2_repL, w2_rep1, w2_repT, w2_repT1)
      (have hcut := rest5 k ns c2 c3 c4 c5 c6 c7 c8 c9 c10 c11 c13 c12 d1 hd1 a b la lb sa sb false ⟨fun z => Bool.noConfusion z, fun z => absurd z hn⟩ (E := E); unfold c15 at hcut; simp only [tailS] at hcut; revert hcut; exists imm_Sx, imm_Sg, flat_Sx, flat_Sg, wbi_lenS, wits_Sx, w2_inS, w2_ninS, w2_addS, w2_addSg, wslc_S, wsub_S, w2_ltS, w2_isN0, w2_isNi, w2_isNs, w2_isNS, w2_isNt, w2_isNl, w2_isNT, w2_isNL, w2_ntN0, w2_ntNi, w2_ntNs, w2_ntNS, w2_ntNt, w2_ntNl, w2_ntNT, w2_ntNL, w2_repL, w2_rep1, w2_repT, w2_repT1; exact id)
  · rw [show decide ((a.length : Int) = (b.length : Int)) = false from decide_eq_false (by omega)]
    (try exists imm_Sx, imm_Sg, flat_Sx, flat_Sg, wbi_lenS, wits_Sx, w2_inS, w2_ninS, w2_addS, w2_addSg, wslc_S, wsub_S, w2_ltS, w2_isN0, w2_isNi, w2_isNs, w2_isNS, w2_isNt, w2_isNl, w2_isNT, w2_isNL, w2_ntN0, w2_ntNi, w2_ntNs, w2_ntNS, w2_ntNt, w2_ntNl, w2_ntNT, w2_ntNL, w2_repL, w2_rep1, w2_repT, w2_repT1)
    (repeat ((with_reducible refine And.intro ?_ ?_); focus (intros; first | (simp only [List.length_append, List.length_cons, List.length_nil]; omega) | ((with_reducible refine lenOk_of ?_); first | decide | omega) | ((with_reducible refine mulOk_l ?_); first | decide | omega) | ((with_reducible refine mulOk_r ?_); first | decide | omega) | ((with_reducible refine smallI_of ?_); omega) | ((with_reducible refine divOk_of ?_ ?_) <;> first | decide | omega) | exact And.intro (by omega) (by omega) | omega | (unfold kp; exact Or.inl rfl) | with_reducible rfl | with_reducible exact trivial)))
    (try exists imm_Sx, imm_Sg, flat_Sx, flat_Sg, wbi_lenS, wits_Sx, w2_inS, w2_ninS, w2_addS, w2_addSg, wslc_S, wsub_S, w2_ltS, w2_isN0, w2_isNi, w2_isNs, w2_isNS, w2_isNt, w2_isNl, w2_isNT, w2_isNL, w2_ntN0, w2_ntNi, w2_ntNs, w2_ntNS, w2_ntNt, w2_ntNl, w2_ntNT, w2_ntNL, w2_repL, w2_rep1, w2_repT, w2_repT1)
    (have hcut := rest5 k ns c2 c3 c4 c5 c6 c7 c8 c9 c10 c11 c13 c12 d1 hd1 a b la lb sa sb false ⟨fun z => Bool.noConfusion z, fun z => absurd z.len hl⟩ (E := E); unfold c15 at hcut; simp only [tailS] at hcut; revert hcut; exists imm_Sx, imm_Sg, flat_Sx, flat_Sg, wbi_lenS, wits_Sx, w2_inS, w2_ninS, w2_addS, w2_addSg, wslc_S, wsub_S, w2_ltS, w2_isN0, w2_isNi, w2_isNs, w2_isNS, w2_isNt, w2_isNl, w2_isNT, w2_isNL, w2_ntN0, w2_ntNi, w2_ntNs, w2_ntNS, w2_ntNt, w2_ntNl, w2_ntNT, w2_ntNL, w2_repL, w2_rep1, w2_repT, w2_repT1; exact id)
theorem wsset_T {l : List Int} {K : D → Prop} : wsset (Tp .int l) K = (l.length < 64 ∧ K (Ls .int (ssort l))) := by
  have : intsOf (l.map PyData.int) = some l := by
    induction l with
    | nil => rfl
    | cons x l ih => simp only [List.map_cons, intsOf, ih]
  unfold wsset
  simp only [ssetD, Tp, this]
  by_cases h : l.length < 64 <;> simp [h, Ls]
theorem ssort_le : ∀ l : List Int, (ssort l).length ≤ l.length
  | [] => Nat.le_refl _
  | x :: l => by
    have := ssort_le l
    have key : ∀ r : List Int, (insS x r).length ≤ r.length + 1 := by
      intro r
      induction r with
      | nil => simp [insS]
      | cons y r ih =>
        rw [insS]
        repeat' split
        all_goals (simp only [List.length_cons]; omega)
    have := key (ssort l)
    rw [ssort, List.length_cons]
    omega
theorem rest3 (k : Nat) (ns : List Int) (c2 c3 c4 c5 c6 c7 c8 c9 c10 c11 c13 : NB) (c12 : NI) (d1 : D) (hd1 : Dr d1) {E : XE} : wss (runF fs (k+4)) (tailS 17 c15.body) [some (.scr ns), some (.own d1), c2.c, c3.c, c4.c, c5.c, c6.c, c7.c, c8.c, c9.c, c10.c, c11.c, c12.c, c13.c, none, none, none, none, none, none, none, none, none] LP E := by
  have h4 := fun (d1 : D) (hd1 : Dr d1) (a b : List Int) (la : a.length ≤ 10) (lb : b.length ≤ 10) (sa : ∀ x ∈ a, -1000 ≤ x ∧ x ≤ 1000) (sb : ∀ x ∈ b, -1000 ≤ x ∧ x ≤ 1000) => rest4 k ns c2 c3 c4 c5 c6 c7 c8 c9 c10 c11 c13 c12 d1 hd1 a b la lb sa sb (E := E)
  show wss (runF fs (k+4)) (.cons _ (.cons _ (.cons _ (tailS 20 c15.body)))) _ LP E
  generalize tailS 20 c15.body = T at *
  exists imm_Sx, imm_Sg, flat_Sx, flat_Sg, wbi_lenS, wits_Sx, w2_inS, w2_ninS, w2_addS, w2_addSg, wslc_S, wsub_S, w2_ltS, w2_isN0, w2_isNi, w2_isNs, w2_isNS, w2_isNt, w2_isNl, w2_isNT, w2_isNL, w2_ntN0, w2_ntNi, w2_ntNs, w2_ntNS, w2_ntNt, w2_ntNl, w2_ntNT, w2_ntNL, w2_repL, w2_rep1, w2_repT, w2_repT1
  refine wcall_take (f := 7) (mm := 69621) (q := 2147483647) rfl (by decide) (by decide) hd1 rfl (by (try exists imm_Sx, imm_Sg, flat_Sx, flat_Sg, wbi_lenS, wits_Sx, w2_inS, w2_ninS, w2_addS, w2_addSg, wslc_S, wsub_S, w2_ltS, w2_isN0, w2_isNi, w2_isNs, w2_isNS, w2_isNt, w2_isNl, w2_isNT, w2_isNL, w2_ntN0, w2_ntNi, w2_ntNs, w2_ntNS, w2_ntNt, w2_ntNl, w2_ntNT, w2_ntNL, w2_repL, w2_rep1, w2_repT, w2_repT1)) (by decide) (by decide) fun m d2 m0 m1 hd2 => ?_
  (try exists imm_Sx, imm_Sg, flat_Sx, flat_Sg, wbi_lenS, wits_Sx, w2_inS, w2_ninS, w2_addS, w2_addSg, wslc_S, wsub_S, w2_ltS, w2_isN0, w2_isNi, w2_isNs, w2_isNS, w2_isNt, w2_isNl, w2_isNT, w2_isNL, w2_ntN0, w2_ntNi, w2_ntNs, w2_ntNS, w2_ntNt, w2_ntNl, w2_ntNT, w2_ntNL, w2_repL, w2_rep1, w2_repT, w2_repT1)
  (repeat ((with_reducible refine And.intro ?_ ?_); focus (intros; first | (simp only [List.length_append, List.length_cons, List.length_nil]; omega) | ((with_reducible refine lenOk_of ?_); first | decide | omega) | ((with_reducible refine mulOk_l ?_); first | decide | omega) | ((with_reducible refine mulOk_r ?_); first | decide | omega) | ((with_reducible refine smallI_of ?_); omega) | ((with_reducible refine divOk_of ?_ ?_) <;> first | decide | omega) | exact And.intro (by omega) (by omega) | omega | (unfold kp; exact Or.inl rfl) | with_reducible rfl | with_reducible exact trivial)))
  refine wcomp_eff (f := PyData.int) (fun pre out σ => ∃ w x', out = List.map PyData.int w ∧ w.length = pre.length ∧ (∀ a ∈ w, -1000 ≤ a ∧ a ≤ 1000) ∧ Dr x' ∧ σ = [some (.scr ns), some (.own x'), c2.c, c3.c, c4.c, c5.c, c6.c, c7.c, c8.c, c9.c, c10.c, c11.c, none, c13.c, none, none, none, none, none, none, none, none, none]) rfl (by (try exists imm_Sx, imm_Sg, flat_Sx, flat_Sg, wbi_lenS, wits_Sx, w2_inS, w2_ninS, w2_addS, w2_addSg, wslc_S, wsub_S, w2_ltS, w2_isN0, w2_isNi, w2_isNs, w2_isNS, w2_isNt, w2_isNl, w2_isNT, w2_isNL, w2_ntN0, w2_ntNi, w2_ntNs, w2_ntNS, w2_ntNt, w2_ntNl, w2_ntNT, w2_ntNL, w2_repL, w2_rep1, w2_repT, w2_repT1)) (all_imm _) (by (try exists imm_Sx, imm_Sg, flat_Sx, flat_Sg, wbi_lenS, wits_Sx, w2_inS, w2_ninS, w2_addS, w2_addSg, wslc_S, wsub_S, w2_ltS, w2_isN0, w2_isNi, w2_isNs, w2_isNS, w2_isNt, w2_isNl, w2_isNT, w2_isNL, w2_ntN0, w2_ntNi, w2_ntNs, w2_ntNS, w2_ntNt, w2_ntNl, w2_ntNT, w2_ntNL, w2_repL, w2_rep1, w2_repT, w2_repT1)) ⟨[], d2, rfl, rfl, by simp, hd2, by (try exists imm_Sx, imm_Sg, flat_Sx, flat_Sg, wbi_lenS, wits_Sx, w2_inS, w2_ninS, w2_addS, w2_addSg, wslc_S, wsub_S, w2_ltS, w2_isN0, w2_isNi, w2_isNs, w2_isNS, w2_isNt, w2_isNl, w2_isNT, w2_isNL, w2_ntN0, w2_ntNi, w2_ntNs, w2_ntNS, w2_ntNt, w2_ntNl, w2_ntNT, w2_ntNL, w2_repL, w2_rep1, w2_repT, w2_repT1)⟩ ?_ ?_
  · rintro pre a suf out σ hp ⟨c, x', rfl, hcl, hc, hx', rfl⟩
    exists imm_Sx, imm_Sg, flat_Sx, flat_Sg, wbi_lenS, wits_Sx, w2_inS, w2_ninS, w2_addS, w2_addSg, wslc_S, wsub_S, w2_ltS, w2_isN0, w2_isNi, w2_isNs, w2_isNS, w2_isNt, w2_isNl, w2_isNT, w2_isNL, w2_ntN0, w2_ntNi, w2_ntNs, w2_ntNS, w2_ntNt, w2_ntNl, w2_ntNT, w2_ntNL, w2_repL, w2_rep1, w2_repT, w2_repT1
    refine wcall_take (f := 7) (mm := 69621) (q := 2147483647) rfl (by decide) (by decide) hx' rfl (by (try exists imm_Sx, imm_Sg, flat_Sx, flat_Sg, wbi_lenS, wits_Sx, w2_inS, w2_ninS, w2_addS, w2_addSg, wslc_S, wsub_S, w2_ltS, w2_isN0, w2_isNi, w2_isNs, w2_isNS, w2_isNt, w2_isNl, w2_isNT, w2_isNL, w2_ntN0, w2_ntNi, w2_ntNs, w2_ntNS, w2_ntNt, w2_ntNl, w2_ntNT, w2_ntNL, w2_repL, w2_rep1, w2_repT, w2_repT1)) (by decide) (by decide) fun z x3 z0 z1 hx3 => ?_
    exists imm_Sx, imm_Sg, flat_Sx, flat_Sg, wbi_lenS, wits_Sx, w2_inS, w2_ninS, w2_addS, w2_addSg, wslc_S, wsub_S, w2_ltS, w2_isN0, w2_isNi, w2_isNs, w2_isNS, w2_isNt, w2_isNl, w2_isNT, w2_isNL, w2_ntN0, w2_ntNi, w2_ntNs, w2_ntNS, w2_ntNt, w2_ntNl, w2_ntNT, w2_ntNL, w2_repL, w2_rep1, w2_repT, w2_repT1
    exact ⟨c ++ [z - 1], x3, rfl, by simp [hcl], fun b hb => by
      rcases List.mem_append.mp hb with hb | hb
      · exact hc b hb
      · rw [List.mem_singleton.mp hb]; omega, hx3, rfl⟩
  rintro out σ ⟨a, d3, rfl, hal, ha, hd3, rfl⟩
  rw [rng_len] at hal
  (try exists imm_Sx, imm_Sg, flat_Sx, flat_Sg, wbi_lenS, wits_Sx, w2_inS, w2_ninS, w2_addS, w2_addSg, wslc_S, wsub_S, w2_ltS, w2_isN0, w2_isNi, w2_isNs, w2_isNS, w2_isNt, w2_isNl, w2_isNT, w2_isNL, w2_ntN0, w2_ntNi, w2_ntNs, w2_ntNS, w2_ntNt, w2_ntNl, w2_ntNT, w2_ntNL, w2_repL, w2_rep1, w2_repT, w2_repT1)
  refine ⟨lenOk_of (by omega), ?_⟩
  (try exists imm_Sx, imm_Sg, flat_Sx, flat_Sg, wbi_lenS, wits_Sx, w2_inS, w2_ninS, w2_addS, w2_addSg, wslc_S, wsub_S, w2_ltS, w2_isN0, w2_isNi, w2_isNs, w2_isNS, w2_isNt, w2_isNl, w2_isNT, w2_isNL, w2_ntN0, w2_ntNi, w2_ntNs, w2_ntNS, w2_ntNt, w2_ntNl, w2_ntNT, w2_ntNL, w2_repL, w2_rep1, w2_repT, w2_repT1)
  refine wcall_take (f := 7) (mm := 69621) (q := 2147483647) rfl (by decide) (by decide) hd3 rfl (by (try exists imm_Sx, imm_Sg, flat_Sx, flat_Sg, wbi_lenS, wits_Sx, w2_inS, w2_ninS, w2_addS, w2_addSg, wslc_S, wsub_S, w2_ltS, w2_isN0, w2_isNi, w2_isNs, w2_isNS, w2_isNt, w2_isNl, w2_isNT, w2_isNL, w2_ntN0, w2_ntNi, w2_ntNs, w2_ntNS, w2_ntNt, w2_ntNl, w2_ntNT, w2_ntNL, w2_repL, w2_rep1, w2_repT, w2_repT1)) (by decide) (by decide) fun e d4 e0 e1 hd4 => ?_
  (try exists imm_Sx, imm_Sg, flat_Sx, flat_Sg, wbi_lenS, wits_Sx, w2_inS, w2_ninS, w2_addS, w2_addSg, wslc_S, wsub_S, w2_ltS, w2_isN0, w2_isNi, w2_isNs, w2_isNS, w2_isNt, w2_isNl, w2_isNT, w2_isNL, w2_ntN0, w2_ntNi, w2_ntNs, w2_ntNS, w2_ntNt, w2_ntNl, w2_ntNT, w2_ntNL, w2_repL, w2_rep1, w2_repT, w2_repT1)
  have hLb : 0 ≤ (if e = 0 then (1 : Int) else 0) ∧ (if e = 0 then (1 : Int) else 0) ≤ 1 := by split <;> omega
  generalize (if e = 0 then (1 : Int) else 0) = ee at *
  (repeat ((with_reducible refine And.intro ?_ ?_); focus (intros; first | (simp only [List.length_append, List.length_cons, List.length_nil]; omega) | ((with_reducible refine lenOk_of ?_); first | decide | omega) | ((with_reducible refine mulOk_l ?_); first | decide | omega) | ((with_reducible refine mulOk_r ?_); first | decide | omega) | ((with_reducible refine smallI_of ?_); omega) | ((with_reducible refine divOk_of ?_ ?_) <;> first | decide | omega) | exact And.intro (by omega) (by omega) | omega | (unfold kp; exact Or.inl rfl) | with_reducible rfl | with_reducible exact trivial)))
  refine wcomp_eff (f := PyData.int) (fun pre out σ => ∃ w x', out = List.map PyData.int w ∧ w.length = pre.length ∧ (∀ a ∈ w, -1000 ≤ a ∧ a ≤ 1000) ∧ Dr x' ∧ σ = [some (.scr ns), some (.own x'), c2.c, c3.c, c4.c, c5.c, c6.c, c7.c, c8.c, c9.c, c10.c, c11.c, none, c13.c, some (.own (Tp .int a)), none, none, none, none, none, none, none, none]) rfl (by (try exists imm_Sx, imm_Sg, flat_Sx, flat_Sg, wbi_lenS, wits_Sx, w2_inS, w2_ninS, w2_addS, w2_addSg, wslc_S, wsub_S, w2_ltS, w2_isN0, w2_isNi, w2_isNs, w2_isNS, w2_isNt, w2_isNl, w2_isNT, w2_isNL, w2_ntN0, w2_ntNi, w2_ntNs, w2_ntNS, w2_ntNt, w2_ntNl, w2_ntNT, w2_ntNL, w2_repL, w2_rep1, w2_repT, w2_repT1)) (all_imm _) (by (try exists imm_Sx, imm_Sg, flat_Sx, flat_Sg, wbi_lenS, wits_Sx, w2_inS, w2_ninS, w2_addS, w2_addSg, wslc_S, wsub_S, w2_ltS, w2_isN0, w2_isNi, w2_isNs, w2_isNS, w2_isNt, w2_isNl, w2_isNT, w2_isNL, w2_ntN0, w2_ntNi, w2_ntNs, w2_ntNS, w2_ntNt, w2_ntNl, w2_ntNT, w2_ntNL, w2_repL, w2_rep1, w2_repT, w2_repT1)) ⟨[], d4, rfl, rfl, by simp, hd4, by (try exists imm_Sx, imm_Sg, flat_Sx, flat_Sg, wbi_lenS, wits_Sx, w2_inS, w2_ninS, w2_addS, w2_addSg, wslc_S, wsub_S, w2_ltS, w2_isN0, w2_isNi, w2_isNs, w2_isNS, w2_isNt, w2_isNl, w2_isNT, w2_isNL, w2_ntN0, w2_ntNi, w2_ntNs, w2_ntNS, w2_ntNt, w2_ntNl, w2_ntNT, w2_ntNL, w2_repL, w2_rep1, w2_repT, w2_repT1)⟩ ?_ ?_
  · rintro pre a suf out σ hp ⟨c, x', rfl, hcl, hc, hx', rfl⟩
    exists imm_Sx, imm_Sg, flat_Sx, flat_Sg, wbi_lenS, wits_Sx, w2_inS, w2_ninS, w2_addS, w2_addSg, wslc_S, wsub_S, w2_ltS, w2_isN0, w2_isNi, w2_isNs, w2_isNS, w2_isNt, w2_isNl, w2_isNT, w2_isNL, w2_ntN0, w2_ntNi, w2_ntNs, w2_ntNS, w2_ntNt, w2_ntNl, w2_ntNT, w2_ntNL, w2_repL, w2_rep1, w2_repT, w2_repT1
    refine wcall_take (f := 7) (mm := 69621) (q := 2147483647) rfl (by decide) (by decide) hx' rfl (by (try exists imm_Sx, imm_Sg, flat_Sx, flat_Sg, wbi_lenS, wits_Sx, w2_inS, w2_ninS, w2_addS, w2_addSg, wslc_S, wsub_S, w2_ltS, w2_isN0, w2_isNi, w2_isNs, w2_isNS, w2_isNt, w2_isNl, w2_isNT, w2_isNL, w2_ntN0, w2_ntNi, w2_ntNs, w2_ntNS, w2_ntNt, w2_ntNl, w2_ntNT, w2_ntNL, w2_repL, w2_rep1, w2_repT, w2_repT1)) (by decide) (by decide) fun z x3 z0 z1 hx3 => ?_
    exists imm_Sx, imm_Sg, flat_Sx, flat_Sg, wbi_lenS, wits_Sx, w2_inS, w2_ninS, w2_addS, w2_addSg, wslc_S, wsub_S, w2_ltS, w2_isN0, w2_isNi, w2_isNs, w2_isNS, w2_isNt, w2_isNl, w2_isNT, w2_isNL, w2_ntN0, w2_ntNi, w2_ntNs, w2_ntNS, w2_ntNt, w2_ntNl, w2_ntNT, w2_ntNL, w2_repL, w2_rep1, w2_repT, w2_repT1
    exact ⟨c ++ [z - 1], x3, rfl, by simp [hcl], fun b hb => by
      rcases List.mem_append.mp hb with hb | hb
      · exact hc b hb
      · rw [List.mem_singleton.mp hb]; omega, hx3, rfl⟩
  rintro out σ ⟨b, d5, rfl, hbl, hb, hd5, rfl⟩
  rw [rng_len] at hbl
  (try exists imm_Sx, imm_Sg, flat_Sx, flat_Sg, wbi_lenS, wits_Sx, w2_inS, w2_ninS, w2_addS, w2_addSg, wslc_S, wsub_S, w2_ltS, w2_isN0, w2_isNi, w2_isNs, w2_isNS, w2_isNt, w2_isNl, w2_isNT, w2_isNL, w2_ntN0, w2_ntNi, w2_ntNs, w2_ntNS, w2_ntNt, w2_ntNl, w2_ntNT, w2_ntNL, w2_repL, w2_rep1, w2_repT, w2_repT1)
  refine ⟨lenOk_of (by omega), ?_⟩
  (try exists imm_Sx, imm_Sg, flat_Sx, flat_Sg, wbi_lenS, wits_Sx, w2_inS, w2_ninS, w2_addS, w2_addSg, wslc_S, wsub_S, w2_ltS, w2_isN0, w2_isNi, w2_isNs, w2_isNS, w2_isNt, w2_isNl, w2_isNT, w2_isNL, w2_ntN0, w2_ntNi, w2_ntNs, w2_ntNS, w2_ntNt, w2_ntNl, w2_ntNT, w2_ntNL, w2_repL, w2_rep1, w2_repT, w2_repT1)
  refine wcall_take (f := 7) (mm := 69621) (q := 2147483647) rfl (by decide) (by decide) hd5 rfl (by (try exists imm_Sx, imm_Sg, flat_Sx, flat_Sg, wbi_lenS, wits_Sx, w2_inS, w2_ninS, w2_addS, w2_addSg, wslc_S, wsub_S, w2_ltS, w2_isN0, w2_isNi, w2_isNs, w2_isNS, w2_isNt, w2_isNl, w2_isNT, w2_isNL, w2_ntN0, w2_ntNi, w2_ntNs, w2_ntNS, w2_ntNt, w2_ntNl, w2_ntNT, w2_ntNL, w2_repL, w2_rep1, w2_repT, w2_repT1)) (by decide) (by decide) fun y d6 y0 y1 hd6 => ?_
  (try exists imm_Sx, imm_Sg, flat_Sx, flat_Sg, wbi_lenS, wits_Sx, w2_inS, w2_ninS, w2_addS, w2_addSg, wslc_S, wsub_S, w2_ltS, w2_isN0, w2_isNi, w2_isNs, w2_isNS, w2_isNt, w2_isNl, w2_isNT, w2_isNL, w2_ntN0, w2_ntNi, w2_ntNs, w2_ntNS, w2_ntNt, w2_ntNl, w2_ntNT, w2_ntNL, w2_repL, w2_rep1, w2_repT, w2_repT1)
  refine wbS_if (fun hy => ?_) (fun hy => ?_) <;> (try simp only [decide_eq_true_eq, decide_eq_false_iff_not, Bool.or_eq_true, Bool.and_eq_true, Bool.or_eq_false_iff, Bool.and_eq_false_iff, Bool.not_eq_true', Bool.not_eq_false', Bool.not_eq_true, Bool.not_eq_false, Int.not_lt, Int.not_le, Bool.false_eq_true, Bool.true_eq_false, id] at hy)
  · have hrev : ∀ l : List Int, (∀ x ∈ l, -1000 ≤ x ∧ x ≤ 1000) → ∀ x ∈ (ssort l).reverse, -1000 ≤ x ∧ x ≤ 1000 := fun l h x hx => h x ((ssort_mem l x).mp (List.mem_reverse.mp hx))
    have sl1 := ssort_le a
    have sl2 := ssort_le b
    (try exists imm_Sx, imm_Sg, flat_Sx, flat_Sg, wbi_lenS, wits_Sx, w2_inS, w2_ninS, w2_addS, w2_addSg, wslc_S, wsub_S, w2_ltS, w2_isN0, w2_isNi, w2_isNs, w2_isNS, w2_isNt, w2_isNl, w2_isNT, w2_isNL, w2_ntN0, w2_ntNi, w2_ntNs, w2_ntNS, w2_ntNt, w2_ntNl, w2_ntNT, w2_ntNL, w2_repL, w2_rep1, w2_repT, w2_repT1, wsset_T)
    (repeat ((with_reducible refine And.intro ?_ ?_); focus (intros; first | (simp only [List.length_append, List.length_cons, List.length_nil]; omega) | ((with_reducible refine lenOk_of ?_); first | decide | omega) | ((with_reducible refine mulOk_l ?_); first | decide | omega) | ((with_reducible refine mulOk_r ?_); first | decide | omega) | ((with_reducible refine smallI_of ?_); omega) | ((with_reducible refine divOk_of ?_ ?_) <;> first | decide | omega) | exact And.intro (by omega) (by omega) | omega | (unfold kp; exact Or.inl rfl) | with_reducible rfl | with_reducible exact trivial)))
    (try exists imm_Sx, imm_Sg, flat_Sx, flat_Sg, wbi_lenS, wits_Sx, w2_inS, w2_ninS, w2_addS, w2_addSg, wslc_S, wsub_S, w2_ltS, w2_isN0, w2_isNi, w2_isNs, w2_isNS, w2_isNt, w2_isNl, w2_isNT, w2_isNL, w2_ntN0, w2_ntNi, w2_ntNs, w2_ntNS, w2_ntNt, w2_ntNl, w2_ntNT, w2_ntNL, w2_repL, w2_rep1, w2_repT, w2_repT1, wsset_T)
    (repeat ((with_reducible refine And.intro ?_ ?_); focus (intros; first | (simp only [List.length_append, List.length_cons, List.length_nil]; omega) | ((with_reducible refine lenOk_of ?_); first | decide | omega) | ((with_reducible refine mulOk_l ?_); first | decide | omega) | ((with_reducible refine mulOk_r ?_); first | decide | omega) | ((with_reducible refine smallI_of ?_); omega) | ((with_reducible refine divOk_of ?_ ?_) <;> first | decide | omega) | exact And.intro (by omega) (by omega) | omega | (unfold kp; exact Or.inl rfl) | with_reducible rfl | with_reducible exact trivial)))
    exact h4 d6 hd6 (ssort a).reverse (ssort b).reverse (by rw [List.length_reverse]; omega) (by rw [List.length_reverse]; omega) (hrev a ha) (hrev b hb)
  · (try exists imm_Sx, imm_Sg, flat_Sx, flat_Sg, wbi_lenS, wits_Sx, w2_inS, w2_ninS, w2_addS, w2_addSg, wslc_S, wsub_S, w2_ltS, w2_isN0, w2_isNi, w2_isNs, w2_isNS, w2_isNt, w2_isNl, w2_isNT, w2_isNL, w2_ntN0, w2_ntNi, w2_ntNs, w2_ntNS, w2_ntNt, w2_ntNl, w2_ntNT, w2_ntNL, w2_repL, w2_rep1, w2_repT, w2_repT1)
    exact h4 d6 hd6 a b (by omega) (by omega) ha hb
theorem rest2 (k : Nat) (ns : List Int) (c2 c3 c4 c5 c6 c7 c8 c9 : NB) (d1 : D) (hd1 : Dr d1) {E : XE} : wss (runF fs (k+4)) (tailS 12 c15.body) [some (.scr ns), some (.own d1), c2.c, c3.c, c4.c, c5.c, c6.c, c7.c, c8.c, c9.c, none, none, none, none, none, none, none, none, none, none, none, none, none] LP E := by
  unfold c15
  simp only [tailS]
  exists imm_Sx, imm_Sg, flat_Sx, flat_Sg, wbi_lenS, wits_Sx, w2_inS, w2_ninS, w2_addS, w2_addSg, wslc_S, wsub_S, w2_ltS, w2_isN0, w2_isNi, w2_isNs, w2_isNS, w2_isNt, w2_isNl, w2_isNT, w2_isNL, w2_ntN0, w2_ntNi, w2_ntNs, w2_ntNS, w2_ntNt, w2_ntNl, w2_ntNT, w2_ntNL, w2_repL, w2_rep1, w2_repT, w2_repT1
  refine wcall_take (f := 7) (mm := 69621) (q := 2147483647) rfl (by decide) (by decide) hd1 rfl (by (try exists imm_Sx, imm_Sg, flat_Sx, flat_Sg, wbi_lenS, wits_Sx, w2_inS, w2_ninS, w2_addS, w2_addSg, wslc_S, wsub_S, w2_ltS, w2_isN0, w2_isNi, w2_isNs, w2_isNS, w2_isNt, w2_isNl, w2_isNT, w2_isNL, w2_ntN0, w2_ntNi, w2_ntNs, w2_ntNS, w2_ntNt, w2_ntNl, w2_ntNT, w2_ntNL, w2_repL, w2_rep1, w2_repT, w2_repT1)) (by decide) (by decide) fun m d2 m0 m1 hd2 => ?_
  (try exists imm_Sx, imm_Sg, flat_Sx, flat_Sg, wbi_lenS, wits_Sx, w2_inS, w2_ninS, w2_addS, w2_addSg, wslc_S, wsub_S, w2_ltS, w2_isN0, w2_isNi, w2_isNs, w2_isNS, w2_isNt, w2_isNl, w2_isNT, w2_isNL, w2_ntN0, w2_ntNi, w2_ntNs, w2_ntNS, w2_ntNt, w2_ntNl, w2_ntNT, w2_ntNL, w2_repL, w2_rep1, w2_repT, w2_repT1)
  (repeat ((with_reducible refine And.intro ?_ ?_); focus (intros; first | (simp only [List.length_append, List.length_cons, List.length_nil]; omega) | ((with_reducible refine lenOk_of ?_); first | decide | omega) | ((with_reducible refine mulOk_l ?_); first | decide | omega) | ((with_reducible refine mulOk_r ?_); first | decide | omega) | ((with_reducible refine smallI_of ?_); omega) | ((with_reducible refine divOk_of ?_ ?_) <;> first | decide | omega) | exact And.intro (by omega) (by omega) | omega | (unfold kp; exact Or.inl rfl) | with_reducible rfl | with_reducible exact trivial)))
  refine wcomp_eff (f := PyData.int) (fun pre out σ => ∃ w x', out = List.map PyData.int w ∧ w.length = pre.length ∧ (∀ a ∈ w, a = 0 ∨ a = 1) ∧ Dr x' ∧ σ = [some (.scr ns), some (.own x'), c2.c, c3.c, c4.c, c5.c, c6.c, c7.c, c8.c, c9.c, none, none, none, none, none, none, none, none, none, none, none, none, none]) rfl (by (try exists imm_Sx, imm_Sg, flat_Sx, flat_Sg, wbi_lenS, wits_Sx, w2_inS, w2_ninS, w2_addS, w2_addSg, wslc_S, wsub_S, w2_ltS, w2_isN0, w2_isNi, w2_isNs, w2_isNS, w2_isNt, w2_isNl, w2_isNT, w2_isNL, w2_ntN0, w2_ntNi, w2_ntNs, w2_ntNS, w2_ntNt, w2_ntNl, w2_ntNT, w2_ntNL, w2_repL, w2_rep1, w2_repT, w2_repT1)) (all_imm _) (by (try exists imm_Sx, imm_Sg, flat_Sx, flat_Sg, wbi_lenS, wits_Sx, w2_inS, w2_ninS, w2_addS, w2_addSg, wslc_S, wsub_S, w2_ltS, w2_isN0, w2_isNi, w2_isNs, w2_isNS, w2_isNt, w2_isNl, w2_isNT, w2_isNL, w2_ntN0, w2_ntNi, w2_ntNs, w2_ntNS, w2_ntNt, w2_ntNl, w2_ntNT, w2_ntNL, w2_repL, w2_rep1, w2_repT, w2_repT1)) ⟨[], d2, rfl, rfl, by simp, hd2, by (try exists imm_Sx, imm_Sg, flat_Sx, flat_Sg, wbi_lenS, wits_Sx, w2_inS, w2_ninS, w2_addS, w2_addSg, wslc_S, wsub_S, w2_ltS, w2_isN0, w2_isNi, w2_isNs, w2_isNS, w2_isNt, w2_isNl, w2_isNT, w2_isNL, w2_ntN0, w2_ntNi, w2_ntNs, w2_ntNS, w2_ntNt, w2_ntNl, w2_ntNT, w2_ntNL, w2_repL, w2_rep1, w2_repT, w2_repT1)⟩ ?_ ?_
  · rintro pre a suf out σ hp ⟨c, x', rfl, hcl, hc, hx', rfl⟩
    exists imm_Sx, imm_Sg, flat_Sx, flat_Sg, wbi_lenS, wits_Sx, w2_inS, w2_ninS, w2_addS, w2_addSg, wslc_S, wsub_S, w2_ltS, w2_isN0, w2_isNi, w2_isNs, w2_isNS, w2_isNt, w2_isNl, w2_isNT, w2_isNL, w2_ntN0, w2_ntNi, w2_ntNs, w2_ntNS, w2_ntNt, w2_ntNl, w2_ntNT, w2_ntNL, w2_repL, w2_rep1, w2_repT, w2_repT1
    refine wcall_take (f := 7) (mm := 69621) (q := 2147483647) rfl (by decide) (by decide) hx' rfl (by (try exists imm_Sx, imm_Sg, flat_Sx, flat_Sg, wbi_lenS, wits_Sx, w2_inS, w2_ninS, w2_addS, w2_addSg, wslc_S, wsub_S, w2_ltS, w2_isN0, w2_isNi, w2_isNs, w2_isNS, w2_isNt, w2_isNl, w2_isNT, w2_isNL, w2_ntN0, w2_ntNi, w2_ntNs, w2_ntNS, w2_ntNt, w2_ntNl, w2_ntNT, w2_ntNL, w2_repL, w2_rep1, w2_repT, w2_repT1)) (by decide) (by decide) fun z x3 z0 z1 hx3 => ?_
    exists imm_Sx, imm_Sg, flat_Sx, flat_Sg, wbi_lenS, wits_Sx, w2_inS, w2_ninS, w2_addS, w2_addSg, wslc_S, wsub_S, w2_ltS, w2_isN0, w2_isNi, w2_isNs, w2_isNS, w2_isNt, w2_isNl, w2_isNT, w2_isNL, w2_ntN0, w2_ntNi, w2_ntNs, w2_ntNS, w2_ntNt, w2_ntNl, w2_ntNT, w2_ntNL, w2_repL, w2_rep1, w2_repT, w2_repT1
    exact ⟨c ++ [z], x3, rfl, by simp [hcl], fun b hb => by
      rcases List.mem_append.mp hb with hb | hb
      · exact hc b hb
      · rw [List.mem_singleton.mp hb]; omega, hx3, rfl⟩
  rintro out σ ⟨w, d3, rfl, hwl, hw, hd3, rfl⟩
  rw [rng_len] at hwl
  (try exists imm_Sx, imm_Sg, flat_Sx, flat_Sg, wbi_lenS, wits_Sx, w2_inS, w2_ninS, w2_addS, w2_addSg, wslc_S, wsub_S, w2_ltS, w2_isN0, w2_isNi, w2_isNs, w2_isNS, w2_isNt, w2_isNl, w2_isNT, w2_isNL, w2_ntN0, w2_ntNi, w2_ntNs, w2_ntNS, w2_ntNt, w2_ntNl, w2_ntNT, w2_ntNL, w2_repL, w2_rep1, w2_repT, w2_repT1)
  refine ⟨lenOk_of (by omega), ?_⟩
  (try exists imm_Sx, imm_Sg, flat_Sx, flat_Sg, wbi_lenS, wits_Sx, w2_inS, w2_ninS, w2_addS, w2_addSg, wslc_S, wsub_S, w2_ltS, w2_isN0, w2_isNi, w2_isNs, w2_isNS, w2_isNt, w2_isNl, w2_isNT, w2_isNL, w2_ntN0, w2_ntNi, w2_ntNs, w2_ntNS, w2_ntNt, w2_ntNl, w2_ntNT, w2_ntNL, w2_repL, w2_rep1, w2_repT, w2_repT1, lst0 (f := PyData.int))
  (repeat ((with_reducible refine And.intro ?_ ?_); focus (intros; first | (simp only [List.length_append, List.length_cons, List.length_nil]; omega) | ((with_reducible refine lenOk_of ?_); first | decide | omega) | ((with_reducible refine mulOk_l ?_); first | decide | omega) | ((with_reducible refine mulOk_r ?_); first | decide | omega) | ((with_reducible refine smallI_of ?_); omega) | ((with_reducible refine divOk_of ?_ ?_) <;> first | decide | omega) | exact And.intro (by omega) (by omega) | omega | (unfold kp; exact Or.inl rfl) | with_reducible rfl | with_reducible exact trivial)))
  refine wfor_inv (f := PyData.int) (I := fun pre σ => ∃ (c12 : NI) (rows : List Int), rows.filter (fun x => decide (0 < x)) = ((w.take pre.length).foldl seS ([], 0)).1 ∧ rows.length ≤ pre.length ∧ σ = [some (.scr ns), some (.own d3), c2.c, c3.c, c4.c, c5.c, c6.c, c7.c, c8.c, c9.c, some (.own (Tp .int w)), some (.own (Ls .int rows)), c12.c, none, none, none, none, none, none, none, none, none, none]) ⟨⟨_, rfl, rfl⟩, [], rfl, by simp, rfl⟩ ?_ ?_
  · rintro pre i suf σ hp ⟨c12, rows, hrows, hrl, rfl⟩
    obtain ⟨g1, g2⟩ := rng_at hp
    have ei : i = (pre.length : Int) := by omega
    subst ei
    have hk : pre.length < w.length := by omega
    have hx := hw _ (g_mem hk)
    have ex : pyg w (pre.length : Int) = g w pre.length := by rw [g_pyg (by omega), Int.toNat_natCast]
    have et : w.take (pre ++ [(pre.length : Int)]).length = w.take pre.length ++ [g w pre.length] := by
      rw [List.length_append, List.length_singleton, List.take_succ, List.getElem?_eq_getElem hk, g_in hk]; rfl
    have ef : ((w.take pre.length ++ [g w pre.length]).foldl seS ([], 0)) = seS ((w.take pre.length).foldl seS ([], 0)) (g w pre.length) := by rw [List.foldl_append]; rfl
    have ea := seS_at (w.take pre.length) [] 0
    rw [et, ef]
    generalize (w.take pre.length).foldl seS ([], 0) = t at *
    obtain ⟨tr, ta⟩ := t
    simp only at hrows ea
    exists imm_Sx, imm_Sg, flat_Sx, flat_Sg, wbi_lenS, wits_Sx, w2_inS, w2_ninS, w2_addS, w2_addSg, wslc_S, wsub_S, w2_ltS, w2_isN0, w2_isNi, w2_isNs, w2_isNS, w2_isNt, w2_isNl, w2_isNT, w2_isNL, w2_ntN0, w2_ntNi, w2_ntNs, w2_ntNS, w2_ntNt, w2_ntNl, w2_ntNT, w2_ntNL, w2_repL, w2_rep1, w2_repT, w2_repT1, ex
    refine ⟨⟨by omega, by omega⟩, ?_⟩
    rcases hx with hx | hx
    · rw [show decide (g w pre.length = 1) = false from decide_eq_false (by omega)]
      exists imm_Sx, imm_Sg, flat_Sx, flat_Sg, wbi_lenS, wits_Sx, w2_inS, w2_ninS, w2_addS, w2_addSg, wslc_S, wsub_S, w2_ltS, w2_isN0, w2_isNi, w2_isNs, w2_isNS, w2_isNt, w2_isNl, w2_isNT, w2_isNL, w2_ntN0, w2_ntNi, w2_ntNs, w2_ntNS, w2_ntNt, w2_ntNl, w2_ntNT, w2_ntNL, w2_repL, w2_rep1, w2_repT, w2_repT1
      refine ⟨⟨some (.own (.int pre.length)), rfl, rfl⟩, rows, ?_, by rw [List.length_append]; omega, rfl⟩
      unfold seS
      rw [if_pos hx]
      exact hrows
    · rw [show decide (g w pre.length = 1) = true from decide_eq_true hx]
      exists imm_Sx, imm_Sg, flat_Sx, flat_Sg, wbi_lenS, wits_Sx, w2_inS, w2_ninS, w2_addS, w2_addSg, wslc_S, wsub_S, w2_ltS, w2_isN0, w2_isNi, w2_isNs, w2_isNS, w2_isNt, w2_isNl, w2_isNT, w2_isNL, w2_ntN0, w2_ntNi, w2_ntNs, w2_ntNS, w2_ntNt, w2_ntNl, w2_ntNT, w2_ntNL, w2_repL, w2_rep1, w2_repT, w2_repT1
      rw [cut_take w (by omega) (by omega), Int.toNat_natCast]
      refine wcomp_map (f := PyData.int) PyData.int (fun x => decide (x = 0)) (fun x => x) true (fun y hy => ?_) (by exists imm_Sx, imm_Sg, flat_Sx, flat_Sg, wbi_lenS, wits_Sx, w2_inS, w2_ninS, w2_addS, w2_addSg, wslc_S, wsub_S, w2_ltS, w2_isN0, w2_isNi, w2_isNs, w2_isNS, w2_isNt, w2_isNl, w2_isNT, w2_isNL, w2_ntN0, w2_ntNi, w2_ntNs, w2_ntNS, w2_ntNt, w2_ntNl, w2_ntNT, w2_ntNL, w2_repL, w2_rep1, w2_repT, w2_repT1) rfl ?_ fun b hb => ?_
      · exists imm_Sx, imm_Sg, flat_Sx, flat_Sg, wbi_lenS, wits_Sx, w2_inS, w2_ninS, w2_addS, w2_addSg, wslc_S, wsub_S, w2_ltS, w2_isN0, w2_isNi, w2_isNs, w2_isNS, w2_isNt, w2_isNl, w2_isNT, w2_isNL, w2_ntN0, w2_ntNi, w2_ntNs, w2_ntNS, w2_ntNt, w2_ntNl, w2_ntNT, w2_ntNL, w2_repL, w2_rep1, w2_repT, w2_repT1
        exact fun _ _ => trivial
      · rw [List.length_map]
        have := List.length_filter_le (fun x : Int => decide (x = 0)) (w.take pre.length)
        rw [List.length_take] at this
        omega
      obtain rfl := hb rfl
      exists imm_Sx, imm_Sg, flat_Sx, flat_Sg, wbi_lenS, wits_Sx, w2_inS, w2_ninS, w2_addS, w2_addSg, wslc_S, wsub_S, w2_ltS, w2_isN0, w2_isNi, w2_isNs, w2_isNS, w2_isNt, w2_isNl, w2_isNT, w2_isNL, w2_ntN0, w2_ntNi, w2_ntNs, w2_ntNS, w2_ntNt, w2_ntNl, w2_ntNT, w2_ntNL, w2_repL, w2_rep1, w2_repT, w2_repT1, List.map_id'
      refine ⟨by omega, ⟨some (.own (.int pre.length)), rfl, rfl⟩, _, ?_, by rw [List.length_append, List.length_append]; simp; omega, rfl⟩
      rw [List.filter_append, hrows]
      unfold seS
      rw [if_neg (by omega)]
      simp only
      by_cases h0 : 0 < ta
      · rw [if_pos h0]
        rw [show ((List.filter (fun x => decide (x = 0)) (w.take pre.length)).length : Int) = ta by omega]
        simp [h0]
      · rw [if_neg h0]
        rw [show ((List.filter (fun x => decide (x = 0)) (w.take pre.length)).length : Int) = ta by omega]
        simp [h0]
  rintro σ ⟨c12, rows, hrows, hrl, rfl⟩
  rw [rng_len, show ((w.length : Int) - 0).toNat = w.length by omega] at hrl
  rw [rng_len, show ((w.length : Int) - 0).toNat = w.length by omega, List.take_length] at hrows
  have hse : rows.reverse.filter (fun x => decide (0 < x)) = se w := by rw [List.filter_reverse, hrows]; rfl
  (try exists imm_Sx, imm_Sg, flat_Sx, flat_Sg, wbi_lenS, wits_Sx, w2_inS, w2_ninS, w2_addS, w2_addSg, wslc_S, wsub_S, w2_ltS, w2_isN0, w2_isNi, w2_isNs, w2_isNS, w2_isNt, w2_isNl, w2_isNT, w2_isNL, w2_ntN0, w2_ntNi, w2_ntNs, w2_ntNS, w2_ntNt, w2_ntNl, w2_ntNT, w2_ntNL, w2_repL, w2_rep1, w2_repT, w2_repT1)
  refine wcomp_map (f := PyData.int) PyData.int (fun x => decide (0 < x)) (fun x => x) true (fun y hy => ?_) (by (try exists imm_Sx, imm_Sg, flat_Sx, flat_Sg, wbi_lenS, wits_Sx, w2_inS, w2_ninS, w2_addS, w2_addSg, wslc_S, wsub_S, w2_ltS, w2_isN0, w2_isNi, w2_isNs, w2_isNS, w2_isNt, w2_isNl, w2_isNT, w2_isNL, w2_ntN0, w2_ntNi, w2_ntNs, w2_ntNS, w2_ntNt, w2_ntNl, w2_ntNT, w2_ntNL, w2_repL, w2_rep1, w2_repT, w2_repT1)) rfl ?_ fun b hb => ?_
  · exists imm_Sx, imm_Sg, flat_Sx, flat_Sg, wbi_lenS, wits_Sx, w2_inS, w2_ninS, w2_addS, w2_addSg, wslc_S, wsub_S, w2_ltS, w2_isN0, w2_isNi, w2_isNs, w2_isNS, w2_isNt, w2_isNl, w2_isNT, w2_isNL, w2_ntN0, w2_ntNi, w2_ntNs, w2_ntNS, w2_ntNt, w2_ntNl, w2_ntNT, w2_ntNL, w2_repL, w2_rep1, w2_repT, w2_repT1
    exact fun _ _ => trivial
  · rw [List.length_map]
    have := List.length_filter_le (fun x : Int => decide (0 < x)) rows.reverse
    rw [List.length_reverse] at this
    omega
  obtain rfl := hb rfl
  rw [List.map_id', hse]
  (try exists imm_Sx, imm_Sg, flat_Sx, flat_Sg, wbi_lenS, wits_Sx, w2_inS, w2_ninS, w2_addS, w2_addSg, wslc_S, wsub_S, w2_ltS, w2_isN0, w2_isNi, w2_isNs, w2_isNS, w2_isNt, w2_isNl, w2_isNT, w2_isNL, w2_ntN0, w2_ntNi, w2_ntNs, w2_ntNS, w2_ntNt, w2_ntNl, w2_ntNT, w2_ntNL, w2_repL, w2_rep1, w2_repT, w2_repT1)
  refine wcall_1 ?_
  (try exists imm_Sx, imm_Sg, flat_Sx, flat_Sg, wbi_lenS, wits_Sx, w2_inS, w2_ninS, w2_addS, w2_addSg, wslc_S, wsub_S, w2_ltS, w2_isN0, w2_isNi, w2_isNs, w2_isNS, w2_isNt, w2_isNl, w2_isNT, w2_isNL, w2_ntN0, w2_ntNi, w2_ntNs, w2_ntNS, w2_ntNt, w2_ntNl, w2_ntNT, w2_ntNL, w2_repL, w2_rep1, w2_repT, w2_repT1)
  refine tshape_ok _ w (by omega) ?_
  by_cases h40 : (se w).sum ≤ 40
  · rw [if_pos h40, decide_eq_true h40]
    (try exists imm_Sx, imm_Sg, flat_Sx, flat_Sg, wbi_lenS, wits_Sx, w2_inS, w2_ninS, w2_addS, w2_addSg, wslc_S, wsub_S, w2_ltS, w2_isN0, w2_isNi, w2_isNs, w2_isNS, w2_isNt, w2_isNl, w2_isNT, w2_isNL, w2_ntN0, w2_ntNi, w2_ntNs, w2_ntNS, w2_ntNt, w2_ntNl, w2_ntNT, w2_ntNL, w2_repL, w2_rep1, w2_repT, w2_repT1, eq_self)
    (have hcut := rest3 k ns c2 c3 c4 c5 c6 c7 c8 c9 ⟨some (.own (Tp .int w)), rfl⟩ ⟨some (.own (Ls .int rows)), rfl⟩ ⟨some (.own (Tp .int (se w))), rfl⟩ c12 d3 hd3 (E := E); unfold c15 at hcut; simp only [tailS] at hcut; revert hcut; exists imm_Sx, imm_Sg, flat_Sx, flat_Sg, wbi_lenS, wits_Sx, w2_inS, w2_ninS, w2_addS, w2_addSg, wslc_S, wsub_S, w2_ltS, w2_isN0, w2_isNi, w2_isNs, w2_isNS, w2_isNt, w2_isNl, w2_isNT, w2_isNL, w2_ntN0, w2_ntNi, w2_ntNs, w2_ntNS, w2_ntNt, w2_ntNl, w2_ntNT, w2_ntNL, w2_repL, w2_rep1, w2_repT, w2_repT1; exact id)
  · rw [if_neg h40, decide_eq_false h40]
    (try exists imm_Sx, imm_Sg, flat_Sx, flat_Sg, wbi_lenS, wits_Sx, w2_inS, w2_ninS, w2_addS, w2_addSg, wslc_S, wsub_S, w2_ltS, w2_isN0, w2_isNi, w2_isNs, w2_isNS, w2_isNt, w2_isNl, w2_isNT, w2_isNL, w2_ntN0, w2_ntNi, w2_ntNs, w2_ntNS, w2_ntNt, w2_ntNl, w2_ntNT, w2_ntNL, w2_repL, w2_rep1, w2_repT, w2_repT1, eq_self)
    (have hcut := rest3 k ns c2 c3 c4 c5 c6 c7 c8 c9 ⟨some (.own (Tp .int w)), rfl⟩ ⟨some (.own (Ls .int rows)), rfl⟩ ⟨some (.own (Tp .int (se w))), rfl⟩ c12 d3 hd3 (E := E); unfold c15 at hcut; simp only [tailS] at hcut; revert hcut; exists imm_Sx, imm_Sg, flat_Sx, flat_Sg, wbi_lenS, wits_Sx, w2_inS, w2_ninS, w2_addS, w2_addSg, wslc_S, wsub_S, w2_ltS, w2_isN0, w2_isNi, w2_isNs, w2_isNS, w2_isNt, w2_isNl, w2_isNT, w2_isNL, w2_ntN0, w2_ntNi, w2_ntNs, w2_ntNS, w2_ntNt, w2_ntNl, w2_ntNT, w2_ntNL, w2_repL, w2_rep1, w2_repT, w2_repT1; exact id)
end K03
set_option Elab.async false
set_option linter.all false
set_option maxRecDepth 100000
set_option maxHeartbeats 1000000
namespace K03
open PySem PV PT
theorem rest1 (k : Nat) (ns : List Int) (s : List Int) (h : Sm s) (d1 : D) (hd1 : Dr d1) {E : XE} : wss (runF fs (k+4)) (tailS 2 c15.body) [some (.scr ns), some (.own d1), some (.own (Tp .int s)), none, none, none, none, none, none, none, none, none, none, none, none, none, none, none, none, none, none, none, none] LP E := by
  have hc := h.conj
  have hl := h.len
  have hcl := cl_len h s.length
  have hr := arms_Rt h.pt
  have hr2 : Rt (arms (conj s)) (arms s) := by have := arms_Rt hc.pt; rwa [conj_conj h.pt] at this
  have ab := arms_b h
  have cb := arms_b hc
  have dl : du s ≤ s.length := Nat.not_lt.mp fun z => by
    have := (du_iff h.pt s.length).mp z
    rw [g_out (Nat.le_refl _)] at this
    omega
  have dcl : du s ≤ (conj s).length := Nat.not_lt.mp fun z => by
    rw [← du_conj h.pt] at z
    have := (du_iff hc.pt (conj s).length).mp z
    rw [g_out (Nat.le_refl _)] at this
    omega
  unfold c15
  simp only [tailS]
  exists imm_Sx, imm_Sg, flat_Sx, flat_Sg, wbi_lenS, wits_Sx, w2_inS, w2_ninS, w2_addS, w2_addSg, wslc_S, wsub_S, w2_ltS, w2_isN0, w2_isNi, w2_isNs, w2_isNS, w2_isNt, w2_isNl, w2_isNT, w2_isNL, w2_ntN0, w2_ntNi, w2_ntNs, w2_ntNS, w2_ntNt, w2_ntNl, w2_ntNT, w2_ntNL, w2_repL, w2_rep1, w2_repT, w2_repT1
  refine wcall_1 ?_
  exists imm_Sx, imm_Sg, flat_Sx, flat_Sg, wbi_lenS, wits_Sx, w2_inS, w2_ninS, w2_addS, w2_addSg, wslc_S, wsub_S, w2_ltS, w2_isN0, w2_isNi, w2_isNs, w2_isNS, w2_isNt, w2_isNl, w2_isNT, w2_isNL, w2_ntN0, w2_ntNi, w2_ntNs, w2_ntNS, w2_ntNt, w2_ntNl, w2_ntNT, w2_ntNL, w2_repL, w2_rep1, w2_repT, w2_repT1
  refine turned_ok _ s h ?_
  (try exists imm_Sx, imm_Sg, flat_Sx, flat_Sg, wbi_lenS, wits_Sx, w2_inS, w2_ninS, w2_addS, w2_addSg, wslc_S, wsub_S, w2_ltS, w2_isN0, w2_isNi, w2_isNs, w2_isNS, w2_isNt, w2_isNl, w2_isNT, w2_isNL, w2_ntN0, w2_ntNi, w2_ntNs, w2_ntNS, w2_ntNt, w2_ntNl, w2_ntNT, w2_ntNL, w2_repL, w2_rep1, w2_repT, w2_repT1)
  refine wcall_1 ?_
  (try exists imm_Sx, imm_Sg, flat_Sx, flat_Sg, wbi_lenS, wits_Sx, w2_inS, w2_ninS, w2_addS, w2_addSg, wslc_S, wsub_S, w2_ltS, w2_isN0, w2_isNi, w2_isNs, w2_isNS, w2_isNt, w2_isNl, w2_isNT, w2_isNL, w2_ntN0, w2_ntNi, w2_ntNs, w2_ntNS, w2_ntNt, w2_ntNl, w2_ntNT, w2_ntNL, w2_repL, w2_rep1, w2_repT, w2_repT1)
  refine cells_ok _ s h ?_
  (try exists imm_Sx, imm_Sg, flat_Sx, flat_Sg, wbi_lenS, wits_Sx, w2_inS, w2_ninS, w2_addS, w2_addSg, wslc_S, wsub_S, w2_ltS, w2_isN0, w2_isNi, w2_isNs, w2_isNS, w2_isNt, w2_isNl, w2_isNT, w2_isNL, w2_ntN0, w2_ntNi, w2_ntNs, w2_ntNS, w2_ntNt, w2_ntNl, w2_ntNT, w2_ntNL, w2_repL, w2_rep1, w2_repT, w2_repT1)
  (repeat ((with_reducible refine And.intro ?_ ?_); focus (intros; first | (simp only [List.length_append, List.length_cons, List.length_nil]; omega) | ((with_reducible refine lenOk_of ?_); first | decide | omega) | ((with_reducible refine mulOk_l ?_); first | decide | omega) | ((with_reducible refine mulOk_r ?_); first | decide | omega) | ((with_reducible refine smallI_of ?_); omega) | ((with_reducible refine divOk_of ?_ ?_) <;> first | decide | omega) | exact And.intro (by omega) (by omega) | omega | (unfold kp; exact Or.inl rfl) | with_reducible rfl | with_reducible exact trivial)))
  refine wcomp_map (f := PyData.int) PyData.int (fun k => decide ((k, k) ∈ cl s s.length)) (fun k => k) true (fun x hx => ?_) (by (try exists imm_Sx, imm_Sg, flat_Sx, flat_Sg, wbi_lenS, wits_Sx, w2_inS, w2_ninS, w2_addS, w2_addSg, wslc_S, wsub_S, w2_ltS, w2_isN0, w2_isNi, w2_isNs, w2_isNS, w2_isNt, w2_isNl, w2_isNT, w2_isNL, w2_ntN0, w2_ntNi, w2_ntNs, w2_ntNS, w2_ntNt, w2_ntNl, w2_ntNT, w2_ntNL, w2_repL, w2_rep1, w2_repT, w2_repT1)) rfl ?_ fun b hb => ?_
  · (try exists imm_Sx, imm_Sg, flat_Sx, flat_Sg, wbi_lenS, wits_Sx, w2_inS, w2_ninS, w2_addS, w2_addSg, wslc_S, wsub_S, w2_ltS, w2_isN0, w2_isNi, w2_isNs, w2_isNS, w2_isNt, w2_isNl, w2_isNT, w2_isNL, w2_ntN0, w2_ntNi, w2_ntNs, w2_ntNS, w2_ntNt, w2_ntNl, w2_ntNT, w2_ntNL, w2_repL, w2_rep1, w2_repT, w2_repT1, prI)
    (try exists imm_Sx, imm_Sg, flat_Sx, flat_Sg, wbi_lenS, wits_Sx, w2_inS, w2_ninS, w2_addS, w2_addSg, wslc_S, wsub_S, w2_ltS, w2_isN0, w2_isNi, w2_isNs, w2_isNS, w2_isNt, w2_isNl, w2_isNT, w2_isNL, w2_ntN0, w2_ntNi, w2_ntNs, w2_ntNS, w2_ntNt, w2_ntNl, w2_ntNT, w2_ntNL, w2_repL, w2_rep1, w2_repT, w2_repT1)
    exact ⟨lenOk_of (by decide), decide_eq_decide.mpr Iff.rfl, fun _ _ => trivial⟩
  · rw [List.length_map]
    have := List.length_filter_le (fun k => decide ((k, k) ∈ cl s s.length)) (rng 0 (s.length : Int))
    rw [rng_len] at this
    omega
  obtain rfl := hb rfl
  have em : ((rng 0 (s.length : Int)).filter fun k => decide ((k, k) ∈ cl s s.length)).length = du s := by
    unfold rng du
    rw [List.filter_map, List.length_map, show ((s.length : Int) - 0).toNat = s.length by omega]
    congr 1
    refine List.filter_congr fun j hj => ?_
    have hj := List.mem_range.mp hj
    simp only [Function.comp, Int.zero_add]
    refine decide_eq_decide.mpr ?_
    rw [cl_mem h.pt]
    constructor
    · rintro ⟨r, c, _, h2, e⟩
      injection e with e1 e2
      have : r = j := by omega
      subst this
      omega
    · intro z
      exact ⟨j, j, hj, z, rfl⟩
  exists imm_Sx, imm_Sg, flat_Sx, flat_Sg, wbi_lenS, wits_Sx, w2_inS, w2_ninS, w2_addS, w2_addSg, wslc_S, wsub_S, w2_ltS, w2_isN0, w2_isNi, w2_isNs, w2_isNS, w2_isNt, w2_isNl, w2_isNT, w2_isNL, w2_ntN0, w2_ntNi, w2_ntNs, w2_ntNS, w2_ntNt, w2_ntNl, w2_ntNT, w2_ntNL, w2_repL, w2_rep1, w2_repT, w2_repT1, List.map_id', em
  (repeat ((with_reducible refine And.intro ?_ ?_); focus (intros; first | (simp only [List.length_append, List.length_cons, List.length_nil]; omega) | ((with_reducible refine lenOk_of ?_); first | decide | omega) | ((with_reducible refine mulOk_l ?_); first | decide | omega) | ((with_reducible refine mulOk_r ?_); first | decide | omega) | ((with_reducible refine smallI_of ?_); omega) | ((with_reducible refine divOk_of ?_ ?_) <;> first | decide | omega) | exact And.intro (by omega) (by omega) | omega | (unfold kp; exact Or.inl rfl) | with_reducible rfl | with_reducible exact trivial)))
  refine wcomp_map1 (f := PyData.int) PyData.int (fun k => pyg s k - k - 1) true (fun x hx => ?_) (by (try exists imm_Sx, imm_Sg, flat_Sx, flat_Sg, wbi_lenS, wits_Sx, w2_inS, w2_ninS, w2_addS, w2_addSg, wslc_S, wsub_S, w2_ltS, w2_isN0, w2_isNi, w2_isNs, w2_isNS, w2_isNt, w2_isNl, w2_isNT, w2_isNL, w2_ntN0, w2_ntNi, w2_ntNs, w2_ntNS, w2_ntNt, w2_ntNl, w2_ntNT, w2_ntNL, w2_repL, w2_rep1, w2_repT, w2_repT1)) rfl (by rw [rng_len]; omega) fun b hb => ?_
  · rw [mem_rng] at hx
    (try exists imm_Sx, imm_Sg, flat_Sx, flat_Sg, wbi_lenS, wits_Sx, w2_inS, w2_ninS, w2_addS, w2_addSg, wslc_S, wsub_S, w2_ltS, w2_isN0, w2_isNi, w2_isNs, w2_isNS, w2_isNt, w2_isNl, w2_isNT, w2_isNL, w2_ntN0, w2_ntNi, w2_ntNs, w2_ntNS, w2_ntNt, w2_ntNl, w2_ntNT, w2_ntNL, w2_repL, w2_rep1, w2_repT, w2_repT1)
    exact ⟨⟨by omega, by omega⟩, fun _ => trivial⟩
  obtain rfl := hb rfl
  rw [arms_q]
  (try exists imm_Sx, imm_Sg, flat_Sx, flat_Sg, wbi_lenS, wits_Sx, w2_inS, w2_ninS, w2_addS, w2_addSg, wslc_S, wsub_S, w2_ltS, w2_isN0, w2_isNi, w2_isNs, w2_isNS, w2_isNt, w2_isNl, w2_isNT, w2_isNL, w2_ntN0, w2_ntNi, w2_ntNs, w2_ntNS, w2_ntNt, w2_ntNl, w2_ntNT, w2_ntNL, w2_repL, w2_rep1, w2_repT, w2_repT1)
  (repeat ((with_reducible refine And.intro ?_ ?_); focus (intros; first | (simp only [List.length_append, List.length_cons, List.length_nil]; omega) | ((with_reducible refine lenOk_of ?_); first | decide | omega) | ((with_reducible refine mulOk_l ?_); first | decide | omega) | ((with_reducible refine mulOk_r ?_); first | decide | omega) | ((with_reducible refine smallI_of ?_); omega) | ((with_reducible refine divOk_of ?_ ?_) <;> first | decide | omega) | exact And.intro (by omega) (by omega) | omega | (unfold kp; exact Or.inl rfl) | with_reducible rfl | with_reducible exact trivial)))
  refine wcomp_map1 (f := PyData.int) PyData.int (fun k => pyg (conj s) k - k - 1) true (fun x hx => ?_) (by (try exists imm_Sx, imm_Sg, flat_Sx, flat_Sg, wbi_lenS, wits_Sx, w2_inS, w2_ninS, w2_addS, w2_addSg, wslc_S, wsub_S, w2_ltS, w2_isN0, w2_isNi, w2_isNs, w2_isNS, w2_isNt, w2_isNl, w2_isNT, w2_isNL, w2_ntN0, w2_ntNi, w2_ntNs, w2_ntNS, w2_ntNt, w2_ntNl, w2_ntNT, w2_ntNL, w2_repL, w2_rep1, w2_repT, w2_repT1)) rfl (by rw [rng_len]; omega) fun b hb => ?_
  · rw [mem_rng] at hx
    (try exists imm_Sx, imm_Sg, flat_Sx, flat_Sg, wbi_lenS, wits_Sx, w2_inS, w2_ninS, w2_addS, w2_addSg, wslc_S, wsub_S, w2_ltS, w2_isN0, w2_isNi, w2_isNs, w2_isNS, w2_isNt, w2_isNl, w2_isNT, w2_isNL, w2_ntN0, w2_ntNi, w2_ntNs, w2_ntNS, w2_ntNt, w2_ntNl, w2_ntNT, w2_ntNL, w2_repL, w2_rep1, w2_repT, w2_repT1)
    exact ⟨⟨by omega, by omega⟩, fun _ => trivial⟩
  obtain rfl := hb rfl
  rw [← du_conj h.pt, arms_q]
  (try exists imm_Sx, imm_Sg, flat_Sx, flat_Sg, wbi_lenS, wits_Sx, w2_inS, w2_ninS, w2_addS, w2_addSg, wslc_S, wsub_S, w2_ltS, w2_isN0, w2_isNi, w2_isNs, w2_isNS, w2_isNt, w2_isNl, w2_isNT, w2_isNL, w2_ntN0, w2_ntNi, w2_ntNs, w2_ntNS, w2_ntNt, w2_ntNl, w2_ntNT, w2_ntNL, w2_repL, w2_rep1, w2_repT, w2_repT1)
  refine wcall_1 ?_
  (try exists imm_Sx, imm_Sg, flat_Sx, flat_Sg, wbi_lenS, wits_Sx, w2_inS, w2_ninS, w2_addS, w2_addSg, wslc_S, wsub_S, w2_ltS, w2_isN0, w2_isNi, w2_isNs, w2_isNS, w2_isNt, w2_isNl, w2_isNT, w2_isNL, w2_ntN0, w2_ntNi, w2_ntNs, w2_ntNS, w2_ntNt, w2_ntNl, w2_ntNT, w2_ntNL, w2_repL, w2_rep1, w2_repT, w2_repT1)
  refine frob_ok _ s h ?_
  (try exists imm_Sx, imm_Sg, flat_Sx, flat_Sg, wbi_lenS, wits_Sx, w2_inS, w2_ninS, w2_addS, w2_addSg, wslc_S, wsub_S, w2_ltS, w2_isN0, w2_isNi, w2_isNs, w2_isNS, w2_isNt, w2_isNl, w2_isNT, w2_isNL, w2_ntN0, w2_ntNi, w2_ntNs, w2_ntNS, w2_ntNt, w2_ntNl, w2_ntNT, w2_ntNL, w2_repL, w2_rep1, w2_repT, w2_repT1, prT, eq_self)
  (repeat ((with_reducible refine And.intro ?_ ?_); focus (intros; first | (simp only [List.length_append, List.length_cons, List.length_nil]; omega) | ((with_reducible refine lenOk_of ?_); first | decide | omega) | ((with_reducible refine mulOk_l ?_); first | decide | omega) | ((with_reducible refine mulOk_r ?_); first | decide | omega) | ((with_reducible refine smallI_of ?_); omega) | ((with_reducible refine divOk_of ?_ ?_) <;> first | decide | omega) | exact And.intro (by omega) (by omega) | omega | (unfold kp; exact Or.inl rfl) | with_reducible rfl | with_reducible exact trivial)))
  (try exists imm_Sx, imm_Sg, flat_Sx, flat_Sg, wbi_lenS, wits_Sx, w2_inS, w2_ninS, w2_addS, w2_addSg, wslc_S, wsub_S, w2_ltS, w2_isN0, w2_isNi, w2_isNs, w2_isNS, w2_isNt, w2_isNl, w2_isNT, w2_isNL, w2_ntN0, w2_ntNi, w2_ntNs, w2_ntNS, w2_ntNt, w2_ntNl, w2_ntNT, w2_ntNL, w2_repL, w2_rep1, w2_repT, w2_repT1, eq_self)
  refine wcall_2 ?_
  (try exists imm_Sx, imm_Sg, flat_Sx, flat_Sg, wbi_lenS, wits_Sx, w2_inS, w2_ninS, w2_addS, w2_addSg, wslc_S, wsub_S, w2_ltS, w2_isN0, w2_isNi, w2_isNs, w2_isNS, w2_isNt, w2_isNl, w2_isNT, w2_isNL, w2_ntN0, w2_ntNi, w2_ntNs, w2_ntNS, w2_ntNt, w2_ntNl, w2_ntNT, w2_ntNL, w2_repL, w2_rep1, w2_repT, w2_repT1)
  refine tback_ok _ _ _ (by omega) (by omega) ab.2 cb.2 (fun _ => ?_) (fun z => absurd hr z)
  rw [if_pos (by rw [fr_sum h.pt]; exact h.s40), bk_fr h.pt]
  (try exists imm_Sx, imm_Sg, flat_Sx, flat_Sg, wbi_lenS, wits_Sx, w2_inS, w2_ninS, w2_addS, w2_addSg, wslc_S, wsub_S, w2_ltS, w2_isN0, w2_isNi, w2_isNs, w2_isNS, w2_isNt, w2_isNl, w2_isNT, w2_isNL, w2_ntN0, w2_ntNi, w2_ntNs, w2_ntNS, w2_ntNt, w2_ntNl, w2_ntNT, w2_ntNL, w2_repL, w2_rep1, w2_repT, w2_repT1, eq_self)
  refine wcall_1 ?_
  (try exists imm_Sx, imm_Sg, flat_Sx, flat_Sg, wbi_lenS, wits_Sx, w2_inS, w2_ninS, w2_addS, w2_addSg, wslc_S, wsub_S, w2_ltS, w2_isN0, w2_isNi, w2_isNs, w2_isNS, w2_isNt, w2_isNl, w2_isNT, w2_isNL, w2_ntN0, w2_ntNi, w2_ntNs, w2_ntNS, w2_ntNt, w2_ntNl, w2_ntNT, w2_ntNL, w2_repL, w2_rep1, w2_repT, w2_repT1)
  refine frob_ok _ (conj s) hc ?_
  rw [conj_conj h.pt]
  (try exists imm_Sx, imm_Sg, flat_Sx, flat_Sg, wbi_lenS, wits_Sx, w2_inS, w2_ninS, w2_addS, w2_addSg, wslc_S, wsub_S, w2_ltS, w2_isN0, w2_isNi, w2_isNs, w2_isNS, w2_isNt, w2_isNl, w2_isNT, w2_isNL, w2_ntN0, w2_ntNi, w2_ntNs, w2_ntNS, w2_ntNt, w2_ntNl, w2_ntNT, w2_ntNL, w2_repL, w2_rep1, w2_repT, w2_repT1, prT, eq_self)
  (repeat ((with_reducible refine And.intro ?_ ?_); focus (intros; first | (simp only [List.length_append, List.length_cons, List.length_nil]; omega) | ((with_reducible refine lenOk_of ?_); first | decide | omega) | ((with_reducible refine mulOk_l ?_); first | decide | omega) | ((with_reducible refine mulOk_r ?_); first | decide | omega) | ((with_reducible refine smallI_of ?_); omega) | ((with_reducible refine divOk_of ?_ ?_) <;> first | decide | omega) | exact And.intro (by omega) (by omega) | omega | (unfold kp; exact Or.inl rfl) | with_reducible rfl | with_reducible exact trivial)))
  (try exists imm_Sx, imm_Sg, flat_Sx, flat_Sg, wbi_lenS, wits_Sx, w2_inS, w2_ninS, w2_addS, w2_addSg, wslc_S, wsub_S, w2_ltS, w2_isN0, w2_isNi, w2_isNs, w2_isNS, w2_isNt, w2_isNl, w2_isNT, w2_isNL, w2_ntN0, w2_ntNi, w2_ntNs, w2_ntNS, w2_ntNt, w2_ntNl, w2_ntNT, w2_ntNL, w2_repL, w2_rep1, w2_repT, w2_repT1, eq_self)
  refine wcall_2 ?_
  (try exists imm_Sx, imm_Sg, flat_Sx, flat_Sg, wbi_lenS, wits_Sx, w2_inS, w2_ninS, w2_addS, w2_addSg, wslc_S, wsub_S, w2_ltS, w2_isN0, w2_isNi, w2_isNs, w2_isNS, w2_isNt, w2_isNl, w2_isNT, w2_isNL, w2_ntN0, w2_ntNi, w2_ntNs, w2_ntNS, w2_ntNt, w2_ntNl, w2_ntNT, w2_ntNL, w2_repL, w2_rep1, w2_repT, w2_repT1)
  refine tback_ok _ _ _ (by omega) (by omega) cb.2 ab.2 (fun _ => ?_) (fun z => absurd hr2 z)
  have b2 : bk (arms (conj s)) (arms s) = conj s := by have := bk_fr hc.pt; rwa [conj_conj h.pt] at this
  have s2 : (arms (conj s)).sum + (arms s).sum + (arms (conj s)).length ≤ 40 := by
    have := fr_sum hc.pt
    rw [conj_conj h.pt] at this
    have := hc.s40
    omega
  rw [if_pos s2, b2]
  (try exists imm_Sx, imm_Sg, flat_Sx, flat_Sg, wbi_lenS, wits_Sx, w2_inS, w2_ninS, w2_addS, w2_addSg, wslc_S, wsub_S, w2_ltS, w2_isN0, w2_isNi, w2_isNs, w2_isNS, w2_isNt, w2_isNl, w2_isNT, w2_isNL, w2_ntN0, w2_ntNi, w2_ntNs, w2_ntNS, w2_ntNt, w2_ntNl, w2_ntNT, w2_ntNL, w2_repL, w2_rep1, w2_repT, w2_repT1, eq_self)
  refine wcall_1 ?_
  (try exists imm_Sx, imm_Sg, flat_Sx, flat_Sg, wbi_lenS, wits_Sx, w2_inS, w2_ninS, w2_addS, w2_addSg, wslc_S, wsub_S, w2_ltS, w2_isN0, w2_isNi, w2_isNs, w2_isNS, w2_isNt, w2_isNl, w2_isNT, w2_isNL, w2_ntN0, w2_ntNi, w2_ntNs, w2_ntNS, w2_ntNt, w2_ntNl, w2_ntNT, w2_ntNL, w2_repL, w2_rep1, w2_repT, w2_repT1)
  refine edge_ok _ s h ?_
  (try exists imm_Sx, imm_Sg, flat_Sx, flat_Sg, wbi_lenS, wits_Sx, w2_inS, w2_ninS, w2_addS, w2_addSg, wslc_S, wsub_S, w2_ltS, w2_isN0, w2_isNi, w2_isNs, w2_isNS, w2_isNt, w2_isNl, w2_isNT, w2_isNL, w2_ntN0, w2_ntNi, w2_ntNs, w2_ntNS, w2_ntNt, w2_ntNl, w2_ntNT, w2_ntNL, w2_repL, w2_rep1, w2_repT, w2_repT1)
  refine wcall_1 ?_
  (try exists imm_Sx, imm_Sg, flat_Sx, flat_Sg, wbi_lenS, wits_Sx, w2_inS, w2_ninS, w2_addS, w2_addSg, wslc_S, wsub_S, w2_ltS, w2_isN0, w2_isNi, w2_isNs, w2_isNS, w2_isNt, w2_isNl, w2_isNT, w2_isNL, w2_ntN0, w2_ntNi, w2_ntNs, w2_ntNS, w2_ntNt, w2_ntNl, w2_ntNT, w2_ntNL, w2_repL, w2_rep1, w2_repT, w2_repT1)
  refine ledge_ok _ s h ?_
  (try exists imm_Sx, imm_Sg, flat_Sx, flat_Sg, wbi_lenS, wits_Sx, w2_inS, w2_ninS, w2_addS, w2_addSg, wslc_S, wsub_S, w2_ltS, w2_isN0, w2_isNi, w2_isNs, w2_isNS, w2_isNt, w2_isNl, w2_isNT, w2_isNL, w2_ntN0, w2_ntNi, w2_ntNs, w2_ntNS, w2_ntNt, w2_ntNl, w2_ntNT, w2_ntNL, w2_repL, w2_rep1, w2_repT, w2_repT1, eq_self)
  refine wcall_1 ?_
  (try exists imm_Sx, imm_Sg, flat_Sx, flat_Sg, wbi_lenS, wits_Sx, w2_inS, w2_ninS, w2_addS, w2_addSg, wslc_S, wsub_S, w2_ltS, w2_isN0, w2_isNi, w2_isNs, w2_isNS, w2_isNt, w2_isNl, w2_isNT, w2_isNL, w2_ntN0, w2_ntNi, w2_ntNs, w2_ntNS, w2_ntNt, w2_ntNl, w2_ntNT, w2_ntNL, w2_repL, w2_rep1, w2_repT, w2_repT1)
  refine edge_ok _ (conj s) hc ?_
  have ewl := ew_len s h.pt
  have h0 := h.le 0
  (try exists imm_Sx, imm_Sg, flat_Sx, flat_Sg, wbi_lenS, wits_Sx, w2_inS, w2_ninS, w2_addS, w2_addSg, wslc_S, wsub_S, w2_ltS, w2_isN0, w2_isNi, w2_isNs, w2_isNS, w2_isNt, w2_isNl, w2_isNT, w2_isNL, w2_ntN0, w2_ntNi, w2_ntNs, w2_ntNS, w2_ntNt, w2_ntNl, w2_ntNT, w2_ntNL, w2_repL, w2_rep1, w2_repT, w2_repT1)
  refine wcomp_map1 (f := PyData.int) PyData.int (fun x => 1 - x) true (fun x hx => ?_) (by (try exists imm_Sx, imm_Sg, flat_Sx, flat_Sg, wbi_lenS, wits_Sx, w2_inS, w2_ninS, w2_addS, w2_addSg, wslc_S, wsub_S, w2_ltS, w2_isN0, w2_isNi, w2_isNs, w2_isNS, w2_isNt, w2_isNl, w2_isNT, w2_isNL, w2_ntN0, w2_ntNi, w2_ntNs, w2_ntNS, w2_ntNt, w2_ntNl, w2_ntNT, w2_ntNL, w2_repL, w2_rep1, w2_repT, w2_repT1)) rfl (by rw [List.length_reverse]; omega) fun b hb => ?_
  · (try exists imm_Sx, imm_Sg, flat_Sx, flat_Sg, wbi_lenS, wits_Sx, w2_inS, w2_ninS, w2_addS, w2_addSg, wslc_S, wsub_S, w2_ltS, w2_isN0, w2_isNi, w2_isNs, w2_isNS, w2_isNt, w2_isNl, w2_isNT, w2_isNL, w2_ntN0, w2_ntNi, w2_ntNs, w2_ntNS, w2_ntNt, w2_ntNl, w2_ntNT, w2_ntNL, w2_repL, w2_rep1, w2_repT, w2_repT1)
    exact fun _ => trivial
  obtain rfl := hb rfl
  have erc : ew (conj s) = (ew s).reverse.map fun x => 1 - x := ew_conj s h.pt
  (try simp -dsimp only [↓we.eq_1, ↓we.eq_2, ↓we.eq_3, ↓we.eq_4, ↓we.eq_5, ↓we.eq_6, ↓we.eq_7, ↓we.eq_8, ↓we.eq_9, ↓we.eq_10, ↓we.eq_11, ↓we.eq_12, ↓we.eq_13, ↓we.eq_14, ↓we.eq_15, ↓we.eq_16, ↓we.eq_17, ↓we.eq_18, ↓we.eq_19, ↓we.eq_20, ↓we.eq_21, ↓we.eq_22, ↓we.eq_23, ↓we.eq_24, ↓we.eq_25, ↓we.eq_26, ↓we.eq_27, ↓we.eq_28, ↓we.eq_29, ↓we.eq_30, ↓we.eq_31, ↓wes.eq_1, ↓wes.eq_2, ↓wa.eq_1, ↓wa.eq_2, ↓wa.eq_3, ↓wo.eq_1, ↓wo.eq_2, ↓wt.eq_1, ↓wt.eq_2, ↓wit.eq_1, ↓wit.eq_2, ↓wit.eq_3, ↓wit.eq_4, ↓wit.eq_5, ↓wit.eq_6, ↓wit.eq_7, ↓wit.eq_8, ↓wx.eq_1, ↓wx.eq_2, ↓wx.eq_3, ↓wxs.eq_1, ↓wxs.eq_2, ↓ws.eq_1, ↓ws.eq_2, ↓ws.eq_3, ↓ws.eq_4, ↓ws.eq_5, ↓ws.eq_6, ↓ws.eq_7, ↓ws.eq_8, ↓ws.eq_9, ↓ws.eq_10, ↓ws.eq_11, ↓ws.eq_12, ↓ws.eq_13, ↓ws.eq_14, ↓ws.eq_15, ↓ws.eq_16, ↓ws.eq_17, ↓ws.eq_18, ↓ws.eq_19, ↓wss.eq_1, ↓wss.eq_2, ↓wa_var, ↓wx_int, ↓wa_int, ↓wx_str, ↓wa_str, ↓wx_bl, ↓wa_bl, ↓wx_non, ↓wa_non, ↓wx_op2, ↓wa_op2, ↓wx_op1, ↓wa_op1, ↓wx_and, ↓wa_and, ↓wx_or, ↓wa_or, ↓wx_ite, ↓wa_ite, ↓wx_cmp3, ↓wa_cmp3, ↓wx_bi, ↓wa_bi, ↓wx_mt, ↓wa_mt, ↓wx_sub, ↓wa_sub, ↓wx_slc, ↓wa_slc, ↓wx_rev, ↓wa_rev, ↓wa_tup, ↓wa_lst, ↓wx_call, ↓wa_call, ↓wx_scrL, ↓wa_scrL, ↓wx_pop0, ↓wa_pop0, ↓wx_pop1, ↓wa_pop1, ↓wx_comp, ↓wa_comp, ↓wx_rng, ↓wa_rng, ↓wx_rng1, ↓wa_rng1, ↓wx_isBool, ↓wa_isBool, ↓wx_isTup, ↓wa_isTup, ↓wx_isInt, ↓wa_isInt, ↓wx_sset, ↓wa_sset, ↓gx_eq, ↓wown_eq, ↓wscr_eq, get_z, get_s, ↓gk_own, ↓gk_fz, ↓gk_bor, ↓gx_own, ↓gx_fz, ↓gx_bor, ↓wscr_s, noBor_n, noBor_z, noBor_o, noBor_f, noBor_s, freeze_z, freeze_s, frz1_o, frz1_f, frz1_s, frz1_n, frz1_b, freezes_n, freezes_c, imm_int, imm_bool, imm_str, imm_none, imm_list, imm_tuple, immAll_n, immAll_c, flat_int, flat_bool, flat_str, flat_none, flat_list, flat_tuple, kp_t, kp_f, kp_ft, ↓kpv_t, ↓kpv_f, kpv_fz, kpv_n, isFz_var, isfz_f, imm_Tp, flat_Tp, imm_Ls, flat_Ls, immAll_map, ↓w2_eq, ↓w2_ne, ↓w2_eqL, ↓w2_neL, ↓w2_inT, ↓w2_ninT, ↓w2_inL, ↓w2_ninL, ↓wmt_count, ↓w2_addT, ↓w2_addL, ↓wsub_T, ↓wsub_L, ↓wslc_T, ↓wslc_L, ↓wrev_T, ↓wrev_L, ↓wits_T, ↓wits_L, ↓wlist_L, ↓wlist_l, ↓wits_l, ↓wits_t, ↓wown_L, ↓wown_l, ↓wset_map, ↓wat_map, ↓wbi_lenT, ↓wbi_lenL, ↓wbi_tupL, ↓wbi_tupT, ↓wbi_lstL, ↓wbi_lstT, ↓wbi_sumT, ↓wbi_sumL, ↓wbi_allL, ↓wbi_anyL, ↓wbi_max2, ↓wbi_min2, ↓wbi_abs, ↓wbi_int, ↓wbi_intb, ↓w2_add, ↓w2_sub, ↓w2_mul, ↓w2_fdiv, ↓w2_mod, ↓w2_pow, ↓w2_lt, ↓w2_le, ↓w2_gt, ↓w2_ge, ↓w1_neg, ↓w1_not, ↓wi_i, ↓wv_b, ↓wb_t, ↓wb_f, ↓wand_b, ↓wand_c1, ↓wand_t, ↓wandE_t, ↓wandE_f, ↓worE_t, ↓worE_f, ↓wand_f, ↓wor_b, ↓wor_c1, ↓wor_t, ↓wor_f, ↓wnx_n, ↓wnx_r, ↓wnx_b, ↓wnx_k, ↓wbind_1, ↓wbind_2, ↓wbind_3, List.set_cons_zero, List.set_cons_succ, List.map_cons, List.map_nil, List.length_cons, List.length_nil, List.cons_append, List.nil_append, Bool.or_true, Bool.true_or, Bool.or_false, Bool.false_or, Bool.and_true, Bool.true_and, Bool.and_false, Bool.false_and, Bool.not_true, Bool.not_false, if_true, if_false, true_and, and_true, eff, effs, effo, effi, vars, varss, varso, varsi, List.replicate_succ, List.replicate_zero, Nat.reduceSub, Nat.reduceAdd, Nat.reduceLeDiff, Nat.reduceLT, ↓wbS_t, ↓wbS_f, ↓wite_t, ↓wite_f, ↓wite_c1, ↓wite_c2, ↓wite_int, ↓wite_bool, ↓wite_str, ↓wite_T, ↓wite_L, cellOf_q, arC_q, store_q, cond_true, cond_false, rangeD_q, list_rangeD, list_map_q, tuple_map_q, noBor_nb, ↓Turn_n, ↓Turn_k, ↓Turn_b, ↓Turn_r, map_snoc, sizeLine_q, List.length_map, decide_eq_true_eq, decide_eq_false_iff_not, Bool.and_eq_true, Bool.or_eq_true, Bool.not_eq_true', Bool.not_eq_false', map_rev_q, wipe_n, wipe_c, Bool.false_eq_true, ↓wtry_n, ↓wtry_c, hd_0, hd_1, hd_2, decide_true, decide_false, Nat.reduceEqDiff, reduceCtorEq, Option.isSome_some, noBor_ni, immAt_q, immc_ni, immc_o, immc_f, immc_b, immc_n, List.all_cons, List.all_nil, ↓witr_T, ↓witr_L, ↓wits_S, ↓wbi_sorted, map_app_q, enumD_q, ↓wbind_pr, ↓wsub_pr0, ↓wsub_pr1, imm_Pr, flat_Pr, restore_n, restore_c, Nat.max_self, imm_Sx, imm_Sg, flat_Sx, flat_Sg, wbi_lenS, wits_Sx, w2_inS, w2_ninS, w2_addS, w2_addSg, wslc_S, wsub_S, w2_ltS, w2_isN0, w2_isNi, w2_isNs, w2_isNS, w2_isNt, w2_isNl, w2_isNT, w2_isNL, w2_ntN0, w2_ntNi, w2_ntNs, w2_ntNS, w2_ntNt, w2_ntNl, w2_ntNT, w2_ntNL, w2_repL, w2_rep1, w2_repT, w2_repT1, ← erc, eq_self])
  (repeat ((with_reducible refine And.intro ?_ ?_); focus (intros; first | (simp only [List.length_append, List.length_cons, List.length_nil]; omega) | ((with_reducible refine lenOk_of ?_); first | decide | omega) | ((with_reducible refine mulOk_l ?_); first | decide | omega) | ((with_reducible refine mulOk_r ?_); first | decide | omega) | ((with_reducible refine smallI_of ?_); omega) | ((with_reducible refine divOk_of ?_ ?_) <;> first | decide | omega) | exact And.intro (by omega) (by omega) | omega | (unfold kp; exact Or.inl rfl) | with_reducible rfl | with_reducible exact trivial)))
  refine wcall_take (f := 7) (mm := 69621) (q := 2147483647) rfl (by decide) (by decide) hd1 rfl (by (try exists imm_Sx, imm_Sg, flat_Sx, flat_Sg, wbi_lenS, wits_Sx, w2_inS, w2_ninS, w2_addS, w2_addSg, wslc_S, wsub_S, w2_ltS, w2_isN0, w2_isNi, w2_isNs, w2_isNS, w2_isNt, w2_isNl, w2_isNT, w2_isNL, w2_ntN0, w2_ntNi, w2_ntNs, w2_ntNS, w2_ntNt, w2_ntNl, w2_ntNT, w2_ntNL, w2_repL, w2_rep1, w2_repT, w2_repT1)) (by decide) (by decide) fun x d2 x0 x1 hd2 => ?_
  (try exists imm_Sx, imm_Sg, flat_Sx, flat_Sg, wbi_lenS, wits_Sx, w2_inS, w2_ninS, w2_addS, w2_addSg, wslc_S, wsub_S, w2_ltS, w2_isN0, w2_isNi, w2_isNs, w2_isNS, w2_isNt, w2_isNl, w2_isNT, w2_isNL, w2_ntN0, w2_ntNi, w2_ntNs, w2_ntNS, w2_ntNt, w2_ntNl, w2_ntNT, w2_ntNL, w2_repL, w2_rep1, w2_repT, w2_repT1)
  (repeat ((with_reducible refine And.intro ?_ ?_); focus (intros; first | (simp only [List.length_append, List.length_cons, List.length_nil]; omega) | ((with_reducible refine lenOk_of ?_); first | decide | omega) | ((with_reducible refine mulOk_l ?_); first | decide | omega) | ((with_reducible refine mulOk_r ?_); first | decide | omega) | ((with_reducible refine smallI_of ?_); omega) | ((with_reducible refine divOk_of ?_ ?_) <;> first | decide | omega) | exact And.intro (by omega) (by omega) | omega | (unfold kp; exact Or.inl rfl) | with_reducible rfl | with_reducible exact trivial)))
  refine ⟨by rw [List.length_replicate]; omega, lenOk_of (by decide), ?_⟩
  refine wcall_take (f := 7) (mm := 69621) (q := 2147483647) rfl (by decide) (by decide) hd2 rfl (by (try exists imm_Sx, imm_Sg, flat_Sx, flat_Sg, wbi_lenS, wits_Sx, w2_inS, w2_ninS, w2_addS, w2_addSg, wslc_S, wsub_S, w2_ltS, w2_isN0, w2_isNi, w2_isNs, w2_isNS, w2_isNt, w2_isNl, w2_isNT, w2_isNL, w2_ntN0, w2_ntNi, w2_ntNs, w2_ntNS, w2_ntNt, w2_ntNl, w2_ntNT, w2_ntNL, w2_repL, w2_rep1, w2_repT, w2_repT1)) (by decide) (by decide) fun y d3 y0 y1 hd3 => ?_
  (try exists imm_Sx, imm_Sg, flat_Sx, flat_Sg, wbi_lenS, wits_Sx, w2_inS, w2_ninS, w2_addS, w2_addSg, wslc_S, wsub_S, w2_ltS, w2_isN0, w2_isNi, w2_isNs, w2_isNS, w2_isNt, w2_isNl, w2_isNT, w2_isNL, w2_ntN0, w2_ntNi, w2_ntNs, w2_ntNS, w2_ntNt, w2_ntNl, w2_ntNT, w2_ntNL, w2_repL, w2_rep1, w2_repT, w2_repT1)
  (repeat ((with_reducible refine And.intro ?_ ?_); focus (intros; first | (simp only [List.length_append, List.length_cons, List.length_nil]; omega) | ((with_reducible refine lenOk_of ?_); first | decide | omega) | ((with_reducible refine mulOk_l ?_); first | decide | omega) | ((with_reducible refine mulOk_r ?_); first | decide | omega) | ((with_reducible refine smallI_of ?_); omega) | ((with_reducible refine divOk_of ?_ ?_) <;> first | decide | omega) | exact And.intro (by omega) (by omega) | omega | (unfold kp; exact Or.inl rfl) | with_reducible rfl | with_reducible exact trivial)))
  refine ⟨by rw [List.length_append, List.length_replicate, List.length_replicate]; omega, ?_⟩
  refine wcall_1 ?_
  (try exists imm_Sx, imm_Sg, flat_Sx, flat_Sg, wbi_lenS, wits_Sx, w2_inS, w2_ninS, w2_addS, w2_addSg, wslc_S, wsub_S, w2_ltS, w2_isN0, w2_isNi, w2_isNs, w2_isNS, w2_isNt, w2_isNl, w2_isNT, w2_isNL, w2_ntN0, w2_ntNi, w2_ntNs, w2_ntNS, w2_ntNt, w2_ntNl, w2_ntNT, w2_ntNL, w2_repL, w2_rep1, w2_repT, w2_repT1)
  refine tshape_ok _ (ew s) (by omega) ?_
  rw [se_ew' h.pt, if_pos h.s40]
  (try exists imm_Sx, imm_Sg, flat_Sx, flat_Sg, wbi_lenS, wits_Sx, w2_inS, w2_ninS, w2_addS, w2_addSg, wslc_S, wsub_S, w2_ltS, w2_isN0, w2_isNi, w2_isNs, w2_isNS, w2_isNt, w2_isNl, w2_isNT, w2_isNL, w2_ntN0, w2_ntNi, w2_ntNs, w2_ntNS, w2_ntNt, w2_ntNl, w2_ntNT, w2_ntNL, w2_repL, w2_rep1, w2_repT, w2_repT1, eq_self)
  refine wcall_1 ?_
  (try exists imm_Sx, imm_Sg, flat_Sx, flat_Sg, wbi_lenS, wits_Sx, w2_inS, w2_ninS, w2_addS, w2_addSg, wslc_S, wsub_S, w2_ltS, w2_isN0, w2_isNi, w2_isNs, w2_isNS, w2_isNt, w2_isNl, w2_isNT, w2_isNL, w2_ntN0, w2_ntNi, w2_ntNs, w2_ntNS, w2_ntNt, w2_ntNl, w2_ntNT, w2_ntNL, w2_repL, w2_rep1, w2_repT, w2_repT1)
  refine tshape_ok _ _ (by rw [List.length_append, List.length_append, List.length_replicate, List.length_replicate]; omega) ?_
  rw [se_long h.pt, if_pos h.s40]
  (try exists imm_Sx, imm_Sg, flat_Sx, flat_Sg, wbi_lenS, wits_Sx, w2_inS, w2_ninS, w2_addS, w2_addSg, wslc_S, wsub_S, w2_ltS, w2_isN0, w2_isNi, w2_isNs, w2_isNS, w2_isNt, w2_isNl, w2_isNT, w2_isNL, w2_ntN0, w2_ntNi, w2_ntNs, w2_ntNS, w2_ntNt, w2_ntNl, w2_ntNT, w2_ntNL, w2_repL, w2_rep1, w2_repT, w2_repT1, eq_self)
  (have hcut := rest2 k ns ⟨some (.own (Tp .int s)), rfl⟩ ⟨some (.own (Tp .int (conj s))), rfl⟩ ⟨some (.own (Ls (Pr .int .int) (cl s s.length))), rfl⟩ ⟨some (.own (.int (du (conj s)))), rfl⟩ ⟨some (.own (Tp .int (arms s))), rfl⟩ ⟨some (.own (Tp .int (arms (conj s)))), rfl⟩ ⟨some (.own (Tp .int (ew s))), rfl⟩ ⟨some (.own (Tp .int (List.replicate x.toNat 1 ++ ew s ++ List.replicate y.toNat 0))), rfl⟩ d3 hd3 (E := E); unfold c15 at hcut; simp only [tailS] at hcut; revert hcut; exists imm_Sx, imm_Sg, flat_Sx, flat_Sg, wbi_lenS, wits_Sx, w2_inS, w2_ninS, w2_addS, w2_addSg, wslc_S, wsub_S, w2_ltS, w2_isN0, w2_isNi, w2_isNs, w2_isNS, w2_isNt, w2_isNl, w2_isNT, w2_isNL, w2_ntN0, w2_ntNi, w2_ntNs, w2_ntNS, w2_ntNt, w2_ntNl, w2_ntNT, w2_ntNL, w2_repL, w2_rep1, w2_repT, w2_repT1; exact id)
theorem law_ok (k : Nat) (ns : List Int) (hn : ns.length ≤ 63) {E} : Call (runF fs (k+5)) 15 [.scr ns] (fun d => d = .bool true) E := by
  refine call_intro rfl rfl ?_
  show wss _ _ _ LP E
  unfold c15
  exists imm_Sx, imm_Sg, flat_Sx, flat_Sg, wbi_lenS, wits_Sx, w2_inS, w2_ninS, w2_addS, w2_addSg, wslc_S, wsub_S, w2_ltS, w2_isN0, w2_isNi, w2_isNs, w2_isNS, w2_isNt, w2_isNl, w2_isNT, w2_isNL, w2_ntN0, w2_ntNi, w2_ntNs, w2_ntNS, w2_ntNt, w2_ntNl, w2_ntNT, w2_ntNL, w2_repL, w2_rep1, w2_repT, w2_repT1
  refine wcall_begin (f := 6) (s0 := 3) (m := 48271) (a := 2147483629) (c := 5) (q := 2147483647) rfl (by decide) (by decide) (by decide) (by decide) hn rfl fun d hd => ?_
  exists imm_Sx, imm_Sg, flat_Sx, flat_Sg, wbi_lenS, wits_Sx, w2_inS, w2_ninS, w2_addS, w2_addSg, wslc_S, wsub_S, w2_ltS, w2_isN0, w2_isNi, w2_isNs, w2_isNS, w2_isNt, w2_isNl, w2_isNT, w2_isNL, w2_ntN0, w2_ntNi, w2_ntNs, w2_ntNS, w2_ntNt, w2_ntNl, w2_ntNT, w2_ntNL, w2_repL, w2_rep1, w2_repT, w2_repT1
  refine wcall_r rfl (by (try exists imm_Sx, imm_Sg, flat_Sx, flat_Sg, wbi_lenS, wits_Sx, w2_inS, w2_ninS, w2_addS, w2_addSg, wslc_S, wsub_S, w2_ltS, w2_isN0, w2_isNi, w2_isNs, w2_isNS, w2_isNt, w2_isNl, w2_isNT, w2_isNL, w2_ntN0, w2_ntNi, w2_ntNs, w2_ntNS, w2_ntNt, w2_ntNl, w2_ntNT, w2_ntNL, w2_repL, w2_rep1, w2_repT, w2_repT1)) rfl (part_ok _ hd fun s d1 hs hd1 => ?_)
  (try exists imm_Sx, imm_Sg, flat_Sx, flat_Sg, wbi_lenS, wits_Sx, w2_inS, w2_ninS, w2_addS, w2_addSg, wslc_S, wsub_S, w2_ltS, w2_isN0, w2_isNi, w2_isNs, w2_isNS, w2_isNt, w2_isNl, w2_isNT, w2_isNL, w2_ntN0, w2_ntNi, w2_ntNs, w2_ntNS, w2_ntNt, w2_ntNl, w2_ntNT, w2_ntNL, w2_repL, w2_rep1, w2_repT, w2_repT1)
  (have hcut := rest1 k ns s hs d1 hd1 (E := E); unfold c15 at hcut; simp only [tailS] at hcut; revert hcut; exists imm_Sx, imm_Sg, flat_Sx, flat_Sg, wbi_lenS, wits_Sx, w2_inS, w2_ninS, w2_addS, w2_addSg, wslc_S, wsub_S, w2_ltS, w2_isN0, w2_isNi, w2_isNs, w2_isNS, w2_isNt, w2_isNl, w2_isNT, w2_isNL, w2_ntN0, w2_ntNi, w2_ntNs, w2_ntNS, w2_ntNt, w2_ntNl, w2_ntNT, w2_ntNL, w2_repL, w2_rep1, w2_repT, w2_repT1; exact id)
end K03
set_option Elab.async false
set_option linter.all false
set_option maxRecDepth 100000
namespace K03
open PySem PV
def nms : List Str := (["check_partition", "columns_of", "frobenius", "from_frobenius", "edge_word", "shape_of_edge", "_law_begin", "_law_take", "_law_partition", "_law_cell_list", "_law_shape_of_cells", "_law_turned_shape", "_law_back", "_law_edge", "_law_shape_edge", "law"] : List Str)
def cns : List Str := (["WorkError", "ShapeError"] : List Str)
def nss : List (List Str) := [n0, n1, n2, n3, n4, n5, n6, n7, n8, n9, n10, n11, n12, n13, n14, n15]
def ixs : List Nat := [5, 6, 7, 8, 9, 10, 12, 13, 14, 15, 16, 17, 18, 19, 20, 21]
def ioF : Nat → List Nat := fun f => match f with
  | 7 => [0]
  | 8 => [0]
  | _ => []
def J : Info := { nm := fun f => nms.getD f ("" : Str), io := ioF, cn := fun c => cns.getD c ("" : Str), nf := 16, nc := 2, cat := fun z c => ([(0, 0), (0, 1), (1, 1)] : List (Nat × Nat)).contains (z, c), gc := [("MOST", 40)] }
def L : LawT := { J := J, fs := fs, N := fun f => nss.getD f [], at_ := fun f => ixs.getD f 0, P := PySem.Challenge.pw_shapeworks_k03_whole_arms_legs_and_edges, cls0 := 1 }
theorem ok : L.ok = true := by decide +kernel
abbrev R : PySem.W.OpenRow := PySem.W.OpenLaw.row PySem.Challenge.rw_shapeworks_k03_whole_arms_legs_and_edges
def others : List Str := (["WorkError", "ShapeError", "check_partition", "columns_of", "frobenius", "from_frobenius", "edge_word", "shape_of_edge", "_law_begin", "_law_take", "_law_partition", "_law_cell_list", "_law_shape_of_cells", "_law_turned_shape", "_law_back", "_law_edge", "_law_shape_edge", "MOST"] : List Str)
open PySem.W in
theorem run (w : World) : HandSHeadRun.RunEq R (PySem.W.view R.prog [21]) L.hk L.ob 20000 others w := by
  intro os
  kernel_rfl
theorem bind : L.Bind := by
  intro f hf kV doc pm an cdv ct us hl
  match f, hf with
  | 0, _ => match us, hl with
    | [_], _ => rfl
  | 1, _ => match us, hl with
    | [_], _ => rfl
  | 2, _ => match us, hl with
    | [_], _ => rfl
  | 3, _ => match us, hl with
    | [_, _], _ => rfl
  | 4, _ => match us, hl with
    | [_], _ => rfl
  | 5, _ => match us, hl with
    | [_], _ => rfl
  | 6, _ => match us, hl with
    | [_], _ => rfl
  | 7, _ => match us, hl with
    | [_, _], _ => rfl
  | 8, _ => match us, hl with
    | [_, _], _ => rfl
  | 9, _ => match us, hl with
    | [_], _ => rfl
  | 10, _ => match us, hl with
    | [_], _ => rfl
  | 11, _ => match us, hl with
    | [_], _ => rfl
  | 12, _ => match us, hl with
    | [_, _], _ => rfl
  | 13, _ => match us, hl with
    | [_], _ => rfl
  | 14, _ => match us, hl with
    | [_], _ => rfl
  | 15, _ => match us, hl with
    | [_], _ => rfl
  | n + 16, h => exact absurd (show n + 16 < 16 from h) (by omega)
theorem ini : L.J.nc ≠ 0 → L.IsI ∧ L.BindI 0 ∧ L.BindI 1 := fun _ => ⟨⟨_, _, _, _, _, _, _, _, rfl⟩, fun T kV doc pm an cdv ct us its h1 h2 => match us, its, h1, h2 with
  | [_, _], [_], _, _ => ⟨_, rfl, rfl⟩, fun T kV doc pm an cdv ct us its h1 h2 => match us, its, h1, h2 with
  | [_, _, _], [_], _, _ => ⟨_, rfl, rfl⟩⟩
open PySem.W PySem.Calls PyProof.Rows in
theorem holds_of (k : Nat) (hk : L2.Room (k + 2) callerA) (h : ∀ ns : List Int, ns.length ≤ 63 → ∃ outs, PV.runF fs k 15 [.scr ns] = .ok ((true, .bool true), outs)) : PySem.Challenge.rw_shapeworks_k03_whole_arms_legs_and_edges.Holds := by
  w_on; o_law
  refine HandSHeadRun.head_any (r := OpenLaw.row PySem.Challenge.rw_shapeworks_k03_whole_arms_legs_and_edges) (q := view (OpenLaw.row PySem.Challenge.rw_shapeworks_k03_whole_arms_legs_and_edges).prog [21]) (H := L.hk) (ob := L.ob) (M := 20000) (loose := others) (d := HandSHeadRun.topDef (OpenLaw.row PySem.Challenge.rw_shapeworks_k03_whole_arms_legs_and_edges).prog 21) (kwd := []) L.ob_eq
    (by kernel_rfl) (fun s => by kernel_rfl) run (by kernel_rfl) (by kernel_rfl) (by kernel_rfl) (by rfl) (by first | assumption | decide +kernel) (by decide +kernel) ⟨rfl, rfl, rfl, rfl, rfl, by decide +kernel⟩ ?hw ?hc
  case hw => w_witness2
  case hc =>
    exact walk_P L rfl rfl hk (by decide) (by kernel_rfl) (by kernel_rfl) ok bind ini h
end K03
open PySem PySem.W PyProof.Rows
set_option Elab.async false
set_option maxRecDepth 100000 in
theorem PySem.Challenge.cw_shapeworks_k03_whole_arms_legs_and_edges_holds : PySem.Challenge.rw_shapeworks_k03_whole_arms_legs_and_edges.Holds := by
  exact K03.holds_of 6 ⟨rfl, by decide, by decide⟩ fun ns hn => PV.of_call (K03.law_ok 1 ns hn)
