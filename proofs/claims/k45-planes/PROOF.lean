import PyProof.Rows.All
import Wide.All
import OpenK.AllK
import Wide.FinOn
import KE.DataEq
import KE.LtData
import HandS.ForMost
import HandS.Exc
import HandS.TryOnly
import HandS.ExcOwn
import HandS.WordsExc
import HandS.ExcInit
import HandS.ExcField
import HandS.Wide
import HandS.TupMul
import KE.DataCmp
import KE.DataFind
import HandS.TupAny
import KE.DataMinMax
import KE.KTupSum
import KE.SortData
import HandS.SortInts
import HandS.Style
import HandS.Conv
import HandS.IsInst
import HandS.SetFor
import HandS.Strs
import HandS.Rev
import HandS.Zip
import KE.GoesMore
import KE.GoesEnum
import PyProof.Rows.ChunkLeaf
import HandS.Ends
import HandS.Defaults
import KE.KStateDown
import KE.KExcInit
import HandS.Head0
import HandS.Head1
import HandS.Head2
import HandS.HeadEnd
import HandS.HeadHook1
import HandS.HeadHook2
import PySem.Challenge.RW_shapeworks_k45_whole_plane_partitions
set_option Elab.async false
set_option linter.all false
set_option maxRecDepth 100000
/-! PV: a small functional reading of Python: data as trees, a def's slots as a list of cells; `ev`, `exec` run a body. -/
namespace PV
open PySem
abbrev D := PyData

inductive Res (α : Type) where
  | ok (a : α) | exc (c : Nat) (code place : D) | stuck
def Res.bind {α β : Type} (x : Res α) (f : α → Res β) : Res β := match x with
  | .ok a => f a
  | .exc c k p => .exc c k p
  | .stuck => .stuck
instance : Monad Res where
  pure := Res.ok
  bind := Res.bind
@[simp] theorem bind_ok {α β : Type} (a : α) (f : α → Res β) : (Res.ok a >>= f) = f a := rfl
@[simp] theorem bind_exc {α β : Type} (c : Nat) (k p : D) (f : α → Res β) : ((Res.exc c k p : Res α) >>= f) = Res.exc c k p := rfl
@[simp] theorem bind_stuck {α β : Type} (f : α → Res β) : ((Res.stuck : Res α) >>= f) = Res.stuck := rfl
@[simp] theorem pure_eq {α : Type} (a : α) : (pure a : Res α) = Res.ok a := rfl

mutual
/-- no list and no dict within -/
def imm : D → Bool
  | .list _ => false
  | .dict _ => false
  | .tuple xs => immAll xs
  | .none => true
  | .bool _ => true
  | .int _ => true
  | .str _ => true
def immAll : List D → Bool
  | [] => true
  | x :: xs => imm x && immAll xs
end

/-- own: its lists are this cell's alone; fz: its lists are nobody's to change; bor: to be read as long as nothing is changed; scr: the law's own script -/
inductive Cell where
  | own (d : D) | fz (d : D) | bor (d : D) | scr (l : List Int)
def Cell.d : Cell → D
  | .own d => d | .fz d => d | .bor d => d | .scr _ => .none
def Cell.noBor : Cell → Bool
  | .bor _ => false
  | _ => true
abbrev Env := List (Option Cell)
def get (ρ : Env) (i : Nat) : Option Cell := match ρ[i]? with
  | some c => c
  | none => none
def noBor (ρ : Env) : Bool := ρ.all fun c => match c with
  | some c => c.noBor
  | none => true

inductive O2 where
  | add | sub | mul | fdiv | mod | pow | eq | ne | lt | le | gt | ge | inn | nin | isN | ntN
inductive O1 where
  | neg | nt
inductive Bi where
  | len | sum | all | any | max1 | min1 | max2 | min2 | abs | int | tup | lst | sorted
inductive Mt where
  | count | index

mutual
inductive E where
  | var (i : Nat) | int (n : Int) | str (s : Str) | bl (b : Bool) | non
  | op2 (o : O2) (a b : E) | op1 (o : O1) (a : E)
  | and (a b : E) | or (a b : E) | ite (c a b : E)
  | cmp3 (o p : O2) (a b c : E)
  | bi (f : Bi) (as : Es) | mt (m : Mt) (o : E) (as : Es)
  | sub (o i : E) | slc (o : E) (lo hi : Oe) | rev (o : E)
  | tup (es : Es) | lst (es : Es)
  | call (f : Nat) (as : Es)
  | ref (i : Nat) | scr (i : Nat) | scrL (i : Nat)
  | pop0 (i : Nat) | pop1 (i : Nat) (e : E)
  | comp (elt : E) (tgt : List Nat) (single : Bool) (it : It) (cnd : Es) (own : List Nat)
  | rng (a b : E) | rng1 (b : E)          -- list(range(a, b)), list(range(b))
  | isBool (e : E) | isTup (e : E) | isInt (e : E)
  | sset (e : E)                          -- sorted(set(e))
  | comp2 (elt : E) (tgt : List Nat) (single : Bool) (it : It) (cnd : Es) (own : List Nat) (tgt1 : List Nat) (single1 : Bool) (it1 : It) (cnd1 : Es)
inductive Es where
  | nil | cons (e : E) (r : Es)
inductive Oe where
  | none | some (e : E)
inductive It where
  | scr (i : Nat) | seq (e : E) | r1 (a : E) | r2 (a b : E) | r3 (a b c : E) | enum (e : E) | zip (a b : E) | rv (e : E)
end

mutual
inductive S where
  | asg (i : Nat) (e : E)
  | asgT (is : List Nat) (e : E)
  | setv (i : Nat) (ix e : E)
  | set2 (i : Nat) (ix jx e : E)
  | app (i : Nat) (e : E)
  | app1 (i : Nat) (ix e : E)
  | ext (i : Nat) (e : E)
  | ex (e : E)
  | iff (c : E) (a b : Ss)
  | for (tgt : List Nat) (single : Bool) (it : It) (b : Ss)
  | whl (c : E) (b : Ss)
  | ret (e : E) | retN
  | raise1 (c : Nat) (code : Str) | raise2 (c : Nat) (code : Str) (place : E)
  | try_ (i : Nat) (b : Ss) (hs : List (Nat × Nat))
  | brk | cnt | pass
inductive Ss where
  | nil | cons (s : S) (r : Ss)
end

/-! ### the operations, by values -/
def noExc {α : Type} : Res α → Res α
  | .exc _ _ _ => .stuck
  | x => x
@[simp] theorem noExc_ok {α : Type} (a : α) : noExc (Res.ok a) = .ok a := rfl
@[simp] theorem noExc_stuck {α : Type} : noExc (Res.stuck : Res α) = .stuck := rfl
theorem noExc_inv {α : Type} {x : Res α} {a : α} (h : noExc x = .ok a) : x = .ok a := by cases x <;> first | exact h | cases h
theorem noExc_not {α : Type} {x : Res α} {c : Nat} {k p : D} (h : noExc x = .exc c k p) : False := by cases x <;> cases h
/-- together below a million bits -/
def mulOk (a b : Int) : Bool := (decide (-(2 ^ 64) < a ∧ a < 2 ^ 64)) || (decide (-(2 ^ 64) < b ∧ b < 2 ^ 64)) || decide (a.natAbs < 2 ^ 4000 ∧ b.natAbs < 2 ^ 4000)
def divOk (b : Int) : Bool := decide (b ≠ 0 ∧ b.natAbs < 1073741824) || decide (0 < b ∧ b < 2 ^ 9000)
def lenOk (n : Nat) : Bool := decide (n ≤ sizeLine)
def ixN (n : Nat) (i : Int) : Option Nat := if 0 ≤ i then (if i < n then some i.toNat else none) else if -(n : Int) ≤ i then some (i + n).toNat else none
def atD (xs : List D) (i : Int) : Res D := match ixN xs.length i with
  | some j => match xs[j]? with
    | some d => .ok d
    | none => .stuck
  | none => .stuck
/-- a == b -/
def eqD (a b : D) : Res Bool := if min a.depth b.depth ≤ 60 then .ok (PyData.eqv a b) else .stuck
def ltOk (a b : D) : Bool := PySem.W.alike a b && decide (min a.depth b.depth ≤ 60) && (match a with | .none => false | _ => true)
def inD (x : D) (ys : List D) : Res Bool := if min x.depth (PyData.depthAll ys) ≤ 60 then .ok (ys.any fun y => PyData.eqv y x) else .stuck
def op2 : O2 → D → D → Res D
  | .add, .int a, .int b => .ok (.int (a + b))
  | .add, .str a, .str b => if lenOk (a.length + b.length) then .ok (.str (a ++ b)) else .stuck
  | .add, .tuple a, .tuple b => if lenOk (a.length + b.length) then .ok (.tuple (a ++ b)) else .stuck
  | .add, .list a, .list b => if lenOk (a.length + b.length) then .ok (.list (a ++ b)) else .stuck
  | .sub, .int a, .int b => .ok (.int (a - b))
  | .mul, .int a, .int b => if mulOk a b then .ok (.int (a * b)) else .stuck
  | .mul, .list a, .int k => if lenOk (a.length * k.toNat) && decide (-(2 ^ 63) ≤ k ∧ k < 2 ^ 63) then .ok (.list (List.replicate k.toNat a).flatten) else .stuck
  | .mul, .tuple a, .int k => if decide (a.length ≤ 1000 ∧ -(2 ^ 63) ≤ k ∧ k ≤ 1000) then .ok (.tuple (List.replicate k.toNat a).flatten) else .stuck
  | .fdiv, .int a, .int b => if divOk b then .ok (.int (a.fdiv b)) else .stuck
  | .mod, .int a, .int b => if b = 0 then .stuck else .ok (.int (a.fmod b))
  | .pow, .int a, .int b => if 0 ≤ b ∧ b ≤ 1000000 ∧ a.natAbs < 2 ^ 64 then .ok (.int (a ^ b.toNat)) else .stuck
  | .eq, a, b => do .ok (.bool (← eqD a b))
  | .ne, a, b => do .ok (.bool (!(← eqD a b)))
  | .lt, .int a, .int b => .ok (.bool (decide (a < b)))
  | .le, .int a, .int b => .ok (.bool (decide (a ≤ b)))
  | .gt, .int a, .int b => .ok (.bool (decide (b < a)))
  | .ge, .int a, .int b => .ok (.bool (decide (b ≤ a)))
  | .lt, a, b => if ltOk a b then .ok (.bool (PySem.W.dataLt a b)) else .stuck
  | .le, a, b => if ltOk a b then .ok (.bool (!PySem.W.dataLt b a)) else .stuck
  | .gt, a, b => if ltOk a b then .ok (.bool (PySem.W.dataLt b a)) else .stuck
  | .ge, a, b => if ltOk a b then .ok (.bool (!PySem.W.dataLt a b)) else .stuck
  | .inn, x, .list ys => do .ok (.bool (← inD x ys))
  | .inn, x, .tuple ys => do .ok (.bool (← inD x ys))
  | .inn, .str x, .str y => .ok (.bool (!(Builtin.Str.occurrences y x 0 y.length 1).isEmpty))
  | .nin, x, .list ys => do .ok (.bool (!(← inD x ys)))
  | .nin, x, .tuple ys => do .ok (.bool (!(← inD x ys)))
  | .nin, .str x, .str y => .ok (.bool (!(!(Builtin.Str.occurrences y x 0 y.length 1).isEmpty)))
  | .isN, a, .none => .ok (.bool (match a with | .none => true | _ => false))
  | .ntN, a, .none => .ok (.bool (match a with | .none => false | _ => true))
  | _, _, _ => .stuck
def op1 : O1 → D → Res D
  | .neg, .int a => .ok (.int (-a))
  | .nt, .bool b => .ok (.bool (!b))
  | _, _ => .stuck
def intsOf : List D → Option (List Int)
  | [] => some []
  | .int i :: r => match intsOf r with
    | some l => some (i :: l)
    | none => none
  | _ :: _ => none
def boolsOf : List D → Option (List Bool)
  | [] => some []
  | .bool i :: r => match boolsOf r with
    | some l => some (i :: l)
    | none => none
  | _ :: _ => none
def alikeAll2 (xs : List D) : Bool := xs.all fun x => xs.all fun y => PySem.W.alike x y
def maxD (x : D) (xs : List D) : D := xs.foldl (fun a y => if PySem.W.dataLt a y then y else a) x
def minD (x : D) (xs : List D) : D := xs.foldl (fun a y => if PySem.W.dataLt y a then y else a) x
def max1 : List D → Res D
  | [] => .stuck
  | x :: r => if immAll (x :: r) && alikeAll2 (x :: r) && decide (PyData.depthAll (x :: r) ≤ 60) && (x :: r).all (fun y => match y with | .none => false | _ => true) then .ok (maxD x r) else .stuck
def min1 : List D → Res D
  | [] => .stuck
  | x :: r => if immAll (x :: r) && alikeAll2 (x :: r) && decide (PyData.depthAll (x :: r) ≤ 60) && (x :: r).all (fun y => match y with | .none => false | _ => true) then .ok (minD x r) else .stuck
/-- the order of sorted -/
def leD (a b : D) : Bool := !PySem.W.dataLt b a
/-- can they be sorted? -/
def sortB (xs : List D) : Bool := immAll xs && alikeAll2 xs && decide (PyData.depthAll xs ≤ 50) && lenOk xs.length &&
  (decide (xs.length ≤ 1) || xs.all (fun y => match y with | .tuple (_ :: _) => true | _ => false) || xs.all (fun y => match y with | .none => false | .tuple _ => false | _ => true))
/-- no list deeper than the top -/
def flat : D → Bool
  | .list l => immAll l
  | d => imm d
/-- a built-in of its arguments: the flag tells whether its lists are new, deep down -/
def bi : Bi → List D → Res D
  | .len, [.str x] => if lenOk x.length then .ok (.int x.length) else .stuck
  | .len, [.list xs] => .ok (.int xs.length)
  | .len, [.tuple xs] => .ok (.int xs.length)
  | .sum, [.list xs] => match intsOf xs with | some l => .ok (.int l.sum) | none => .stuck
  | .sum, [.tuple xs] => match intsOf xs with | some l => .ok (.int l.sum) | none => .stuck
  | .all, [.list xs] => match boolsOf xs with | some l => .ok (.bool (l.all id)) | none => .stuck
  | .any, [.list xs] => match boolsOf xs with | some l => .ok (.bool (l.any id)) | none => .stuck
  | .max1, [.list xs] => max1 xs
  | .max1, [.tuple xs] => max1 xs
  | .min1, [.list xs] => min1 xs
  | .min1, [.tuple xs] => min1 xs
  | .max2, [.int a, .int b] => .ok (.int (if b > a then b else a))
  | .min2, [.int a, .int b] => .ok (.int (if b < a then b else a))
  | .abs, [.int a] => .ok (.int (if a < 0 then -a else a))
  | .int, [.int a] => .ok (.int a)
  | .int, [.bool b] => .ok (.int (if b then 1 else 0))
  | .tup, [.list xs] => .ok (.tuple xs)
  | .tup, [.tuple xs] => .ok (.tuple xs)
  | .lst, [.list xs] => .ok (.list xs)
  | .lst, [.tuple xs] => .ok (.list xs)
  | .sorted, [.list xs] => if sortB xs then .ok (.list (xs.mergeSort leD)) else .stuck
  | _, _ => .stuck
def mt : Mt → D → List D → Res D
  | .count, .list xs, [x] => if min (PyData.depthAll xs) x.depth ≤ 60 then .ok (.int (xs.countP fun y => PyData.eqv y x)) else .stuck
  | _, _, _ => .stuck
def sIx (n d : Nat) : Option Int → Nat
  | none => d
  | some i => if i < 0 then (i + n).toNat else min i.toNat n
def cut {α : Type} (xs : List α) (lo hi : Option Int) : List α := (xs.drop (sIx xs.length 0 lo)).take (sIx xs.length xs.length hi - sIx xs.length 0 lo)
def slc : D → Option Int → Option Int → Res D
  | .list xs, lo, hi => .ok (.list (cut xs lo hi))
  | .tuple xs, lo, hi => .ok (.tuple (cut xs lo hi))
  | .str s, lo, hi => if lenOk s.length then .ok (.str ⟨(cut s.cps.toList lo hi).toArray⟩) else .stuck
  | _, _, _ => .stuck
def rev : D → Res D
  | .list xs => .ok (.list xs.reverse)
  | .tuple xs => .ok (.tuple xs.reverse)
  | _ => .stuck
def sub : D → D → Res D
  | .list xs, .int i => atD xs i
  | .tuple xs, .int i => atD xs i
  | .str s, .int i => if lenOk s.length then (match (ixN s.cps.toList.length i).bind fun j => s.cps.toList[j]? with
    | some c => .ok (.str ⟨#[c]⟩)
    | none => .stuck) else .stuck
  | _, _ => .stuck

/-! ### the environment -/
/-- a result: its lists are new, deep down (or it has none); the tree -/
abbrev R := Bool × D
/-- what a name holds, to be read -/
def rd (ρ : Env) (i : Nat) : Res R := match get ρ i with
  | some (.scr _) => .stuck
  | some c => .ok (imm c.d, c.d)
  | none => .stuck
def mkCell (r : R) : Cell := if r.1 || imm r.2 then .own r.2 else .bor r.2
/-- slot i is nobody's to change from now on -/
def freeze (ρ : Env) (i : Nat) : Env := match get ρ i with
  | some (.own d) => if imm d then ρ else ρ.set i (some (.fz d))
  | _ => ρ
/-- .. as a cell -/
def frzC : Option Cell → Option Cell
  | some (.own d) => if imm d then some (.own d) else some (.fz d)
  | c => c
def freezes (ρ : Env) : List Nat → Env
  | [] => ρ
  | i :: r => freezes (freeze ρ i) r
def putAll (ρ : Env) : List Nat → List Cell → Option Env
  | [], [] => some ρ
  | i :: is, c :: cs => putAll (ρ.set i (some c)) is cs
  | _, _ => none
/-- the cells of a target: one name, or as many as the tuple has -/
def cellOf (k : D → Cell) (d : D) : Cell := if imm d then .own d else k d
def bindT (k : D → Cell) (tgt : List Nat) (single : Bool) (d : D) (ρ : Env) : Res Env :=
  if single then match tgt with
    | [i] => .ok (ρ.set i (some (cellOf k d)))
    | _ => .stuck
  else match d with
    | .tuple ds => match putAll ρ tgt (ds.map (cellOf k)) with
      | some ρ' => .ok ρ'
      | none => .stuck
    | _ => .stuck
def wipe (ρ : Env) : List Nat → Env
  | [] => ρ
  | i :: r => (wipe ρ r).set i none
def immAt (ρ : Env) (i : Nat) : Bool := match get ρ i with
  | some c => imm c.d
  | none => true
/-- the comprehension's own names get back what they held -/
def restore (ρ0 ρ : Env) : List Nat → Env
  | [] => ρ
  | i :: r => (restore ρ0 ρ r).set i (get ρ0 i)

mutual
/-- the names that an expression reads -/
def vars : E → List Nat
  | .var i => [i]
  | .ref _ => []
  | .scr i => [i]
  | .scrL i => [i]
  | .op2 _ a b => vars a ++ vars b
  | .op1 _ a => vars a
  | .and a b => vars a ++ vars b
  | .or a b => vars a ++ vars b
  | .ite c a b => vars c ++ vars a ++ vars b
  | .cmp3 _ _ a b c => vars a ++ vars b ++ vars c
  | .bi _ as => varss as
  | .mt _ o as => vars o ++ varss as
  | .sub o i => vars o ++ vars i
  | .slc o lo hi => vars o ++ varso lo ++ varso hi
  | .rev o => vars o
  | .tup es => varss es
  | .lst es => varss es
  | .call _ as => varss as
  | .pop0 i => [i]
  | .pop1 i e => i :: vars e
  | .comp elt _ _ it cnd _ => vars elt ++ varsi it ++ varss cnd
  | .rng a b => vars a ++ vars b
  | .rng1 b => vars b
  | .isBool e => vars e
  | .isTup e => vars e
  | .isInt e => vars e
  | .sset e => vars e
  | .comp2 elt _ _ it cnd _ _ _ it1 cnd1 => vars elt ++ varsi it ++ varss cnd ++ varsi it1 ++ varss cnd1
  | .int _ => [] | .str _ => [] | .bl _ => [] | .non => []
def varss : Es → List Nat
  | .nil => []
  | .cons e r => vars e ++ varss r
def varso : Oe → List Nat
  | .none => []
  | .some e => vars e
def varsi : It → List Nat
  | .scr _ => []
  | .seq e => vars e
  | .r1 _ => []
  | .r2 _ _ => []
  | .r3 _ _ _ => []
  | .enum e => vars e
  | .zip a b => vars a ++ vars b
  | .rv e => vars e
end
mutual
/-- does it change anything that stands? -/
def eff : E → Bool
  | .var _ => false
  | .ref _ => true
  | .scr _ => false
  | .scrL _ => false
  | .op2 _ a b => eff a || eff b
  | .op1 _ a => eff a
  | .and a b => eff a || eff b
  | .or a b => eff a || eff b
  | .ite c a b => eff c || eff a || eff b
  | .cmp3 _ _ a b c => eff a || eff b || eff c
  | .bi _ as => effs as
  | .mt _ o as => eff o || effs as
  | .sub o i => eff o || eff i
  | .slc o lo hi => eff o || effo lo || effo hi
  | .rev o => eff o
  | .tup es => effs es
  | .lst es => effs es
  | .call _ as => effs as
  | .pop0 _ => true
  | .pop1 _ _ => true
  | .comp elt _ _ it cnd _ => eff elt || effi it || effs cnd
  | .rng a b => eff a || eff b
  | .rng1 b => eff b
  | .isBool e => eff e
  | .isTup e => eff e
  | .isInt e => eff e
  | .sset e => eff e
  | .comp2 elt _ _ it cnd _ _ _ it1 cnd1 => eff elt || effi it || effs cnd || effi it1 || effs cnd1
  | .int _ => false | .str _ => false | .bl _ => false | .non => false
def effs : Es → Bool
  | .nil => false
  | .cons e r => eff e || effs r
def effo : Oe → Bool
  | .none => false
  | .some e => eff e
def effi : It → Bool
  | .scr _ => false
  | .seq e => eff e
  | .r1 a => eff a
  | .r2 a b => eff a || eff b
  | .r3 a b c => eff a || eff b || eff c
  | .enum e => eff e
  | .zip a b => eff a || eff b
  | .rv e => eff e
end

def ownList (ρ : Env) (i : Nat) : Res (List D) := match get ρ i with
  | some (.own (.list ds)) => .ok ds
  | _ => .stuck
def listOf : D → Res (List D)
  | .list ds => .ok ds
  | _ => .stuck
/-- may it wait while what is behind it runs? -/
def keeps (r : R) (e : Bool) : Bool := r.1 || !e || imm r.2
/-- a call of a def: its number, the cells of its parameters; the answer and the cells of its parameters behind it -/
abbrev CF := Nat → List Cell → Res (R × List (Option Cell))
/-- an argument: a value, or a name handed over -/
inductive Ar where
  | val (r : R) | ref (i : Nat) | scr (i : Nat)
def arCells (ρ : Env) : List Ar → Option (List Cell)
  | [] => some []
  | .val r :: as => match arCells ρ as with
    | some cs => some ((if imm r.2 then .own r.2 else .fz r.2) :: cs)
    | none => none
  | .ref i :: as => match get ρ i, arCells ρ as with
    | some (.own d), some cs => some (.own d :: cs)
    | _, _ => none
  | .scr i :: as => match get ρ i, arCells ρ as with
    | some (.scr l), some cs => some (.scr l :: cs)
    | _, _ => none
def arBack (ρ : Env) : List Ar → List (Option Cell) → Option Env
  | [], _ => some ρ
  | .val _ :: as, _ :: cs => arBack ρ as cs
  | .scr _ :: as, _ :: cs => arBack ρ as cs
  | .ref i :: as, some (.own d) :: cs => arBack (ρ.set i (some (.own d))) as cs
  | _, _ => none
def arVals : List Ar → List D
  | [] => []
  | .val r :: as => r.2 :: arVals as
  | .ref _ :: as => arVals as
  | .scr _ :: as => arVals as
def hasRef : List Ar → Bool
  | [] => false
  | .val _ :: as => hasRef as
  | .scr _ :: as => hasRef as
  | .ref _ :: _ => true
def arRefs : List Ar → List Nat
  | [] => []
  | .val _ :: as => arRefs as
  | .scr _ :: as => arRefs as
  | .ref i :: as => i :: arRefs as
/-- the names handed over -/
def refsE : Es → List Nat
  | .nil => []
  | .cons (.ref i) r => i :: refsE r
  | .cons _ r => refsE r
/-- what the other arguments read -/
def valsV : Es → List Nat
  | .nil => []
  | .cons (.ref _) r => valsV r
  | .cons (.scr _) r => valsV r
  | .cons e r => vars e ++ valsV r
/-- no argument reads what is handed over -/
def sepE (es : Es) : Bool := (refsE es).all fun i => !(valsV es).contains i
def callA (cf : CF) (f : Nat) (sp : Bool) (as : List Ar) (ρ : Env) : Res (R × Env) :=
  if hasRef as && !(noBor ρ && ((arVals as).all imm || sp) && decide (arRefs as).Nodup) then .stuck else
  match arCells ρ as with
  | none => .stuck
  | some cs => do
    let (r, outs) ← cf f cs
    match arBack ρ as outs with
    | some ρ' => .ok (r, ρ')
    | none => .stuck
/-- a name whose lists are nobody's to change -/
def isFz (ρ : Env) : E → Bool
  | .var j => match get ρ j with
    | some (.fz _) => true
    | _ => false
  | _ => false
def asInt : D → Res Int
  | .int i => .ok i
  | _ => .stuck
def asBool : D → Res Bool
  | .bool b => .ok b
  | _ => .stuck
def smallI (i : Int) : Bool := decide (-(2 ^ 62) ≤ i ∧ i < 2 ^ 62)
def rangeD (lo hi : Int) : List D := (List.range (hi - lo).toNat).map fun k => .int (lo + (k : Nat))
def rangeC (lo c : Int) (n : Nat) : List D := (List.range n).map fun k => .int (lo + (k : Nat) * c)
def isTupD : D → Bool
  | .tuple _ => true
  | _ => false
def isIntD : D → Bool
  | .int _ => true
  | .bool _ => true
  | _ => false
/-- into an ascending row, once -/
def insS (x : Int) : List Int → List Int
  | [] => [x]
  | y :: r => if x < y then x :: y :: r else if x = y then y :: r else y :: insS x r
def ssort : List Int → List Int
  | [] => []
  | x :: l => insS x (ssort l)
/-- sorted(set(t)) of a tuple of ints -/
def ssetD : D → Res D
  | .tuple xs => match intsOf xs with
    | some l => if l.length < 64 then .ok (.list ((ssort l).map .int)) else .stuck
    | none => .stuck
  | _ => .stuck
def isBoolD : D → Bool
  | .bool _ => true
  | _ => false
def stepsOf (lo hi c : Int) : Nat := (Builtin.Range.rangeSize lo hi c).toNat
def itemsOf : D → Res (List D)
  | .list xs => .ok xs
  | .tuple xs => .ok xs
  | _ => .stuck
/-- a text's signs -/
def signsD (s : Str) : List D := s.cps.toList.map fun c => .str ⟨#[c]⟩
/-- .. a text's signs too -/
def itemsS : D → Res (List D)
  | .list xs => .ok xs
  | .tuple xs => .ok xs
  | .str s => .ok (signsD s)
  | _ => .stuck
def enumD (k : Nat) : List D → List D
  | [] => []
  | x :: r => .tuple [.int k, x] :: enumD (k + 1) r
def zipD : List D → List D → List D
  | x :: xs, y :: ys => .tuple [x, y] :: zipD xs ys
  | _, _ => []
/-- two lists or two tuples, side by side -/
def zipV : D → D → Res (List D)
  | .list a, .list b => .ok (zipD a b)
  | .tuple a, .tuple b => .ok (zipD a b)
  | _, _ => .stuck
def lastD (ds : List D) : Res D := match ds.getLast? with
  | some d => .ok d
  | none => .stuck
def ixD (ds : List D) (i : Int) : Res Nat := match ixN ds.length i with
  | some j => .ok j
  | none => .stuck
/-- a comprehension's turns that change things -/
def compL (body : D → Env → Res (Option R × Env)) (own : List Nat) : List D → Env → Res (List D × Env)
  | [], ρ => .ok ([], ρ)
  | d :: ds, ρ => do
    let (o, ρ1) ← body d ρ
    let ρ2 := wipe ρ1 own
    if noBor ρ2 then
      let (l, ρ3) ← compL body own ds ρ2
      match o with
      | none => .ok (l, ρ3)
      | some r => if r.1 || imm r.2 then .ok (r.2 :: l, ρ3) else .stuck
    else .stuck
/-- .. that change nothing -/
def compP (body : D → Env → Res (Option R × Env)) (ρ : Env) : List D → Res (Bool × List D)
  | [] => .ok (true, [])
  | d :: ds => do
    let (o, _) ← body d ρ
    let (k, l) ← compP body ρ ds
    match o with
    | none => .ok (k, l)
    | some r => .ok (k && (r.1 || imm r.2), r.2 :: l)
/-- the turns of the first clause, each with its own items -/
def compP2 (body : D → Env → Res (Bool × List D)) (ρ : Env) : List D → Res (Bool × List D)
  | [] => .ok (true, [])
  | d :: ds => do
    let (k1, l1) ← body d ρ
    let (k, l) ← compP2 body ρ ds
    .ok (k1 && k, l1 ++ l)
def setAt (ds : List D) (i : Int) (d : D) : Res (List D) := match ixN ds.length i with
  | some j => .ok (ds.set j d)
  | none => .stuck

mutual
def ev (cf : CF) : E → Env → Res (R × Env)
  | .var i, ρ => do .ok ((← rd ρ i), ρ)
  | .int n, ρ => .ok ((true, .int n), ρ)
  | .str s, ρ => .ok ((true, .str s), ρ)
  | .bl b, ρ => .ok ((true, .bool b), ρ)
  | .non, ρ => .ok ((true, .none), ρ)
  | .op2 o a b, ρ => do
    let (x, ρ1) ← ev cf a ρ
    let (y, ρ2) ← ev cf b ρ1
    if keeps x (eff b) then
      let d ← noExc (op2 o x.2 y.2)
      .ok ((flat d, d), ρ2)
    else .stuck
  | .op1 o a, ρ => do
    let (x, ρ1) ← ev cf a ρ
    let d ← noExc (op1 o x.2)
    .ok ((true, d), ρ1)
  | .and a b, ρ => do
    let (x, ρ1) ← ev cf a ρ
    if ← asBool x.2 then ev cf b ρ1 else .ok ((true, .bool false), ρ1)
  | .or a b, ρ => do
    let (x, ρ1) ← ev cf a ρ
    if ← asBool x.2 then .ok ((true, .bool true), ρ1) else ev cf b ρ1
  | .ite c a b, ρ => do
    let (x, ρ1) ← ev cf c ρ
    if ← asBool x.2 then ev cf a ρ1 else ev cf b ρ1
  | .cmp3 o p a b c, ρ => do
    let (x, ρ1) ← ev cf a ρ
    let (y, ρ2) ← ev cf b ρ1
    if keeps x (eff b || eff c) && keeps y (eff c) then
      let d ← noExc (op2 o x.2 y.2)
      if ← asBool d then
        let (z, ρ3) ← ev cf c ρ2
        let d2 ← noExc (op2 p y.2 z.2)
        .ok ((true, .bool (← asBool d2)), ρ3)
      else .ok ((true, .bool false), ρ2)
    else .stuck
  | .bi f as, ρ => do
    let (xs, ρ1) ← evs cf as ρ
    let d ← noExc (bi f (xs.map (·.2)))
    .ok ((flat d, d), ρ1)
  | .mt m o as, ρ => do
    let (x, ρ1) ← ev cf o ρ
    let _ ← listOf x.2
    let (xs, ρ2) ← evs cf as ρ1
    if keeps x (effs as) then
      let d ← noExc (mt m x.2 (xs.map (·.2)))
      .ok ((imm d, d), ρ2)
    else .stuck
  | .sub o i, ρ => do
    let (x, ρ1) ← ev cf o ρ
    let (y, ρ2) ← ev cf i ρ1
    if keeps x (eff i) || isFz ρ o then
      let d ← noExc (sub x.2 y.2)
      .ok ((imm d, d), ρ2)
    else .stuck
  | .slc o lo hi, ρ => do
    let (x, ρ1) ← ev cf o ρ
    let (l, ρ2) ← evo cf lo ρ1
    let (h, ρ3) ← evo cf hi ρ2
    if keeps x (effo lo || effo hi) then
      let d ← noExc (slc x.2 l h)
      .ok ((flat d, d), ρ3)
    else .stuck
  | .rev o, ρ => do
    let (x, ρ1) ← ev cf o ρ
    let d ← noExc (rev x.2)
    .ok ((flat d, d), ρ1)
  | .tup es, ρ => do
    let (xs, ρ1) ← evs cf es ρ
    if lenOk xs.length then .ok ((xs.all (fun x => x.1 || imm x.2), .tuple (xs.map (·.2))), ρ1) else .stuck
  | .lst es, ρ => do
    let (xs, ρ1) ← evs cf es ρ
    if lenOk xs.length then .ok ((xs.all (fun x => x.1 || imm x.2), .list (xs.map (·.2))), ρ1) else .stuck
  | .call f as, ρ => do
    let (xs, ρ1) ← eva cf as ρ
    callA cf f (sepE as) xs ρ1
  | .ref _, _ => .stuck
  | .scr _, _ => .stuck
  | .scrL i, ρ => match get ρ i with
    | some (.scr l) => if lenOk l.length then .ok ((true, .list (l.map .int)), ρ) else .stuck
    | _ => .stuck
  | .pop0 i, ρ => do
    let ds ← ownList ρ i
    let d ← lastD ds
    if noBor ρ && imm d then .ok ((true, d), ρ.set i (some (.own (.list ds.dropLast)))) else .stuck
  | .pop1 i e, ρ => do
    let _ ← ownList ρ i
    let (x, ρ1) ← ev cf e ρ
    let ds ← ownList ρ1 i
    let k ← asInt x.2
    let j ← ixD ds k
    let d ← atD ds k
    if noBor ρ1 && imm d && smallI k then .ok ((true, d), ρ1.set i (some (.own (.list (ds.eraseIdx j))))) else .stuck
  | .comp elt tgt single it cnd own, ρ => do
    let (ds, ρ1) ← evi cf it ρ
    let body : D → Env → Res (Option R × Env) := fun d σ => do
      let σ1 ← bindT .bor tgt single d σ
      let (c, σ2) ← tests cf cnd σ1
      if c then
        let (r, σ3) ← ev cf elt σ2
        .ok (some r, σ3)
      else .ok (none, σ2)
    if own.all (fun i => immAt ρ1 i && decide (i < ρ1.length)) then
      if eff elt || effs cnd then
        if ds.all imm && noBor ρ1 then
          let (l, ρ3) ← noExc <| compL body own ds (wipe (freezes ρ1 (varsi it)) own)
          if lenOk l.length && decide (ρ3.length = ρ1.length) then .ok ((true, .list l), restore ρ1 ρ3 own) else .stuck
        else .stuck
      else
        let (k, l) ← noExc <| compP body (wipe ρ1 own) ds
        if lenOk l.length then .ok ((k, .list l), ρ1) else .stuck
    else .stuck
  | .rng a b, ρ => do
    let (x, ρ1) ← ev cf a ρ
    let (y, ρ2) ← ev cf b ρ1
    let i ← asInt x.2
    let j ← asInt y.2
    if smallI i && smallI j && lenOk (j - i).toNat then .ok ((true, .list (rangeD i j)), ρ2) else .stuck
  | .rng1 b, ρ => do
    let (y, ρ1) ← ev cf b ρ
    let j ← asInt y.2
    if smallI j && lenOk j.toNat then .ok ((true, .list (rangeD 0 j)), ρ1) else .stuck
  | .isBool e, ρ => do
    let (x, ρ1) ← ev cf e ρ
    .ok ((true, .bool (isBoolD x.2)), ρ1)
  | .isTup e, ρ => do
    let (x, ρ1) ← ev cf e ρ
    .ok ((true, .bool (isTupD x.2)), ρ1)
  | .isInt e, ρ => do
    let (x, ρ1) ← ev cf e ρ
    .ok ((true, .bool (isIntD x.2)), ρ1)
  | .sset e, ρ => do
    let (x, ρ1) ← ev cf e ρ
    let d ← noExc (ssetD x.2)
    .ok ((true, d), ρ1)
  | .comp2 elt tgt single it cnd own tgt1 single1 it1 cnd1, ρ => do
    let (ds, ρ1) ← evi cf it ρ
    let body1 : D → Env → Res (Option R × Env) := fun d σ => do
      let σ1 ← bindT .bor tgt1 single1 d σ
      let (c, σ2) ← tests cf cnd1 σ1
      if c then
        let (r, σ3) ← ev cf elt σ2
        .ok (some r, σ3)
      else .ok (none, σ2)
    let body : D → Env → Res (Bool × List D) := fun d σ => do
      let σ1 ← bindT .bor tgt single d σ
      let (c, σ2) ← tests cf cnd σ1
      if c then
        let (ds1, σ3) ← evi cf it1 σ2
        if tgt1.all (fun i => immAt σ3 i && decide (i < σ3.length)) then compP body1 (wipe σ3 tgt1) ds1 else .stuck
      else .ok (true, [])
    if own.all (fun i => immAt ρ1 i && decide (i < ρ1.length)) then
      if eff elt || effs cnd || effi it1 || effs cnd1 then .stuck
      else
        let (k, l) ← noExc <| compP2 body (wipe ρ1 own) ds
        if lenOk l.length then .ok ((k, .list l), ρ1) else .stuck
    else .stuck
def evs (cf : CF) : Es → Env → Res (List R × Env)
  | .nil, ρ => .ok ([], ρ)
  | .cons e r, ρ => do
    let (x, ρ1) ← ev cf e ρ
    let (xs, ρ2) ← evs cf r ρ1
    if keeps x (effs r) then .ok (x :: xs, ρ2) else .stuck
def eva (cf : CF) : Es → Env → Res (List Ar × Env)
  | .nil, ρ => .ok ([], ρ)
  | .cons (.ref i) r, ρ => if (get ρ i).isSome then do
    let (xs, ρ2) ← eva cf r ρ
    .ok (.ref i :: xs, ρ2)
    else .stuck
  | .cons (.scr i) r, ρ => if (get ρ i).isSome then do
    let (xs, ρ2) ← eva cf r ρ
    .ok (.scr i :: xs, ρ2)
    else .stuck
  | .cons e r, ρ => do
    let (x, ρ1) ← ev cf e ρ
    let (xs, ρ2) ← eva cf r ρ1
    if keeps x (effs r) then .ok (.val x :: xs, ρ2) else .stuck
def evo (cf : CF) : Oe → Env → Res (Option Int × Env)
  | .none, ρ => .ok (none, ρ)
  | .some e, ρ => do
    let (x, ρ1) ← ev cf e ρ
    .ok (some (← asInt x.2), ρ1)
def tests (cf : CF) : Es → Env → Res (Bool × Env)
  | .nil, ρ => .ok (true, ρ)
  | .cons e r, ρ => do
    let (x, ρ1) ← ev cf e ρ
    if ← asBool x.2 then tests cf r ρ1 else .ok (false, ρ1)
/-- what is walked: its items -/
def evi (cf : CF) : It → Env → Res (List D × Env)
  | .scr i, ρ => match get ρ i with
    | some (.scr l) => .ok (l.map .int, ρ)
    | _ => .stuck
  | .seq e, ρ => do
    let (x, ρ1) ← ev cf e ρ
    .ok (← itemsS x.2, ρ1)
  | .r1 a, ρ => do
    let (x, ρ1) ← ev cf a ρ
    let i ← asInt x.2
    if smallI i then .ok (rangeD 0 i, ρ1) else .stuck
  | .r2 a b, ρ => do
    let (x, ρ1) ← ev cf a ρ
    let (y, ρ2) ← ev cf b ρ1
    let i ← asInt x.2
    let j ← asInt y.2
    if smallI i && smallI j then .ok (rangeD i j, ρ2) else .stuck
  | .r3 a b c, ρ => do
    let (x, ρ1) ← ev cf a ρ
    let (y, ρ2) ← ev cf b ρ1
    let (z, ρ3) ← ev cf c ρ2
    let i ← asInt x.2
    let j ← asInt y.2
    let k ← asInt z.2
    if Builtin.Range.small i j k && decide (k ≠ 0 ∧ k.natAbs < 1000000) then .ok (rangeC i k (stepsOf i j k), ρ3) else .stuck
  | .enum e, ρ => do
    let (x, ρ1) ← ev cf e ρ
    .ok (enumD 0 (← itemsS x.2), ρ1)
  | .zip a b, ρ => do
    let (x, ρ1) ← ev cf a ρ
    let (y, ρ2) ← ev cf b ρ1
    if keeps x (eff b) then .ok (← zipV x.2 y.2, ρ2) else .stuck
  | .rv e, ρ => do
    let (x, ρ1) ← ev cf e ρ
    .ok ((← itemsOf x.2).reverse, ρ1)
end

mutual
/-- in a place that takes what it names: a list that a name owns goes over to it -/
def evX (cf : CF) : E → Env → Res (R × Env)
  | .var i, ρ => match get ρ i with
    | some (.own d) => if imm d then .ok ((true, d), ρ) else .ok ((true, d), ρ.set i none)
    | some (.scr _) => .stuck
    | some c => .ok ((imm c.d, c.d), ρ)
    | none => .stuck
  | .tup es, ρ => do
    let (xs, ρ1) ← evXs cf es ρ
    if lenOk xs.length then .ok ((xs.all (fun x => x.1 || imm x.2), .tuple (xs.map (·.2))), ρ1) else .stuck
  | .lst es, ρ => do
    let (xs, ρ1) ← evXs cf es ρ
    if lenOk xs.length then .ok ((xs.all (fun x => x.1 || imm x.2), .list (xs.map (·.2))), ρ1) else .stuck
  | e, ρ => ev cf e ρ
def evXs (cf : CF) : Es → Env → Res (List R × Env)
  | .nil, ρ => .ok ([], ρ)
  | .cons e r, ρ => do
    let (x, ρ1) ← evX cf e ρ
    let (xs, ρ2) ← evXs cf r ρ1
    if x.1 || imm x.2 then .ok (x :: xs, ρ2) else .stuck
end

inductive Out where
  | nx | ret (d : D) | brk | cnt
/-- a loop's turns -/
def forL (body : D → Env → Res (Out × Env)) : List D → Env → Res (Out × Env)
  | [], ρ => .ok (.nx, ρ)
  | d :: ds, ρ => do
    let (o, ρ1) ← body d ρ
    match o with
    | .ret r => .ok (.ret r, ρ1)
    | .brk => .ok (.nx, ρ1)
    | _ => forL body ds ρ1
def whileL (c : Env → Res (Bool × Env)) (body : Env → Res (Out × Env)) : Nat → Env → Res (Out × Env)
  | 0, _ => .stuck
  | n + 1, ρ => do
    let (b, ρ1) ← c ρ
    if b then
      let (o, ρ2) ← body ρ1
      match o with
      | .ret r => .ok (.ret r, ρ2)
      | .brk => .ok (.nx, ρ2)
      | _ => whileL c body n ρ2
    else .ok (.nx, ρ1)
/-- turns of a while at most -/
def fuel : Nat := 1000000
def store (ρ : Env) (i : Nat) (r : R) (vs : List Nat) : Env :=
  if r.1 || imm r.2 then ρ.set i (some (.own r.2)) else (freezes ρ vs).set i (some (.fz r.2))
def hd (k : Nat) (code place : D) : D := match k with
  | 0 => code
  | 1 => .tuple [code, place]
  | _ => .bool false
def handle (c : Nat) (code place : D) : List (Nat × Nat) → Option D
  | [] => none
  | (c', k) :: r => if c' = c then some (hd k code place) else handle c code place r

mutual
def exec (cf : CF) : S → Env → Res (Out × Env)
  | .asg i e, ρ => do
    let (r, ρ1) ← evX cf e ρ
    if noBor ρ1 then .ok (.nx, store ρ1 i r (vars e)) else .stuck
  | .asgT is e, ρ => do
    let (r, ρ1) ← evX cf e ρ
    if imm r.2 then .ok (.nx, ← bindT .bor is false r.2 ρ1) else .stuck
  | .setv i ix e, ρ => do
    let (r, ρ1) ← evX cf e ρ
    let _ ← ownList ρ1 i
    let (k, ρ2) ← ev cf ix ρ1
    if (r.1 || imm r.2) && noBor ρ2 then
      let ds ← ownList ρ2 i
      .ok (.nx, ρ2.set i (some (.own (.list (← setAt ds (← asInt k.2) r.2)))))
    else .stuck
  | .set2 i ix jx e, ρ => do
    let (r, ρ1) ← evX cf e ρ
    let _ ← ownList ρ1 i
    let (k, ρ2) ← ev cf ix ρ1
    if (r.1 || imm r.2) && noBor ρ2 then
      let ds ← ownList ρ2 i
      let kk ← asInt k.2
      let z ← atD ds kk
      let es ← listOf z
      let (l, ρ3) ← ev cf jx (ρ2.set i none)
      if noBor ρ3 && decide (i < ρ3.length) then
        let ll ← asInt l.2
        let es' ← setAt es ll r.2
        let ds' ← setAt ds kk (.list es')
        .ok (.nx, ρ3.set i (some (.own (.list ds'))))
      else .stuck
    else .stuck
  | .app i e, ρ => do
    let _ ← ownList ρ i
    let (r, ρ1) ← evX cf e ρ
    if (r.1 || imm r.2) && noBor ρ1 then
      let ds ← ownList ρ1 i
      if ds.length < sizeLine then .ok (.nx, ρ1.set i (some (.own (.list (ds ++ [r.2]))))) else .stuck
    else .stuck
  | .app1 i ix e, ρ => do
    let _ ← ownList ρ i
    let (k, ρ1) ← ev cf ix ρ
    let ds1 ← ownList ρ1 i
    let _ ← listOf (← atD ds1 (← asInt k.2))
    let (r, ρ2) ← ev cf e ρ1
    if (r.1 || imm r.2) && noBor ρ2 && !eff ix && !eff e then
      let ds ← ownList ρ2 i
      let es ← listOf (← atD ds (← asInt k.2))
      if es.length < sizeLine then .ok (.nx, ρ2.set i (some (.own (.list (← setAt ds (← asInt k.2) (.list (es ++ [r.2]))))))) else .stuck
    else .stuck
  | .ext i e, ρ => do
    let _ ← ownList ρ i
    let (r, ρ1) ← ev cf e ρ
    let ds ← ownList ρ1 i
    let es ← listOf r.2
    if immAll es && noBor ρ1 && lenOk (ds.length + es.length) then .ok (.nx, ρ1.set i (some (.own (.list (ds ++ es))))) else .stuck
  | .ex e, ρ => do
    let (_, ρ1) ← ev cf e ρ
    .ok (.nx, ρ1)
  | .iff c a b, ρ => do
    let (x, ρ1) ← ev cf c ρ
    if ← asBool x.2 then execs cf a ρ1 else execs cf b ρ1
  | .for tgt single it b, ρ => do
    let (ds, ρ1) ← evi cf it ρ
    forL (fun d σ => do
      let σ1 ← bindT .fz tgt single d σ
      execs cf b σ1) ds (freezes ρ1 (varsi it))
  | .whl c b, ρ => whileL (fun σ => do
      let (x, σ1) ← ev cf c σ
      .ok (← asBool x.2, σ1)) (fun σ => execs cf b σ) fuel ρ
  | .ret e, ρ => do
    let (r, ρ1) ← evX cf e ρ
    if r.1 || imm r.2 then .ok (.ret r.2, ρ1) else .stuck
  | .retN, ρ => .ok (.ret .none, ρ)
  | .raise1 c code, _ => .exc c (.str code) (.int 0)
  | .raise2 c code p, ρ => do
    let (r, _) ← ev cf p ρ
    if imm r.2 && !eff p then .exc c (.str code) r.2 else .stuck
  | .try_ i b hs, ρ => match execs cf b ρ with
    | .exc c k p => match handle c k p hs with
      | some d => if i < ρ.length then .ok (.ret d, ρ.map fun _ => none) else .stuck
      | none => .stuck
    | x => x
  | .brk, ρ => .ok (.brk, ρ)
  | .cnt, ρ => .ok (.cnt, ρ)
  | .pass, ρ => .ok (.nx, ρ)
def execs (cf : CF) : Ss → Env → Res (Out × Env)
  | .nil, ρ => .ok (.nx, ρ)
  | .cons s r, ρ => do
    let (o, ρ1) ← exec cf s ρ
    match o with
    | .nx => execs cf r ρ1
    | o => .ok (o, ρ1)
end
/-- a def: how many parameters, how many slots, the body -/
structure Fn where
  params : Nat
  slots : Nat
  body : Ss
/-- the call of a def, at most so many calls deep -/
def runF (fs : List Fn) : Nat → CF
  | 0, _, _ => .stuck
  | n + 1, f, cs => match fs[f]? with
    | none => .stuck
    | some F => if cs.length = F.params then do
        let (o, ρ) ← execs (runF fs n) F.body (cs.map some ++ List.replicate (F.slots - F.params) none)
        match o with
        | .ret d => .ok ((true, d), ρ.take F.params)
        | .nx => .ok ((true, .none), ρ.take F.params)
        | _ => .stuck
      else .stuck
end PV
set_option Elab.async false
set_option linter.all false
set_option maxRecDepth 100000
set_option maxHeartbeats 1000000
/-! PV1: what stands for a tree in the abstract heap; what a step may change. -/
namespace PV
open PySem PySem.Spec PyProof.Rows L2

/-- a list that is not the program's to change: locked, or of the written part -/
def ExtL (K : PySem.W.Frag) (H : Hp) (a : Addr) (xs : List V) : Prop :=
  (∃ o, H a = some (.frz o (.lst xs))) ∨
    ∃ (o : Obj) (its : Array Value) (n : Nat), K.lookup a = some o ∧ o.cls = .type "list" ∧ o.dict = none ∧ o.data = .seq its n ∧ its.size ≤ sizeLine ∧ Vals xs its.toList
theorem ExtL.seq {K : PySem.W.Frag} {H : Hp} {a : Addr} {xs : List V} (h : ExtL K H a xs) : SqL K H a xs := by
  rcases h with ⟨o, h⟩ | h
  · exact .inl (.inr ⟨o, h⟩)
  · exact .inr h

mutual
/-- v stands for the tree d; as: the addresses of its tracked lists -/
inductive DpR (K : PySem.W.Frag) (H : Hp) : V → D → List Addr → Prop
  | non : DpR K H .non .none []
  | bl (b : Bool) : DpR K H (.bl b) (.bool b) []
  | int (i : Int) : DpR K H (.int i) (.int i) []
  | str (x : Str) : DpR K H (.str x) (.str x) []
  | lst {a : Addr} {xs : List V} {ds : List D} {as : List Addr} : H a = some (.lst xs) → DpRs K H xs ds as → DpR K H (.ref a) (.list ds) (a :: as)
  | tup {a : Addr} {xs : List V} {ds : List D} {as : List Addr} : SqT K H a xs → DpRs K H xs ds as → DpR K H (.ref a) (.tuple ds) as
inductive DpRs (K : PySem.W.Frag) (H : Hp) : List V → List D → List Addr → Prop
  | nil : DpRs K H [] [] []
  | cons {v : V} {vs : List V} {d : D} {ds : List D} {as bs : List Addr} : DpR K H v d as → DpRs K H vs ds bs → DpRs K H (v :: vs) (d :: ds) (as ++ bs)
end

/-- tuples and locked things stay -/
def Fix (H H' : Hp) : Prop := (∀ a xs, H a = some (.tup xs) → H' a = some (.tup xs)) ∧ ∀ a o u, H a = some (.frz o u) → H' a = some (.frz o u)
theorem Fix.of {H H' : Hp} (s : Same H H') : Fix H H' := ⟨fun a xs h => s a _ h, fun a o u h => s a _ h⟩
theorem Fix.sqT {K : PySem.W.Frag} {H H' : Hp} (f : Fix H H') {a : Addr} {xs : List V} (h : SqT K H a xs) : SqT K H' a xs := by
  rcases h with (h | ⟨o, h⟩) | h
  · exact .inl (.inl (f.1 _ _ h))
  · exact .inl (.inr ⟨o, f.2 _ _ _ h⟩)
  · exact .inr h
theorem Fix.extL {K : PySem.W.Frag} {H H' : Hp} (f : Fix H H') {a : Addr} {xs : List V} (h : ExtL K H a xs) : ExtL K H' a xs := by
  rcases h with ⟨o, h⟩ | h
  · exact .inl ⟨o, f.2 _ _ _ h⟩
  · exact .inr h

mutual
theorem DpR.keep {K : PySem.W.Frag} {H H' : Hp} (f : Fix H H') : ∀ {v : V} {d : D} {as : List Addr}, DpR K H v d as → (∀ a ∈ as, ∀ xs, H a = some (.lst xs) → H' a = some (.lst xs)) → DpR K H' v d as
  | _, _, _, .non, _ => .non
  | _, _, _, .bl b, _ => .bl b
  | _, _, _, .int i, _ => .int i
  | _, _, _, .str x, _ => .str x
  | _, _, _, .lst h r, k => .lst (k _ List.mem_cons_self _ h) (DpRs.keep f r fun a ha => k a (List.mem_cons_of_mem _ ha))
  | _, _, _, .tup h r, k => .tup (f.sqT h) (DpRs.keep f r k)
theorem DpRs.keep {K : PySem.W.Frag} {H H' : Hp} (f : Fix H H') : ∀ {v : List V} {d : List D} {as : List Addr}, DpRs K H v d as → (∀ a ∈ as, ∀ xs, H a = some (.lst xs) → H' a = some (.lst xs)) → DpRs K H' v d as
  | _, _, _, .nil, _ => .nil
  | _, _, _, .cons r s, k => .cons (DpR.keep f r fun a ha => k a (List.mem_append_left _ ha)) (DpRs.keep f s fun a ha => k a (List.mem_append_right _ ha))
end
mutual
/-- a tree without lists -/
theorem DpR.imm {K : PySem.W.Frag} {H : Hp} : ∀ {v : V} {d : D} {as : List Addr}, DpR K H v d as → PV.imm d = true → as = []
  | _, _, _, .non, _ => rfl
  | _, _, _, .bl b, _ => rfl
  | _, _, _, .int i, _ => rfl
  | _, _, _, .str x, _ => rfl
  | _, _, _, .lst h r, e => by simp [PV.imm] at e
  | _, _, _, .tup h r, e => by
    simp only [PV.imm] at e
    exact DpRs.imm r e
theorem DpRs.imm {K : PySem.W.Frag} {H : Hp} : ∀ {v : List V} {d : List D} {as : List Addr}, DpRs K H v d as → PV.immAll d = true → as = []
  | _, _, _, .nil, _ => rfl
  | _, _, _, .cons r s, e => by
    simp only [PV.immAll, Bool.and_eq_true] at e
    rw [DpR.imm r e.1, DpRs.imm s e.2]
    rfl
end
mutual
/-- its lists are tracked -/
theorem DpR.trk {K : PySem.W.Frag} {H : Hp} : ∀ {v : V} {d : D} {as : List Addr}, DpR K H v d as → ∀ a ∈ as, ∃ xs, H a = some (.lst xs)
  | _, _, _, .non, _, h => by simp at h
  | _, _, _, .bl b, _, h => by simp at h
  | _, _, _, .int i, _, h => by simp at h
  | _, _, _, .str x, _, h => by simp at h
  | _, _, _, .lst h r, a, ha => by
    rcases List.mem_cons.mp ha with e | ha
    · rw [e]; exact ⟨_, h⟩
    · exact DpRs.trk r a ha
  | _, _, _, .tup h r, a, ha => DpRs.trk r a ha
theorem DpRs.trk {K : PySem.W.Frag} {H : Hp} : ∀ {v : List V} {d : List D} {as : List Addr}, DpRs K H v d as → ∀ a ∈ as, ∃ xs, H a = some (.lst xs)
  | _, _, _, .nil, _, h => by simp at h
  | _, _, _, .cons r s, a, ha => by
    rcases List.mem_append.mp ha with ha | ha
    · exact DpR.trk r a ha
    · exact DpRs.trk s a ha
end
mutual
/-- as the hand layer's data -/
theorem DpR.dp {K : PySem.W.Frag} {H : Hp} : ∀ {v : V} {d : D} {as : List Addr}, DpR K H v d as → Dp K H v d
  | _, _, _, .non => .non
  | _, _, _, .bl b => .bl b
  | _, _, _, .int i => .int i
  | _, _, _, .str x => .str x
  | _, _, _, .lst h r => .lst (SqL.of h) (DpRs.dp r)
  | _, _, _, .tup h r => .tup h (DpRs.dp r)
theorem DpRs.dp {K : PySem.W.Frag} {H : Hp} : ∀ {v : List V} {d : List D} {as : List Addr}, DpRs K H v d as → DpAll K H v d
  | _, _, _, .nil => .nil
  | _, _, _, .cons r s => .cons (DpR.dp r) (DpRs.dp s)
end
mutual
theorem DpR.plain {K : PySem.W.Frag} {H : Hp} : ∀ {v : V} {d : D} {as : List Addr}, DpR K H v d as → d.plain = true
  | _, _, _, .non => rfl
  | _, _, _, .bl b => rfl
  | _, _, _, .int i => rfl
  | _, _, _, .str x => rfl
  | _, _, _, .lst h r => by simp only [PyData.plain]; exact DpRs.plain r
  | _, _, _, .tup h r => by simp only [PyData.plain]; exact DpRs.plain r
theorem DpRs.plain {K : PySem.W.Frag} {H : Hp} : ∀ {v : List V} {d : List D} {as : List Addr}, DpRs K H v d as → PyData.plainAll d = true
  | _, _, _, .nil => rfl
  | _, _, _, .cons r s => by simp only [PyData.plainAll, DpR.plain r, DpRs.plain s, Bool.and_self]
end
theorem DpRs.length {K : PySem.W.Frag} {H : Hp} : ∀ {v : List V} {d : List D} {as : List Addr}, DpRs K H v d as → v.length = d.length
  | _, _, _, .nil => rfl
  | _, _, _, .cons _ s => by simp [DpRs.length s]
/-- an item -/
theorem DpRs.at {K : PySem.W.Frag} {H : Hp} : ∀ {v : List V} {d : List D} {as : List Addr} {i : Nat} {x : V}, DpRs K H v d as → v[i]? = some x → ∃ y bs, d[i]? = some y ∧ DpR K H x y bs ∧ bs.Sublist as
  | _, _, _, _, _, .nil, h => by simp at h
  | _, _, _, 0, x, .cons r s, h => by
    simp at h
    subst h
    exact ⟨_, _, rfl, r, List.sublist_append_left _ _⟩
  | _, _, _, i + 1, x, .cons r s, h => by
    obtain ⟨y, bs, h1, h2, h3⟩ := DpRs.at (i := i) s (by simpa using h)
    exact ⟨y, bs, by simpa using h1, h2, h3.trans (List.sublist_append_right _ _)⟩
theorem DpRs.atD {K : PySem.W.Frag} {H : Hp} {v : List V} {d : List D} {as : List Addr} {i : Nat} {y : D} (r : DpRs K H v d as) (h : d[i]? = some y) : ∃ x bs, v[i]? = some x ∧ DpR K H x y bs ∧ bs.Sublist as := by
  obtain ⟨hi, _⟩ := List.getElem?_eq_some_iff.mp h
  have hv : i < v.length := by rw [r.length]; exact hi
  obtain ⟨y', bs, h1, h2, h3⟩ := r.at (List.getElem?_eq_getElem hv)
  rw [h] at h1
  cases h1
  exact ⟨_, bs, List.getElem?_eq_getElem hv, h2, h3⟩
theorem DpRs.app {K : PySem.W.Frag} {H : Hp} : ∀ {v w : List V} {d e : List D} {as bs : List Addr}, DpRs K H v d as → DpRs K H w e bs → DpRs K H (v ++ w) (d ++ e) (as ++ bs)
  | _, _, _, _, _, _, .nil, s => s
  | _, _, _, _, _, _, .cons r q, s => by
    rw [List.append_assoc]
    exact .cons r (DpRs.app q s)
theorem DpRs.one {K : PySem.W.Frag} {H : Hp} {v : V} {d : D} {as : List Addr} (r : DpR K H v d as) : DpRs K H [v] [d] as := by
  have h := DpRs.cons r (DpRs.nil (K := K) (H := H))
  rwa [List.append_nil] at h
theorem DpRs.ofAll {K : PySem.W.Frag} {H : Hp} : ∀ {v : List V} {d : List D} {N : Addr → Prop}, Paired (fun v d => ∃ as, DpR K H v d as ∧ ∀ a ∈ as, N a) v d → ∃ as, DpRs K H v d as ∧ ∀ a ∈ as, N a
  | _, _, _, .nil => ⟨[], .nil, fun _ h => by simp at h⟩
  | _, _, _, .cons ⟨as, r, h⟩ s => by
    obtain ⟨bs, r2, h2⟩ := DpRs.ofAll s
    exact ⟨as ++ bs, .cons r r2, fun a ha => (List.mem_append.mp ha).elim (h a) (h2 a)⟩
theorem DpRs.toAll {K : PySem.W.Frag} {H : Hp} : ∀ {v : List V} {d : List D} {as : List Addr}, DpRs K H v d as → Paired (fun v d => ∃ bs, DpR K H v d bs ∧ ∀ a ∈ bs, a ∈ as) v d
  | _, _, _, .nil => .nil
  | _, _, _, .cons r s => .cons ⟨_, r, fun a h => List.mem_append_left _ h⟩ (L2.Paired.mapP (DpRs.toAll s) fun v d ⟨bs, r, h⟩ => ⟨bs, r, fun a ha => List.mem_append_right _ (h a ha)⟩)

/-! ### the state -/
/-- what each name owns; what is nobody's to change -/
structure Own where
  sl : Nat → List Addr
  fr : List Addr
instance : CoeFun Own (fun _ => Nat → List Addr) := ⟨Own.sl⟩
def Bd (A : Own) (a : Addr) : Prop := ∃ i, a ∈ A i
/-- S: the names whose lists a borrowed value may hold -/
def CellOk (K : PySem.W.Frag) (H : Hp) (S : List Nat) (A : Own) (i : Nat) (v : V) : Cell → Prop
  | .own d => DpR K H v d (A i) ∧ (A i).Nodup
  | .fz d => ∃ as, DpR K H v d as ∧ ∀ a ∈ as, a ∈ A.fr
  | .bor d => ∃ as, DpR K H v d as ∧ ∀ a ∈ as, ∀ j, j ∉ S → a ∉ A j
  | .scr l => ∃ a, v = .ref a ∧ ExtL K H a (l.map V.int)
structure Rep (K : PySem.W.Frag) (H : Hp) (S : List Nat) (σ : L2.St) (ρ : Env) (A : Own) : Prop where
  cell : ∀ i c, PV.get ρ i = some c → ∃ v, σ[i]? = some (some v) ∧ CellOk K H S A i v c
  disj : ∀ i j a, a ∈ A i → a ∈ A j → i = j
  trk : ∀ i a, a ∈ A i → ∃ xs, H a = some (.lst xs)
  fdis : ∀ a, a ∈ A.fr → ¬ Bd A a
  ftrk : ∀ a, a ∈ A.fr → ∃ xs, H a = some (.lst xs)
  emp : ∀ i, i < ρ.length → (∀ d, PV.get ρ i ≠ some (.own d)) → A i = []
  len : ρ.length ≤ σ.length
/-- what a step may do: it may change what the names own, and make new things -/
structure Stp (H : Hp) (A : Own) (H' : Hp) (A' : Own) : Prop where
  own : ∀ a, Bd A' a → Bd A a ∨ H a = none
  keep : ∀ a o, H a = some o → ¬ Bd A a → H' a = some o
  the : ∀ a, H' a = none → H a = none
  fr : ∀ a, a ∈ A.fr → a ∈ A'.fr
  fro : ∀ a, a ∈ A'.fr → a ∈ A.fr ∨ Bd A a ∨ H a = none
theorem Stp.there {H H' : Hp} {A A' : Own} (s : Stp H A H' A') {K : PySem.W.Frag} {S : List Nat} {σ : L2.St} {ρ : Env} (r : Rep K H S σ ρ A) {a : Addr} (h : H' a = none) : H a = none := s.the a h
theorem Stp.fix {H H' : Hp} {A A' : Own} (s : Stp H A H' A') {K : PySem.W.Frag} {S : List Nat} {σ : L2.St} {ρ : Env} (r : Rep K H S σ ρ A) : Fix H H' := by
  refine ⟨fun a xs h => s.keep a _ h fun ⟨i, hi⟩ => ?_, fun a o u h => s.keep a _ h fun ⟨i, hi⟩ => ?_⟩
  · obtain ⟨ys, e⟩ := r.trk i a hi
    rw [h] at e
    cases e
  · obtain ⟨ys, e⟩ := r.trk i a hi
    rw [h] at e
    cases e
theorem Stp.refl (H : Hp) (A : Own) : Stp H A H A := ⟨fun a h => .inl h, fun a o h _ => h, fun _ h => h, fun _ h => h, fun _ h => .inl h⟩
theorem Stp.trans {K : PySem.W.Frag} {H H1 H2 : Hp} {A A1 A2 : Own} {S : List Nat} {σ : L2.St} {ρ : Env} (r : Rep K H S σ ρ A) (s : Stp H A H1 A1) (t : Stp H1 A1 H2 A2) : Stp H A H2 A2 where
  own := fun a h => (t.own a h).elim (s.own a) fun e => .inr (s.there r e)
  keep := fun a o h n => t.keep a o (s.keep a o h n) fun b => (s.own a b).elim n fun e => by rw [h] at e; cases e
  the := fun a h => s.the a (t.the a h)
  fr := fun a h => t.fr a (s.fr a h)
  fro := fun a h => (t.fro a h).elim (s.fro a) fun h => .inr (h.elim (s.own a) fun e => .inr (s.there r e))
/-- a step that only makes new things -/
theorem same_there {H H' : Hp} (s : Same H H') {a : Addr} (h : H' a = none) : H a = none := by
  cases e : H a with
  | none => rfl
  | some o => have := s a o e; rw [h] at this; cases this
theorem Stp.new {H H' : Hp} {A : Own} (s : Same H H') : Stp H A H' A := ⟨fun a h => .inl h, fun a o h _ => s a o h, fun a h => same_there s h, fun _ h => h, fun _ h => .inl h⟩
/-- what a statement may do -/
structure Stp0 (H : Hp) (A : Own) (H' : Hp) (A' : Own) : Prop where
  own : ∀ a, Bd A' a → Bd A a ∨ H a = none
  keep : ∀ a o, H a = some o → ¬ Bd A a → H' a = some o
  the : ∀ a, H' a = none → H a = none
theorem Stp.z {H H' : Hp} {A A' : Own} (s : Stp H A H' A') : Stp0 H A H' A' := ⟨s.own, s.keep, s.the⟩
theorem Stp0.trans {H H1 H2 : Hp} {A A1 A2 : Own} (s : Stp0 H A H1 A1) (t : Stp0 H1 A1 H2 A2) : Stp0 H A H2 A2 where
  own := fun a h => (t.own a h).elim (s.own a) fun e => .inr (s.the a e)
  keep := fun a o h n => t.keep a o (s.keep a o h n) fun b => (s.own a b).elim n fun e => by rw [h] at e; cases e
  the := fun a h => s.the a (t.the a h)
theorem Stp0.fix {H H' : Hp} {A A' : Own} (s : Stp0 H A H' A') {K : PySem.W.Frag} {S : List Nat} {σ : L2.St} {ρ : Env} (r : Rep K H S σ ρ A) : Fix H H' := by
  refine ⟨fun a xs h => s.keep a _ h fun ⟨i, hi⟩ => ?_, fun a o u h => s.keep a _ h fun ⟨i, hi⟩ => ?_⟩
  · obtain ⟨ys, e⟩ := r.trk i a hi
    rw [h] at e
    cases e
  · obtain ⟨ys, e⟩ := r.trk i a hi
    rw [h] at e
    cases e
theorem Rep.new {K : PySem.W.Frag} {H H' : Hp} {S : List Nat} {σ : L2.St} {ρ : Env} {A : Own} (r : Rep K H S σ ρ A) (s : Same H H') : Rep K H' S σ ρ A where
  cell := fun i c h => by
    obtain ⟨v, e, k⟩ := r.cell i c h
    refine ⟨v, e, ?_⟩
    cases c with
    | own d => exact ⟨k.1.keep (Fix.of s) fun a _ xs h => s a _ h, k.2⟩
    | fz d =>
      obtain ⟨as, k1, k2⟩ := k
      exact ⟨as, k1.keep (Fix.of s) fun a _ xs h => s a _ h, k2⟩
    | bor d =>
      obtain ⟨as, k1, k2⟩ := k
      exact ⟨as, k1.keep (Fix.of s) (fun a _ xs h => s a _ h), k2⟩
    | scr l =>
      obtain ⟨a, e1, k1⟩ := k
      exact ⟨a, e1, (Fix.of s).extL k1⟩
  disj := r.disj
  trk := fun i a h => by
    obtain ⟨xs, e⟩ := r.trk i a h
    exact ⟨xs, s a _ e⟩
  fdis := r.fdis
  ftrk := fun a h => by
    obtain ⟨xs, e⟩ := r.ftrk a h
    exact ⟨xs, s a _ e⟩
  emp := r.emp
  len := r.len
/-- what an expression hands back -/
def RVal (K : PySem.W.Frag) (H : Hp) (A : Own) (H' : Hp) (A' : Own) (vs : List Nat) (v : V) (r : R) : Prop :=
  (r.1 = true ∧ ∃ as, DpR K H' v r.2 as ∧ as.Nodup ∧ (∀ a ∈ as, ¬ Bd A' a ∧ a ∉ A'.fr) ∧ ∀ a ∈ as, Bd A a ∨ H a = none) ∨
  (r.1 = false ∧ ∃ as, DpR K H' v r.2 as ∧ ∀ a ∈ as, ∀ i, i ∉ vs → a ∉ A' i)
theorem RVal.any {K : PySem.W.Frag} {H H' : Hp} {A A' : Own} {vs : List Nat} {v : V} {r : R} (h : RVal K H A H' A' vs v r) : ∃ as, DpR K H' v r.2 as ∧ ∀ a ∈ as, ∀ i, i ∉ vs → a ∉ A' i := by
  rcases h with ⟨_, as, h1, _, h3, _⟩ | ⟨_, h⟩
  · exact ⟨as, h1, fun a ha i _ hi => (h3 a ha).1 ⟨i, hi⟩⟩
  · exact h
/-- a value without lists -/
theorem RVal.of_imm {K : PySem.W.Frag} {H H' : Hp} {A A' : Own} {vs : List Nat} {v : V} {b : Bool} {d : D} {as : List Addr} (h : DpR K H' v d as) (hi : imm d = true) : RVal K H A H' A' vs v (b, d) := by
  have e := h.imm hi
  subst e
  cases b with
  | true => exact .inl ⟨rfl, [], h, .nil, fun _ h => by simp at h, fun _ h => by simp at h⟩
  | false => exact .inr ⟨rfl, [], h, fun _ h => by simp at h⟩
end PV
set_option Elab.async false
set_option linter.all false
set_option maxRecDepth 100000
set_option maxHeartbeats 4000000
/-! PVT: tuple * int, all cases. -/
namespace PV
open PySem PySem.Spec PyProof.Rows L2
theorem tuple_mulS (l : Addr) (items : Array Value) (n : Nat) (dd : Option Addr) (sl : Array (Option Value)) (x : Int) (u : Tok) (c0 : (decide (x < -(2 ^ 63)) || decide (x ≥ 2 ^ 63)) = false) (c1 : (items.isEmpty || x == 1) = true) :
    Meets (Builtin.«tuple.__mul__» ⟨[.ref l, .int x u], []⟩) (fun _ R s => s.heap.get? l = some { cls := .type "tuple", dict := dd, data := .seq items n, slots := sl } ∧ R (.ok (.ret (Value.ref l))) s) :=
  .of_wp fun prog w A R s h => by
    obtain ⟨hp, g, d, tk, os⟩ := s
    obtain ⟨hl, h⟩ := h
    have f1 := AutoSeq1.idx_int
    wp_walk using wpAny_loadPart' hl
    repeat (first
      | (refine wpAny_ite_false (decide_eq_false (by rw [c0]; exact Bool.false_ne_true)) ?_; wp_walk using wpAny_loadPart' hl)
      | (refine wpAny_ite_true (decide_eq_true (by rw [c1])) ?_; wp_walk using wpAny_loadPart' hl))
    exact ⟨_, rfl, h⟩
theorem tuple_mul0 (l : Addr) (items : Array Value) (n : Nat) (dd : Option Addr) (sl : Array (Option Value)) (x : Int) (u : Tok) (c0 : (decide (x < -(2 ^ 63)) || decide (x ≥ 2 ^ 63)) = false) (c1 : (items.isEmpty || x == 1) = false) (c2 : (decide (x ≤ 0) || items.isEmpty) = true) :
    Meets (Builtin.«tuple.__mul__» ⟨[.ref l, .int x u], []⟩) (fun _ R s => s.heap.get? l = some { cls := .type "tuple", dict := dd, data := .seq items n, slots := sl } ∧
      R (.ok (.ret (Value.ref s.heap.objs.size))) { s with heap := s.heap.push { cls := Value.type "tuple", data := Data.seq #[] }, toks := s.toks }) :=
  .of_wp fun prog w A R s h => by
    obtain ⟨hp, g, d, tk, os⟩ := s
    obtain ⟨hl, h⟩ := h
    have f1 := AutoSeq1.idx_int
    wp_walk using wpAny_loadPart' hl
    repeat (first
      | (refine wpAny_ite_false (decide_eq_false (by rw [c0]; exact Bool.false_ne_true)) ?_; wp_walk using wpAny_loadPart' hl)
      | (refine wpAny_ite_false (decide_eq_false (by rw [c1]; exact Bool.false_ne_true)) ?_; wp_walk using wpAny_loadPart' hl)
      | (refine wpAny_ite_true (decide_eq_true (by rw [c2])) ?_; wp_walk using wpAny_loadPart' hl))
    exact ⟨_, rfl, h⟩
def rRepA (K : PySem.W.Frag) : R2 := fun x y H Q => ∃ l k xs, x = .ref l ∧ y = .int k ∧ SqT K H l xs ∧ -(2 ^ 63) ≤ k ∧ k ≤ 1000 ∧ xs.length ≤ 1000 ∧ ((xs = [] ∨ k = 1) → Q (.ref l) H) ∧ (¬ (xs = [] ∨ k = 1) → ∀ p, H p = none → Q (.ref p) (upd H p (.tup (List.replicate k.toNat xs).flatten)))
theorem op_repA {X : Cx} : OpR X (binaryOp .Mult) (rRepA X.K) := by
  intro pins s σ H x y v u Q I rx ry h
  obtain ⟨l, k, xs, rfl, rfl, hT, hk0, h2, hz, qs, qn⟩ := h
  by_cases hb : 2 ≤ k ∧ xs ≠ []
  · exact op_repT pins s σ H _ _ v u Q I rx ry ⟨l, k, xs, rfl, rfl, hT, hb.2, hb.1, h2, hz, qn (fun q => q.elim hb.2 (by omega))⟩
  have rx' := rx
  cases rx
  obtain ⟨t, rfl⟩ := ry
  obtain ⟨its, r, ⟨⟨cls, dd, data, sl⟩, ho, hc, n, hd⟩, hs⟩ := I.tuple hT
  simp only at hc hd
  subst hc hd
  have hle : its.length = xs.length := r.length.symm
  have c0 : (decide (k < -(2 ^ 63)) || decide (k ≥ 2 ^ 63)) = false := by
    rw [decide_eq_false (by omega), decide_eq_false (by omega)] <;> rfl
  by_cases hs1 : xs = [] ∨ k = 1
  · have c1 : (its.toArray.isEmpty || k == 1) = true := by
      rcases hs1 with e | e
      · subst e
        have : its = [] := List.eq_nil_of_length_eq_zero hle
        subst this
        rfl
      · subst e
        simp
    refine wpAny_binaryOp_repeat_ref (T := "tuple") (U := "int") (by decide) ⟨_, ho, rfl⟩ (fun s' => typeIs_int s' k t) noFill_tuple_mul F.fills_int_mul F.slot_int_rmul repeat_tuple F.slot_int_index.lookup
      (call_meets F.slot_int_rmul (typeIs_int s k t) F.entry_int_rmul (F.args_int_rmul_2 _ _) (int_rmul_tuple k t l its.toArray n dd sl)
        ⟨ho, rfl, ⟨_, ho, rfl⟩, call_meets F.slot_tuple_mul ⟨_, ho, rfl⟩ F.entry_tuple_mul (F.args_tuple_mul_2 _ _) (tuple_mulS l its.toArray n dd sl k t c0 c1) ⟨ho, ?_⟩⟩)
    exact ⟨.ref l, _, I, rx', qs hs1⟩
  · have hk1 : k ≤ 0 := by
      by_cases hx : xs = []
      · exact absurd (.inl hx) hs1
      · have : k ≠ 1 := fun e => hs1 (.inr e)
        have : ¬ 2 ≤ k := fun e => hb ⟨e, hx⟩
        omega
    have hn : its ≠ [] := fun e => hs1 (.inl (by
      rw [e] at hle
      exact List.eq_nil_of_length_eq_zero hle.symm))
    have hi : its.toArray.isEmpty = false := by
      cases its with
      | nil => exact absurd rfl hn
      | cons a b => rfl
    have c1 : (its.toArray.isEmpty || k == 1) = false := by
      rw [hi, Bool.false_or]
      exact beq_eq_false_iff_ne.mpr (by omega)
    have c2 : (decide (k ≤ 0) || its.toArray.isEmpty) = true := by
      rw [decide_eq_true hk1, Bool.true_or]
    have k0 : k.toNat = 0 := by omega
    refine wpAny_binaryOp_repeat_ref (T := "tuple") (U := "int") (by decide) ⟨_, ho, rfl⟩ (fun s' => typeIs_int s' k t) noFill_tuple_mul F.fills_int_mul F.slot_int_rmul repeat_tuple F.slot_int_index.lookup
      (call_meets F.slot_int_rmul (typeIs_int s k t) F.entry_int_rmul (F.args_int_rmul_2 _ _) (int_rmul_tuple k t l its.toArray n dd sl)
        ⟨ho, rfl, ⟨_, ho, rfl⟩, call_meets F.slot_tuple_mul ⟨_, ho, rfl⟩ F.entry_tuple_mul (F.args_tuple_mul_2 _ _) (tuple_mul0 l its.toArray n dd sl k t c0 c1 c2) ⟨ho, ?_⟩⟩)
    have qn' := qn hs1
    rw [k0] at qn'
    refine ⟨.ref s.heap.objs.size, _, I.laid (t' := s.toks) (o := .tup []) (fun b ob q => Heap.get?_push_of_some _ q) (Nat.le_refl _) ?_, rfl, qn' _ (I.hok.fresh (Nat.le_refl _))⟩
    exact ⟨by simp, _, .nil, IsTup.new _ _⟩
end PV
set_option Elab.async false
set_option linter.all false
set_option maxRecDepth 100000
set_option maxHeartbeats 1000000
/-! PV2: the operations by values hold in the model. -/
namespace PV
open PySem PySem.Spec PyProof.Rows L2

/-- what an operation hands back: new, or made of the operands' lists -/
def OpV (K : PySem.W.Frag) (H H' : Hp) (N : Addr → Prop) (z : V) (d : D) : Prop :=
  (flat d = true ∧ ∃ cs, DpR K H' z d cs ∧ cs.Nodup ∧ ∀ a ∈ cs, H a = none) ∨ (flat d = false ∧ ∃ cs, DpR K H' z d cs ∧ ∀ a ∈ cs, N a ∨ H a = none)
def OpQ (K : PySem.W.Frag) (H : Hp) (N : Addr → Prop) (d : D) (Q : VK) : Prop := ∀ z H', Same H H' → OpV K H H' N z d → Q z H'
theorem OpV.imm {K : PySem.W.Frag} {H H' : Hp} {N : Addr → Prop} {z : V} {d : D} {as : List Addr} (h : DpR K H' z d as) (hi : PV.imm d = true) : OpV K H H' N z d := by
  have hf : flat d = true := by cases d <;> first | exact hi | (simp [PV.imm] at hi)
  exact .inl ⟨hf, [], by rw [← h.imm hi]; exact h, .nil, fun _ h => by simp at h⟩
theorem OpQ.int {K : PySem.W.Frag} {H : Hp} {N : Addr → Prop} {i : Int} {Q : VK} (h : OpQ K H N (.int i) Q) : Q (.int i) H := h _ H (Same.refl H) (.imm (.int i) rfl)
theorem OpQ.bl {K : PySem.W.Frag} {H : Hp} {N : Addr → Prop} {i : Bool} {Q : VK} (h : OpQ K H N (.bool i) Q) : Q (.bl i) H := h _ H (Same.refl H) (.imm (.bl i) rfl)
theorem OpQ.str {K : PySem.W.Frag} {H : Hp} {N : Addr → Prop} {i : Str} {Q : VK} (h : OpQ K H N (.str i) Q) : Q (.str i) H := h _ H (Same.refl H) (.imm (.str i) rfl)
theorem same_upd {H : Hp} {p : Addr} {o : HO} (h : H p = none) : Same H (upd H p o) := fun b x e => by
  rw [upd_ne (ne_of_none e h)]
  exact e
theorem DpRs.new {K : PySem.W.Frag} {H : Hp} {p : Addr} {o : HO} (h : H p = none) {v : List V} {d : List D} {as : List Addr} (r : DpRs K H v d as) : DpRs K (upd H p o) v d as :=
  r.keep (Fix.of (same_upd h)) fun a _ xs e => same_upd h a _ e
theorem DpR.new {K : PySem.W.Frag} {H : Hp} {p : Addr} {o : HO} (h : H p = none) {v : V} {d : D} {as : List Addr} (r : DpR K H v d as) : DpR K (upd H p o) v d as :=
  r.keep (Fix.of (same_upd h)) fun a _ xs e => same_upd h a _ e
/-- a new list of items -/
theorem OpQ.lst {K : PySem.W.Frag} {H : Hp} {N : Addr → Prop} {ds : List D} {Q : VK} (h : OpQ K H N (.list ds) Q) {vs : List V} {as : List Addr} (r : DpRs K H vs ds as) (hn : ∀ a ∈ as, N a) :
    ∀ p, H p = none → Q (.ref p) (upd H p (.lst vs)) := fun p hp => by
  refine h _ _ (same_upd hp) ?_
  by_cases hi : immAll ds = true
  · have e := r.imm hi
    subst e
    refine .inl ⟨hi, [p], ?_, by simp, fun a ha => ?_⟩
    · exact .lst upd_same (r.new hp)
    · simp at ha; rw [ha]; exact hp
  · refine .inr ⟨by simpa [flat] using hi, p :: as, .lst upd_same (r.new hp), fun a ha => ?_⟩
    rcases List.mem_cons.mp ha with e | ha
    · rw [e]; exact .inr hp
    · exact .inl (hn a ha)
/-- a new tuple of items -/
theorem OpQ.tup {K : PySem.W.Frag} {H : Hp} {N : Addr → Prop} {ds : List D} {Q : VK} (h : OpQ K H N (.tuple ds) Q) {vs : List V} {as : List Addr} (r : DpRs K H vs ds as) (hn : ∀ a ∈ as, N a) :
    ∀ p, H p = none → Q (.ref p) (upd H p (.tup vs)) := fun p hp => by
  refine h _ _ (same_upd hp) ?_
  have r3 : DpR K (upd H p (.tup vs)) (.ref p) (.tuple ds) as := .tup (.inl (.inl upd_same)) (r.new hp)
  by_cases hi : immAll ds = true
  · exact .imm r3 hi
  · exact .inr ⟨by simpa [flat, imm] using hi, as, r3, fun a ha => .inl (hn a ha)⟩
/-- a value that stands already -/
theorem OpQ.old {K : PySem.W.Frag} {H : Hp} {N : Addr → Prop} {d : D} {Q : VK} (h : OpQ K H N d Q) {v : V} {as : List Addr} (r : DpR K H v d as) (hn : ∀ a ∈ as, N a) (hd : ∀ l, d ≠ .list l) : Q v H := by
  refine h _ H (Same.refl H) ?_
  by_cases hi : imm d = true
  · exact .imm r hi
  · refine .inr ⟨?_, as, r, fun a ha => .inl (hn a ha)⟩
    cases d with
    | list l => exact absurd rfl (hd l)
    | tuple l => simpa [flat] using hi
    | none => exact absurd rfl hi
    | bool b => exact absurd rfl hi
    | int b => exact absurd rfl hi
    | str b => exact absurd rfl hi
    | dict b => cases r

/-- an operation on two operands, by their trees -/
def r2 (K : PySem.W.Frag) (o : D → D → Res D) : R2 := fun x y H Q => ∃ dx dy as bs d, DpR K H x dx as ∧ DpR K H y dy bs ∧ o dx dy = .ok d ∧ OpQ K H (fun a => a ∈ as ∨ a ∈ bs) d Q
theorem sl_of {X : Cx} {pins : List (Addr × Obj)} {σ : L2.St} {H : Hp} {s : Shared} {v : V} {u : Value} {d : D} {as : List Addr} (I : Inv X pins σ H s) (r : DpR X.K H v d as) (e : RelV v u) : ∃ as, Reads s.heap u d as := Dp.reads I d v u r.dp e
theorem DpR.tuple_inv {K : PySem.W.Frag} {H : Hp} {v : V} {ds : List D} {as : List Addr} (r : DpR K H v (.tuple ds) as) : ∃ a xs, v = .ref a ∧ SqT K H a xs ∧ DpRs K H xs ds as := by
  cases r with
  | tup h r => exact ⟨_, _, rfl, h, r⟩
theorem DpR.list_inv {K : PySem.W.Frag} {H : Hp} {v : V} {ds : List D} {as : List Addr} (r : DpR K H v (.list ds) as) :
    ∃ a xs bs, v = .ref a ∧ DpRs K H xs ds bs ∧ H a = some (.lst xs) ∧ as = a :: bs := by
  cases r with
  | lst h r => exact ⟨_, _, _, rfl, r, h, rfl⟩

section
variable {X : Cx}
/-- a list laid as new from two lists (the library's own rule wants both tracked): + -/
theorem o_add : OpR X (binaryOp .Add) (r2 X.K (op2 .add)) := by
  intro pins s σ H x y v u Q I rx ry ⟨dx, dy, as, bs, d, hx, hy, ho, q⟩
  cases dx <;> cases dy <;> try (simp only [op2] at ho; cases ho; done)
  · -- ints
    cases hx; cases hy; simp only [op2] at ho; cases ho
    exact op_add pins s σ H _ _ v u Q I rx ry ⟨_, _, rfl, rfl, q.int⟩
  · -- texts
    cases hx; cases hy; simp only [op2] at ho
    split at ho
    · rename_i hl
      cases ho
      exact op_add_str pins s σ H _ _ v u Q I rx ry ⟨_, _, rfl, rfl, by simpa [lenOk] using hl, q.str⟩
    · cases ho
  · -- lists
    rename_i l1 l2
    simp only [op2] at ho
    split at ho
    · rename_i hl
      cases ho
      obtain ⟨a, xs, b1, rfl, r1, h1, e1⟩ := hx.list_inv
      obtain ⟨b, ys, b2, rfl, r2', h2, e2⟩ := hy.list_inv
      refine op_cat pins s σ H _ _ v u Q I rx ry ⟨a, b, xs, ys, rfl, rfl, h1, h2, ?_, ?_⟩
      · rw [r1.length, r2'.length]; simpa [lenOk] using hl
      · refine q.lst (r1.app r2') fun c hc => ?_
        rw [e1, e2]
        rcases List.mem_append.mp hc with hc | hc
        · exact .inl (List.mem_cons_of_mem _ hc)
        · exact .inr (List.mem_cons_of_mem _ hc)
    · cases ho
  · -- tuples
    rename_i l1 l2
    simp only [op2] at ho
    split at ho
    · rename_i hl
      cases ho
      obtain ⟨a, xs, rfl, h1, r1⟩ := hx.tuple_inv
      obtain ⟨b, ys, rfl, h2, r2'⟩ := hy.tuple_inv
      refine op_catA pins s σ H _ _ v u Q I rx ry ⟨a, b, xs, ys, rfl, rfl, h1, h2, ?_, fun e => ?_, fun _ e => ?_, fun _ _ => ?_⟩
      · rw [r1.length, r2'.length]; simpa [lenOk] using hl
      · subst e
        cases r1
        simp only [List.nil_append] at q
        exact q.old hy (fun c hc => .inr hc) (fun l e => by cases e)
      · subst e
        cases r2'
        simp only [List.append_nil] at q
        exact q.old hx (fun c hc => .inl hc) (fun l e => by cases e)
      · refine q.tup (r1.app r2') fun c hc => List.mem_append.mp hc
    · cases ho
theorem o_sub : OpR X (binaryOp .Sub) (r2 X.K (op2 .sub)) := by
  intro pins s σ H x y v u Q I rx ry ⟨dx, dy, as, bs, d, hx, hy, ho, q⟩
  cases dx <;> cases dy <;> try (simp only [op2] at ho; cases ho; done)
  cases hx; cases hy; simp only [op2] at ho; cases ho
  exact op_sub pins s σ H _ _ v u Q I rx ry ⟨_, _, rfl, rfl, q.int⟩
theorem log2_of {n k : Nat} (h : n < 2 ^ k) (hk : 0 < k) : n.log2 < k := PySem.Flt.log2_lt_of hk h
theorem o_mul : OpR X (binaryOp .Mult) (r2 X.K (op2 .mul)) := by
  intro pins s σ H x y v u Q I rx ry ⟨dx, dy, as, bs, d, hx, hy, ho, q⟩
  cases dx <;> cases dy <;> try (simp only [op2] at ho; cases ho; done)
  · cases hx; cases hy; simp only [op2] at ho
    split at ho
    · rename_i hm
      cases ho
      simp only [mulOk, Bool.or_eq_true, decide_eq_true_eq] at hm
      rcases hm with (hm | hm) | hm
      · exact op_mul pins s σ H _ _ v u Q I rx ry ⟨_, _, rfl, rfl, .inl hm, q.int⟩
      · exact op_mul pins s σ H _ _ v u Q I rx ry ⟨_, _, rfl, rfl, .inr hm, q.int⟩
      · refine op_mulW pins s σ H _ _ v u Q I rx ry ⟨_, _, rfl, rfl, ?_, q.int⟩
        exact wide_mul hm.1 hm.2 (by decide) (by decide) (by decide)
    · cases ho
  · rename_i l k
    cases hy; simp only [op2] at ho
    split at ho
    · rename_i hl
      cases ho
      obtain ⟨a, xs, b1, rfl, r1, h1, e1⟩ := hx.list_inv
      simp only [Bool.and_eq_true, lenOk, decide_eq_true_eq] at hl
      have len := r1.length
      refine op_rep pins s σ H _ _ v u Q I rx ry ⟨a, k, xs, rfl, rfl, h1, hl.2.1, hl.2.2, by rw [len]; exact hl.1, ?_⟩
      have rep : ∀ n : Nat, ∃ cs, DpRs X.K H (List.replicate n xs).flatten (List.replicate n l).flatten cs ∧ ∀ a ∈ cs, a ∈ b1 := fun n => by
        induction n with
        | zero => exact ⟨[], .nil, fun _ h => by simp at h⟩
        | succ n ih =>
          obtain ⟨cs, h1, h2⟩ := ih
          simp only [List.replicate_succ, List.flatten_cons]
          exact ⟨b1 ++ cs, r1.app h1, fun a ha => (List.mem_append.mp ha).elim id (h2 a)⟩
      obtain ⟨cs, r3, h3⟩ := rep k.toNat
      exact q.lst r3 fun a ha => .inl (by rw [e1]; exact List.mem_cons_of_mem _ (h3 a ha))
    · cases ho
  · rename_i l k
    cases hy; simp only [op2] at ho
    split at ho
    · rename_i hl
      cases ho
      obtain ⟨a, xs, rfl, h1, r1⟩ := hx.tuple_inv
      simp only [decide_eq_true_eq] at hl
      have len := r1.length
      refine op_repA pins s σ H _ _ v u Q I rx ry ⟨a, k, xs, rfl, rfl, h1, hl.2.1, hl.2.2, by omega, fun e => ?_, fun _ => ?_⟩
      · have e2 : (List.replicate k.toNat l).flatten = l := by
          rcases e with e | e
          · subst e
            have : l = [] := List.eq_nil_of_length_eq_zero len.symm
            subst this
            simp
          · subst e; simp
        rw [e2] at q
        exact q.old hx (fun c hc => .inl hc) (fun l e => by cases e)
      have rep : ∀ n : Nat, ∃ cs, DpRs X.K H (List.replicate n xs).flatten (List.replicate n l).flatten cs ∧ ∀ a ∈ cs, a ∈ as := fun n => by
        induction n with
        | zero => exact ⟨[], .nil, fun _ h => by simp at h⟩
        | succ n ih =>
          obtain ⟨cs, h1, h2⟩ := ih
          simp only [List.replicate_succ, List.flatten_cons]
          exact ⟨as ++ cs, r1.app h1, fun a ha => (List.mem_append.mp ha).elim id (h2 a)⟩
      obtain ⟨cs, r3, h3⟩ := rep k.toNat
      exact q.tup r3 fun a ha => .inl (h3 a ha)
    · cases ho
theorem o_fdiv : OpR X (binaryOp .FloorDiv) (r2 X.K (op2 .fdiv)) := by
  intro pins s σ H x y v u Q I rx ry ⟨dx, dy, as, bs, d, hx, hy, ho, q⟩
  cases dx <;> cases dy <;> try (simp only [op2] at ho; cases ho; done)
  rename_i i j
  cases hx; cases hy; simp only [op2] at ho
  split at ho
  · rename_i hm
    cases ho
    simp only [divOk, Bool.or_eq_true, decide_eq_true_eq] at hm
    rcases hm with hm | hm
    · exact op_fdivN pins s σ H _ _ v u Q I rx ry ⟨_, _, rfl, rfl, hm, q.int⟩
    · refine op_fdivW pins s σ H _ _ v u Q I rx ry ⟨_, _, rfl, rfl, wide_div (b := 9000) hm.1 ?_ (by decide) (by decide), ?_⟩
      · have h9 : ((2 : Int) ^ 9000) = ((2 ^ 9000 : Nat) : Int) := by norm_cast
        rw [h9] at hm
        have := hm.2
        omega
      · have := q.int
        rwa [Int.fdiv_eq_ediv_of_nonneg _ (Int.le_of_lt hm.1)] at this
  · cases ho
theorem o_mod : OpR X (binaryOp .Mod) (r2 X.K (op2 .mod)) := by
  intro pins s σ H x y v u Q I rx ry ⟨dx, dy, as, bs, d, hx, hy, ho, q⟩
  cases dx <;> cases dy <;> try (simp only [op2] at ho; cases ho; done)
  cases hx; cases hy; simp only [op2] at ho
  split at ho
  · cases ho
  · rename_i hm
    cases ho
    exact op_modN pins s σ H _ _ v u Q I rx ry ⟨_, _, rfl, rfl, hm, q.int⟩
theorem o_pow : OpR X (binaryOp .Pow) (r2 X.K (op2 .pow)) := by
  intro pins s σ H x y v u Q I rx ry ⟨dx, dy, as, bs, d, hx, hy, ho, q⟩
  cases dx <;> cases dy <;> try (simp only [op2] at ho; cases ho; done)
  cases hx; cases hy; simp only [op2] at ho
  split at ho
  · rename_i hm
    cases ho
    exact op_pow pins s σ H _ _ v u Q I rx ry ⟨_, _, rfl, rfl, hm, q.int⟩
  · cases ho
theorem ep_bl {pins : List (Addr × Obj)} {σ : L2.St} {H : Hp} {s : Shared} {Q : VK} {k : Bool} (I : Inv X pins σ H s) (q : Q (.bl k) H) : EP X pins σ Q (.bool k) s := ⟨.bl k, H, I, rfl, q⟩
variable (hu : X.A.units + 64 < cLine)
include hu
theorem o_eq : OpR X (compareOp .Eq) (r2 X.K (op2 .eq)) := by
  intro pins s σ H x y v u Q I rx ry ⟨dx, dy, as, bs, d, hx, hy, ho, q⟩
  simp only [op2, eqD] at ho
  split at ho
  · rename_i hd
    cases ho
    obtain ⟨c1, R1⟩ := sl_of I hx rx
    obtain ⟨c2, R2⟩ := sl_of I hy ry
    exact PySem.SeqAt.eq_plain R1 R2 hx.plain hy.plain (by omega) (ep_bl I q.bl)
  · cases ho
theorem o_ne : OpR X (compareOp .NotEq) (r2 X.K (op2 .ne)) := by
  intro pins s σ H x y v u Q I rx ry ⟨dx, dy, as, bs, d, hx, hy, ho, q⟩
  simp only [op2, eqD] at ho
  split at ho
  · rename_i hd
    cases ho
    obtain ⟨c1, R1⟩ := sl_of I hx rx
    obtain ⟨c2, R2⟩ := sl_of I hy ry
    exact PySem.SeqAt.ne_plain R1 R2 hx.plain hy.plain (by omega) (ep_bl I q.bl)
  · cases ho
theorem ltOk_inv {a b : D} (h : ltOk a b = true) : PySem.W.alike a b = true ∧ a ≠ .none ∧ min a.depth b.depth ≤ 60 := by
  simp only [ltOk, Bool.and_eq_true, decide_eq_true_eq] at h
  refine ⟨h.1.1, fun e => ?_, h.1.2⟩
  subst e
  exact absurd h.2 (by decide)
theorem o_lt : OpR X (compareOp .Lt) (r2 X.K (op2 .lt)) := by
  intro pins s σ H x y v u Q I rx ry ⟨dx, dy, as, bs, d, hx, hy, ho, q⟩
  have go : (if ltOk dx dy then Res.ok (PyData.bool (PySem.W.dataLt dx dy)) else .stuck) = .ok d → wpAny (model X.prog X.w) X.A (compareOp .Lt v u) (EP X pins σ Q) X.xe s := fun ho => by
    split at ho
    · rename_i hd
      cases ho
      obtain ⟨h1, h2, h3⟩ := ltOk_inv hu hd
      obtain ⟨c1, R1⟩ := sl_of I hx rx
      obtain ⟨c2, R2⟩ := sl_of I hy ry
      exact PySem.W.lt_data R1 R2 h1 h2 (by omega) (ep_bl I q.bl)
    · cases ho
  cases dx <;> cases dy <;> first | (exact go ho) | skip
  cases hx; cases hy; simp only [op2] at ho; cases ho
  exact op_lt pins s σ H _ _ v u Q I rx ry ⟨_, _, rfl, rfl, q.bl⟩
theorem o_gt : OpR X (compareOp .Gt) (r2 X.K (op2 .gt)) := by
  intro pins s σ H x y v u Q I rx ry ⟨dx, dy, as, bs, d, hx, hy, ho, q⟩
  have go : (if ltOk dx dy then Res.ok (PyData.bool (PySem.W.dataLt dy dx)) else .stuck) = .ok d → wpAny (model X.prog X.w) X.A (compareOp .Gt v u) (EP X pins σ Q) X.xe s := fun ho => by
    split at ho
    · rename_i hd
      cases ho
      obtain ⟨h1, h2, h3⟩ := ltOk_inv hu hd
      obtain ⟨c1, R1⟩ := sl_of I hx rx
      obtain ⟨c2, R2⟩ := sl_of I hy ry
      exact PySem.W.gt_data R1 R2 h1 h2 (by omega) (ep_bl I q.bl)
    · cases ho
  cases dx <;> cases dy <;> first | (exact go ho) | skip
  cases hx; cases hy; simp only [op2] at ho; cases ho
  exact op_gt pins s σ H _ _ v u Q I rx ry ⟨_, _, rfl, rfl, q.bl⟩
theorem o_le : OpR X (compareOp .LtE) (r2 X.K (op2 .le)) := by
  intro pins s σ H x y v u Q I rx ry ⟨dx, dy, as, bs, d, hx, hy, ho, q⟩
  have go : (if ltOk dx dy then Res.ok (PyData.bool (!PySem.W.dataLt dy dx)) else .stuck) = .ok d → wpAny (model X.prog X.w) X.A (compareOp .LtE v u) (EP X pins σ Q) X.xe s := fun ho => by
    split at ho
    · rename_i hd
      cases ho
      obtain ⟨h1, h2, h3⟩ := ltOk_inv hu hd
      obtain ⟨c1, R1⟩ := sl_of I hx rx
      obtain ⟨c2, R2⟩ := sl_of I hy ry
      exact PySem.W.le_data R1 R2 h1 h2 (by omega) (ep_bl I q.bl)
    · cases ho
  cases dx <;> cases dy <;> first | (exact go ho) | skip
  cases hx; cases hy; simp only [op2] at ho; cases ho
  exact op_le pins s σ H _ _ v u Q I rx ry ⟨_, _, rfl, rfl, q.bl⟩
theorem o_ge : OpR X (compareOp .GtE) (r2 X.K (op2 .ge)) := by
  intro pins s σ H x y v u Q I rx ry ⟨dx, dy, as, bs, d, hx, hy, ho, q⟩
  have go : (if ltOk dx dy then Res.ok (PyData.bool (!PySem.W.dataLt dx dy)) else .stuck) = .ok d → wpAny (model X.prog X.w) X.A (compareOp .GtE v u) (EP X pins σ Q) X.xe s := fun ho => by
    split at ho
    · rename_i hd
      cases ho
      obtain ⟨h1, h2, h3⟩ := ltOk_inv hu hd
      obtain ⟨c1, R1⟩ := sl_of I hx rx
      obtain ⟨c2, R2⟩ := sl_of I hy ry
      exact PySem.W.ge_data R1 R2 h1 h2 (by omega) (ep_bl I q.bl)
    · cases ho
  cases dx <;> cases dy <;> first | (exact go ho) | skip
  cases hx; cases hy; simp only [op2] at ho; cases ho
  exact op_ge pins s σ H _ _ v u Q I rx ry ⟨_, _, rfl, rfl, q.bl⟩
theorem o_in : OpR X (compareOp .In) (r2 X.K (op2 .inn)) := by
  intro pins s σ H x y v u Q I rx ry ⟨dx, dy, as, bs, d, hx, hy, ho, q⟩
  obtain ⟨c1, R1⟩ := sl_of I hx rx
  cases dy with
  | list ys =>
    have ho : (do Res.ok (PyData.bool (← inD dx ys))) = .ok d := by cases dx <;> exact ho
    simp only [inD] at ho
    split at ho
    · cases ho
      obtain ⟨c2, R2⟩ := sl_of I hy ry
      exact PySem.SeqAt.in_list_data R2 R1 (by have := hy.plain; simpa [PyData.plain] using this) hx.plain (by omega) (ep_bl I q.bl)
    · cases ho
  | tuple ys =>
    have ho : (do Res.ok (PyData.bool (← inD dx ys))) = .ok d := by cases dx <;> exact ho
    simp only [inD] at ho
    split at ho
    · cases ho
      obtain ⟨c2, R2⟩ := sl_of I hy ry
      exact PySem.SeqAt.in_tuple_data R2 R1 (by have := hy.plain; simpa [PyData.plain] using this) hx.plain (by omega) (ep_bl I q.bl)
    · cases ho
  | str b =>
    cases dx <;> try (simp only [op2] at ho; cases ho; done)
    cases hx; cases hy; simp only [op2] at ho; cases ho
    exact op_in_str pins s σ H _ _ v u Q I rx ry ⟨_, _, rfl, rfl, q.bl⟩
  | _ => cases dx <;> (simp only [op2] at ho; cases ho; done)
theorem o_nin : OpR X (compareOp .NotIn) (r2 X.K (op2 .nin)) := by
  intro pins s σ H x y v u Q I rx ry ⟨dx, dy, as, bs, d, hx, hy, ho, q⟩
  obtain ⟨c1, R1⟩ := sl_of I hx rx
  cases dy with
  | list ys =>
    have ho : (do Res.ok (PyData.bool (!(← inD dx ys)))) = .ok d := by cases dx <;> exact ho
    simp only [inD] at ho
    split at ho
    · cases ho
      obtain ⟨c2, R2⟩ := sl_of I hy ry
      exact PySem.SeqAt.notIn_list_data R2 R1 (by have := hy.plain; simpa [PyData.plain] using this) hx.plain (by omega) (ep_bl I q.bl)
    · cases ho
  | tuple ys =>
    have ho : (do Res.ok (PyData.bool (!(← inD dx ys)))) = .ok d := by cases dx <;> exact ho
    simp only [inD] at ho
    split at ho
    · cases ho
      obtain ⟨c2, R2⟩ := sl_of I hy ry
      exact PySem.SeqAt.notIn_tuple_data R2 R1 (by have := hy.plain; simpa [PyData.plain] using this) hx.plain (by omega) (ep_bl I q.bl)
    · cases ho
  | str b =>
    cases dx <;> try (simp only [op2] at ho; cases ho; done)
    cases hx; cases hy; simp only [op2] at ho; cases ho
    exact op_notin_str pins s σ H _ _ v u Q I rx ry ⟨_, _, rfl, rfl, q.bl⟩
  | _ => cases dx <;> (simp only [op2] at ho; cases ho; done)
omit hu
theorem o_isN : OpR X (compareOp .Is) (r2 X.K (op2 .isN)) := by
  intro pins s σ H x y v u Q I rx ry ⟨dx, dy, as, bs, d, hx, hy, ho, q⟩
  cases dy <;> try (cases dx <;> (simp only [op2] at ho; cases ho; done))
  cases hy
  refine op_isN pins s σ H _ _ v u Q I rx ry ⟨rfl, ?_⟩
  cases hx <;> (simp only [op2] at ho; cases ho; first | exact q.bl | (simp; exact q.bl))
theorem o_ntN : OpR X (compareOp .IsNot) (r2 X.K (op2 .ntN)) := by
  intro pins s σ H x y v u Q I rx ry ⟨dx, dy, as, bs, d, hx, hy, ho, q⟩
  cases dy <;> try (cases dx <;> (simp only [op2] at ho; cases ho; done))
  cases hy
  refine op_notN pins s σ H _ _ v u Q I rx ry ⟨rfl, ?_⟩
  cases hx <;> (simp only [op2] at ho; cases ho; first | exact q.bl | (simp; exact q.bl))
end
end PV
set_option Elab.async false
set_option linter.all false
set_option maxRecDepth 100000
set_option maxHeartbeats 1000000
/-! PV3: built-ins, methods, subscripts, slices by values. -/
namespace PV
open PySem PySem.Spec PyProof.Rows L2

theorem ints_of {K : PySem.W.Frag} {H : Hp} : ∀ {ds : List D} {l : List Int} {vs : List V} {as : List Addr}, intsOf ds = some l → DpRs K H vs ds as → vs = l.map V.int ∧ as = []
  | [], l, vs, as, h, r => by
    cases r
    simp only [intsOf] at h
    cases h
    exact ⟨rfl, rfl⟩
  | d :: ds, l, vs, as, h, r => by
    cases r with
    | cons r s =>
      cases d <;> simp only [intsOf] at h <;> try (cases h; done)
      split at h
      · rename_i l' e
        cases h
        cases r
        obtain ⟨h1, h2⟩ := ints_of e s
        subst h1 h2
        exact ⟨rfl, rfl⟩
      · cases h
theorem bools_of {K : PySem.W.Frag} {H : Hp} : ∀ {ds : List D} {l : List Bool} {vs : List V} {as : List Addr}, boolsOf ds = some l → DpRs K H vs ds as → vs = l.map V.bl ∧ as = []
  | [], l, vs, as, h, r => by
    cases r
    simp only [boolsOf] at h
    cases h
    exact ⟨rfl, rfl⟩
  | d :: ds, l, vs, as, h, r => by
    cases r with
    | cons r s =>
      cases d <;> simp only [boolsOf] at h <;> try (cases h; done)
      split at h
      · rename_i l' e
        cases h
        cases r
        obtain ⟨h1, h2⟩ := bools_of e s
        subst h1 h2
        exact ⟨rfl, rfl⟩
      · cases h
/-- a call of a built-in, by its arguments' trees -/
def rb (K : PySem.W.Frag) (o : List D → Res D) : List V → Hp → VK → Prop := fun xs H Q => ∃ ds as d, DpRs K H xs ds as ∧ o ds = .ok d ∧ OpQ K H (fun a => a ∈ as) d Q
theorem DpRs.one_inv {K : PySem.W.Frag} {H : Hp} {xs : List V} {d : D} {as : List Addr} (r : DpRs K H xs [d] as) : ∃ x, xs = [x] ∧ DpR K H x d as := by
  cases r with
  | cons r s =>
    cases s
    rw [List.append_nil]
    exact ⟨_, rfl, r⟩
theorem DpRs.two_inv {K : PySem.W.Frag} {H : Hp} {xs : List V} {d e : D} {as : List Addr} (r : DpRs K H xs [d, e] as) : ∃ x y bs cs, xs = [x, y] ∧ DpR K H x d bs ∧ DpR K H y e cs ∧ as = bs ++ cs := by
  cases r with
  | cons r s =>
    obtain ⟨y, e, s'⟩ := s.one_inv
    subst e
    exact ⟨_, _, _, _, rfl, r, s', rfl⟩
theorem vals1' {x : V} {us : List Value} (r : Vals [x] us) : ∃ u, us = [u] ∧ RelV x u := vals1 r
section
variable {X : Cx}
theorem b_len : CallR X (.builtin "len") (rb X.K (bi .len)) := by
  intro pins s σ H xs us Q I r ⟨ds, as, d, hd, ho, q⟩
  match ds, hd, ho with
  | [], hd, ho => simp only [bi] at ho; cases ho
  | [.str x], hd, ho =>
    obtain ⟨z, e, h⟩ := hd.one_inv
    subst e
    cases h
    simp only [bi] at ho
    split at ho
    · rename_i hl
      cases ho
      exact call_len_str pins s σ H _ us Q I r ⟨x, rfl, by simpa [lenOk] using hl, q.int⟩
    · cases ho
  | [.list l], hd, ho =>
    obtain ⟨z, e, h⟩ := hd.one_inv
    subst e
    simp only [bi] at ho
    cases ho
    obtain ⟨a, vs, bs, rfl, r1, h1, e1⟩ := h.list_inv
    refine call_len_seq pins s σ H _ us Q I r ⟨a, vs, rfl, .inl (SqL.of h1), ?_⟩
    rw [r1.length]
    exact q.int
  | [.tuple l], hd, ho =>
    obtain ⟨z, e, h⟩ := hd.one_inv
    subst e
    simp only [bi] at ho
    cases ho
    obtain ⟨a, vs, rfl, h1, r1⟩ := h.tuple_inv
    refine call_len_seq pins s σ H _ us Q I r ⟨a, vs, rfl, .inr h1, ?_⟩
    rw [r1.length]
    exact q.int
  | [.none], _, ho => simp only [bi] at ho; cases ho
  | [.bool _], _, ho => simp only [bi] at ho; cases ho
  | [.int _], _, ho => simp only [bi] at ho; cases ho
  | [.dict _], _, ho => simp only [bi] at ho; cases ho
  | _ :: _ :: _, _, ho => simp only [bi] at ho; cases ho
theorem sum_tup {A : Around} {E : Value → Shared → Prop} {prog : Program} {w : World} {s : Shared} {t : Addr} {vs : List Value} {ns : List Int} {Q : Value → Shared → Prop} (hh : A.handled = none) (ht : s.heap.IsTuple t vs.toArray) (hi : IntsAre vs ns)
    (h : ∀ h' tk t', (∀ b o, s.heap.get? b = some o → h'.get? b = some o) → Q (.int ns.sum t') { s with heap := h', toks := tk }) : wpAny (model prog w) A (call (.builtin "sum") [.ref t]) Q E s := by
  obtain ⟨xs, hx⟩ := hi.allInts.items
  have hn : PySem.numsOf vs.toArray.toList = ns := by rw [show vs.toArray.toList = vs from rfl, hi.numsOf]
  rw [hx] at ht hn
  rw [nums_intItems] at hn
  refine PySem.W.ktm_sumG hh ht fun h' tk t' hk => ?_
  have := h h' tk t' hk
  rw [preSum_eq, List.take_of_length_le (by simp), hn]
  exact this
theorem b_sum (hc : X.calm = true) : CallR X (.builtin "sum") (rb X.K (bi .sum)) := by
  intro pins s σ H xs us Q I r ⟨ds, as, d, hd, ho, q⟩
  match ds, hd, ho with
  | [], hd, ho => simp only [bi] at ho; cases ho
  | [.list l], hd, ho =>
    obtain ⟨z, e, h⟩ := hd.one_inv
    subst e
    simp only [bi] at ho
    split at ho
    · rename_i ns hn
      cases ho
      obtain ⟨a, vs, bs, rfl, r1, h1, e1⟩ := h.list_inv
      obtain ⟨e2, _⟩ := ints_of hn r1
      subst e2
      exact cr_sum hc pins s σ H _ us Q I r ⟨a, ns, rfl, SqL.of h1, q.int⟩
    · cases ho
  | [.tuple l], hd, ho =>
    obtain ⟨z, e, h⟩ := hd.one_inv
    subst e
    simp only [bi] at ho
    split at ho
    · rename_i ns hn
      cases ho
      obtain ⟨a, vs, rfl, h1, r1⟩ := h.tuple_inv
      obtain ⟨e2, _⟩ := ints_of hn r1
      subst e2
      obtain ⟨its, rv, hl, _⟩ := I.tuple h1
      rw [Vals.ref1 r]
      exact sum_tup (I.ok.hd hc) (show s.heap.IsTuple a its.toArray from hl) rv.ints fun h' tk t' hk => ⟨.int _, H, I.kept hk, ⟨_, rfl⟩, q.int⟩
    · cases ho
  | [.none], _, ho => simp only [bi] at ho; cases ho
  | [.bool _], _, ho => simp only [bi] at ho; cases ho
  | [.int _], _, ho => simp only [bi] at ho; cases ho
  | [.str _], _, ho => simp only [bi] at ho; cases ho
  | [.dict _], _, ho => simp only [bi] at ho; cases ho
  | _ :: _ :: _, _, ho => simp only [bi] at ho; cases ho
theorem b_all (hc : X.calm = true) : CallR X (.builtin "all") (rb X.K (bi .all)) := by
  intro pins s σ H xs us Q I r ⟨ds, as, d, hd, ho, q⟩
  match ds, hd, ho with
  | [], hd, ho => simp only [bi] at ho; cases ho
  | [.list l], hd, ho =>
    obtain ⟨z, e, h⟩ := hd.one_inv
    subst e
    simp only [bi] at ho
    split at ho
    · rename_i ns hn
      cases ho
      obtain ⟨a, vs, bs, rfl, r1, h1, e1⟩ := h.list_inv
      obtain ⟨e2, _⟩ := bools_of hn r1
      subst e2
      exact cr_all hc pins s σ H _ us Q I r ⟨a, ns, rfl, SqL.of h1, q.bl⟩
    · cases ho
  | [.none], _, ho => simp only [bi] at ho; cases ho
  | [.tuple _], _, ho => simp only [bi] at ho; cases ho
  | [.bool _], _, ho => simp only [bi] at ho; cases ho
  | [.int _], _, ho => simp only [bi] at ho; cases ho
  | [.str _], _, ho => simp only [bi] at ho; cases ho
  | [.dict _], _, ho => simp only [bi] at ho; cases ho
  | _ :: _ :: _, _, ho => simp only [bi] at ho; cases ho
theorem b_any (hc : X.calm = true) : CallR X (.builtin "any") (rb X.K (bi .any)) := by
  intro pins s σ H xs us Q I r ⟨ds, as, d, hd, ho, q⟩
  match ds, hd, ho with
  | [], hd, ho => simp only [bi] at ho; cases ho
  | [.list l], hd, ho =>
    obtain ⟨z, e, h⟩ := hd.one_inv
    subst e
    simp only [bi] at ho
    split at ho
    · rename_i ns hn
      cases ho
      obtain ⟨a, vs, bs, rfl, r1, h1, e1⟩ := h.list_inv
      obtain ⟨e2, _⟩ := bools_of hn r1
      subst e2
      exact cr_any hc pins s σ H _ us Q I r ⟨a, ns, rfl, SqL.of h1, q.bl⟩
    · cases ho
  | [.none], _, ho => simp only [bi] at ho; cases ho
  | [.tuple _], _, ho => simp only [bi] at ho; cases ho
  | [.bool _], _, ho => simp only [bi] at ho; cases ho
  | [.int _], _, ho => simp only [bi] at ho; cases ho
  | [.str _], _, ho => simp only [bi] at ho; cases ho
  | [.dict _], _, ho => simp only [bi] at ho; cases ho
  | _ :: _ :: _, _, ho => simp only [bi] at ho; cases ho
theorem b_abs : CallR X (.builtin "abs") (rb X.K (bi .abs)) := by
  intro pins s σ H xs us Q I r ⟨ds, as, d, hd, ho, q⟩
  match ds, hd, ho with
  | [], hd, ho => simp only [bi] at ho; cases ho
  | [.int i], hd, ho =>
    obtain ⟨z, e, h⟩ := hd.one_inv
    subst e
    cases h
    simp only [bi] at ho
    cases ho
    exact call_abs pins s σ H _ us Q I r ⟨i, rfl, q.int⟩
  | [.none], _, ho => simp only [bi] at ho; cases ho
  | [.tuple _], _, ho => simp only [bi] at ho; cases ho
  | [.list _], _, ho => simp only [bi] at ho; cases ho
  | [.bool _], _, ho => simp only [bi] at ho; cases ho
  | [.str _], _, ho => simp only [bi] at ho; cases ho
  | [.dict _], _, ho => simp only [bi] at ho; cases ho
  | _ :: _ :: _, _, ho => simp only [bi] at ho; cases ho
theorem b_int : CallR X (.type "int") (rb X.K (bi .int)) := by
  intro pins s σ H xs us Q I r ⟨ds, as, d, hd, ho, q⟩
  match ds, hd, ho with
  | [], hd, ho => simp only [bi] at ho; cases ho
  | [.int i], hd, ho =>
    obtain ⟨z, e, h⟩ := hd.one_inv
    subst e
    cases h
    simp only [bi] at ho
    cases ho
    exact call_int1 pins s σ H _ us Q I r (.inl ⟨i, rfl, q.int⟩)
  | [.bool i], hd, ho =>
    obtain ⟨z, e, h⟩ := hd.one_inv
    subst e
    cases h
    simp only [bi] at ho
    cases ho
    exact call_int1 pins s σ H _ us Q I r (.inr ⟨i, rfl, q.int⟩)
  | [.none], _, ho => simp only [bi] at ho; cases ho
  | [.tuple _], _, ho => simp only [bi] at ho; cases ho
  | [.list _], _, ho => simp only [bi] at ho; cases ho
  | [.str _], _, ho => simp only [bi] at ho; cases ho
  | [.dict _], _, ho => simp only [bi] at ho; cases ho
  | _ :: _ :: _, _, ho => simp only [bi] at ho; cases ho
theorem b_max2 (hc : X.calm = true) : CallR X (.builtin "max") (rb X.K (bi .max2)) := by
  intro pins s σ H xs us Q I r ⟨ds, as, d, hd, ho, q⟩
  match ds, hd, ho with
  | [.int i, .int j], hd, ho =>
    obtain ⟨x, y, bs, cs, e, h1, h2, _⟩ := hd.two_inv
    subst e
    cases h1
    cases h2
    simp only [bi] at ho
    cases ho
    exact call_max2 hc pins s σ H _ us Q I r ⟨i, j, rfl, q.int⟩
  | [], _, ho => simp only [bi] at ho; cases ho
  | [x], _, ho => cases x <;> (simp only [bi] at ho; cases ho)
  | x :: y :: z :: l, _, ho => cases x <;> cases y <;> (simp only [bi] at ho; cases ho)
  | [.none, y], _, ho => simp only [bi] at ho; cases ho
  | [.tuple _, y], _, ho => simp only [bi] at ho; cases ho
  | [.list _, y], _, ho => simp only [bi] at ho; cases ho
  | [.bool _, y], _, ho => simp only [bi] at ho; cases ho
  | [.str _, y], _, ho => simp only [bi] at ho; cases ho
  | [.dict _, y], _, ho => simp only [bi] at ho; cases ho
  | [.int _, .none], _, ho => simp only [bi] at ho; cases ho
  | [.int _, .tuple _], _, ho => simp only [bi] at ho; cases ho
  | [.int _, .list _], _, ho => simp only [bi] at ho; cases ho
  | [.int _, .bool _], _, ho => simp only [bi] at ho; cases ho
  | [.int _, .str _], _, ho => simp only [bi] at ho; cases ho
  | [.int _, .dict _], _, ho => simp only [bi] at ho; cases ho
theorem b_min2 (hc : X.calm = true) : CallR X (.builtin "min") (rb X.K (bi .min2)) := by
  intro pins s σ H xs us Q I r ⟨ds, as, d, hd, ho, q⟩
  match ds, hd, ho with
  | [.int i, .int j], hd, ho =>
    obtain ⟨x, y, bs, cs, e, h1, h2, _⟩ := hd.two_inv
    subst e
    cases h1
    cases h2
    simp only [bi] at ho
    cases ho
    exact call_min2 hc pins s σ H _ us Q I r ⟨i, j, rfl, q.int⟩
  | [], _, ho => simp only [bi] at ho; cases ho
  | [x], _, ho => cases x <;> (simp only [bi] at ho; cases ho)
  | x :: y :: z :: l, _, ho => cases x <;> cases y <;> (simp only [bi] at ho; cases ho)
  | [.none, y], _, ho => simp only [bi] at ho; cases ho
  | [.tuple _, y], _, ho => simp only [bi] at ho; cases ho
  | [.list _, y], _, ho => simp only [bi] at ho; cases ho
  | [.bool _, y], _, ho => simp only [bi] at ho; cases ho
  | [.str _, y], _, ho => simp only [bi] at ho; cases ho
  | [.dict _, y], _, ho => simp only [bi] at ho; cases ho
  | [.int _, .none], _, ho => simp only [bi] at ho; cases ho
  | [.int _, .tuple _], _, ho => simp only [bi] at ho; cases ho
  | [.int _, .list _], _, ho => simp only [bi] at ho; cases ho
  | [.int _, .bool _], _, ho => simp only [bi] at ho; cases ho
  | [.int _, .str _], _, ho => simp only [bi] at ho; cases ho
  | [.int _, .dict _], _, ho => simp only [bi] at ho; cases ho
theorem b_tup : CallR X (.type "tuple") (rb X.K (bi .tup)) := by
  intro pins s σ H xs us Q I r ⟨ds, as, d, hd, ho, q⟩
  match ds, hd, ho with
  | [], hd, ho => simp only [bi] at ho; cases ho
  | [.list l], hd, ho =>
    obtain ⟨z, e, h⟩ := hd.one_inv
    subst e
    simp only [bi] at ho
    cases ho
    obtain ⟨a, vs, bs, rfl, r1, h1, e1⟩ := h.list_inv
    exact call_tuple_of pins s σ H _ us Q I r ⟨a, vs, rfl, .inl ⟨SqL.of h1, q.tup r1 fun c hc => by rw [e1]; exact List.mem_cons_of_mem _ hc⟩⟩
  | [.tuple l], hd, ho =>
    obtain ⟨z, e, h⟩ := hd.one_inv
    subst e
    simp only [bi] at ho
    cases ho
    obtain ⟨a, vs, rfl, h1, r1⟩ := h.tuple_inv
    exact call_tuple_of pins s σ H _ us Q I r ⟨a, vs, rfl, .inr ⟨h1, q.old h (fun c hc => hc) (fun l e => by cases e)⟩⟩
  | [.none], _, ho => simp only [bi] at ho; cases ho
  | [.bool _], _, ho => simp only [bi] at ho; cases ho
  | [.int _], _, ho => simp only [bi] at ho; cases ho
  | [.str _], _, ho => simp only [bi] at ho; cases ho
  | [.dict _], _, ho => simp only [bi] at ho; cases ho
  | _ :: _ :: _, _, ho => simp only [bi] at ho; cases ho
theorem b_lst : CallR X (.type "list") (rb X.K (bi .lst)) := by
  intro pins s σ H xs us Q I r ⟨ds, as, d, hd, ho, q⟩
  match ds, hd, ho with
  | [], hd, ho => simp only [bi] at ho; cases ho
  | [.list l], hd, ho =>
    obtain ⟨z, e, h⟩ := hd.one_inv
    subst e
    simp only [bi] at ho
    cases ho
    obtain ⟨a, vs, bs, rfl, r1, h1, e1⟩ := h.list_inv
    exact call_list_of pins s σ H _ us Q I r ⟨a, vs, rfl, .inl (SqL.of h1), q.lst r1 fun c hc => by rw [e1]; exact List.mem_cons_of_mem _ hc⟩
  | [.tuple l], hd, ho =>
    obtain ⟨z, e, h⟩ := hd.one_inv
    subst e
    simp only [bi] at ho
    cases ho
    obtain ⟨a, vs, rfl, h1, r1⟩ := h.tuple_inv
    exact call_list_of pins s σ H _ us Q I r ⟨a, vs, rfl, .inr h1, q.lst r1 fun c hc => hc⟩
  | [.none], _, ho => simp only [bi] at ho; cases ho
  | [.bool _], _, ho => simp only [bi] at ho; cases ho
  | [.int _], _, ho => simp only [bi] at ho; cases ho
  | [.str _], _, ho => simp only [bi] at ho; cases ho
  | [.dict _], _, ho => simp only [bi] at ho; cases ho
  | _ :: _ :: _, _, ho => simp only [bi] at ho; cases ho
theorem ixN_eq (n : Nat) (i : Int) : PV.ixN n i = L2.ixN n i := rfl
/-- an item, by the trees -/
def rs (K : PySem.W.Frag) : R2 := fun x y H Q => ∃ dx dy as bs d, DpR K H x dx as ∧ DpR K H y dy bs ∧ sub dx dy = .ok d ∧ ∀ z cs, DpR K H z d cs → (∀ a ∈ cs, a ∈ as) → Q z H
theorem i_sub : IxR X (rs X.K) := by
  intro value slice pins s σ H x y v u Q I rx ry ⟨dx, dy, as, bs, d, hx, hy, ho, q⟩
  cases dx with
  | list l =>
    cases dy with
    | int i =>
      simp only [sub, atD] at ho
      split at ho
      · rename_i j hj
        split at ho
        · rename_i d' hd
          cases ho
          obtain ⟨a, vs, b1, rfl, r1, h1, e1⟩ := hx.list_inv
          cases hy
          obtain ⟨z, cs, hz, r3, sb⟩ := r1.atD hd
          refine ix_list value slice pins s σ H _ _ v u Q I rx ry ⟨a, vs, i, z, rfl, rfl, SqL.of h1, ?_, q z cs r3 fun c hc => ?_⟩
          · unfold atI
            rw [← ixN_eq, r1.length, hj]
            exact hz
          · rw [e1]; exact List.mem_cons_of_mem _ (sb.subset hc)
        · cases ho
      · cases ho
    | _ => simp only [sub] at ho; cases ho
  | tuple l =>
    cases dy with
    | int i =>
      simp only [sub, atD] at ho
      split at ho
      · rename_i j hj
        split at ho
        · rename_i d' hd
          cases ho
          obtain ⟨a, vs, rfl, h1, r1⟩ := hx.tuple_inv
          cases hy
          obtain ⟨z, cs, hz, r3, sb⟩ := r1.atD hd
          refine ix_tup value slice pins s σ H _ _ v u Q I rx ry ⟨a, vs, i, z, rfl, rfl, h1, ?_, q z cs r3 fun c hc => ?_⟩
          · unfold atI
            rw [← ixN_eq, r1.length, hj]
            exact hz
          · exact sb.subset hc
        · cases ho
      · cases ho
    | _ => simp only [sub] at ho; cases ho
  | str z =>
    cases dy with
    | int i =>
      simp only [sub] at ho
      split at ho
      · rename_i hl
        split at ho
        · rename_i c hc
          cases ho
          cases hx
          cases hy
          exact ix_str value slice pins s σ H _ _ v u Q I rx ry ⟨z, i, c, rfl, rfl, of_decide_eq_true hl, hc, q _ [] (.str _) fun _ h => by simp at h⟩
        · cases ho
      · cases ho
    | _ => simp only [sub] at ho; cases ho
  | _ => cases dy <;> (simp only [sub] at ho; cases ho)
theorem sIx_eq (n d : Nat) (i : Option Int) : PV.sIx n d i = HT.sIx n d i := by cases i <;> rfl
theorem DpRs.take {K : PySem.W.Frag} {H : Hp} : ∀ {v : List V} {d : List D} {as : List Addr} (n : Nat), DpRs K H v d as → ∃ bs, DpRs K H (v.take n) (d.take n) bs ∧ bs.Sublist as
  | _, _, _, 0, _ => ⟨[], by simpa using .nil, List.nil_sublist _⟩
  | _, _, _, n + 1, .nil => ⟨[], .nil, List.nil_sublist _⟩
  | _, _, _, n + 1, .cons r s => by
    obtain ⟨bs, h1, h2⟩ := DpRs.take n s
    exact ⟨_, .cons r h1, (List.append_sublist_append_left _).mpr h2⟩
theorem DpRs.drop {K : PySem.W.Frag} {H : Hp} : ∀ {v : List V} {d : List D} {as : List Addr} (n : Nat), DpRs K H v d as → ∃ bs, DpRs K H (v.drop n) (d.drop n) bs ∧ bs.Sublist as
  | _, _, _, 0, r => ⟨_, r, List.Sublist.refl _⟩
  | _, _, _, n + 1, .nil => ⟨[], .nil, List.nil_sublist _⟩
  | _, _, _, n + 1, .cons r s => by
    obtain ⟨bs, h1, h2⟩ := DpRs.drop n s
    exact ⟨bs, h1, h2.trans (List.sublist_append_right _ _)⟩
theorem DpRs.eraseIdx {K : PySem.W.Frag} {H : Hp} : ∀ {v : List V} {d : List D} {as : List Addr} (n : Nat), DpRs K H v d as → ∃ bs, DpRs K H (v.eraseIdx n) (d.eraseIdx n) bs ∧ bs.Sublist as
  | _, _, _, n, .nil => ⟨[], by simpa using .nil, List.nil_sublist _⟩
  | _, _, _, 0, .cons r s => ⟨_, s, List.sublist_append_right _ _⟩
  | _, _, _, n + 1, .cons r s => by
    obtain ⟨bs, h1, h2⟩ := DpRs.eraseIdx n s
    exact ⟨_, .cons r h1, (List.append_sublist_append_left _).mpr h2⟩
theorem DpRs.cut {K : PySem.W.Frag} {H : Hp} {v : List V} {d : List D} {as : List Addr} (lo hi : Option Int) (r : DpRs K H v d as) : ∃ bs, DpRs K H (cutV v lo hi) (PV.cut d lo hi) bs ∧ ∀ a ∈ bs, a ∈ as := by
  unfold cutV PV.cut
  rw [sIx_eq, sIx_eq, r.length]
  obtain ⟨bs, h1, h2⟩ := r.drop (HT.sIx d.length 0 lo)
  obtain ⟨cs, h3, h4⟩ := h1.take (HT.sIx d.length d.length hi - HT.sIx d.length 0 lo)
  exact ⟨cs, h3, fun a ha => h2.subset (h4.subset ha)⟩
def rsl (K : PySem.W.Frag) : V → Option Int → Option Int → Hp → VK → Prop := fun x lo hi H Q => ∃ dx as d, DpR K H x dx as ∧ slc dx lo hi = .ok d ∧ OpQ K H (fun a => a ∈ as) d Q
theorem s_slc : SlR X (rsl X.K) := by
  intro pins s σ H x v vl vu lo hi sl Q I rx hs pl pu ⟨dx, as, d, hx, ho, q⟩
  cases dx with
  | list l =>
    simp only [slc] at ho
    cases ho
    obtain ⟨a, vs, b1, rfl, r1, h1, e1⟩ := hx.list_inv
    obtain ⟨cs, r3, h3⟩ := r1.cut lo hi
    exact sl_list pins s σ H _ v vl vu lo hi sl Q I rx hs pl pu ⟨a, vs, rfl, SqL.of h1, q.lst r3 fun c hc => by rw [e1]; exact List.mem_cons_of_mem _ (h3 c hc)⟩
  | tuple l =>
    simp only [slc] at ho
    cases ho
    obtain ⟨a, vs, rfl, h1, r1⟩ := hx.tuple_inv
    obtain ⟨cs, r3, h3⟩ := r1.cut lo hi
    refine sl_tupA pins s σ H _ v vl vu lo hi sl Q I rx hs pl pu ⟨a, vs, rfl, h1, fun e => ?_, fun _ => q.tup r3 h3⟩
    have el : PV.cut l lo hi = l := by
      unfold PV.cut
      rw [sIx_eq, sIx_eq, ← r1.length, e.1, e.2, r1.length]
      simp
    rw [el] at q
    exact q.old hx (fun c hc => hc) (fun l e => by cases e)
  | str z =>
    simp only [slc] at ho
    split at ho
    · rename_i hl
      cases ho
      cases hx
      refine sl_str pins s σ H _ v vl vu lo hi sl Q I rx hs pl pu ⟨z, rfl, of_decide_eq_true hl, ?_⟩
      have e : cutS z lo hi = ⟨(PV.cut z.cps.toList lo hi).toArray⟩ := by
        unfold cutS PV.cut
        rw [sIx_eq, sIx_eq]
        rfl
      rw [e]
      exact q.str
    · cases ho
  | _ => simp only [slc] at ho; cases ho
end
end PV
set_option Elab.async false
set_option linter.all false
set_option maxRecDepth 100000
set_option maxHeartbeats 1000000
/-! PV4: the reading of a text's syntax as E, S; contexts; expressions. -/
namespace PV
open PySem PySem.Spec PyProof.Rows L2

structure Info where
  nm : Nat → Str
  io : Nat → List Nat
  cn : Nat → Str
  nf : Nat
  nc : Nat
  cat : Nat → Nat → Bool
  /-- the module's int constants -/
  gc : List (Str × Int) := []
def visB (sc : Scope) (x : Str) : Bool := match sc.names.lookup x with
  | some .local => true
  | some .cell => true
  | some .free => true
  | _ => false
def glB (sc : Scope) (x : Str) : Bool := match sc.names.lookup x with
  | some .globalImplicit => true
  | _ => false
def okName (x : Str) : Bool := !(x == ("__debug__" : Str)) && !(x == ("__classdict__" : Str)) && !(x == ("__name__" : Str))
def nameB (N : List Str) (sc : Scope) (i : Nat) (x : Str) : Bool := decide (N[i]? = some x) && visB sc x && okName x
/-- pairs are walked by a tuple of names only -/
def pairB (single : Bool) : It → Bool
  | .enum _ => !single
  | .zip _ _ => !single
  | _ => true
/-- an expression of a kind that this reading has -/
def plainX : Expr → Bool
  | .BoolOp .. | .BinOp .. | .UnaryOp .. | .IfExp .. | .ListComp .. | .Compare .. | .Call .. | .Constant .. | .Attribute .. | .Subscript .. | .Name .. | .List .. | .Tuple .. => true
  | _ => false
def plainAllB (xs : List Expr) : Bool := xs.all plainX
/-- a method's receiver -/
def recvX : Expr → Bool
  | .Constant .. | .Subscript .. | .Name .. | .List .. | .Tuple .. => true
  | _ => false
def lineB (a c : Pos) : Bool := a.endLine == c.line
def binOf : O2 → Option Operator
  | .add => some .Add | .sub => some .Sub | .mul => some .Mult | .fdiv => some .FloorDiv | .mod => some .Mod | .pow => some .Pow
  | _ => none
def cmpOf : O2 → Option CmpOp
  | .eq => some .Eq | .ne => some .NotEq | .lt => some .Lt | .le => some .LtE | .gt => some .Gt | .ge => some .GtE
  | .inn => some .In | .nin => some .NotIn | .isN => some .Is | .ntN => some .IsNot
  | _ => none
def biName : Bi → Str
  | .len => "len" | .sum => "sum" | .all => "all" | .any => "any" | .max1 => "max" | .min1 => "min" | .max2 => "max" | .min2 => "min"
  | .abs => "abs" | .int => "int" | .tup => "tuple" | .lst => "list" | .sorted => "sorted"
def mtName : Mt → Str
  | .count => "count" | .index => "index"
/-- fn: the captured names that may be set here -/
def tgtB (fn : Str → Bool) (N : List Str) (sc : Scope) (x : Expr) (i : Nat) : Bool := match x with
  | .Name x _ => decide (N[i]? = some x) && (match sc.names.lookup x with | some .local => true | some .cell => fn x | _ => false) && okName x
  | _ => false
def tgtsB (fn : Str → Bool) (N : List Str) (sc : Scope) : List Expr → List Nat → Bool
  | [], [] => true
  | x :: xs, i :: is => tgtB fn N sc x i && tgtsB fn N sc xs is
  | _, _ => false
def targetB (fn : Str → Bool) (N : List Str) (sc : Scope) (x : Expr) (is : List Nat) (single : Bool) : Bool := if single then match is with
    | [i] => tgtB fn N sc x i
    | _ => false
  else match x with
    | .Tuple xs _ _ => tgtsB fn N sc xs is
    | _ => false
def namesOf (N : List Str) (is : List Nat) : List (Str × Nat) := is.map fun i => (N.getD i ("" : Str), i)

mutual
def mE (J : Info) (N : List Str) : E → Scope → Expr → Bool
  | .var i, sc, e => match e with
    | .Name x _ => nameB N sc i x
    | _ => false
  | .ref i, sc, e => match e with
    | .Name x _ => nameB N sc i x
    | _ => false
  | .scr i, sc, e => match e with
    | .Name x _ => nameB N sc i x
    | _ => false
  | .scrL i, sc, e => match e with
    | .Call (.Name g _) [.Name x _] [] _ => decide (g = ("list" : Str)) && glB sc g && nameB N sc i x
    | _ => false
  | .int n, sc, e => match e with
    | .Constant (.int m) _ _ => decide (n = m)
    | .Name x _ => glB sc x && okName x && decide (J.gc.lookup x = some n)
    | _ => false
  | .str s, _, e => match e with
    | .Constant (.str m) _ _ => decide (s = m)
    | _ => false
  | .bl b, _, e => match e with
    | .Constant (.bool m) _ _ => decide (b = m)
    | _ => false
  | .non, _, e => match e with
    | .Constant .none _ _ => true
    | _ => false
  | .op2 o a b, sc, e => match e with
    | .BinOp x p y _ => decide (binOf o = some p) && mE J N a sc x && mE J N b sc y
    | .Compare x [p] [y] _ => decide (cmpOf o = some p) && plainX y && mE J N a sc x && mE J N b sc y
    | _ => false
  | .op1 o a, sc, e => match e, o with
    | .UnaryOp .USub x _, .neg => mE J N a sc x
    | .UnaryOp .Not x _, .nt => plainX x && mE J N a sc x
    | _, _ => false
  | .and a b, sc, e => match e with
    | .BoolOp .And [x, y] _ => plainX x && plainX y && mE J N a sc x && mE J N b sc y
    | .BoolOp .And (x :: y :: z :: r) p => plainX x && mE J N a sc x && mE J N b sc (.BoolOp .And (y :: z :: r) p)
    | _ => false
  | .or a b, sc, e => match e with
    | .BoolOp .Or [x, y] _ => plainX x && plainX y && mE J N a sc x && mE J N b sc y
    | .BoolOp .Or (x :: y :: z :: r) p => plainX x && mE J N a sc x && mE J N b sc (.BoolOp .Or (y :: z :: r) p)
    | _ => false
  | .ite c a b, sc, e => match e with
    | .IfExp x y z _ => plainX x && plainX y && plainX z && mE J N c sc x && mE J N a sc y && mE J N b sc z
    | _ => false
  | .cmp3 o p a b c, sc, e => match e with
    | .Compare x [q, r] [y, z] _ => decide (cmpOf o = some q) && decide (cmpOf p = some r) && plainX y && plainX z && mE J N a sc x && mE J N b sc y && mE J N c sc z
    | _ => false
  | .bi f as, sc, e => match e with
    | .Call (.Name g _) (x :: xs) [] _ => decide (g = biName f) && glB sc g && plainX x && plainAllB xs && mEs J N as sc (x :: xs)
    | _ => false
  | .mt .count o as, sc, e => match e with
    | .Call (.Attribute x g pa) [y] [] pc => decide (g = ("count" : Str)) && recvX x && lineB pa pc && plainX y && mE J N o sc x && mEs J N as sc [y]
    | _ => false
  | .mt .index _ _, _, _ => false
  | .sub o i, sc, e => match e with
    | .Subscript x y _ => plainX y && mE J N o sc x && mE J N i sc y
    | _ => false
  | .slc o lo hi, sc, e => match e with
    | .Subscript x (.Slice l h none _) _ => mE J N o sc x && mO J N lo sc l && mO J N hi sc h
    | _ => false
  | .rev o, sc, e => match e with
    | .Subscript x (.Slice none none (some (.UnaryOp .USub (.Constant (.int 1) _ _) _)) _) _ => mE J N o sc x
    | _ => false
  | .tup es, sc, e => match e with
    | .Tuple xs _ _ => mEs J N es sc xs
    | _ => false
  | .lst es, sc, e => match e with
    | .List xs _ => mEs J N es sc xs
    | _ => false
  | .call f as, sc, e => match e with
    | .Call (.Name g _) (x :: xs) [] _ => decide (f < J.nf) && decide (g = J.nm f) && glB sc g && okName g && plainX x && plainAllB xs && mEs J N as sc (x :: xs) && refsB (J.io f) 0 as
    | _ => false
  | .pop0 i, sc, e => match e with
    | .Call (.Attribute (.Name x _) g pa) [] [] pc => decide (g = ("pop" : Str)) && nameB N sc i x && lineB pa pc
    | _ => false
  | .pop1 i k, sc, e => match e with
    | .Call (.Attribute (.Name x _) g pa) [y] [] pc => decide (g = ("pop" : Str)) && nameB N sc i x && lineB pa pc && plainX y && mE J N k sc y
    | _ => false
  | .comp elt tgt single it cnd own, sc, e => match e with
    | .ListComp x [⟨t, i, ifs, 0⟩] scope _ => plainX x && blkC N sc scope (namesOf N own) && targetB (fun x => scope.names.lookup x == some .cell) N (relS scope sc) t tgt single && tgt.all (fun i => own.contains i) && pairB single it && mI J N it sc i && mCs J N cnd (relS scope sc) ifs && mE J N elt (relS scope sc) x
    | _ => false
  | .rng a b, sc, e => match e with
    | .Call (.Name g _) [.Call (.Name h _) [x, y] [] _] [] _ => decide (g = ("list" : Str)) && glB sc g && decide (h = ("range" : Str)) && glB sc h && plainX x && plainX y && mE J N a sc x && mE J N b sc y
    | _ => false
  | .rng1 b, sc, e => match e with
    | .Call (.Name g _) [.Call (.Name h _) [y] [] _] [] _ => decide (g = ("list" : Str)) && glB sc g && decide (h = ("range" : Str)) && glB sc h && plainX y && mE J N b sc y
    | _ => false
  | .isBool a, sc, e => match e with
    | .Call (.Name g _) [x, .Name h _] [] _ => decide (g = ("isinstance" : Str)) && glB sc g && decide (h = ("bool" : Str)) && glB sc h && plainX x && mE J N a sc x
    | _ => false
  | .isTup a, sc, e => match e with
    | .Call (.Name g _) [x, .Name h _] [] _ => decide (g = ("isinstance" : Str)) && glB sc g && decide (h = ("tuple" : Str)) && glB sc h && plainX x && mE J N a sc x
    | _ => false
  | .isInt a, sc, e => match e with
    | .Call (.Name g _) [x, .Name h _] [] _ => decide (g = ("isinstance" : Str)) && glB sc g && decide (h = ("int" : Str)) && glB sc h && plainX x && mE J N a sc x
    | _ => false
  | .sset a, sc, e => match e with
    | .Call (.Name g _) [.Call (.Name h _) [x] [] _] [] _ => decide (g = ("sorted" : Str)) && glB sc g && decide (h = ("set" : Str)) && glB sc h && plainX x && mE J N a sc x
    | _ => false
  | .comp2 elt tgt single it cnd own tgt1 single1 it1 cnd1, sc, e => match e with
    | .ListComp x [⟨t, i, ifs, 0⟩, ⟨t1, i1, ifs1, 0⟩] scope _ => plainX x && blkC N sc scope (namesOf N own) && targetB (fun x => scope.names.lookup x == some .cell) N (relS scope sc) t tgt single && tgt.all (fun i => own.contains i) && pairB single it && mI J N it sc i && mCs J N cnd (relS scope sc) ifs && mE J N elt (relS scope sc) x && targetB (fun x => scope.names.lookup x == some .cell) N (relS scope sc) t1 tgt1 single1 && tgt1.all (fun i => own.contains i) && pairB single1 it1 && mI J N it1 (relS scope sc) i1 && mCs J N cnd1 (relS scope sc) ifs1 && !(eff elt || effs cnd || effi it1 || effs cnd1)
    | _ => false
def mEs (J : Info) (N : List Str) : Es → Scope → List Expr → Bool
  | .nil, _, l => match l with
    | [] => true
    | _ => false
  | .cons e r, sc, l => match l with
    | x :: xs => plainX x && mE J N e sc x && mEs J N r sc xs
    | _ => false
def mO (J : Info) (N : List Str) : Oe → Scope → Option Expr → Bool
  | .none, _, l => match l with
    | none => true
    | _ => false
  | .some e, sc, l => match l with
    | some x => plainX x && mE J N e sc x
    | _ => false
/-- the tests of a comprehension: none or one -/
def mCs (J : Info) (N : List Str) : Es → Scope → List Expr → Bool
  | .nil, _, l => match l with
    | [] => true
    | _ => false
  | .cons e .nil, sc, l => match l with
    | [x] => plainX x && mE J N e sc x
    | _ => false
  | .cons _ (.cons _ _), _, _ => false
def mI (J : Info) (N : List Str) : It → Scope → Expr → Bool
  | .scr i, sc, e => match e with
    | .Name x _ => nameB N sc i x
    | _ => false
  | .seq a, sc, e => plainX e && mE J N a sc e
  | .r1 a, sc, e => match e with
    | .Call (.Name g _) [x] [] _ => decide (g = ("range" : Str)) && glB sc g && plainX x && mE J N a sc x
    | _ => false
  | .r2 a b, sc, e => match e with
    | .Call (.Name g _) [x, y] [] _ => decide (g = ("range" : Str)) && glB sc g && plainX x && plainX y && mE J N a sc x && mE J N b sc y
    | _ => false
  | .r3 a b c, sc, e => match e with
    | .Call (.Name g _) [x, y, z] [] _ => decide (g = ("range" : Str)) && glB sc g && plainX x && plainX y && plainX z && mE J N a sc x && mE J N b sc y && mE J N c sc z
    | _ => false
  | .enum a, sc, e => match e with
    | .Call (.Name g _) [x] [] _ => decide (g = ("enumerate" : Str)) && glB sc g && plainX x && mE J N a sc x
    | _ => false
  | .zip a b, sc, e => match e with
    | .Call (.Name g _) [x, y] [] _ => decide (g = ("zip" : Str)) && glB sc g && plainX x && plainX y && mE J N a sc x && mE J N b sc y
    | _ => false
  | .rv a, sc, e => match e with
    | .Call (.Name g _) [x] [] _ => decide (g = ("reversed" : Str)) && glB sc g && plainX x && mE J N a sc x
    | _ => false
/-- the names handed over stand where the def takes them so -/
def refsB (io : List Nat) : Nat → Es → Bool
  | _, .nil => true
  | k, .cons (.ref _) r => io.contains k && refsB io (k + 1) r
  | k, .cons _ r => refsB io (k + 1) r
end
end PV
set_option Elab.async false
set_option linter.all false
set_option maxRecDepth 100000
set_option maxHeartbeats 1000000
/-! PV5: contexts, what is promised of a def, the first expressions. -/
namespace PV
open PySem PySem.Spec PyProof.Rows L2

/-- an error is raised: its two fields -/
def ExQ (K : PySem.W.Frag) (ca : Nat → Addr) (H : Hp) (A : Own) (E : Value → Option Addr → Hp → Prop) (c : Nat) (k p : D) : Prop :=
  ∀ d H' cv pv, (∀ a o, H a = some o → ¬ Bd A a → H' a = some o) → (∀ a, H' a = none → H a = none) → H d = none → H' d = some (.xd [("place", pv), ("code", cv)]) → DpR K H' cv k [] → DpR K H' pv p [] → E (.ref (ca c)) (some d) H'
theorem ExQ.before {K : PySem.W.Frag} {ca : Nat → Addr} {H H1 : Hp} {A A1 : Own} {E : Value → Option Addr → Hp → Prop} {c : Nat} {k p : D} {S : List Nat} {σ : L2.St} {ρ : Env} (r : Rep K H S σ ρ A) (s : Stp H A H1 A1)
    (h : ExQ K ca H A E c k p) : ExQ K ca H1 A1 E c k p := fun d H' cv pv h1 h0 h2 h3 h4 h5 =>
  h d H' cv pv (fun a o e n => h1 a o (s.keep a o e n) fun b => (s.own a b).elim n fun q => by rw [e] at q; cases q) (fun a e => s.the a (h0 a e)) (s.there r h2) h3 h4 h5
theorem ExQ.imp {K : PySem.W.Frag} {ca : Nat → Addr} {H : Hp} {A : Own} {E E' : Value → Option Addr → Hp → Prop} {c : Nat} {k p : D} (h : ExQ K ca H A E c k p) (i : ∀ a b H', E a b H' → E' a b H') : ExQ K ca H A E' c k p :=
  fun d H' cv pv h1 h0 h2 h3 h4 h5 => i _ _ _ (h d H' cv pv h1 h0 h2 h3 h4 h5)

/-- what a def hands back -/
def FnQ (K : PySem.W.Frag) (io : List Nat) (vs : List V) (H : Hp) (A : Own) (r : R) (outs : List (Option Cell)) (Q : VK) : Prop :=
  ∀ v H' σ' A', Rep K H' [] σ' outs A' → (∀ j ∈ io, ∀ x, vs[j]? = some x → σ'[j]? = some (some x)) → Stp0 H A H' A' →
    (∃ as, DpR K H' v r.2 as ∧ as.Nodup ∧ (∀ a ∈ as, ¬ Bd A' a ∧ a ∉ A'.fr) ∧ ∀ a ∈ as, Bd A a ∨ H a = none) → Q v H'
/-- the promise of the def f, at most k calls deep -/
def spF (J : Info) (fs : List Fn) (ca : Nat → Addr) (K : PySem.W.Frag) (k f : Nat) : Sp := fun vs H Q E => ∃ cs A, Rep K H [] (vs.map some) (cs.map some) A ∧ vs.length = cs.length ∧ noBor (cs.map some) = true ∧ (∀ i, cs.length ≤ i → A i = []) ∧ match runF fs k f cs with
  | .ok (r, outs) => FnQ K (J.io f) vs H A r outs Q
  | .exc c k p => ExQ K ca H A E c k p
  | .stuck => False

/-- the names of built-ins that the reading knows -/
def blts : List Str := ["len", "sum", "all", "any", "max", "min", "abs", "int", "tuple", "list", "sorted", "range", "enumerate", "zip", "reversed", "isinstance", "bool", "set"]
structure Cxt (J : Info) (fs : List Fn) (ca : Nat → Addr) (k : Nat) (N : List Str) (sc : Scope) (W : WX) (X : Cx) : Prop where
  N : X.N = N
  sc : X.env.scope = sc
  calm : X.calm = true
  nd : X.N.Nodup
  room : Room (k + 2) X.A
  blt : ∀ x ∈ blts, X.mg x = none
  gc : ∀ x n, J.gc.lookup x = some n → ∃ t, X.mg x = some (.int n t)
  takes : Takes X W
  fn : ∀ f, f < J.nf → ∃ a fd ps, FnOk X.prog X.w X.K X.mg X.base (L2.CX X.prog X.w) (k + 2) a fd ps (spF J fs ca X.K k f) ∧ X.mg (J.nm f) = some (.ref a) ∧ PySem.W.keepIn X.K (.ref a) = true ∧ Binds X.K fd ps []
theorem Cxt.blk {J : Info} {fs : List Fn} {ca : Nat → Addr} {k : Nat} {N : List Str} {sc : Scope} {W : WX} {X : Cx} (C : Cxt J fs ca k N sc W X) (s : Shared) (H : Hp) (scope : Scope) (D : Addr) (cl : List (Str × Addr)) (fp : List Addr) :
    Cxt J fs ca k N (relS scope sc) (fun _ _ _ _ => False) (X.blk s H scope (compEnvC scope cl D X.env) fp) where
  N := C.N
  sc := by rw [← C.sc]; rfl
  calm := C.calm
  nd := C.nd
  room := C.room
  blt := C.blt
  gc := C.gc
  takes := takes0
  fn := C.fn

/-- what is wanted behind an expression -/
def Rn (K : PySem.W.Frag) (ca : Nat → Addr) (S : List Nat) (W : WX) (σ : L2.St) (vs : List Nat) (ef : Bool) (H : Hp) (A : Own) (res : Res (R × Env)) (Q : VK) : Prop := match res with
  | .ok (r, ρ') => ∀ v H' A', Rep K H' S σ ρ' A' → Stp H A H' A' → RVal K H A H' A' (vs ++ S) v r → (ef = false → A' = A ∧ Same H H') → Q v H'
  | .exc c k p => ExQ K ca H A (fun a b H' => W a b σ H') c k p
  | .stuck => False
/-- an expression's reading -/
def tS (K : PySem.W.Frag) (ca : Nat → Addr) (cf : CF) (S : List Nat) (W : WX) (e : E) : TE := fun σ H Q => ∃ ρ A, Rep K H S σ ρ A ∧ Rn K ca S W σ (vars e) (eff e) H A (ev cf e ρ) Q
/-- .. as a test -/
def RnT (K : PySem.W.Frag) (ca : Nat → Addr) (S : List Nat) (W : WX) (σ : L2.St) (ef : Bool) (H : Hp) (A : Own) (res : Res (R × Env)) (Q : Bool → Hp → Prop) : Prop := match res with
  | .ok ((_, .bool b), ρ') => ∀ H' A', Rep K H' S σ ρ' A' → Stp H A H' A' → (ef = false → A' = A ∧ Same H H') → Q b H'
  | .ok _ => False
  | .exc c k p => ExQ K ca H A (fun a b H' => W a b σ H') c k p
  | .stuck => False
def tT (K : PySem.W.Frag) (ca : Nat → Addr) (cf : CF) (S : List Nat) (W : WX) (e : E) : TT := fun σ H Q => ∃ ρ A, Rep K H S σ ρ A ∧ RnT K ca S W σ (eff e) H A (ev cf e ρ) Q
theorem _root_.L2.PE.weaken {X : Cx} {e : Expr} {t t' : TE} (h : PE X e t) (w : ∀ σ H Q, t' σ H Q → t σ H Q) : PE X e t' := ⟨fun pins s σ H Q I q => h.run pins s σ H Q I (w σ H Q q)⟩
theorem _root_.L2.PT.weaken {X : Cx} {e : Expr} {t t' : TT} (h : PT X e t) (w : ∀ σ H Q, t' σ H Q → t σ H Q) : PT X e t' := ⟨fun pins s σ H Q I q => h.run pins s σ H Q I (w σ H Q q)⟩
theorem _root_.L2.PE.any {X : Cx} {e : Expr} {t' : TE} (h : ∀ σ H Q, t' σ H Q → ∃ t, PE X e t ∧ t σ H Q) : PE X e t' := ⟨fun pins s σ H Q I q => by
  obtain ⟨t, h1, h2⟩ := h σ H Q q
  exact h1.run pins s σ H Q I h2⟩
theorem _root_.L2.PT.any {X : Cx} {e : Expr} {t' : TT} (h : ∀ σ H Q, t' σ H Q → ∃ t, PT X e t ∧ t σ H Q) : PT X e t' := ⟨fun pins s σ H Q I q => by
  obtain ⟨t, h1, h2⟩ := h σ H Q q
  exact h1.run pins s σ H Q I h2⟩

/-- a value waits while what is behind it runs -/
theorem RVal.later {K : PySem.W.Frag} {S : List Nat} {σ : L2.St} {ρ ρ1 : Env} {H H1 H2 : Hp} {A A1 A2 : Own} {vs : List Nat} {v : V} {r : R} {ef : Bool} (r0 : Rep K H S σ ρ A) (s : Stp H A H1 A1) (r1 : Rep K H1 S σ ρ1 A1) (t : Stp H1 A1 H2 A2)
    (he : ef = false → A2 = A1 ∧ Same H1 H2) (hk : keeps r ef = true) (h : RVal K H A H1 A1 vs v r) : RVal K H A H2 A2 vs v r := by
  rcases h with ⟨e, as, h1, h2, h3, h4⟩ | ⟨e, as, h1, h2⟩
  · refine .inl ⟨e, as, h1.keep (t.fix r1) fun a ha xs hx => t.keep a _ hx (h3 a ha).1, h2, fun a ha => ⟨fun b => ?_, fun b => ?_⟩, h4⟩
    · rcases t.own a b with b | b
      · exact (h3 a ha).1 b
      · obtain ⟨xs, q⟩ := h1.trk a ha
        rw [b] at q
        cases q
    · rcases t.fro a b with b | b | b
      · exact (h3 a ha).2 b
      · exact (h3 a ha).1 b
      · obtain ⟨xs, q⟩ := h1.trk a ha
        rw [b] at q
        cases q
  · by_cases hi : imm r.2 = true
    · have e' := h1.imm hi
      subst e'
      exact .inr ⟨e, [], h1.keep (t.fix r1) (fun a ha => by simp at ha), fun a ha => by simp at ha⟩
    · have ef0 : ef = false := by
        unfold keeps at hk
        rw [e] at hk
        cases ef with
        | false => rfl
        | true => simp [hi] at hk
      obtain ⟨ea, sm⟩ := he ef0
      subst ea
      exact .inr ⟨e, as, h1.keep (Fix.of sm) fun a ha xs hx => sm a _ hx, h2⟩
theorem RVal.sub {K : PySem.W.Frag} {H H' : Hp} {A A' : Own} {vs vs' : List Nat} {v : V} {r : R} (h : RVal K H A H' A' vs v r) (hs : ∀ i ∈ vs, i ∈ vs') : RVal K H A H' A' vs' v r := by
  rcases h with h | ⟨e, as, h1, h2⟩
  · exact .inl h
  · exact .inr ⟨e, as, h1, fun a ha i hi => h2 a ha i fun q => hi (hs i q)⟩
/-- .. counted from an earlier state -/
theorem RVal.since {K : PySem.W.Frag} {S : List Nat} {σ : L2.St} {ρ : Env} {H H1 H2 : Hp} {A A1 A2 : Own} {vs : List Nat} {v : V} {r : R} (r0 : Rep K H S σ ρ A) (s : Stp H A H1 A1) (h : RVal K H1 A1 H2 A2 vs v r) : RVal K H A H2 A2 vs v r := by
  rcases h with ⟨e, as, h1, h2, h3, h4⟩ | h
  · exact .inl ⟨e, as, h1, h2, h3, fun a ha => (h4 a ha).elim (s.own a) fun q => .inr (s.there r0 q)⟩
  · exact .inr h
theorem get_of {ρ : Env} {i : Nat} {c : Cell} (h : PV.get ρ i = some c) : ρ[i]? = some (some c) := by
  unfold PV.get at h
  split at h
  · rename_i c' e; rw [e, h]
  · cases h
/-- what a name holds -/
theorem rd_ok {K : PySem.W.Frag} {H : Hp} {S : List Nat} {σ : L2.St} {ρ : Env} {A : Own} {i : Nat} {r : R} (rep : Rep K H S σ ρ A) (h : PV.rd ρ i = .ok r) : ∃ v, σ[i]? = some (some v) ∧ r.1 = imm r.2 ∧ RVal K H A H A ([i] ++ S) v r := by
  unfold PV.rd at h
  split at h
  · cases h
  · rename_i c hc hs
    cases h
    obtain ⟨v, e, ok⟩ := rep.cell i c hs
    refine ⟨v, e, rfl, ?_⟩
    have fin : ∀ as, DpR K H v c.d as → (∀ a ∈ as, ∀ j, j ∉ [i] ++ S → a ∉ A j) → RVal K H A H A ([i] ++ S) v (imm c.d, c.d) := fun as r n => by
      by_cases hi : imm c.d = true
      · exact RVal.of_imm r hi
      · have hf : imm c.d = false := by simpa using hi
        exact .inr ⟨hf, as, r, n⟩
    cases c with
    | own d => exact fin _ ok.1 fun a ha j hj q => hj (by rw [rep.disj j i a q ha]; simp)
    | fz d =>
      obtain ⟨as, h1, h2⟩ := ok
      exact fin as h1 fun a ha j _ q => rep.fdis a (h2 a ha) ⟨j, q⟩
    | bor d =>
      obtain ⟨as, h1, h2⟩ := ok
      exact fin as h1 fun a ha j hj => h2 a ha j fun q => hj (by simp [q])
    | scr l => exact absurd rfl (hc l)
  · cases h
end PV
set_option Elab.async false
set_option linter.all false
set_option maxRecDepth 100000
set_option maxHeartbeats 1000000
/-! PV6: expressions, one by one. -/
namespace PV
open PySem PySem.Spec PyProof.Rows L2

section
variable {K : PySem.W.Frag} {ca : Nat → Addr} {cf : CF} {S : List Nat} {W : WX} {σ : L2.St} {H0 H : Hp} {A0 A : Own} {ρ0 ρ : Env} {vs : List Nat} {ef : Bool} {Q : VK}
/-- a part of an expression runs first -/
theorem tS_bind {a : E} {f : R × Env → Res (R × Env)} {Q1 : VK} (r0 : Rep K H0 S σ ρ0 A0) (s0 : Stp H0 A0 H A) (rep : Rep K H S σ ρ A) (h : Rn K ca S W σ vs ef H0 A0 (ev cf a ρ >>= f) Q)
    (hq : ∀ r ρ1 v H1 A1, Rep K H1 S σ ρ1 A1 → Stp H A H1 A1 → RVal K H A H1 A1 (vars a ++ S) v r → (eff a = false → A1 = A ∧ Same H H1) → Rn K ca S W σ vs ef H0 A0 (f (r, ρ1)) Q → Q1 v H1) : tS K ca cf S W a σ H Q1 := by
  refine ⟨ρ, A, rep, ?_⟩
  rcases e : ev cf a ρ with ⟨r, ρ1⟩ | ⟨c, k, p⟩ | _
  · rw [e] at h
    exact fun v H1 A1 r1 s1 rv ef1 => hq r ρ1 v H1 A1 r1 s1 rv ef1 h
  · rw [e] at h
    have h' : ExQ K ca H0 A0 (fun a b H' => W a b σ H') c k p := h
    exact ExQ.before r0 s0 h'
  · rw [e] at h
    exact h
theorem tT_bind {a : E} {f : Bool × Env → Res (R × Env)} {Q1 : Bool → Hp → Prop} (r0 : Rep K H0 S σ ρ0 A0) (s0 : Stp H0 A0 H A) (rep : Rep K H S σ ρ A) (h : Rn K ca S W σ vs ef H0 A0 (ev cf a ρ >>= fun x => asBool x.1.2 >>= fun b => f (b, x.2)) Q)
    (hq : ∀ b ρ1 H1 A1, Rep K H1 S σ ρ1 A1 → Stp H A H1 A1 → (eff a = false → A1 = A ∧ Same H H1) → Rn K ca S W σ vs ef H0 A0 (f (b, ρ1)) Q → Q1 b H1) : tT K ca cf S W a σ H Q1 := by
  refine ⟨ρ, A, rep, ?_⟩
  rcases e : ev cf a ρ with ⟨⟨o, d⟩, ρ1⟩ | ⟨c, k, p⟩ | _
  · rw [e] at h
    cases d <;> try exact h
    exact fun H1 A1 r1 s1 ef1 => hq _ ρ1 H1 A1 r1 s1 ef1 h
  · rw [e] at h
    have h' : ExQ K ca H0 A0 (fun a b H' => W a b σ H') c k p := h
    exact ExQ.before r0 s0 h'
  · rw [e] at h
    exact h
theorem DpR.bool_inv {H : Hp} {v : V} {b : Bool} {as : List Addr} (r : DpR K H v (.bool b) as) : v = .bl b := by cases r; rfl
theorem DpR.int_inv {H : Hp} {v : V} {b : Int} {as : List Addr} (r : DpR K H v (.int b) as) : v = .int b := by cases r; rfl
/-- an expression whose value is a bool, as a test -/
theorem tT_tB {e : E} {Q : Bool → Hp → Prop} (h : tT K ca cf S W e σ H Q) : tB (tS K ca cf S W e) σ H Q := by
  obtain ⟨ρ, A, rep, h⟩ := h
  refine ⟨ρ, A, rep, ?_⟩
  rcases e1 : ev cf e ρ with ⟨⟨o, d⟩, ρ1⟩ | ⟨c, k, p⟩ | _
  · rw [e1] at h
    cases d <;> try exact h.elim
    intro v H1 A1 r1 s1 rv ef1
    obtain ⟨as, q, _⟩ := rv.any
    exact ⟨_, q.bool_inv, h H1 A1 r1 s1 ef1⟩
  · rw [e1] at h
    exact h
  · rw [e1] at h
    exact h
/-- what an operation hands back, as an expression's value -/
theorem RVal.of_op {N : Addr → Prop} {z : V} {d : D} {H2 H' : Hp} {A2 : Own} {ρ2 : Env} (r0 : Rep K H0 S σ ρ0 A0) (s : Stp H0 A0 H2 A2) (r2 : Rep K H2 S σ ρ2 A2) (hn : ∀ a, N a → ∀ i, i ∉ vs → a ∉ A2 i) (h : OpV K H2 H' N z d) :
    RVal K H0 A0 H' A2 vs z (flat d, d) := by
  have new : ∀ a, H2 a = none → ¬ Bd A2 a := fun a e ⟨i, hi⟩ => by
    obtain ⟨xs, q⟩ := r2.trk i a hi
    rw [e] at q
    cases q
  have newf : ∀ a, H2 a = none → a ∉ A2.fr := fun a e hi => by
    obtain ⟨xs, q⟩ := r2.ftrk a hi
    rw [e] at q
    cases q
  rcases h with ⟨e, cs, h1, h2, h3⟩ | ⟨e, cs, h1, h2⟩
  · exact .inl ⟨e, cs, h1, h2, fun a ha => ⟨new a (h3 a ha), newf a (h3 a ha)⟩, fun a ha => .inr (s.there r0 (h3 a ha))⟩
  · exact .inr ⟨e, cs, h1, fun a ha i hi q => (h2 a ha).elim (fun m => hn a m i hi q) fun m => new a m ⟨i, q⟩⟩
theorem Stp.then_new {H1 H2 : Hp} {A1 : Own} (r0 : Rep K H0 S σ ρ0 A0) (s : Stp H0 A0 H1 A1) (n : Same H1 H2) : Stp H0 A0 H2 A1 := Stp.trans r0 s (Stp.new n)
theorem avoid_mono {A2 : Own} {us : List Nat} {as : List Addr} (n : ∀ a ∈ as, ∀ i, i ∉ us ++ S → a ∉ A2 i) (hv : ∀ i, i ∈ us → i ∈ vs) : ∀ a ∈ as, ∀ i, i ∉ vs ++ S → a ∉ A2 i :=
  fun a ha i hi => n a ha i fun m => hi ((List.mem_append.mp m).elim (fun q => List.mem_append_left _ (hv i q)) fun q => List.mem_append_right _ q)
/-- two operands, then an operation that makes at most new things -/
theorem w_op2 {a b : E} {o : D → D → Res D} (hv : ∀ i, i ∈ vars a → i ∈ vs) (hv2 : ∀ i, i ∈ vars b → i ∈ vs) (he : ef = false → eff a = false ∧ eff b = false) (rep : Rep K H S σ ρ A)
    (h : Rn K ca S W σ vs ef H A (ev cf a ρ >>= fun x => ev cf b x.2 >>= fun y => if keeps x.1 (eff b) = true then noExc (o x.1.2 y.1.2) >>= fun d => Res.ok ((flat d, d), y.2) else .stuck) Q) : tOp (r2 K o) (tS K ca cf S W a) (tS K ca cf S W b) σ H Q := by
  refine tS_bind rep (Stp.refl _ _) rep h fun x ρ1 v1 H1 A1 r1 s1 rv1 ef1 h => ?_
  refine tS_bind rep s1 r1 h fun y ρ2 v2 H2 A2 r2' s2 rv2 ef2 h => ?_
  dsimp only at h
  split at h
  · rename_i hk
    cases e3 : noExc (o x.2 y.2) with
    | ok d =>
      rw [e3] at h
      have rv1' := RVal.later rep s1 r1 s2 ef2 hk rv1
      obtain ⟨as, d1, n1⟩ := rv1'.any
      obtain ⟨bs, d2, n2⟩ := rv2.any
      have st := Stp.trans rep s1 s2
      refine ⟨_, _, as, bs, d, d1, d2, noExc_inv e3, fun z H' sm op => h z H' A2 (r2'.new sm) (st.then_new rep sm) (RVal.of_op rep st r2' (fun c hc i hi => ?_) op) fun e => ?_⟩
      · exact hc.elim (fun hc => avoid_mono n1 hv c hc i hi) fun hc => avoid_mono n2 hv2 c hc i hi
      · obtain ⟨ea, eb⟩ := he e
        obtain ⟨q1, m1⟩ := ef1 ea
        obtain ⟨q2, m2⟩ := ef2 eb
        exact ⟨q2.trans q1, (m1.trans m2).trans sm⟩
    | exc c k p => exact (noExc_not e3).elim
    | stuck => rw [e3] at h; exact h.elim
  · exact h.elim
end
section
variable {J : Info} {fs : List Fn} {ca : Nat → Addr} {k : Nat} {N : List Str} {sc : Scope} {W : WX} {X : Cx} {S : List Nat}
/-- the judgement -/
abbrev SE (ca : Nat → Addr) (fs : List Fn) (k : Nat) (S : List Nat) (W : WX) (X : Cx) (e : E) (x : Expr) : Prop := PE X x (tS X.K ca (runF fs k) S W e)
abbrev ST (ca : Nat → Addr) (fs : List Fn) (k : Nat) (S : List Nat) (W : WX) (X : Cx) (e : E) (x : Expr) : Prop := PT X x (tT X.K ca (runF fs k) S W e)
theorem Cxt.hu (C : Cxt J fs ca k N sc W X) : X.A.units + 64 < cLine := by have := C.room.un; omega
theorem vis_of {x : Str} (C : Cxt J fs ca k N sc W X) (h : visB sc x = true) : Vis X.env.scope x := by
  rw [C.sc]
  unfold visB at h
  split at h <;> rename_i e <;> first | exact .inl e | exact .inr (.inl e) | exact .inr (.inr e) | cases h
theorem gl_of {x : Str} (C : Cxt J fs ca k N sc W X) (h : glB sc x = true) : Gl X x := by
  show X.env.scope.names.lookup x = some .globalImplicit
  rw [C.sc]
  unfold glB at h
  split at h <;> rename_i e <;> first | exact e | cases h
theorem name_of {x : Str} {i : Nat} (C : Cxt J fs ca k N sc W X) (h : nameB N sc i x = true) : X.N[i]? = some x ∧ Vis X.env.scope x ∧ (x == ("__debug__" : Str)) = false ∧ (x == ("__classdict__" : Str)) = false := by
  simp only [nameB, okName, Bool.and_eq_true, decide_eq_true_eq, Bool.not_eq_true'] at h
  exact ⟨by rw [C.N]; exact h.1.1, vis_of C h.1.2, h.2.1.1, h.2.1.2⟩
theorem pe_nm {x : Str} {i : Nat} {p : Pos} (C : Cxt J fs ca k N sc W X) (h : nameB N sc i x = true) : PE X (.Name x p) (tVar i) := by
  obtain ⟨h1, h2, h3, h4⟩ := name_of C h
  exact pe_var h1 h2 h3 h4
theorem s_var {i : Nat} {x : Expr} (C : Cxt J fs ca k N sc W X) (h : mE J N (.var i) sc x = true) : SE ca fs k S W X (.var i) x := by
  simp only [mE] at h
  split at h <;> try (cases h; done)
  refine (pe_nm C h).weaken fun σ H Q ⟨ρ, A, rep, q⟩ => ?_
  simp only [ev] at q
  cases e : rd ρ i with
  | ok r =>
    rw [e] at q
    obtain ⟨v, ev1, _, rv⟩ := rd_ok rep e
    exact ⟨v, ev1, q v H A rep (Stp.refl _ _) rv fun _ => ⟨rfl, Same.refl _⟩⟩
  | exc c k p =>
    unfold rd at e
    split at e <;> cases e
  | stuck => rw [e] at q; exact q.elim
theorem rn_const {K : PySem.W.Frag} {vs : List Nat} {σ : L2.St} {H : Hp} {A : Own} {ρ : Env} {Q : VK} {b : Bool} {d : D} {v : V} (rep : Rep K H S σ ρ A) (r : DpR K H v d []) (hi : imm d = true) (q : Rn K ca S W σ vs false H A (.ok ((b, d), ρ)) Q) : Q v H :=
  q v H A rep (Stp.refl _ _) (RVal.of_imm r hi) fun _ => ⟨rfl, Same.refl _⟩
theorem s_int {n : Int} {x : Expr} (C : Cxt J fs ca k N sc W X) (h : mE J N (.int n) sc x = true) : SE ca fs k S W X (.int n) x := by
  simp only [mE] at h
  split at h <;> try (cases h; done)
  · simp only [decide_eq_true_eq] at h
    subst h
    exact pe_int.weaken fun σ H Q ⟨ρ, A, rep, q⟩ => rn_const rep (.int _) rfl q
  · simp only [Bool.and_eq_true, decide_eq_true_eq] at h
    obtain ⟨⟨h1, h2⟩, h3⟩ := h
    obtain ⟨t, ht⟩ := C.gc _ _ h3
    simp only [okName, Bool.and_eq_true, Bool.not_eq_true'] at h2
    exact (pe_glob (v := .int n) (gl_of C h1) ht ⟨t, rfl⟩ (hd := h2.1.1)).weaken fun σ H Q ⟨ρ, A, rep, q⟩ => rn_const rep (.int _) rfl q
theorem s_str {n : Str} {x : Expr} (h : mE J N (.str n) sc x = true) : SE ca fs k S W X (.str n) x := by
  simp only [mE] at h
  split at h <;> try (cases h; done)
  simp only [decide_eq_true_eq] at h
  subst h
  exact pe_str.weaken fun σ H Q ⟨ρ, A, rep, q⟩ => rn_const rep (.str _) rfl q
theorem s_bl {n : Bool} {x : Expr} (h : mE J N (.bl n) sc x = true) : SE ca fs k S W X (.bl n) x := by
  simp only [mE] at h
  split at h <;> try (cases h; done)
  simp only [decide_eq_true_eq] at h
  subst h
  exact pe_bl.weaken fun σ H Q ⟨ρ, A, rep, q⟩ => rn_const rep (.bl _) rfl q
theorem s_non {x : Expr} (h : mE J N .non sc x = true) : SE ca fs k S W X .non x := by
  simp only [mE] at h
  split at h <;> try (cases h; done)
  exact pe_non.weaken fun σ H Q ⟨ρ, A, rep, q⟩ => rn_const rep .non rfl q
theorem mark_of {b : Expr} {op : CmpOp} (h : plainX b = true) : behindInMarks op b = false := by
  cases b <;> first | rfl | (simp [plainX] at h)
theorem s_op2 {o : O2} {a b : E} {x : Expr} (C : Cxt J fs ca k N sc W X) (ia : ∀ x, mE J N a sc x = true → SE ca fs k S W X a x) (ib : ∀ x, mE J N b sc x = true → SE ca fs k S W X b x)
    (h : mE J N (.op2 o a b) sc x = true) : SE ca fs k S W X (.op2 o a b) x := by
  have wk : ∀ σ H Q, tS X.K ca (runF fs k) S W (.op2 o a b) σ H Q → tOp (r2 X.K (op2 o)) (tS X.K ca (runF fs k) S W a) (tS X.K ca (runF fs k) S W b) σ H Q := fun σ H Q ⟨ρ, A, rep, q⟩ => by
    simp only [ev] at q
    exact w_op2 (vs := vars (.op2 o a b)) (ef := eff (.op2 o a b)) (fun i hi => List.mem_append_left _ hi) (fun i hi => List.mem_append_right _ hi) (fun e => by simpa [eff] using e) rep q
  simp only [mE] at h
  split at h <;> try (cases h; done)
  · simp only [Bool.and_eq_true, decide_eq_true_eq] at h
    obtain ⟨⟨e, h1⟩, h2⟩ := h
    cases o <;> simp only [binOf] at e <;> cases e
    · exact (pe_op o_add (ia _ h1) (ib _ h2)).weaken wk
    · exact (pe_op o_sub (ia _ h1) (ib _ h2)).weaken wk
    · exact (pe_op o_mul (ia _ h1) (ib _ h2)).weaken wk
    · exact (pe_op o_fdiv (ia _ h1) (ib _ h2)).weaken wk
    · exact (pe_op o_mod (ia _ h1) (ib _ h2)).weaken wk
    · exact (pe_op o_pow (ia _ h1) (ib _ h2)).weaken wk
  · simp only [Bool.and_eq_true, decide_eq_true_eq] at h
    obtain ⟨⟨⟨e, pl⟩, h1⟩, h2⟩ := h
    cases o <;> simp only [cmpOf] at e <;> cases e
    · exact (pe_cmpR (o_eq C.hu) (ia _ h1) (ib _ h2) (mark_of pl)).weaken wk
    · exact (pe_cmpR (o_ne C.hu) (ia _ h1) (ib _ h2) (mark_of pl)).weaken wk
    · exact (pe_cmpR (o_lt C.hu) (ia _ h1) (ib _ h2) (mark_of pl)).weaken wk
    · exact (pe_cmpR (o_le C.hu) (ia _ h1) (ib _ h2) (mark_of pl)).weaken wk
    · exact (pe_cmpR (o_gt C.hu) (ia _ h1) (ib _ h2) (mark_of pl)).weaken wk
    · exact (pe_cmpR (o_ge C.hu) (ia _ h1) (ib _ h2) (mark_of pl)).weaken wk
    · exact (pe_cmpR (o_in C.hu) (ia _ h1) (ib _ h2) (mark_of pl)).weaken wk
    · exact (pe_cmpR (o_nin C.hu) (ia _ h1) (ib _ h2) (mark_of pl)).weaken wk
    · exact (pe_cmpR o_isN (ia _ h1) (ib _ h2) (mark_of pl)).weaken wk
    · exact (pe_cmpR o_ntN (ia _ h1) (ib _ h2) (mark_of pl)).weaken wk
/-- a comparison of two as a test -/
theorem t_op2 {o : O2} {a b : E} {x y : Expr} {p : CmpOp} {pos : Pos} (C : Cxt J fs ca k N sc W X) (ia : SE ca fs k S W X a x) (ib : SE ca fs k S W X b y) (pl : plainX y = true) (e : cmpOf o = some p) :
    ST ca fs k S W X (.op2 o a b) (.Compare x [p] [y] pos) := by
  have wk : ∀ σ H Q, tT X.K ca (runF fs k) S W (.op2 o a b) σ H Q → tTest (tOp (r2 X.K (op2 o)) (tS X.K ca (runF fs k) S W a) (tS X.K ca (runF fs k) S W b)) σ H Q := fun σ H Q q => by
    obtain ⟨ρ, A, rep, q⟩ := (tT_tB q : tB _ σ H Q)
    simp only [ev] at q
    exact w_op2 (vs := vars (.op2 o a b)) (ef := eff (.op2 o a b)) (fun i hi => List.mem_append_left _ hi) (fun i hi => List.mem_append_right _ hi) (fun e => by simpa [eff] using e) rep q
  cases o <;> simp only [cmpOf] at e <;> cases e
  · exact (pt_cmpR (o_eq C.hu) ia ib (mark_of pl)).weaken wk
  · exact (pt_cmpR (o_ne C.hu) ia ib (mark_of pl)).weaken wk
  · exact (pt_cmpR (o_lt C.hu) ia ib (mark_of pl)).weaken wk
  · exact (pt_cmpR (o_le C.hu) ia ib (mark_of pl)).weaken wk
  · exact (pt_cmpR (o_gt C.hu) ia ib (mark_of pl)).weaken wk
  · exact (pt_cmpR (o_ge C.hu) ia ib (mark_of pl)).weaken wk
  · exact (pt_cmpR (o_in C.hu) ia ib (mark_of pl)).weaken wk
  · exact (pt_cmpR (o_nin C.hu) ia ib (mark_of pl)).weaken wk
  · exact (pt_cmpR o_isN ia ib (mark_of pl)).weaken wk
  · exact (pt_cmpR o_ntN ia ib (mark_of pl)).weaken wk
end
end PV
set_option Elab.async false
set_option linter.all false
set_option maxRecDepth 100000
set_option maxHeartbeats 1000000
/-! PV7: expressions, further. -/
namespace PV
open PySem PySem.Spec PyProof.Rows L2
section
variable {J : Info} {fs : List Fn} {ca : Nat → Addr} {k : Nat} {N : List Str} {sc : Scope} {W : WX} {X : Cx} {S : List Nat}
/-- the last part of an expression -/
theorem tS_tail {K : PySem.W.Frag} {cf : CF} {σ : L2.St} {H0 H : Hp} {A0 A : Own} {ρ0 ρ : Env} {vs : List Nat} {ef : Bool} {Q : VK} {b : E} (r0 : Rep K H0 S σ ρ0 A0) (s0 : Stp H0 A0 H A) (rep : Rep K H S σ ρ A) (hv : ∀ i, i ∈ vars b → i ∈ vs)
    (he : ef = false → (A = A0 ∧ Same H0 H) ∧ eff b = false) (h : Rn K ca S W σ vs ef H0 A0 (ev cf b ρ) Q) : tS K ca cf S W b σ H Q := by
  have e : ev cf b ρ = (ev cf b ρ >>= fun z => .ok z) := by cases ev cf b ρ <;> rfl
  rw [e] at h
  refine tS_bind r0 s0 rep h fun r2 ρ2 v2 H2 A2 r2' s2 rv2 ef2 q => ?_
  refine q v2 H2 A2 r2' (Stp.trans r0 s0 s2) ((rv2.since r0 s0).sub fun i hi => ?_) fun e => ?_
  · exact (List.mem_append.mp hi).elim (fun m => List.mem_append_left _ (hv i m)) fun m => List.mem_append_right _ m
  · obtain ⟨⟨e1, m1⟩, e2⟩ := he e
    obtain ⟨e3, m2⟩ := ef2 e2
    exact ⟨e3.trans e1, m1.trans m2⟩
theorem tT_tail {K : PySem.W.Frag} {cf : CF} {σ : L2.St} {H0 H : Hp} {A0 A : Own} {ρ0 ρ : Env} {ef : Bool} {Q : Bool → Hp → Prop} {b : E} (r0 : Rep K H0 S σ ρ0 A0) (s0 : Stp H0 A0 H A) (rep : Rep K H S σ ρ A)
    (he : ef = false → (A = A0 ∧ Same H0 H) ∧ eff b = false) (h : RnT K ca S W σ ef H0 A0 (ev cf b ρ) Q) : tT K ca cf S W b σ H Q := by
  refine ⟨ρ, A, rep, ?_⟩
  rcases e : ev cf b ρ with ⟨⟨o, d⟩, ρ1⟩ | ⟨c, k, p⟩ | _
  · rw [e] at h
    cases d <;> try exact h
    intro H1 A1 r1 s1 ef1
    refine h H1 A1 r1 (Stp.trans r0 s0 s1) fun q => ?_
    obtain ⟨⟨e1, m1⟩, e2⟩ := he q
    obtain ⟨e3, m2⟩ := ef1 e2
    exact ⟨e3.trans e1, m1.trans m2⟩
  · rw [e] at h
    have h' : ExQ K ca H0 A0 (fun a b H' => W a b σ H') c k p := h
    exact ExQ.before r0 s0 h'
  · rw [e] at h
    exact h
/-- a test runs first -/
theorem tT_first {K : PySem.W.Frag} {cf : CF} {σ : L2.St} {H : Hp} {A : Own} {ρ : Env} {ef : Bool} {Q : Bool → Hp → Prop} {a : E} {f : Bool × Env → Res (R × Env)} {Q1 : Bool → Hp → Prop} (rep : Rep K H S σ ρ A)
    (h : RnT K ca S W σ ef H A (ev cf a ρ >>= fun x => asBool x.1.2 >>= fun b => f (b, x.2)) Q)
    (hq : ∀ b ρ1 H1 A1, Rep K H1 S σ ρ1 A1 → Stp H A H1 A1 → (eff a = false → A1 = A ∧ Same H H1) → RnT K ca S W σ ef H A (f (b, ρ1)) Q → Q1 b H1) : tT K ca cf S W a σ H Q1 := by
  refine ⟨ρ, A, rep, ?_⟩
  rcases e : ev cf a ρ with ⟨⟨o, d⟩, ρ1⟩ | ⟨c, k, p⟩ | _
  · rw [e] at h
    cases d <;> try exact h
    exact fun H1 A1 r1 s1 ef1 => hq _ ρ1 H1 A1 r1 s1 ef1 h
  · rw [e] at h
    exact h
  · rw [e] at h
    exact h
theorem st_of {e : E} {x : Expr} (h : SE ca fs k S W X e x) (he : ∀ whole, isTrue x X.env whole = (do let v ← whole; standAt x.pos; holding [v] (truthy v))) : ST ca fs k S W X e x := (pt_val h he).weaken fun _ _ _ q => tT_tB q
theorem pw_of {op : BoolOp} {l : List Expr} {p : Pos} {t : TT} (h : PT X (.BoolOp op l p) t) : PW X (.BoolOp op l p) t := ⟨fun wh pins s σ H Q I q => h.run pins s σ H Q I q⟩
theorem s_neg {a : E} {x : Expr} {p : Pos} (ia : SE ca fs k S W X a x) : SE ca fs k S W X (.op1 .neg a) (.UnaryOp .USub x p) := by
  refine (pe_un un_neg ia).weaken fun σ H Q ⟨ρ, A, rep, q⟩ => ?_
  simp only [ev] at q
  refine tS_bind rep (Stp.refl _ _) rep q fun r ρ1 v1 H1 A1 r1 s1 rv1 ef1 q => ?_
  obtain ⟨o, d⟩ := r
  dsimp only at q
  cases d <;> try (exact q.elim)
  obtain ⟨as, d1, _⟩ := rv1.any
  exact ⟨_, d1.int_inv, q _ H1 A1 r1 s1 (RVal.of_imm (.int _) rfl) ef1⟩
theorem s_nt {a : E} {x : Expr} {p : Pos} (ia : SE ca fs k S W X a x) : SE ca fs k S W X (.op1 .nt a) (.UnaryOp .Not x p) := by
  refine (pe_not ia).weaken fun σ H Q ⟨ρ, A, rep, q⟩ => ?_
  simp only [ev] at q
  refine tS_bind rep (Stp.refl _ _) rep q fun r ρ1 v1 H1 A1 r1 s1 rv1 ef1 q => ?_
  obtain ⟨o, d⟩ := r
  dsimp only at q
  cases d <;> try (exact q.elim)
  obtain ⟨as, d1, _⟩ := rv1.any
  exact ⟨_, d1.bool_inv, q _ H1 A1 r1 s1 (RVal.of_imm (.bl _) rfl) ef1⟩
theorem t_nt {a : E} {x : Expr} {p : Pos} (ia : ST ca fs k S W X a x) : ST ca fs k S W X (.op1 .nt a) (.UnaryOp .Not x p) := by
  refine (pt_not ia).weaken fun σ H Q ⟨ρ, A, rep, q⟩ => ?_
  refine ⟨ρ, A, rep, ?_⟩
  simp only [ev] at q
  rcases e : ev (runF fs k) a ρ with ⟨⟨o, d⟩, ρ1⟩ | ⟨c, k, p⟩ | _
  · rw [e] at q
    cases d <;> try exact q
  · rw [e] at q
    exact q
  · rw [e] at q
    exact q
theorem s_and {a b : E} {x y : Expr} {r : List Expr} {p : Pos} (ia : SE ca fs k S W X a x) (ib : PE X (.BoolOp .And (y :: r) p) (tS X.K ca (runF fs k) S W b)) : SE ca fs k S W X (.and a b) (.BoolOp .And (x :: y :: r) p) := by
  refine (pe_and ia ib).weaken fun σ H Q ⟨ρ, A, rep, q⟩ => ?_
  simp only [ev] at q
  refine tS_bind rep (Stp.refl _ _) rep q fun r ρ1 v1 H1 A1 r1 s1 rv1 ef1 q => ?_
  obtain ⟨o, d⟩ := r
  dsimp only at q
  cases d <;> try (exact q.elim)
  rename_i c
  obtain ⟨as, d1, _⟩ := rv1.any
  refine ⟨_, d1.bool_inv, ?_⟩
  cases c with
  | true =>
    rw [if_pos rfl]
    refine tS_tail rep s1 r1 (fun i hi => List.mem_append_right _ hi) (fun e => ?_) q
    simp only [eff, Bool.or_eq_false_iff] at e
    exact ⟨ef1 e.1, e.2⟩
  | false =>
    rw [if_neg (by decide)]
    refine q _ H1 A1 r1 s1 (RVal.of_imm (.bl false) rfl) fun e => ?_
    simp only [eff, Bool.or_eq_false_iff] at e
    exact ef1 e.1
theorem s_or {a b : E} {x y : Expr} {r : List Expr} {p : Pos} (ia : SE ca fs k S W X a x) (ib : PE X (.BoolOp .Or (y :: r) p) (tS X.K ca (runF fs k) S W b)) : SE ca fs k S W X (.or a b) (.BoolOp .Or (x :: y :: r) p) := by
  refine (pe_or ia ib).weaken fun σ H Q ⟨ρ, A, rep, q⟩ => ?_
  simp only [ev] at q
  refine tS_bind rep (Stp.refl _ _) rep q fun r ρ1 v1 H1 A1 r1 s1 rv1 ef1 q => ?_
  obtain ⟨o, d⟩ := r
  dsimp only at q
  cases d <;> try (exact q.elim)
  rename_i c
  obtain ⟨as, d1, _⟩ := rv1.any
  refine ⟨_, d1.bool_inv, ?_⟩
  cases c with
  | false =>
    rw [if_neg (by decide)]
    refine tS_tail rep s1 r1 (fun i hi => List.mem_append_right _ hi) (fun e => ?_) q
    simp only [eff, Bool.or_eq_false_iff] at e
    exact ⟨ef1 e.1, e.2⟩
  | true =>
    rw [if_pos rfl]
    refine q _ H1 A1 r1 s1 (RVal.of_imm (.bl true) rfl) fun e => ?_
    simp only [eff, Bool.or_eq_false_iff] at e
    exact ef1 e.1
theorem t_and {a b : E} {x y : Expr} {r : List Expr} {p : Pos} (ia : ST ca fs k S W X a x) (ib : PT X (.BoolOp .And (y :: r) p) (tT X.K ca (runF fs k) S W b)) : ST ca fs k S W X (.and a b) (.BoolOp .And (x :: y :: r) p) := by
  refine ((pw_and ia (pw_of ib)).pt).weaken fun σ H Q ⟨ρ, A, rep, q⟩ => ?_
  simp only [ev] at q
  refine tT_first (f := fun z => if z.1 = true then ev (runF fs k) b z.2 else .ok ((true, .bool false), z.2)) rep q fun c ρ1 H1 A1 r1 s1 ef1 q => ?_
  cases c with
  | true =>
    rw [if_pos rfl]
    refine tT_tail rep s1 r1 (fun e => ?_) q
    simp only [eff, Bool.or_eq_false_iff] at e
    exact ⟨ef1 e.1, e.2⟩
  | false =>
    rw [if_neg (by decide)]
    refine q H1 A1 r1 s1 fun e => ?_
    simp only [eff, Bool.or_eq_false_iff] at e
    exact ef1 e.1
theorem t_or {a b : E} {x y : Expr} {r : List Expr} {p : Pos} (ia : ST ca fs k S W X a x) (ib : PT X (.BoolOp .Or (y :: r) p) (tT X.K ca (runF fs k) S W b)) : ST ca fs k S W X (.or a b) (.BoolOp .Or (x :: y :: r) p) := by
  refine ((pw_or ia (pw_of ib)).pt).weaken fun σ H Q ⟨ρ, A, rep, q⟩ => ?_
  simp only [ev] at q
  refine tT_first (f := fun z => if z.1 = true then .ok ((true, .bool true), z.2) else ev (runF fs k) b z.2) rep q fun c ρ1 H1 A1 r1 s1 ef1 q => ?_
  cases c with
  | false =>
    rw [if_neg (by decide)]
    refine tT_tail rep s1 r1 (fun e => ?_) q
    simp only [eff, Bool.or_eq_false_iff] at e
    exact ⟨ef1 e.1, e.2⟩
  | true =>
    rw [if_pos rfl]
    refine q H1 A1 r1 s1 fun e => ?_
    simp only [eff, Bool.or_eq_false_iff] at e
    exact ef1 e.1
theorem s_ite {c a b : E} {x y z : Expr} {p : Pos} (ic : ST ca fs k S W X c x) (ia : SE ca fs k S W X a y) (ib : SE ca fs k S W X b z) : SE ca fs k S W X (.ite c a b) (.IfExp x y z p) := by
  refine (pe_ifExp ic ia ib).weaken fun σ H Q ⟨ρ, A, rep, q⟩ => ?_
  simp only [ev] at q
  refine tT_bind (f := fun z => if z.1 = true then ev (runF fs k) a z.2 else ev (runF fs k) b z.2) rep (Stp.refl _ _) rep q fun c ρ1 H1 A1 r1 s1 ef1 q => ?_
  cases c with
  | true =>
    rw [if_pos rfl]
    refine tS_tail rep s1 r1 (fun i hi => List.mem_append_left _ (List.mem_append_right _ hi)) (fun e => ?_) q
    simp only [eff, Bool.or_eq_false_iff] at e
    exact ⟨ef1 e.1.1, e.1.2⟩
  | false =>
    rw [if_neg (by decide)]
    refine tS_tail rep s1 r1 (fun i hi => List.mem_append_right _ hi) (fun e => ?_) q
    simp only [eff, Bool.or_eq_false_iff] at e
    exact ⟨ef1 e.1.1, e.2⟩
theorem t_ite {c a b : E} {x y z : Expr} {p : Pos} (ic : ST ca fs k S W X c x) (ia : ST ca fs k S W X a y) (ib : ST ca fs k S W X b z) : ST ca fs k S W X (.ite c a b) (.IfExp x y z p) := by
  refine ⟨fun pins s σ H Q I ⟨ρ, A, rep, q⟩ => ?_⟩
  simp only [ev] at q
  rw [PySem.isTrue]
  refine wpAny_bind (thn (ic.run pins s σ H _ I (tT_first (f := fun z => if z.1 = true then ev (runF fs k) a z.2 else ev (runF fs k) b z.2) (Q1 := fun d H1 => if d = true then tT X.K ca (runF fs k) S W a σ H1 Q else tT X.K ca (runF fs k) S W b σ H1 Q) rep q fun d ρ1 H1 A1 r1 s1 ef1 q => ?_)) fun d s1 ⟨H1, I1, q1⟩ => ?_)
  · cases d with
    | true =>
      rw [if_pos rfl]
      refine tT_tail rep s1 r1 (fun e => ?_) q
      simp only [eff, Bool.or_eq_false_iff] at e
      exact ⟨ef1 e.1.1, e.1.2⟩
    | false =>
      rw [if_neg (by decide)]
      refine tT_tail rep s1 r1 (fun e => ?_) q
      simp only [eff, Bool.or_eq_false_iff] at e
      exact ⟨ef1 e.1.1, e.2⟩
  · cases d with
    | true => exact ia.run pins s1 σ H1 Q I1 q1
    | false => exact ib.run pins s1 σ H1 Q I1 q1
theorem o_cmp {o : O2} {p : CmpOp} (C : Cxt J fs ca k N sc W X) (e : cmpOf o = some p) : OpR X (compareOp p) (r2 X.K (op2 o)) := by
  cases o <;> simp only [cmpOf] at e <;> cases e
  · exact o_eq C.hu
  · exact o_ne C.hu
  · exact o_lt C.hu
  · exact o_le C.hu
  · exact o_gt C.hu
  · exact o_ge C.hu
  · exact o_in C.hu
  · exact o_nin C.hu
  · exact o_isN
  · exact o_ntN
theorem OpV.bool {K : PySem.W.Frag} {H H' : Hp} {M : Addr → Prop} {z : V} {b : Bool} (h : OpV K H H' M z (.bool b)) : z = .bl b := by
  rcases h with ⟨_, _, h, _⟩ | ⟨_, _, h, _⟩ <;> exact h.bool_inv
theorem w_cmp3 {a b c : E} {o p : O2} {σ : L2.St} {H : Hp} {Q : VK} {K : PySem.W.Frag} {cf : CF} (h : tS K ca cf S W (.cmp3 o p a b c) σ H Q) : tChain (r2 K (op2 o)) (r2 K (op2 p)) (tS K ca cf S W a) (tS K ca cf S W b) (tS K ca cf S W c) σ H Q := by
  obtain ⟨ρ, A, rep, q⟩ := h
  simp only [ev] at q
  refine tS_bind rep (Stp.refl _ _) rep q fun x ρ1 v1 H1 A1 r1 s1 rv1 ef1 q => ?_
  refine tS_bind rep s1 r1 q fun y ρ2 v2 H2 A2 r2' s2 rv2 ef2 q => ?_
  dsimp only at q
  split at q
  · rename_i hk
    simp only [Bool.and_eq_true] at hk
    obtain ⟨k1, k2⟩ := hk
    have st := Stp.trans rep s1 s2
    cases e3 : noExc (op2 o x.2 y.2) with
    | exc c k p => exact (noExc_not e3).elim
    | stuck => rw [e3] at q; exact q.elim
    | ok d =>
      rw [e3] at q
      have kk : keeps x (eff b) = true := by
        unfold keeps at k1 ⊢
        cases hb : eff b <;> simp_all
      have rv1' := RVal.later rep s1 r1 s2 ef2 kk rv1
      obtain ⟨as, d1, n1⟩ := rv1'.any
      obtain ⟨bs, d2, n2⟩ := rv2.any
      refine ⟨_, _, as, bs, d, d1, d2, noExc_inv e3, fun z H3 sm op => ?_⟩
      simp only [bind_ok] at q
      cases d <;> try (exact q.elim)
      rename_i t
      refine ⟨t, op.bool, ?_⟩
      have r3 := r2'.new sm
      have st3 := st.then_new rep sm
      cases t with
      | false =>
        rw [if_neg (by decide)]
        refine q _ H3 A2 r3 st3 (RVal.of_imm (.bl false) rfl) fun e => ?_
        simp only [eff, Bool.or_eq_false_iff] at e
        obtain ⟨q1, m1⟩ := ef1 e.1.1
        obtain ⟨q2, m2⟩ := ef2 e.1.2
        exact ⟨q2.trans q1, (m1.trans m2).trans sm⟩
      | true =>
        rw [if_pos rfl]
        refine tS_bind rep st3 r3 q fun z' ρ4 v4 H4 A4 r4 s4 rv4 ef4 q => ?_
        dsimp only at q
        have sy : Stp H1 A1 H3 A2 := s2.then_new r1 sm
        have rv2s : RVal K H1 A1 H3 A2 (vars b ++ S) v2 y := by
          refine RVal.later r1 s2 r2' (Stp.new sm) (ef := false) (fun _ => ⟨rfl, sm⟩) ?_ rv2
          simp [keeps]
        have rv2' := RVal.later r1 sy r3 s4 ef4 k2 rv2s
        obtain ⟨cs, d5, n5⟩ := rv2'.any
        obtain ⟨ds, d6, n6⟩ := rv4.any
        cases e4 : noExc (op2 p y.2 z'.2) with
        | exc c k p => exact (noExc_not e4).elim
        | stuck => rw [e4] at q; exact q.elim
        | ok d' =>
          rw [e4] at q
          simp only [bind_ok] at q
          cases d' <;> try (exact q.elim)
          rename_i t
          refine ⟨_, _, cs, ds, _, d5, d6, noExc_inv e4, fun z2 H5 sm5 op5 => ?_⟩
          have e5 := op5.bool
          subst e5
          refine q _ H5 A4 (r4.new sm5) ((Stp.trans rep st3 s4).then_new rep sm5) (RVal.of_imm (.bl t) rfl) fun e => ?_
          simp only [eff, Bool.or_eq_false_iff] at e
          obtain ⟨q1, m1⟩ := ef1 e.1.1
          obtain ⟨q2, m2⟩ := ef2 e.1.2
          obtain ⟨q4, m4⟩ := ef4 e.2
          exact ⟨q4.trans (q2.trans q1), (((m1.trans m2).trans sm).trans m4).trans sm5⟩
  · exact q.elim
theorem s_cmp3 {o p : O2} {a b c : E} {x y z : Expr} {q r : CmpOp} {pos : Pos} (C : Cxt J fs ca k N sc W X) (e1 : cmpOf o = some q) (e2 : cmpOf p = some r) (py : plainX y = true) (pz : plainX z = true)
    (ia : SE ca fs k S W X a x) (ib : SE ca fs k S W X b y) (ic : SE ca fs k S W X c z) : SE ca fs k S W X (.cmp3 o p a b c) (.Compare x [q, r] [y, z] pos) :=
  (pe_chain (o_cmp C e1) (o_cmp C e2) ia ib ic (by show behindInMarks r z = false; exact mark_of pz)).weaken fun _ _ _ h => w_cmp3 h
theorem t_cmp3 {o p : O2} {a b c : E} {x y z : Expr} {q r : CmpOp} {pos : Pos} (C : Cxt J fs ca k N sc W X) (e1 : cmpOf o = some q) (e2 : cmpOf p = some r) (py : plainX y = true) (pz : plainX z = true)
    (ia : SE ca fs k S W X a x) (ib : SE ca fs k S W X b y) (ic : SE ca fs k S W X c z) : ST ca fs k S W X (.cmp3 o p a b c) (.Compare x [q, r] [y, z] pos) :=
  (pt_chain (o_cmp C e1) (o_cmp C e2) ia ib ic (by show behindInMarks r z = false; exact mark_of pz)).weaken fun _ _ _ h => w_cmp3 (tT_tB h)
end
end PV
set_option Elab.async false
set_option linter.all false
set_option maxRecDepth 100000
set_option maxHeartbeats 1000000
/-! PV8: argument lists, built-ins, subscripts, displays. -/
namespace PV
open PySem PySem.Spec PyProof.Rows L2
/-- what is wanted behind a piece, whatever it gives -/
def RG {α : Type} (K : PySem.W.Frag) (ca : Nat → Addr) (W : WX) (σ : L2.St) (H : Hp) (A : Own) (P : α → Prop) : Res α → Prop
  | .ok x => P x
  | .exc c k p => ExQ K ca H A (fun a b H' => W a b σ H') c k p
  | .stuck => False
/-- a piece that raises nothing -/
def NE {α : Type} (x : Res α) : Prop := ∀ c k p, x ≠ .exc c k p
theorem RG.pure {α β : Type} {K : PySem.W.Frag} {ca : Nat → Addr} {W : WX} {σ : L2.St} {H : Hp} {A : Own} {P : α → Prop} {x : Res β} {f : β → Res α} (hx : NE x) (h : RG K ca W σ H A P (x >>= f)) : ∃ b, x = .ok b ∧ RG K ca W σ H A P (f b) := by
  cases x with
  | ok b => exact ⟨b, rfl, h⟩
  | exc c k p => exact absurd rfl (hx c k p)
  | stuck => exact h.elim
theorem RG.ite {α : Type} {K : PySem.W.Frag} {ca : Nat → Addr} {W : WX} {σ : L2.St} {H : Hp} {A : Own} {P : α → Prop} {c : Bool} {x : Res α} (h : RG K ca W σ H A P (if c = true then x else .stuck)) : c = true ∧ RG K ca W σ H A P x := by
  cases c with
  | true => exact ⟨rfl, h⟩
  | false => exact h.elim
theorem ne_ok {α : Type} (a : α) : NE (Res.ok a) := fun _ _ _ e => by cases e
theorem ne_st {α : Type} : NE (Res.stuck : Res α) := fun _ _ _ e => by cases e
theorem ne_own (ρ : PV.Env) (i : Nat) : NE (ownList ρ i) := by unfold ownList; split <;> first | exact ne_ok _ | exact ne_st
theorem ne_lst (d : D) : NE (listOf d) := by unfold listOf; split <;> first | exact ne_ok _ | exact ne_st
theorem ne_int (d : D) : NE (asInt d) := by unfold asInt; split <;> first | exact ne_ok _ | exact ne_st
theorem ne_bool (d : D) : NE (asBool d) := by unfold asBool; split <;> first | exact ne_ok _ | exact ne_st
theorem ne_items (d : D) : NE (itemsOf d) := by unfold itemsOf; split <;> first | exact ne_ok _ | exact ne_st
theorem ne_last (d : List D) : NE (lastD d) := by unfold lastD; split <;> first | exact ne_ok _ | exact ne_st
theorem ne_ix (d : List D) (i : Int) : NE (ixD d i) := by unfold ixD; split <;> first | exact ne_ok _ | exact ne_st
theorem ne_at (d : List D) (i : Int) : NE (atD d i) := by
  unfold atD
  split
  · split <;> first | exact ne_ok _ | exact ne_st
  · exact ne_st
theorem ne_set (d : List D) (i : Int) (x : D) : NE (setAt d i x) := by unfold setAt; split <;> first | exact ne_ok _ | exact ne_st
theorem ne_no {α : Type} (x : Res α) : NE (noExc x) := fun _ _ _ e => noExc_not e
theorem own_inv {ρ : PV.Env} {i : Nat} {ds : List D} (h : ownList ρ i = .ok ds) : PV.get ρ i = some (.own (.list ds)) := by
  unfold ownList at h
  split at h
  · rename_i e; cases h; exact e
  · cases h
theorem int_inv {d : D} {i : Int} (h : asInt d = .ok i) : d = .int i := by cases d <;> simp only [asInt] at h <;> cases h; rfl
theorem bool_inv {d : D} {i : Bool} (h : asBool d = .ok i) : d = .bool i := by cases d <;> simp only [asBool] at h <;> cases h; rfl
theorem lst_inv {d : D} {l : List D} (h : listOf d = .ok l) : d = .list l := by cases d <;> simp only [listOf] at h <;> cases h; rfl
theorem last_inv {ds : List D} {d : D} (h : lastD ds = .ok d) : ds[ds.length - 1]? = some d := by
  unfold lastD at h
  split at h
  · rename_i e; cases h; rw [← List.getLast?_eq_getElem?]; exact e
  · cases h
theorem ix_inv {ds : List D} {i : Int} {j : Nat} (h : ixD ds i = .ok j) : PV.ixN ds.length i = some j := by
  unfold ixD at h
  split at h
  · rename_i e; cases h; exact e
  · cases h
theorem at_inv {ds : List D} {i : Int} {d : D} (h : atD ds i = .ok d) : ∃ j, PV.ixN ds.length i = some j ∧ ds[j]? = some d := by
  unfold atD at h
  split at h
  · rename_i j e
    split at h
    · rename_i e2; cases h; exact ⟨j, e, e2⟩
    · cases h
  · cases h
theorem set_inv {ds es : List D} {i : Int} {d : D} (h : setAt ds i d = .ok es) : ∃ j, PV.ixN ds.length i = some j ∧ es = ds.set j d := by
  unfold setAt at h
  split at h
  · rename_i j e; cases h; exact ⟨j, e, rfl⟩
  · cases h
def PR (K : PySem.W.Frag) (S : List Nat) (σ : L2.St) (vs : List Nat) (ef : Bool) (H : Hp) (A : Own) (Q : VK) (x : R × Env) : Prop :=
  ∀ v H' A', Rep K H' S σ x.2 A' → Stp H A H' A' → RVal K H A H' A' (vs ++ S) v x.1 → (ef = false → A' = A ∧ Same H H') → Q v H'
theorem rn_rg {K : PySem.W.Frag} {ca : Nat → Addr} {S : List Nat} {W : WX} {σ : L2.St} {vs : List Nat} {ef : Bool} {H : Hp} {A : Own} {res : Res (R × Env)} {Q : VK} : Rn K ca S W σ vs ef H A res Q ↔ RG K ca W σ H A (PR K S σ vs ef H A Q) res := by
  cases res <;> exact Iff.rfl
section
variable {K : PySem.W.Frag} {ca : Nat → Addr} {cf : CF} {S : List Nat} {W : WX} {σ : L2.St} {H0 H : Hp} {A0 A : Own} {ρ0 ρ : Env} {vs : List Nat} {ef : Bool} {α : Type} {P : α → Prop}
theorem tS_first {a : E} {f : R × Env → Res α} {Q1 : VK} (r0 : Rep K H0 S σ ρ0 A0) (s0 : Stp H0 A0 H A) (rep : Rep K H S σ ρ A) (h : RG K ca W σ H0 A0 P (ev cf a ρ >>= f))
    (hq : ∀ r ρ1 v H1 A1, Rep K H1 S σ ρ1 A1 → Stp H A H1 A1 → RVal K H A H1 A1 (vars a ++ S) v r → (eff a = false → A1 = A ∧ Same H H1) → RG K ca W σ H0 A0 P (f (r, ρ1)) → Q1 v H1) : tS K ca cf S W a σ H Q1 := by
  refine ⟨ρ, A, rep, ?_⟩
  rcases e : ev cf a ρ with ⟨r, ρ1⟩ | ⟨c, k, p⟩ | _
  · rw [e] at h
    exact fun v H1 A1 r1 s1 rv ef1 => hq r ρ1 v H1 A1 r1 s1 rv ef1 h
  · rw [e] at h
    have h' : ExQ K ca H0 A0 (fun a b H' => W a b σ H') c k p := h
    exact ExQ.before r0 s0 h'
  · rw [e] at h
    exact h
/-- several values: all new, or together held -/
def RVs (K : PySem.W.Frag) (H : Hp) (A : Own) (H' : Hp) (A' : Own) (vs : List Nat) (xs : List V) (rs : List R) : Prop :=
  (rs.all (fun x => x.1 || imm x.2) = true → ∃ as, DpRs K H' xs (rs.map (·.2)) as ∧ as.Nodup ∧ (∀ a ∈ as, ¬ Bd A' a ∧ a ∉ A'.fr) ∧ ∀ a ∈ as, Bd A a ∨ H a = none) ∧
    ∃ as, DpRs K H' xs (rs.map (·.2)) as ∧ ∀ a ∈ as, ∀ i, i ∉ vs → a ∉ A' i
def PRs (K : PySem.W.Frag) (S : List Nat) (σ : L2.St) (vs : List Nat) (ef : Bool) (H : Hp) (A : Own) (Q : List V → Hp → Prop) (x : List R × Env) : Prop :=
  ∀ v H' A', Rep K H' S σ x.2 A' → Stp H A H' A' → RVs K H A H' A' (vs ++ S) v x.1 → (ef = false → A' = A ∧ Same H H') → Q v H'
def tSs (K : PySem.W.Frag) (ca : Nat → Addr) (cf : CF) (S : List Nat) (W : WX) (es : Es) : TA := fun σ H Q => ∃ ρ A, Rep K H S σ ρ A ∧ RG K ca W σ H A (PRs K S σ (varss es) (effs es) H A Q) (evs cf es ρ)
theorem tSs_first {a : Es} {f : List R × Env → Res α} {Q1 : List V → Hp → Prop} (r0 : Rep K H0 S σ ρ0 A0) (s0 : Stp H0 A0 H A) (rep : Rep K H S σ ρ A) (h : RG K ca W σ H0 A0 P (evs cf a ρ >>= f))
    (hq : ∀ r ρ1 v H1 A1, Rep K H1 S σ ρ1 A1 → Stp H A H1 A1 → RVs K H A H1 A1 (varss a ++ S) v r → (effs a = false → A1 = A ∧ Same H H1) → RG K ca W σ H0 A0 P (f (r, ρ1)) → Q1 v H1) : tSs K ca cf S W a σ H Q1 := by
  refine ⟨ρ, A, rep, ?_⟩
  rcases e : evs cf a ρ with ⟨r, ρ1⟩ | ⟨c, k, p⟩ | _
  · rw [e] at h
    exact fun v H1 A1 r1 s1 rv ef1 => hq r ρ1 v H1 A1 r1 s1 rv ef1 h
  · rw [e] at h
    have h' : ExQ K ca H0 A0 (fun a b H' => W a b σ H') c k p := h
    exact ExQ.before r0 s0 h'
  · rw [e] at h
    exact h
/-- a value in front of others -/
theorem RVs.cons {H1 H2 : Hp} {A1 A2 : Own} {ρ1 : Env} {us ws : List Nat} {v : V} {r : R} {xs : List V} {rs : List R} {ef : Bool} (r0 : Rep K H S σ ρ A) (s : Stp H A H1 A1) (r1 : Rep K H1 S σ ρ1 A1) (t : Stp H1 A1 H2 A2)
    (he : ef = false → A2 = A1 ∧ Same H1 H2) (hk : keeps r ef = true) (h : RVal K H A H1 A1 us v r) (g : RVs K H1 A1 H2 A2 ws xs rs) (hu : ∀ i ∈ us, i ∈ vs) (hw : ∀ i ∈ ws, i ∈ vs) : RVs K H A H2 A2 vs (v :: xs) (r :: rs) := by
  have h' := RVal.later r0 s r1 t he hk h
  refine ⟨fun e => ?_, ?_⟩
  · simp only [List.all_cons, Bool.and_eq_true] at e
    obtain ⟨bs, g1, g2, g3, g4⟩ := g.1 e.2
    have own : ∃ as, DpR K H2 v r.2 as ∧ as.Nodup ∧ (∀ a ∈ as, ¬ Bd A2 a ∧ a ∉ A2.fr) ∧ (∀ a ∈ as, Bd A a ∨ H a = none) ∧ ∀ a ∈ as, a ∉ bs := by
      by_cases hi : imm r.2 = true
      · obtain ⟨as, d1, _⟩ := h'.any
        have e0 := d1.imm hi
        subst e0
        exact ⟨[], d1, .nil, fun _ m => by simp at m, fun _ m => by simp at m, fun _ m => by simp at m⟩
      · rcases h with ⟨_, as, h1, h2, h3, h4⟩ | ⟨e0, _⟩
        · refine ⟨as, h1.keep (t.fix r1) (fun a ha ys hy => t.keep a _ hy (h3 a ha).1), h2, fun a ha => ⟨fun b => ?_, fun b => ?_⟩, h4, fun a ha hb => ?_⟩
          · rcases t.own a b with b | b
            · exact (h3 a ha).1 b
            · obtain ⟨ys, q⟩ := h1.trk a ha
              rw [b] at q
              cases q
          · rcases t.fro a b with b | b | b
            · exact (h3 a ha).2 b
            · exact (h3 a ha).1 b
            · obtain ⟨ys, q⟩ := h1.trk a ha
              rw [b] at q
              cases q
          · rcases g4 a hb with b | b
            · exact (h3 a ha).1 b
            · obtain ⟨ys, q⟩ := h1.trk a ha
              rw [b] at q
              cases q
        · rw [e0] at e
          exact absurd (by simpa using e.1) hi
    obtain ⟨as, d1, d2, d3, d4, d5⟩ := own
    refine ⟨as ++ bs, .cons d1 g1, List.nodup_append.mpr ⟨d2, g2, fun a ha b hb q => d5 a ha (q ▸ hb)⟩, fun a ha => ?_, fun a ha => ?_⟩
    · exact (List.mem_append.mp ha).elim (d3 a) (g3 a)
    · exact (List.mem_append.mp ha).elim (d4 a) fun m => (g4 a m).elim (s.own a) fun q => .inr (s.there r0 q)
  · obtain ⟨as, d1, n1⟩ := h'.any
    obtain ⟨bs, d2, n2⟩ := g.2
    exact ⟨as ++ bs, .cons d1 d2, fun a ha i hi => (List.mem_append.mp ha).elim (fun m => n1 a m i fun q => hi (hu i q)) fun m => n2 a m i fun q => hi (hw i q)⟩
end
section
variable {J : Info} {fs : List Fn} {ca : Nat → Addr} {k : Nat} {N : List Str} {sc : Scope} {W : WX} {X : Cx} {S : List Nat}
abbrev SA (ca : Nat → Addr) (fs : List Fn) (k : Nat) (S : List Nat) (W : WX) (X : Cx) (es : Es) (xs : List Expr) : Prop := PA X xs (tSs X.K ca (runF fs k) S W es)
theorem _root_.L2.PA.weaken {X : Cx} {e : List Expr} {t t' : TA} (h : PA X e t) (w : ∀ σ H Q, t' σ H Q → t σ H Q) : PA X e t' := ⟨fun pos pins s σ H Q I q => h.run pos pins s σ H Q I (w σ H Q q)⟩
theorem star_of {x : Expr} {xs : List Expr} {env : PySem.Env} (h : plainX x = true) : starEach (x :: xs) env = (false, eval x env) :: starEach xs env := by
  cases x <;> first | rfl | (simp [plainX] at h)
theorem a_nil : SA ca fs k S W X .nil [] := pa_nil.weaken fun σ H Q ⟨ρ, A, rep, q⟩ =>
  q [] H A rep (Stp.refl _ _) ⟨fun _ => ⟨[], .nil, .nil, fun _ m => by simp at m, fun _ m => by simp at m⟩, [], .nil, fun _ m => by simp at m⟩ fun _ => ⟨rfl, Same.refl _⟩
theorem a_cons {e : E} {r : Es} {x : Expr} {xs : List Expr} (pl : plainX x = true) (ie : SE ca fs k S W X e x) (ir : SA ca fs k S W X r xs) : SA ca fs k S W X (.cons e r) (x :: xs) := by
  refine (pa_cons ie ir (star_of pl)).weaken fun σ H Q ⟨ρ, A, rep, q⟩ => ?_
  simp only [evs] at q
  refine tS_first rep (Stp.refl _ _) rep q fun x ρ1 v1 H1 A1 r1 s1 rv1 ef1 q => ?_
  refine tSs_first rep s1 r1 q fun ys ρ2 vs2 H2 A2 r2 s2 rv2 ef2 q => ?_
  dsimp only at q
  split at q
  · rename_i hk
    refine q _ H2 A2 r2 (Stp.trans rep s1 s2) (RVs.cons rep s1 r1 s2 ef2 hk rv1 rv2 (fun i hi => ?_) fun i hi => ?_) fun e => ?_
    · exact (List.mem_append.mp hi).elim (fun m => List.mem_append_left _ (List.mem_append_left _ m)) fun m => List.mem_append_right _ m
    · exact (List.mem_append.mp hi).elim (fun m => List.mem_append_left _ (List.mem_append_right _ m)) fun m => List.mem_append_right _ m
    · simp only [effs, Bool.or_eq_false_iff] at e
      obtain ⟨q1, m1⟩ := ef1 e.1
      obtain ⟨q2, m2⟩ := ef2 e.2
      exact ⟨q2.trans q1, m1.trans m2⟩
  · exact q.elim
theorem blt_of {x : Str} (C : Cxt J fs ca k N sc W X) (h : x ∈ blts) : X.mg x = none := C.blt x h
theorem w_bi {f : Bi} {as : Es} {σ : L2.St} {H : Hp} {Q : VK} {K : PySem.W.Frag} {cf : CF} (h : tS K ca cf S W (.bi f as) σ H Q) : tCB (rb K (bi f)) (tSs K ca cf S W as) σ H Q := by
  obtain ⟨ρ, A, rep, q⟩ := h
  rw [rn_rg] at q
  simp only [ev] at q
  refine tSs_first rep (Stp.refl _ _) rep q fun rs ρ1 vs1 H1 A1 r1 s1 rv1 ef1 q => ?_
  dsimp only at q
  cases e3 : noExc (bi f (rs.map (·.2))) with
  | exc c k p => exact (noExc_not e3).elim
  | stuck => rw [e3] at q; exact q.elim
  | ok d =>
    rw [e3] at q
    obtain ⟨as, d1, n1⟩ := rv1.2
    refine ⟨_, as, d, d1, noExc_inv e3, fun z H' sm op => q z H' A1 (r1.new sm) (s1.then_new rep sm) (RVal.of_op rep s1 r1 (fun c hc i hi => n1 c hc i hi) op) fun e => ?_⟩
    obtain ⟨q1, m1⟩ := ef1 e
    exact ⟨q1, m1.trans sm⟩
def plainAllX (xs : List Expr) : Bool := xs.all plainX
theorem back_of {pos : Pos} {env : PySem.Env} : ∀ {xs : List Expr}, plainAllX xs = true → (backTo pos (starEach xs env)).any (·.1) = false
  | [], _ => rfl
  | x :: xs, h => by
    simp only [plainAllX, List.all_cons, Bool.and_eq_true] at h
    rw [star_of h.1]
    have ih := back_of (pos := pos) (env := env) (xs := xs) h.2
    simp only [backTo, List.map_cons, List.any_cons] at ih ⊢
    rw [ih]
    rfl
theorem maxD_eq (x : D) (xs : List D) : PV.maxD x xs = PySem.W.maxD x xs := rfl
theorem minD_eq (x : D) (xs : List D) : PV.minD x xs = PySem.W.minD x xs := rfl
theorem alike_of {x : D} {r : List D} (h : (immAll (x :: r) && alikeAll2 (x :: r) && decide (PyData.depthAll (x :: r) ≤ 60) && (x :: r).all (fun y => match y with | .none => false | _ => true)) = true) : PySem.W.AlikeAll (x :: r) ∧ PyData.depthAll (x :: r) ≤ 60 ∧ immAll (x :: r) = true := by
  rw [Bool.and_eq_true, Bool.and_eq_true, Bool.and_eq_true, decide_eq_true_eq] at h
  obtain ⟨⟨⟨h0, h1⟩, h2⟩, h3⟩ := h
  refine ⟨⟨fun a ha b hb => ?_, fun a ha e => ?_⟩, h2, h0⟩
  · exact List.all_eq_true.mp (List.all_eq_true.mp h1 a ha) b hb
  · have := List.all_eq_true.mp h3 a ha
    subst e
    exact absurd this (by decide)
/-- an item of a list of trees, found by its reading -/
theorem item_of {X : Cx} {pins : List (Addr × Obj)} {σ : L2.St} {H : Hp} {s : Shared} {xs : List V} {ds : List D} {as : List Addr} {its : List Value} (I : Inv X pins σ H s) (r : DpRs X.K H xs ds as) (rv : Vals xs its) {i : Nat} {v : Value} {d : D} {h' : Heap} {bs : List Addr}
    (hv : its[i]? = some v) (hr : Reads h' v d bs) (hk : ∀ b o, s.heap.get? b = some o → h'.get? b = some o) : ∃ x cs, RelV x v ∧ DpR X.K H x d cs ∧ d ∈ ds := by
  obtain ⟨hi, _⟩ := List.getElem?_eq_some_iff.mp hv
  have hx : i < xs.length := by rw [rv.length]; exact hi
  obtain ⟨u, hu, ru⟩ := rv.get (List.getElem?_eq_getElem hx)
  rw [hv] at hu
  cases hu
  obtain ⟨d', cs, h1, h2, h3⟩ := r.at (List.getElem?_eq_getElem hx)
  obtain ⟨es, R1⟩ := sl_of I h2 ru
  have e := PySem.SeqAt.plain_unique d' d v es bs h2.plain (PySem.W.reads_keeps hk R1) hr
  subst e
  exact ⟨_, cs, ru, h2, List.mem_of_getElem? h1⟩
theorem imm_mem : ∀ {l : List D} {d : D}, immAll l = true → d ∈ l → imm d = true
  | x :: r, d, h, m => by
    simp only [immAll, Bool.and_eq_true] at h
    rcases List.mem_cons.mp m with e | m
    · rw [e]; exact h.1
    · exact imm_mem h.2 m
theorem b_max1 (C : Cxt J fs ca k N sc W X) : CallR X (.builtin "max") (rb X.K (bi .max1)) := by
  intro pins s σ H xs us Q I r ⟨ds, as, d, hd, ho, q⟩
  have hu := C.hu
  have go : ∀ l : List D, PV.max1 l = .ok d → ∃ x r, l = x :: r ∧ PySem.W.AlikeAll (x :: r) ∧ PyData.depthAll (x :: r) ≤ 60 ∧ d = PySem.W.maxD x r ∧ immAll l = true := fun l ho => by
    cases l with
    | nil => cases ho
    | cons x r =>
      simp only [PV.max1] at ho
      split at ho
      · rename_i hh
        cases ho
        obtain ⟨h1, h2, h3⟩ := alike_of hh
        exact ⟨x, r, rfl, h1, h2, rfl, h3⟩
      · cases ho
  match ds, hd, ho with
  | [], hd, ho => simp only [bi] at ho; cases ho
  | [.list l], hd, ho =>
    obtain ⟨z, e, h⟩ := hd.one_inv
    subst e
    simp only [bi] at ho
    obtain ⟨x, r', rfl, al, dp, rfl, im⟩ := go l ho
    obtain ⟨a, vs, bs, rfl, r1, h1, e1⟩ := h.list_inv
    obtain ⟨its, rv, hl, _⟩ := I.list (SqL.of h1)
    rw [Vals.ref1 r]
    obtain ⟨as2, R⟩ := Dp.readsAll I _ _ _ r1.dp rv
    refine PySem.W.max_list_data (I.ok.hd C.calm) hl.isList (by simpa using R) al (by omega) fun i v h' tk cs hv hr hk => ?_
    obtain ⟨y, es, ry, dy, hy⟩ := item_of I r1 rv (by simpa using hv) hr hk
    exact ⟨y, H, I.kept hk, ry, q y H (Same.refl H) (.imm dy (imm_mem im hy))⟩
  | [.tuple l], hd, ho =>
    obtain ⟨z, e, h⟩ := hd.one_inv
    subst e
    simp only [bi] at ho
    obtain ⟨x, r', rfl, al, dp, rfl, im⟩ := go l ho
    obtain ⟨a, vs, rfl, h1, r1⟩ := h.tuple_inv
    obtain ⟨its, rv, hl, _⟩ := I.tuple h1
    rw [Vals.ref1 r]
    obtain ⟨as2, R⟩ := Dp.readsAll I _ _ _ r1.dp rv
    refine PySem.W.max_tuple_data (I.ok.hd C.calm) (show s.heap.IsTuple a its.toArray from hl) (by simpa using R) al (by omega) fun i v h' tk cs hv hr hk => ?_
    obtain ⟨y, es, ry, dy, hy⟩ := item_of I r1 rv (by simpa using hv) hr hk
    exact ⟨y, H, I.kept hk, ry, q y H (Same.refl H) (.imm dy (imm_mem im hy))⟩
  | [.none], _, ho => simp only [bi] at ho; cases ho
  | [.bool _], _, ho => simp only [bi] at ho; cases ho
  | [.int _], _, ho => simp only [bi] at ho; cases ho
  | [.str _], _, ho => simp only [bi] at ho; cases ho
  | [.dict _], _, ho => simp only [bi] at ho; cases ho
  | _ :: _ :: _, _, ho => simp only [bi] at ho; cases ho
theorem b_min1 (C : Cxt J fs ca k N sc W X) : CallR X (.builtin "min") (rb X.K (bi .min1)) := by
  intro pins s σ H xs us Q I r ⟨ds, as, d, hd, ho, q⟩
  have hu := C.hu
  have go : ∀ l : List D, PV.min1 l = .ok d → ∃ x r, l = x :: r ∧ PySem.W.AlikeAll (x :: r) ∧ PyData.depthAll (x :: r) ≤ 60 ∧ d = PySem.W.minD x r ∧ immAll l = true := fun l ho => by
    cases l with
    | nil => cases ho
    | cons x r =>
      simp only [PV.min1] at ho
      split at ho
      · rename_i hh
        cases ho
        obtain ⟨h1, h2, h3⟩ := alike_of hh
        exact ⟨x, r, rfl, h1, h2, rfl, h3⟩
      · cases ho
  match ds, hd, ho with
  | [], hd, ho => simp only [bi] at ho; cases ho
  | [.list l], hd, ho =>
    obtain ⟨z, e, h⟩ := hd.one_inv
    subst e
    simp only [bi] at ho
    obtain ⟨x, r', rfl, al, dp, rfl, im⟩ := go l ho
    obtain ⟨a, vs, bs, rfl, r1, h1, e1⟩ := h.list_inv
    obtain ⟨its, rv, hl, _⟩ := I.list (SqL.of h1)
    rw [Vals.ref1 r]
    obtain ⟨as2, R⟩ := Dp.readsAll I _ _ _ r1.dp rv
    refine PySem.W.min_list_data (I.ok.hd C.calm) hl.isList (by simpa using R) al (by omega) fun i v h' tk cs hv hr hk => ?_
    obtain ⟨y, es, ry, dy, hy⟩ := item_of I r1 rv (by simpa using hv) hr hk
    exact ⟨y, H, I.kept hk, ry, q y H (Same.refl H) (.imm dy (imm_mem im hy))⟩
  | [.tuple l], hd, ho =>
    obtain ⟨z, e, h⟩ := hd.one_inv
    subst e
    simp only [bi] at ho
    obtain ⟨x, r', rfl, al, dp, rfl, im⟩ := go l ho
    obtain ⟨a, vs, rfl, h1, r1⟩ := h.tuple_inv
    obtain ⟨its, rv, hl, _⟩ := I.tuple h1
    rw [Vals.ref1 r]
    obtain ⟨as2, R⟩ := Dp.readsAll I _ _ _ r1.dp rv
    refine PySem.W.min_tuple_data (I.ok.hd C.calm) (show s.heap.IsTuple a its.toArray from hl) (by simpa using R) al (by omega) fun i v h' tk cs hv hr hk => ?_
    obtain ⟨y, es, ry, dy, hy⟩ := item_of I r1 rv (by simpa using hv) hr hk
    exact ⟨y, H, I.kept hk, ry, q y H (Same.refl H) (.imm dy (imm_mem im hy))⟩
  | [.none], _, ho => simp only [bi] at ho; cases ho
  | [.bool _], _, ho => simp only [bi] at ho; cases ho
  | [.int _], _, ho => simp only [bi] at ho; cases ho
  | [.str _], _, ho => simp only [bi] at ho; cases ho
  | [.dict _], _, ho => simp only [bi] at ho; cases ho
  | _ :: _ :: _, _, ho => simp only [bi] at ho; cases ho
theorem each_of {X : Cx} {pins : List (Addr × Obj)} {σ : L2.St} {H : Hp} {s : Shared} (I : Inv X pins σ H s) : ∀ {xs : List V} {ds : List D} {as : List Addr} {us : List Value}, DpRs X.K H xs ds as → Vals xs us →
    PySem.W.EachIs (fun v d => ∃ x cs, RelV x v ∧ DpR X.K H x d cs) us ds ∧ PySem.W.EachIs (fun v d => ∃ bs, Reads s.heap v (id d) bs) us ds
  | _, _, _, _, .nil, .nil => ⟨.nil, .nil⟩
  | _, _, _, _, .cons r s', .cons rv rvs => by
    obtain ⟨h1, h2⟩ := each_of I s' rvs
    exact ⟨.cons ⟨_, _, rv, r⟩ h1, .cons (sl_of I r rv) h2⟩
theorem each_back {K : PySem.W.Frag} {H : Hp} : ∀ {us : List Value} {ds : List D}, PySem.W.EachIs (fun v d => ∃ x cs, RelV x v ∧ DpR K H x d cs) us ds → immAll ds = true → ∃ xs, Vals xs us ∧ DpRs K H xs ds []
  | _, _, .nil, _ => ⟨[], .nil, .nil⟩
  | _, _, .cons ⟨x, cs, rv, r⟩ h, hi => by
    simp only [immAll, Bool.and_eq_true] at hi
    obtain ⟨xs, h1, h2⟩ := each_back h hi.2
    have := r.imm hi.1
    subst this
    exact ⟨x :: xs, .cons rv h1, .cons r h2⟩
theorem immAll_iff {ds : List D} : immAll ds = true ↔ ∀ d ∈ ds, imm d = true := by
  induction ds with
  | nil => simp [immAll]
  | cons d ds ih => simp [immAll, ih]
theorem depth_mem : ∀ {l : List D} {d : D}, d ∈ l → d.depth ≤ PyData.depthAll l
  | x :: r, d, m => by
    simp only [PyData.depthAll]
    rcases List.mem_cons.mp m with e | m
    · rw [e]; omega
    · have := depth_mem m; omega
theorem each_one {R : Value → D → Prop} : ∀ {its out : List Value} {l : List D}, PySem.W.EachIs R its l → l.length ≤ 1 → out.Perm its → PySem.W.EachIs R out (l.mergeSort leD)
  | _, _, _, .nil, _, hp => by rw [hp.eq_nil, List.mergeSort_nil]; exact .nil
  | _, _, _, .cons h .nil, _, hp => by rw [List.perm_singleton.mp hp, List.mergeSort_singleton]; exact .cons h .nil
  | _, _, _, .cons _ (.cons _ _), h1, _ => by simp at h1
theorem b_sorted (C : Cxt J fs ca k N sc W X) : CallR X (.builtin "sorted") (rb X.K (bi .sorted)) := by
  intro pins s σ H xs us Q I r ⟨ds, as, d, hd, ho, q⟩
  have hu := C.hu
  match ds, hd, ho with
  | [], hd, ho => simp only [bi] at ho; cases ho
  | [.list l], hd, ho =>
    obtain ⟨z, e, h⟩ := hd.one_inv
    subst e
    simp only [bi] at ho
    split at ho
    · rename_i hs
      cases ho
      unfold sortB at hs
      simp only [Bool.and_eq_true, Bool.or_eq_true, decide_eq_true_eq] at hs
      obtain ⟨⟨⟨⟨im, al⟩, dp⟩, ln⟩, srt⟩ := hs
      unfold lenOk at ln
      have ln := of_decide_eq_true ln
      obtain ⟨a, vs, bs, rfl, r1, h1, e1⟩ := h.list_inv
      obtain ⟨its, rv, hl, _⟩ := I.list (SqL.of h1)
      rw [Vals.ref1 r]
      have hlen : its.length = l.length := by rw [← rv.length, r1.length]
      -- behind it: a new list of the sorted items
      have fin : ∀ out : List Value, PySem.W.EachIs (fun v d => ∃ x cs, RelV x v ∧ DpR X.K H x d cs) out (l.mergeSort leD) →
          ∃ z H', Inv X pins σ H' { s with heap := sortedAll s.heap its out.toArray } ∧ RelV z (Value.ref (s.heap.objs.size + 1)) ∧ Q z H' := fun out hE => by
        have im2 : immAll (l.mergeSort leD) = true := immAll_iff.mpr fun d hd => immAll_iff.mp im d ((List.mergeSort_perm l leD).mem_iff.mp hd)
        obtain ⟨ys, k1, k2⟩ := each_back hE im2
        obtain ⟨ep, he'⟩ := PyProof.Rows.sortedAll_at s.heap its out.toArray
        have hlen2 : ys.length ≤ sizeLine := by rw [k2.length, (List.mergeSort_perm l leD).length_eq]; exact ln
        exact ⟨.ref _, upd H (s.heap.objs.size + 1) (.lst ys), I.laid (t' := s.toks) (fun _ _ => PyProof.Rows.sortedAll_old) (Nat.le_succ _) ⟨hlen2, out, ep, k1, he'⟩, rfl, q.lst k2 (fun c hc => by simp at hc) _ (I.hok.fresh (Nat.le_succ _))⟩
      obtain ⟨g1, g2⟩ := each_of I r1 rv
      have srt' : l.length ≤ 1 ∨ PySem.W.Sortable (l.map id) := by
        rw [List.map_id]
        rcases srt with (h1 | h1) | h1
        · exact .inl h1
        · refine .inr (.inl fun d hd => ?_)
          have := List.all_eq_true.mp h1 d hd
          split at this
          · exact ⟨_, _, rfl⟩
          · cases this
        · refine .inr (.inr fun d hd => ?_)
          have := List.all_eq_true.mp h1 d hd
          constructor
          · intro e; subst e; cases this
          · intro xs e; subst e; cases this
      rcases srt' with h1 | hk
      · refine SrtO.sorted_ord SrtO.swo_int hl.isList (by rw [hlen]; exact ln) (fun h2 => absurd h2 (by omega)) fun out _ h2 => ?_
        exact fin out (each_one g1 h1 h2.perm)
      · exact PySem.W.sorted_data (R := fun v d => ∃ x cs, RelV x v ∧ DpR X.K H x d cs) (enc := id) hl.isList g1 g2 (by
          rw [List.map_id]
          exact fun a ha b hb => List.all_eq_true.mp (List.all_eq_true.mp al a ha) b hb) hk ln (fun b hb => by have := depth_mem hb; show X.A.units + 2 + PyData.depth b < cLine; omega) fun out _ h => fin out h
    · cases ho
  | [.tuple l], hd, ho => simp only [bi] at ho; cases ho
  | [.none], _, ho => simp only [bi] at ho; cases ho
  | [.bool _], _, ho => simp only [bi] at ho; cases ho
  | [.int _], _, ho => simp only [bi] at ho; cases ho
  | [.str _], _, ho => simp only [bi] at ho; cases ho
  | [.dict _], _, ho => simp only [bi] at ho; cases ho
  | _ :: _ :: _, _, ho => simp only [bi] at ho; cases ho
theorem s_bi {f : Bi} {as : Es} {x : Expr} {xs : List Expr} {p pos : Pos} (C : Cxt J fs ca k N sc W X) (hg : glB sc (biName f) = true) (pl : plainX x = true) (pls : plainAllX xs = true) (ia : SA ca fs k S W X as (x :: xs)) : SE ca fs k S W X (.bi f as) (.Call (.Name (biName f) p) (x :: xs) [] pos) := by
  have hG := gl_of C hg
  have he : starEach (x :: xs) X.env = (false, eval x X.env) :: starEach xs X.env := star_of pl
  have hb : (backTo pos (starEach xs X.env)).any (·.1) = false := back_of pls
  have wk : ∀ σ H Q, tS X.K ca (runF fs k) S W (.bi f as) σ H Q → tCB (rb X.K (bi f)) (tSs X.K ca (runF fs k) S W as) σ H Q := fun _ _ _ h => w_bi h
  cases f
  · exact (pe_callB b_len hG (C.blt _ (by decide +kernel)) (by decide +kernel) ia (by decide +kernel) (by decide +kernel) he hb).weaken wk
  · exact (pe_callB (b_sum C.calm) hG (C.blt _ (by decide +kernel)) (by decide +kernel) ia (by decide +kernel) (by decide +kernel) he hb).weaken wk
  · exact (pe_callB (b_all C.calm) hG (C.blt _ (by decide +kernel)) (by decide +kernel) ia (by decide +kernel) (by decide +kernel) he hb).weaken wk
  · exact (pe_callB (b_any C.calm) hG (C.blt _ (by decide +kernel)) (by decide +kernel) ia (by decide +kernel) (by decide +kernel) he hb).weaken wk
  · exact (pe_callB (b_max1 C) hG (C.blt _ (by decide +kernel)) (by decide +kernel) ia (by decide +kernel) (by decide +kernel) he hb).weaken wk
  · exact (pe_callB (b_min1 C) hG (C.blt _ (by decide +kernel)) (by decide +kernel) ia (by decide +kernel) (by decide +kernel) he hb).weaken wk
  · exact (pe_callB (b_max2 C.calm) hG (C.blt _ (by decide +kernel)) (by decide +kernel) ia (by decide +kernel) (by decide +kernel) he hb).weaken wk
  · exact (pe_callB (b_min2 C.calm) hG (C.blt _ (by decide +kernel)) (by decide +kernel) ia (by decide +kernel) (by decide +kernel) he hb).weaken wk
  · exact (pe_callB b_abs hG (C.blt _ (by decide +kernel)) (by decide +kernel) ia (by decide +kernel) (by decide +kernel) he hb).weaken wk
  · exact (pe_callTy b_int hG (C.blt _ (by decide +kernel)) (by decide +kernel) ia (by decide +kernel) (by decide +kernel) he hb).weaken wk
  · exact (pe_callTy b_tup hG (C.blt _ (by decide +kernel)) (by decide +kernel) ia (by decide +kernel) (by decide +kernel) he hb).weaken wk
  · exact (pe_callTy b_lst hG (C.blt _ (by decide +kernel)) (by decide +kernel) ia (by decide +kernel) (by decide +kernel) he hb).weaken wk
  · exact (pe_callB (b_sorted C) hG (C.blt _ (by decide +kernel)) (by decide +kernel) ia (by decide +kernel) (by decide +kernel) he hb).weaken wk
end
end PV
set_option Elab.async false
set_option linter.all false
set_option maxRecDepth 100000
set_option maxHeartbeats 1000000
/-! PV9: subscripts, slices, displays, a few built-ins. -/
namespace PV
open PySem PySem.Spec PyProof.Rows L2
section
variable {prog : Program} {w : World} {A : Around} {E : Value → Shared → Prop} {s : Shared}
theorem sliceApplied_rev {sl : Addr} {vl vu vs : Value} {n : Nat} {Q : Int × Int × Nat → Shared → Prop} (hs : s.heap.IsSliceOf sl vl vu vs) (pl : IsPart vl none) (pu : IsPart vu none) (ps : IsPart vs (some (-1)))
    (h : Q ((n : Int) - 1, -1, n) s) : wpAny (model prog w) A (Builtin.Slice.sliceApplied (.ref sl) (pure (n : Int))) Q E s := by
  obtain ⟨os, hos, hcs, hds⟩ := id hs
  unfold Builtin.Slice.sliceApplied Builtin.Slice.sliceFields
  refine wpAny_bind (wpAny_bind (wpAny_field hos hds (x := vl) rfl (wpAny_bind (wpAny_field hos hds (x := vu) rfl (wpAny_bind (wpAny_field hos hds (x := vs) rfl (wpAny_pure ?_)))))))
  refine wpAny_bind (HT.slicePart_ ps ?_)
  show wpAny _ _ (if ((-1 : Int) == 0) = true then _ else _) _ _ s
  rw [if_neg (by decide)]
  refine wpAny_bind (HT.slicePart_ pl (wpAny_bind (HT.slicePart_ pu (wpAny_bind (wpAny_pure ?_)))))
  show wpAny _ _ (match Builtin.Slice.sliceAdjust none none (-1) (n : Int) with | (lo, hi) => pure (lo, (-1 : Int), Builtin.Slice.slicePlaces lo hi (-1))) _ _ s
  have e1 : Builtin.Slice.sliceAdjust none none (-1) (n : Int) = ((n : Int) - 1, -1) := rfl
  rw [e1]
  show wpAny _ _ (pure ((n : Int) - 1, (-1 : Int), Builtin.Slice.slicePlaces ((n : Int) - 1) (-1) (-1))) _ _ s
  have e2 : Builtin.Slice.slicePlaces ((n : Int) - 1) (-1) (-1) = n := by
    unfold Builtin.Slice.slicePlaces
    have h1 : ¬ ((-1 : Int) > 0) := by omega
    simp only [h1, if_false]
    rw [show (- -1 : Int) = 1 by decide, Int.ediv_one]
    split <;> omega
  rw [e2]
  exact wpAny_pure h
theorem fm_congr {α β : Type} {f g : α → Option β} : ∀ {l : List α}, (∀ x ∈ l, f x = g x) → l.filterMap f = l.filterMap g
  | [], _ => rfl
  | x :: r, h => by
    rw [List.filterMap_cons, List.filterMap_cons, h x List.mem_cons_self, fm_congr fun y hy => h y (List.mem_cons_of_mem _ hy)]
theorem pick_rev (xs : Array Value) : ((List.range xs.size).filterMap fun (m : Nat) => xs[(((xs.size : Int) - 1) + (m : Int) * (-1)).toNat]?).toArray = xs.toList.reverse.toArray := by
  have e : ((List.range xs.size).filterMap fun (m : Nat) => xs[(((xs.size : Int) - 1) + (m : Int) * (-1)).toNat]?) = ((List.range xs.size).map fun k => xs.size - 1 - k).filterMap (xs[·]?) := by
    rw [List.filterMap_map]
    apply fm_congr
    intro m hm
    have := List.mem_range.mp hm
    show xs[(((xs.size : Int) - 1) + (m : Int) * (-1)).toNat]? = xs[xs.size - 1 - m]?
    have e : (((xs.size : Int) - 1) + (m : Int) * (-1)).toNat = xs.size - 1 - m := by omega
    rw [e]
  rw [e, PySem.W.krv_range, List.filterMap_reverse, PySem.W.krv_all]
theorem getItem_tuple_rev {t sl : Addr} {items : Array Value} {vl vu vs : Value} {Q : Value → Shared → Prop} (ht : IsTup s.heap t items) (hs : s.heap.IsSliceOf sl vl vu vs) (pl : IsPart vl none) (pu : IsPart vu none) (ps : IsPart vs (some (-1)))
    (h : Q (.ref s.heap.objs.size) { s with heap := s.heap.push { cls := .type "tuple", data := .seq items.toList.reverse.toArray } })
    (hsz : items.size ≤ sizeLine) : wpAny (model prog w) A (getItem (.ref t) (.ref sl)) Q E s := by
  have htake : sizeOk (.seq items.toList.reverse.toArray) := by
    show items.toList.reverse.toArray.size ≤ sizeLine
    rw [List.size_toArray, List.length_reverse, Array.length_toList]
    exact hsz
  obtain ⟨os, hos, hcs, hds⟩ := id hs
  have hTs : s.TypeIs (.ref sl) "slice" := ⟨os, hos, hcs⟩
  unfold getItem
  try with_reducible refine wpAny_holding ?_
  first | refine wpAny_bind (wpAny_pure ?_) | skip
  refine wpAny_bind (wpAny_sequenceKey ht.typeIs (by decide) ?_)
  refine wpAny_bind (wpAny_callSpecial?_slot (name := Str.ofString "__getitem__") ht.typeIs PyProof.Rows.slot_tuple_getitem
    (wpAny_call_entry PyProof.Rows.slot_tuple_getitem ht.typeIs entry_tuple_getitem ?_ (args_tuple_getitem _ _)))
  show wpAny _ _ (Builtin.Tuple.tupleItemsOf (.ref t) >>= _) _ _ s
  refine wpAny_bind (PyProof.Rows.tupleItemsOf_ ht ?_)
  refine wpAny_bind (wpAny_typeOf hTs ?_)
  rw [if_pos (by decide)]
  refine wpAny_bind (sliceApplied_rev hs pl pu ps ?_)
  have hno : ¬ ((((items.size : Int) - 1) == 0 && (-1 : Int) == 1 && items.size == items.size) = true) := by
    intro q
    rw [Bool.and_eq_true, Bool.and_eq_true] at q
    exact absurd q.1.2 (by decide)
  show wpAny _ _ (if (((items.size : Int) - 1) == 0 && (-1 : Int) == 1 && items.size == items.size) = true then _ else _) _ _ s
  rw [if_neg hno, pick_rev]
  first
    | exact wpAny_bind (m := Builtin.Tuple.tupleExact _) (wpAny_newObj_type (wpAny_pure ⟨_, rfl, wpAny_pure h⟩) htake)
    | exact wpAny_bind (m := Builtin.Tuple.tupleExact _) (wpAny_newObj_type (wpAny_bind (wpAny_pure (wpAny_pure ⟨_, rfl, wpAny_pure h⟩))) htake)
    | exact wpAny_bind (wpAny_bind (m := Builtin.Tuple.tupleExact _) (wpAny_newObj_type (wpAny_pure (wpAny_pure ⟨_, rfl, wpAny_pure h⟩)) htake))
    | exact wpAny_bind (wpAny_bind (m := Builtin.Tuple.tupleExact _) (wpAny_newObj_type (wpAny_pure ⟨_, rfl, wpAny_pure h⟩) htake))
end
section
variable {J : Info} {fs : List Fn} {ca : Nat → Addr} {k : Nat} {N : List Str} {sc : Scope} {W : WX} {X : Cx} {S : List Nat}
theorem plainIx_of {y : Expr} (h : plainX y = true) : PlainIx y := by
  intro o i
  cases y <;> first | rfl | (simp [plainX] at h)
theorem s_sub {o i : E} {x y : Expr} {p : Pos} (py : plainX y = true) (hF : ∀ ρ, isFz ρ o = false) (io : SE ca fs k S W X o x) (ii : SE ca fs k S W X i y) : SE ca fs k S W X (.sub o i) (.Subscript x y p) := by
  refine (pe_ix i_sub io ii (plainIx_of py)).weaken fun σ H Q ⟨ρ, A, rep, q⟩ => ?_
  rw [rn_rg] at q
  simp only [ev, hF, Bool.or_false] at q
  refine tS_first rep (Stp.refl _ _) rep q fun r1 ρ1 v1 H1 A1 r1' s1 rv1 ef1 q => ?_
  refine tS_first rep s1 r1' q fun y ρ2 v2 H2 A2 r2' s2 rv2 ef2 q => ?_
  dsimp only at q
  split at q
  · rename_i hk
    cases e3 : noExc (sub r1.2 y.2) with
    | exc c k p => exact (noExc_not e3).elim
    | stuck => rw [e3] at q; exact q.elim
    | ok d =>
      rw [e3] at q
      have rv1' := RVal.later rep s1 r1' s2 ef2 hk rv1
      obtain ⟨as, d1, n1⟩ := rv1'.any
      obtain ⟨bs, d2, n2⟩ := rv2.any
      refine ⟨_, _, as, bs, d, d1, d2, noExc_inv e3, fun z cs r3 hc => q z H2 A2 r2' (Stp.trans rep s1 s2) ?_ fun e => ?_⟩
      · by_cases hi : imm d = true
        · exact RVal.of_imm r3 hi
        · have hf : imm d = false := by simpa using hi
          exact .inr ⟨hf, cs, r3, fun a ha i hi => avoid_mono n1 (fun i hi => List.mem_append_left _ hi) a (hc a ha) i hi⟩
      · simp only [eff, Bool.or_eq_false_iff] at e
        obtain ⟨q1, m1⟩ := ef1 e.1
        obtain ⟨q2, m2⟩ := ef2 e.2
        exact ⟨q2.trans q1, m1.trans m2⟩
  · exact q.elim
/-- a part of a slice -/
def PRo (K : PySem.W.Frag) (S : List Nat) (σ : L2.St) (ef : Bool) (H : Hp) (A : Own) (Q : Option Int → Hp → Prop) (x : Option Int × PV.Env) : Prop :=
  ∀ H' A', Rep K H' S σ x.2 A' → Stp H A H' A' → (ef = false → A' = A ∧ Same H H') → Q x.1 H'
def tOo (K : PySem.W.Frag) (ca : Nat → Addr) (cf : CF) (S : List Nat) (W : WX) (o : Oe) : TO := fun σ H Q => ∃ ρ A, Rep K H S σ ρ A ∧ RG K ca W σ H A (PRo K S σ (effo o) H A Q) (evo cf o ρ)
theorem fz_later {K : PySem.W.Frag} {S : List Nat} {σ : L2.St} {ρ1 ρ2 : PV.Env} {H1 H2 : Hp} {A1 A2 : Own} {v : V} {d : D} {as : List Addr} (r1 : Rep K H1 S σ ρ1 A1) (t : Stp H1 A1 H2 A2) (r2 : Rep K H2 S σ ρ2 A2) (h1 : DpR K H1 v d as) (h2 : ∀ a ∈ as, a ∈ A1.fr) : DpR K H2 v d as ∧ ∀ a ∈ as, ∀ i, a ∉ A2 i :=
  ⟨h1.keep (t.fix r1) fun a ha xs hx => t.keep a _ hx (r1.fdis a (h2 a ha)), fun a ha i hi => r2.fdis a (t.fr a (h2 a ha)) ⟨i, hi⟩⟩
theorem s_subV {j : Nat} {i : E} {x y : Expr} {p : Pos} (C : Cxt J fs ca k N sc W X) (hn : mE J N (.var j) sc x = true) (py : plainX y = true) (ii : SE ca fs k S W X i y) : SE ca fs k S W X (.sub (.var j) i) (.Subscript x y p) := by
  simp only [mE] at hn
  split at hn <;> try (cases hn; done)
  refine (pe_ix i_sub (pe_nm C hn) ii (plainIx_of py)).weaken fun σ H Q ⟨ρ, A, rep, q⟩ => ?_
  rw [rn_rg] at q
  simp only [ev] at q
  cases er : rd ρ j with
  | exc c k p =>
    unfold rd at er
    split at er <;> cases er
  | stuck => rw [er] at q; exact q.elim
  | ok r1 =>
    rw [er] at q
    simp only [bind_ok] at q
    obtain ⟨v1, ev1, _, rv1⟩ := rd_ok rep er
    refine ⟨v1, ev1, ?_⟩
    refine tS_first rep (Stp.refl _ _) rep q fun y ρ2 v2 H2 A2 r2' s2 rv2 ef2 q => ?_
    dsimp only at q
    split at q
    · rename_i hk
      cases e3 : noExc (sub r1.2 y.2) with
      | exc c k p => exact (noExc_not e3).elim
      | stuck => rw [e3] at q; exact q.elim
      | ok d =>
        rw [e3] at q
        have hv : ∃ as, DpR X.K H2 v1 r1.2 as ∧ ∀ a ∈ as, ∀ i, i ∉ vars (.var j) ++ S → a ∉ A2 i := by
          rcases Bool.or_eq_true_iff.mp hk with hk | hk
          · exact (RVal.later rep (Stp.refl _ _) rep s2 ef2 hk rv1).any
          · unfold isFz at hk
            dsimp only at hk
            split at hk
            · rename_i d0 hg
              obtain ⟨u, u1, as, u2, u3⟩ := rep.cell j _ hg
              rw [u1] at ev1
              cases ev1
              have : r1 = (imm d0, d0) := by
                unfold rd at er
                rw [hg] at er
                cases er
                rfl
              subst this
              obtain ⟨w1, w2⟩ := fz_later rep s2 r2' u2 u3
              exact ⟨as, w1, fun a ha i _ => w2 a ha i⟩
            · cases hk
        obtain ⟨as, d1, n1⟩ := hv
        obtain ⟨bs, d2, n2⟩ := rv2.any
        refine ⟨_, _, as, bs, d, d1, d2, noExc_inv e3, fun z cs r3 hc => q z H2 A2 r2' s2 ?_ fun e => ?_⟩
        · by_cases hi : imm d = true
          · exact RVal.of_imm r3 hi
          · have hf : imm d = false := by simpa using hi
            exact .inr ⟨hf, cs, r3, fun a ha i hi => avoid_mono n1 (fun i hi => List.mem_append_left _ hi) a (hc a ha) i hi⟩
        · simp only [eff, Bool.or_eq_false_iff] at e
          exact ef2 e.2
    · exact q.elim
theorem tOo_first {K : PySem.W.Frag} {cf : CF} {σ : L2.St} {H0 H : Hp} {A0 A : Own} {ρ0 ρ : PV.Env} {α : Type} {P : α → Prop} {a : Oe} {f : Option Int × PV.Env → Res α} {Q1 : Option Int → Hp → Prop} (r0 : Rep K H0 S σ ρ0 A0) (s0 : Stp H0 A0 H A) (rep : Rep K H S σ ρ A) (h : RG K ca W σ H0 A0 P (evo cf a ρ >>= f))
    (hq : ∀ r ρ1 H1 A1, Rep K H1 S σ ρ1 A1 → Stp H A H1 A1 → (effo a = false → A1 = A ∧ Same H H1) → RG K ca W σ H0 A0 P (f (r, ρ1)) → Q1 r H1) : tOo K ca cf S W a σ H Q1 := by
  refine ⟨ρ, A, rep, ?_⟩
  rcases e : evo cf a ρ with ⟨r, ρ1⟩ | ⟨c, k, p⟩ | _
  · rw [e] at h
    exact fun H1 A1 r1 s1 ef1 => hq r ρ1 H1 A1 r1 s1 ef1 h
  · rw [e] at h
    have h' : ExQ K ca H0 A0 (fun a b H' => W a b σ H') c k p := h
    exact ExQ.before r0 s0 h'
  · rw [e] at h
    exact h
theorem _root_.L2.PO.weaken {X : Cx} {e : Option Expr} {t t' : TO} (h : PO X e t) (w : ∀ σ H Q, t' σ H Q → t σ H Q) : PO X e t' := ⟨fun pins s σ H Q I q => h.run pins s σ H Q I (w σ H Q q)⟩
theorem o_none : PO X none (tOo X.K ca (runF fs k) S W .none) := po_none.weaken fun σ H Q ⟨ρ, A, rep, q⟩ => q H A rep (Stp.refl _ _) fun _ => ⟨rfl, Same.refl _⟩
theorem o_some {e : E} {x : Expr} (ie : SE ca fs k S W X e x) : PO X (some x) (tOo X.K ca (runF fs k) S W (.some e)) := by
  refine (po_some ie).weaken fun σ H Q ⟨ρ, A, rep, q⟩ => ?_
  simp only [evo] at q
  refine tS_first rep (Stp.refl _ _) rep q fun r1 ρ1 v1 H1 A1 r1' s1 rv1 ef1 q => ?_
  obtain ⟨o, d⟩ := r1
  dsimp only at q
  cases d <;> try (exact q.elim)
  obtain ⟨as, d1, _⟩ := rv1.any
  exact ⟨_, d1.int_inv, q H1 A1 r1' s1 ef1⟩
theorem s_slcE {o : E} {lo hi : Oe} {x : Expr} {l h : Option Expr} {p2 p : Pos} (io : SE ca fs k S W X o x) (il : PO X l (tOo X.K ca (runF fs k) S W lo)) (ih : PO X h (tOo X.K ca (runF fs k) S W hi)) :
    SE ca fs k S W X (.slc o lo hi) (.Subscript x (.Slice l h none p2) p) := by
  refine (pe_slice s_slc io il ih).weaken fun σ H Q ⟨ρ, A, rep, q⟩ => ?_
  rw [rn_rg] at q
  simp only [ev] at q
  refine tS_first rep (Stp.refl _ _) rep q fun x ρ1 v1 H1 A1 r1 s1 rv1 ef1 q => ?_
  refine tOo_first rep s1 r1 q fun l ρ2 H2 A2 r2 s2 ef2 q => ?_
  have s12 := Stp.trans rep s1 s2
  refine tOo_first rep s12 r2 q fun h ρ3 H3 A3 r3 s3 ef3 q => ?_
  have s13 := Stp.trans rep s12 s3
  have s23 := Stp.trans r1 s2 s3
  dsimp only at q
  split at q
  · rename_i hk
    cases e3 : noExc (slc x.2 l h) with
    | exc c k p => exact (noExc_not e3).elim
    | stuck => rw [e3] at q; exact q.elim
    | ok d =>
      rw [e3] at q
      have rv1' := RVal.later rep s1 r1 s23 (ef := effo lo || effo hi) (fun e => by
        simp only [Bool.or_eq_false_iff] at e
        obtain ⟨q2, m2⟩ := ef2 e.1
        obtain ⟨q3, m3⟩ := ef3 e.2
        exact ⟨q3.trans q2, m2.trans m3⟩) hk rv1
      obtain ⟨as, d1, n1⟩ := rv1'.any
      refine ⟨_, as, d, d1, noExc_inv e3, fun z H' sm op => q z H' A3 (r3.new sm) (s13.then_new rep sm) (RVal.of_op rep s13 r3 (fun c hc i hi => ?_) op) fun e => ?_⟩
      · exact avoid_mono n1 (fun i hi => List.mem_append_left _ (List.mem_append_left _ hi)) c hc i hi
      · simp only [eff, Bool.or_eq_false_iff] at e
        obtain ⟨q1, m1⟩ := ef1 e.1.1
        obtain ⟨q2, m2⟩ := ef2 e.1.2
        obtain ⟨q3, m3⟩ := ef3 e.2
        exact ⟨q3.trans (q2.trans q1), ((m1.trans m2).trans m3).trans sm⟩
  · exact q.elim
theorem DpRs.rev {K : PySem.W.Frag} {H : Hp} : ∀ {v : List V} {d : List D} {as : List Addr}, DpRs K H v d as → ∃ bs, DpRs K H v.reverse d.reverse bs ∧ ∀ a ∈ bs, a ∈ as
  | _, _, _, .nil => ⟨[], .nil, fun _ h => h⟩
  | _, _, _, .cons r s => by
    obtain ⟨bs, h1, h2⟩ := DpRs.rev s
    rw [List.reverse_cons, List.reverse_cons]
    exact ⟨_, h1.app (.one r), fun a ha => (List.mem_append.mp ha).elim (fun m => List.mem_append_right _ (h2 a m)) fun m => List.mem_append_left _ m⟩
/-- t[::-1] of a tuple -/
def tRevT (K : PySem.W.Frag) (te : TE) : TE := fun σ H Q => te σ H fun x H1 => ∃ a xs, x = .ref a ∧ SqT K H1 a xs ∧ ∀ p, H1 p = none → Q (.ref p) (upd H1 p (.tup xs.reverse))
theorem pe_revT {e : Expr} {te : TE} {k : Nat} {p1 p2 p3 pos : Pos} (he : PE X e te) : PE X (.Subscript e (.Slice none none (some (.UnaryOp .USub (.Constant (.int 1) k p1) p2)) p3) pos) (tRevT X.K te) := by
  refine ⟨fun pins s σ H Q I h => ?_⟩
  refine Subscript_ (thn (he.run pins s σ H _ I h) fun v s1 ⟨x, H1, I1, r1, q1⟩ => ?_)
  obtain ⟨a, xs, ex, hx, q⟩ := q1
  subst ex
  cases r1
  have hst : PO X (some (.UnaryOp .USub (.Constant (.int 1) k p1) p2)) (tPart (tUn (rU fun i => .int (-i)) (tC (.int 1)))) := po_some (pe_un un_neg pe_int)
  refine wpAny_Slice (thn (po_none.run pins s1 σ H1 (fun o H2 => o = none ∧ H2 = H1) I1 ⟨rfl, rfl⟩) fun vl s2 ⟨l, H2, I2, pl, el, e2⟩ => ?_)
  subst el e2
  refine thn (po_none.run pins s2 σ H2 (fun o H3 => o = none ∧ H3 = H2) I2 ⟨rfl, rfl⟩) fun vu s3 ⟨u, H3, I3, pu, eu, e3⟩ => ?_
  subst eu e3
  refine thn (hst.run pins s3 σ H3 (fun o H4 => o = some (-1) ∧ H4 = H3) I3 ⟨1, rfl, -1, rfl, rfl, rfl⟩) fun vs s4 ⟨o, H4, I4, ps, eo, e4⟩ => ?_
  subst eo e4
  have I5 : L2.Inv X pins σ H4 { s4 with heap := s4.heap.push { cls := .type "slice", data := .fields #[vl, vu, vs] } } := I4.kept (t' := s4.toks) fun b ob q => Heap.get?_push_of_some _ q
  obtain ⟨its, r, ht, hz⟩ := I5.tuple hx
  have hlen := r.length
  show wpAny (model X.prog X.w) X.A (subscriptTail e (.Slice none none (some (.UnaryOp .USub (.Constant (.int 1) k p1) p2)) p3) (.ref a) (.ref s4.heap.objs.size)) (EP X pins σ Q) X.xe { s4 with heap := s4.heap.push { cls := .type "slice", data := .fields #[vl, vu, vs] } }
  refine tail_any (ops := [.ref a, .ref s4.heap.objs.size]) ht.typeIs (PyProof.Rows.slot_tuple_getitem.lookup) ?_ (by with_unfolding_all rfl)
  refine getItem_tuple_rev ht (Heap.IsSliceOf.new _ vl vu vs) pl pu ps ?_ (by rw [List.size_toArray]; omega)
  refine ⟨.ref _, _, I5.laid (t' := s4.toks) (o := .tup xs.reverse) (fun b ob q => Heap.get?_push_of_some _ q) (Nat.le_refl _) ?_, rfl, q _ (I5.hok.fresh (Nat.le_refl _))⟩
  exact ⟨by rw [List.length_reverse]; exact hz, _, r.reverse, IsTup.new _ _⟩
theorem s_rev {o : E} {x : Expr} {j : Nat} {p1 p2 p3 pos : Pos} (io : SE ca fs k S W X o x) : SE ca fs k S W X (.rev o) (.Subscript x (.Slice none none (some (.UnaryOp .USub (.Constant (.int 1) j p1) p2)) p3) pos) := by
  refine L2.PE.any fun σ H Q ⟨ρ, A, rep, q⟩ => ?_
  rw [rn_rg] at q
  simp only [ev] at q
  -- which kind of sequence is it?
  rcases e0 : ev (runF fs k) o ρ with ⟨⟨b, d⟩, ρ1⟩ | ⟨c, k', p⟩ | _
  · cases d with
    | list l =>
      refine ⟨_, pe_revL io, ρ, A, rep, ?_⟩
      rw [e0] at q ⊢
      intro v1 H1 A1 r1 s1 rv1 ef1
      obtain ⟨as, d1, n1⟩ := rv1.any
      obtain ⟨a, vs, bs, e, r3, h3, e3⟩ := d1.list_inv
      obtain ⟨cs, r4, h4⟩ := r3.rev
      refine ⟨a, vs, e, SqL.of h3, OpQ.lst (N := fun a => a ∈ as) (fun z H' sm op => q z H' A1 (r1.new sm) (s1.then_new rep sm) (RVal.of_op rep s1 r1 (fun c hc i hi => n1 c hc i hi) op) fun e => ?_) r4 fun c hc => ?_⟩
      · obtain ⟨q1, m1⟩ := ef1 e
        exact ⟨q1, m1.trans sm⟩
      · rw [e3]; exact List.mem_cons_of_mem _ (h4 c hc)
    | tuple l =>
      refine ⟨_, pe_revT io, ρ, A, rep, ?_⟩
      rw [e0] at q ⊢
      intro v1 H1 A1 r1 s1 rv1 ef1
      obtain ⟨as, d1, n1⟩ := rv1.any
      obtain ⟨a, vs, e, h3, r3⟩ := d1.tuple_inv
      obtain ⟨cs, r4, h4⟩ := r3.rev
      refine ⟨a, vs, e, h3, OpQ.tup (N := fun a => a ∈ as) (fun z H' sm op => q z H' A1 (r1.new sm) (s1.then_new rep sm) (RVal.of_op rep s1 r1 (fun c hc i hi => n1 c hc i hi) op) fun e => ?_) r4 h4⟩
      obtain ⟨q1, m1⟩ := ef1 e
      exact ⟨q1, m1.trans sm⟩
    | _ =>
      rw [e0] at q
      exact q.elim
  · rw [e0] at q
    exact ⟨_, pe_revL io, ρ, A, rep, by rw [e0]; exact q⟩
  · rw [e0] at q
    exact q.elim
/-- own nodes of several new values, put into one new thing -/
theorem s_tup {es : Es} {xs : List Expr} {j : Nat} {pos : Pos} (ia : SA ca fs k S W X es xs) : SE ca fs k S W X (.tup es) (.Tuple xs j pos) := by
  refine (pe_tup ia).weaken fun σ H Q ⟨ρ, A, rep, q⟩ => ?_
  rw [rn_rg] at q
  simp only [ev] at q
  refine tSs_first rep (Stp.refl _ _) rep q fun rs ρ1 vs1 H1 A1 r1 s1 rv1 ef1 q => ?_
  dsimp only at q
  split at q
  · rename_i hl
    obtain ⟨bs, d2, n2⟩ := rv1.2
    refine ⟨by rw [d2.length, List.length_map]; simpa [lenOk] using hl, fun p hp => ?_⟩
    have sm : Same H1 (upd H1 p (.tup vs1)) := same_upd hp
    refine q _ _ A1 (r1.new sm) (s1.then_new rep sm) ?_ fun e => ?_
    · cases ho : rs.all (fun x => x.1 || imm x.2) with
      | true =>
        obtain ⟨as, g1, g2, g3, g4⟩ := rv1.1 ho
        exact .inl ⟨rfl, as, .tup (.inl (.inl upd_same)) (g1.new hp), g2, g3, g4⟩
      | false => exact .inr ⟨rfl, bs, .tup (.inl (.inl upd_same)) (d2.new hp), n2⟩
    · obtain ⟨q1, m1⟩ := ef1 e
      exact ⟨q1, m1.trans sm⟩
  · exact q.elim
theorem s_lst {es : Es} {xs : List Expr} {pos : Pos} (ia : SA ca fs k S W X es xs) : SE ca fs k S W X (.lst es) (.List xs pos) := by
  refine (pe_lst ia).weaken fun σ H Q ⟨ρ, A, rep, q⟩ => ?_
  rw [rn_rg] at q
  simp only [ev] at q
  refine tSs_first rep (Stp.refl _ _) rep q fun rs ρ1 vs1 H1 A1 r1 s1 rv1 ef1 q => ?_
  dsimp only at q
  split at q
  · rename_i hl
    obtain ⟨bs, d2, n2⟩ := rv1.2
    refine ⟨by rw [d2.length, List.length_map]; simpa [lenOk] using hl, fun p hp => ?_⟩
    have sm : Same H1 (upd H1 p (.lst vs1)) := same_upd hp
    have new : ¬ Bd A1 p := fun ⟨i, hi⟩ => by
      obtain ⟨xs, q⟩ := r1.trk i p hi
      rw [hp] at q
      cases q
    have newf : p ∉ A1.fr := fun hi => by
      obtain ⟨xs, q⟩ := r1.ftrk p hi
      rw [hp] at q
      cases q
    refine q _ _ A1 (r1.new sm) (s1.then_new rep sm) ?_ fun e => ?_
    · cases ho : rs.all (fun x => x.1 || imm x.2) with
      | true =>
        obtain ⟨as, g1, g2, g3, g4⟩ := rv1.1 ho
        refine .inl ⟨rfl, p :: as, .lst upd_same (g1.new hp), List.nodup_cons.mpr ⟨fun m => ?_, g2⟩, fun a ha => ?_, fun a ha => ?_⟩
        · obtain ⟨ys, q⟩ := g1.trk p m
          rw [hp] at q
          cases q
        · rcases List.mem_cons.mp ha with e | ha
          · rw [e]; exact ⟨new, newf⟩
          · exact g3 a ha
        · rcases List.mem_cons.mp ha with e | ha
          · rw [e]; exact .inr (s1.there rep hp)
          · exact g4 a ha
      | false =>
        refine .inr ⟨rfl, p :: bs, .lst upd_same (d2.new hp), fun a ha i hi => ?_⟩
        rcases List.mem_cons.mp ha with e | ha
        · rw [e]; exact fun m => new ⟨i, m⟩
        · exact n2 a ha i hi
    · obtain ⟨q1, m1⟩ := ef1 e
      exact ⟨q1, m1.trans sm⟩
  · exact q.elim
theorem ints_dp {K : PySem.W.Frag} {H : Hp} : ∀ l : List Int, DpRs K H (l.map V.int) (l.map PyData.int) []
  | [] => .nil
  | x :: r => .cons (as := []) (.int x) (ints_dp r)
theorem rng_dp {K : PySem.W.Frag} {H : Hp} (i j : Int) : DpRs K H (rgV i j) (rangeD i j) [] := by
  have h := ints_dp (K := K) (H := H) ((List.range (j - i).toNat).map fun k => i + (k : Nat))
  rw [List.map_map, List.map_map] at h
  exact h
theorem rng_imm (i j : Int) : immAll (rangeD i j) = true := by
  unfold rangeD
  generalize (List.range (j - i).toNat) = l
  induction l with
  | nil => rfl
  | cons x r ih => simp [immAll, imm, ih]
end
end PV
set_option Elab.async false
set_option linter.all false
set_option maxRecDepth 100000
set_option maxHeartbeats 1000000
/-! PV10: ranges, isinstance, the script's copy, pops, counts, calls. -/
namespace PV
open PySem PySem.Spec PyProof.Rows L2
section
variable {J : Info} {fs : List Fn} {ca : Nat → Addr} {k : Nat} {N : List Str} {sc : Scope} {W : WX} {X : Cx} {S : List Nat}
theorem new_out {K : PySem.W.Frag} {H : Hp} {σ : L2.St} {ρ : PV.Env} {A : Own} {p : Addr} (rep : Rep K H S σ ρ A) (hp : H p = none) : ¬ Bd A p ∧ p ∉ A.fr := by
  refine ⟨fun ⟨i, hi⟩ => ?_, fun hi => ?_⟩
  · obtain ⟨xs, q⟩ := rep.trk i p hi
    rw [hp] at q
    cases q
  · obtain ⟨xs, q⟩ := rep.ftrk p hi
    rw [hp] at q
    cases q
theorem s_rng {a b : E} {x y : Expr} {p1 p2 p3 p4 : Pos} (C : Cxt J fs ca k N sc W X) (g1 : glB sc ("list" : Str) = true) (g2 : glB sc ("range" : Str) = true) (px : plainX x = true) (py : plainX y = true) (ia : SE ca fs k S W X a x) (ib : SE ca fs k S W X b y) :
    SE ca fs k S W X (.rng a b) (.Call (.Name "list" p1) [.Call (.Name "range" p2) [x, y] [] p3] [] p4) := by
  have na : starEach [x, y] X.env = (false, eval x X.env) :: starEach [y] X.env := star_of px
  have nb : starEach [y] X.env = (false, eval y X.env) :: starEach [] X.env := star_of py
  refine (pe_listRg C.calm (gl_of C g1) (C.blt _ (by decide +kernel)) (prg_2 (gl_of C g2) (C.blt _ (by decide +kernel)) ia ib na nb (back_of (xs := [y]) (by simp [plainAllX, py])))).weaken fun σ H Q ⟨ρ, A, rep, q⟩ => ?_
  rw [rn_rg] at q
  simp only [ev] at q
  refine tS_first rep (Stp.refl _ _) rep q fun r1 ρ1 v1 H1 A1 r1' s1 rv1 ef1 q => ?_
  refine tS_first rep s1 r1' q fun y ρ2 v2 H2 A2 r2' s2 rv2 ef2 q => ?_
  obtain ⟨o1, d1⟩ := r1
  obtain ⟨o2, d2⟩ := y
  dsimp only at q
  cases d1 with
  | int i =>
    cases d2 with
    | int j =>
      simp only [asInt, bind_ok] at q
      split at q
      · rename_i hk
        simp only [Bool.and_eq_true, smallI, lenOk, decide_eq_true_eq] at hk
        obtain ⟨as, e1, _⟩ := rv1.any
        obtain ⟨bs, e2, _⟩ := rv2.any
        refine ⟨i, j, e1.int_inv, e2.int_inv, ⟨hk.1.1.1, hk.1.1.2, hk.1.2.1, hk.1.2.2, hk.2⟩, fun p hp => ?_⟩
        have s12 := Stp.trans rep s1 s2
        have sm : Same H2 (upd H2 p (.lst (rgV i j))) := same_upd hp
        refine q _ _ A2 (r2'.new sm) (s12.then_new rep sm) ?_ fun e => ?_
        · refine .inl ⟨rfl, [p], .lst upd_same (rng_dp i j), by simp, fun a ha => ?_, fun a ha => ?_⟩
          · simp only [List.mem_singleton] at ha
            subst ha
            exact new_out r2' hp
          · simp only [List.mem_singleton] at ha
            subst ha
            exact .inr (s12.there rep hp)
        · simp only [eff, Bool.or_eq_false_iff] at e
          obtain ⟨q1, m1⟩ := ef1 e.1
          obtain ⟨q2, m2⟩ := ef2 e.2
          exact ⟨q2.trans q1, (m1.trans m2).trans sm⟩
      · exact q.elim
    | _ => exact q.elim
  | _ => exact q.elim
theorem s_rng1 {b : E} {y : Expr} {p1 p2 p3 p4 : Pos} (C : Cxt J fs ca k N sc W X) (g1 : glB sc ("list" : Str) = true) (g2 : glB sc ("range" : Str) = true) (py : plainX y = true) (ib : SE ca fs k S W X b y) :
    SE ca fs k S W X (.rng1 b) (.Call (.Name "list" p1) [.Call (.Name "range" p2) [y] [] p3] [] p4) := by
  have nb : starEach [y] X.env = (false, eval y X.env) :: starEach [] X.env := star_of py
  refine (pe_listRg C.calm (gl_of C g1) (C.blt _ (by decide +kernel)) (prg_1 (gl_of C g2) (C.blt _ (by decide +kernel)) ib nb)).weaken fun σ H Q ⟨ρ, A, rep, q⟩ => ?_
  rw [rn_rg] at q
  simp only [ev] at q
  refine tS_first rep (Stp.refl _ _) rep q fun y ρ2 v2 H2 A2 r2' s12 rv2 ef2 q => ?_
  obtain ⟨o2, d2⟩ := y
  dsimp only at q
  cases d2 with
  | int j =>
    simp only [asInt, bind_ok] at q
    split at q
    · rename_i hk
      simp only [Bool.and_eq_true, smallI, lenOk, decide_eq_true_eq] at hk
      obtain ⟨bs, e2, _⟩ := rv2.any
      refine ⟨j, e2.int_inv, ⟨by decide, by decide, hk.1.1, hk.1.2, ?_⟩, fun p hp => ?_⟩
      · rw [show j - 0 = j by omega]; exact hk.2
      have sm : Same H2 (upd H2 p (.lst (rgV 0 j))) := same_upd hp
      refine q _ _ A2 (r2'.new sm) (s12.then_new rep sm) ?_ fun e => ?_
      · refine .inl ⟨rfl, [p], .lst upd_same (rng_dp 0 j), by simp, fun a ha => ?_, fun a ha => ?_⟩
        · simp only [List.mem_singleton] at ha
          subst ha
          exact new_out r2' hp
        · simp only [List.mem_singleton] at ha
          subst ha
          exact .inr (s12.there rep hp)
      · obtain ⟨q2, m2⟩ := ef2 e
        exact ⟨q2, m2.trans sm⟩
    · exact q.elim
  | _ => exact q.elim
theorem s_scrL {i : Nat} {x : Str} {p1 p2 p3 : Pos} (C : Cxt J fs ca k N sc W X) (g1 : glB sc ("list" : Str) = true) (hn : nameB N sc i x = true) : SE ca fs k S W X (.scrL i) (.Call (.Name "list" p1) [.Name x p2] [] p3) := by
  have nx : starEach [.Name x p2] X.env = (false, eval (.Name x p2) X.env) :: starEach [] X.env := rfl
  refine (pe_callTy call_list_of (gl_of C g1) (C.blt _ (by decide +kernel)) (by decide +kernel) (pa_cons (pe_nm C hn) pa_nil) (by decide +kernel) (by decide +kernel) nx rfl).weaken fun σ H Q ⟨ρ, A, rep, q⟩ => ?_
  simp only [ev] at q
  split at q
  · rename_i l e
    split at q
    · obtain ⟨v, ev1, a, e1, hx⟩ := rep.cell i _ e
      subst e1
      refine ⟨_, ev1, a, _, rfl, .inl hx.seq, fun p hp => ?_⟩
      have sm : Same H (upd H p (.lst (l.map V.int))) := same_upd hp
      refine q _ _ A (rep.new sm) (Stp.new sm) ?_ fun _ => ⟨rfl, sm⟩
      refine .inl ⟨rfl, [p], .lst upd_same (ints_dp l), by simp, fun a ha => ?_, fun a ha => ?_⟩
      · simp only [List.mem_singleton] at ha
        subst ha
        exact new_out rep hp
      · simp only [List.mem_singleton] at ha
        subst ha
        exact .inr hp
    · exact q.elim
  · exact q.elim
theorem ty_of {K : PySem.W.Frag} {H : Hp} {v : V} {d : D} {as : List Addr} (r : DpR K H v d as) : ∃ t, TyX K H v (.type t) ∧ PySem.W.kitOne K (.type t) (.type "bool") = some (isBoolD d) := by
  have no : ∀ {t : String}, kitB t "bool" = some false → PySem.W.kitOne K (.type t) (.type "bool") = some false := fun h => kit_ty h
  have yes : ∀ {t : String}, kitB t "bool" = some true → PySem.W.kitOne K (.type t) (.type "bool") = some true := fun h => kit_ty h
  cases r with
  | non => exact ⟨_, .base .non, no (by decide +kernel)⟩
  | bl b => exact ⟨_, .base (.bl b), yes (by decide +kernel)⟩
  | int i => exact ⟨_, .base (.int i), no (by decide +kernel)⟩
  | str x => exact ⟨_, .base (.str x), no (by decide +kernel)⟩
  | lst h r => exact ⟨_, .base (.lst h), no (by decide +kernel)⟩
  | tup h r =>
    rcases h with (h | ⟨o, h⟩) | ⟨o, its, n, h1, h2, _⟩
    · exact ⟨_, .base (.tup h), no (by decide +kernel)⟩
    · exact ⟨_, .fTuple h, no (by decide +kernel)⟩
    · exact ⟨_, .kTuple h1 h2, no (by decide +kernel)⟩
theorem s_isBool {a : E} {x : Expr} {p1 p2 p3 : Pos} (C : Cxt J fs ca k N sc W X) (g1 : glB sc ("isinstance" : Str) = true) (g2 : glB sc ("bool" : Str) = true) (px : plainX x = true) (ia : SE ca fs k S W X a x) :
    SE ca fs k S W X (.isBool a) (.Call (.Name "isinstance" p1) [x, .Name "bool" p2] [] p3) := by
  have na : starEach [x, .Name "bool" p2] X.env = (false, eval x X.env) :: starEach [.Name "bool" p2] X.env := star_of px
  have pb : PE X (.Name "bool" p2) (tC (.ty "bool")) := pe_bltn (gl_of C g2) (C.blt _ (by decide +kernel)) (by decide +kernel) rfl
  refine (pe_callB call_isi (gl_of C g1) (C.blt _ (by decide +kernel)) (by decide +kernel) (pa_cons ia (pa_cons pb pa_nil) na) (by decide +kernel) (by decide +kernel) na rfl).weaken fun σ H Q ⟨ρ, A, rep, q⟩ => ?_
  rw [rn_rg] at q
  simp only [ev] at q
  refine tS_first rep (Stp.refl _ _) rep q fun r1 ρ1 v1 H1 A1 r1' s1 rv1 ef1 q => ?_
  obtain ⟨as, d1, _⟩ := rv1.any
  obtain ⟨t, h1, h2⟩ := ty_of d1
  exact ⟨_, _, _, _, _, rfl, .ty "bool", h1, h2, q _ H1 A1 r1' s1 (RVal.of_imm (.bl _) rfl) ef1⟩
theorem ty_ofTup {K : PySem.W.Frag} {H : Hp} {v : V} {d : D} {as : List Addr} (r : DpR K H v d as) : ∃ t, TyX K H v (.type t) ∧ PySem.W.kitOne K (.type t) (.type "tuple") = some (isTupD d) := by
  have no : ∀ {t : String}, kitB t "tuple" = some false → PySem.W.kitOne K (.type t) (.type "tuple") = some false := fun h => kit_ty h
  have yes : ∀ {t : String}, kitB t "tuple" = some true → PySem.W.kitOne K (.type t) (.type "tuple") = some true := fun h => kit_ty h
  cases r with
  | non => exact ⟨_, .base .non, no (by decide +kernel)⟩
  | bl b => exact ⟨_, .base (.bl b), no (by decide +kernel)⟩
  | int i => exact ⟨_, .base (.int i), no (by decide +kernel)⟩
  | str x => exact ⟨_, .base (.str x), no (by decide +kernel)⟩
  | lst h r => exact ⟨_, .base (.lst h), no (by decide +kernel)⟩
  | tup h r =>
    rcases h with (h | ⟨o, h⟩) | ⟨o, its, n, h1, h2, _⟩
    · exact ⟨_, .base (.tup h), yes (by decide +kernel)⟩
    · exact ⟨_, .fTuple h, yes (by decide +kernel)⟩
    · exact ⟨_, .kTuple h1 h2, yes (by decide +kernel)⟩
theorem s_isTup {a : E} {x : Expr} {p1 p2 p3 : Pos} (C : Cxt J fs ca k N sc W X) (g1 : glB sc ("isinstance" : Str) = true) (g2 : glB sc ("tuple" : Str) = true) (px : plainX x = true) (ia : SE ca fs k S W X a x) :
    SE ca fs k S W X (.isTup a) (.Call (.Name "isinstance" p1) [x, .Name "tuple" p2] [] p3) := by
  have na : starEach [x, .Name "tuple" p2] X.env = (false, eval x X.env) :: starEach [.Name "tuple" p2] X.env := star_of px
  have pb : PE X (.Name "tuple" p2) (tC (.ty "tuple")) := pe_bltn (gl_of C g2) (C.blt _ (by decide +kernel)) (by decide +kernel) rfl
  refine (pe_callB call_isi (gl_of C g1) (C.blt _ (by decide +kernel)) (by decide +kernel) (pa_cons ia (pa_cons pb pa_nil) na) (by decide +kernel) (by decide +kernel) na rfl).weaken fun σ H Q ⟨ρ, A, rep, q⟩ => ?_
  rw [rn_rg] at q
  simp only [ev] at q
  refine tS_first rep (Stp.refl _ _) rep q fun r1 ρ1 v1 H1 A1 r1' s1 rv1 ef1 q => ?_
  obtain ⟨as, d1, _⟩ := rv1.any
  obtain ⟨t, h1, h2⟩ := ty_ofTup d1
  exact ⟨_, _, _, _, _, rfl, .ty "tuple", h1, h2, q _ H1 A1 r1' s1 (RVal.of_imm (.bl _) rfl) ef1⟩
theorem ty_ofInt {K : PySem.W.Frag} {H : Hp} {v : V} {d : D} {as : List Addr} (r : DpR K H v d as) : ∃ t, TyX K H v (.type t) ∧ PySem.W.kitOne K (.type t) (.type "int") = some (isIntD d) := by
  have no : ∀ {t : String}, kitB t "int" = some false → PySem.W.kitOne K (.type t) (.type "int") = some false := fun h => kit_ty h
  have yes : ∀ {t : String}, kitB t "int" = some true → PySem.W.kitOne K (.type t) (.type "int") = some true := fun h => kit_ty h
  cases r with
  | non => exact ⟨_, .base .non, no (by decide +kernel)⟩
  | bl b => exact ⟨_, .base (.bl b), yes (by decide +kernel)⟩
  | int i => exact ⟨_, .base (.int i), yes (by decide +kernel)⟩
  | str x => exact ⟨_, .base (.str x), no (by decide +kernel)⟩
  | lst h r => exact ⟨_, .base (.lst h), no (by decide +kernel)⟩
  | tup h r =>
    rcases h with (h | ⟨o, h⟩) | ⟨o, its, n, h1, h2, _⟩
    · exact ⟨_, .base (.tup h), no (by decide +kernel)⟩
    · exact ⟨_, .fTuple h, no (by decide +kernel)⟩
    · exact ⟨_, .kTuple h1 h2, no (by decide +kernel)⟩
theorem s_isInt {a : E} {x : Expr} {p1 p2 p3 : Pos} (C : Cxt J fs ca k N sc W X) (g1 : glB sc ("isinstance" : Str) = true) (g2 : glB sc ("int" : Str) = true) (px : plainX x = true) (ia : SE ca fs k S W X a x) :
    SE ca fs k S W X (.isInt a) (.Call (.Name "isinstance" p1) [x, .Name "int" p2] [] p3) := by
  have na : starEach [x, .Name "int" p2] X.env = (false, eval x X.env) :: starEach [.Name "int" p2] X.env := star_of px
  have pb : PE X (.Name "int" p2) (tC (.ty "int")) := pe_bltn (gl_of C g2) (C.blt _ (by decide +kernel)) (by decide +kernel) rfl
  refine (pe_callB call_isi (gl_of C g1) (C.blt _ (by decide +kernel)) (by decide +kernel) (pa_cons ia (pa_cons pb pa_nil) na) (by decide +kernel) (by decide +kernel) na rfl).weaken fun σ H Q ⟨ρ, A, rep, q⟩ => ?_
  rw [rn_rg] at q
  simp only [ev] at q
  refine tS_first rep (Stp.refl _ _) rep q fun r1 ρ1 v1 H1 A1 r1' s1 rv1 ef1 q => ?_
  obtain ⟨as, d1, _⟩ := rv1.any
  obtain ⟨t, h1, h2⟩ := ty_ofInt d1
  exact ⟨_, _, _, _, _, rfl, .ty "int", h1, h2, q _ H1 A1 r1' s1 (RVal.of_imm (.bl _) rfl) ef1⟩
end
end PV
set_option Elab.async false
set_option linter.all false
set_option maxRecDepth 100000
set_option maxHeartbeats 4000000
/-! PVS: sorted(set(t)), t a tuple of ints. -/
namespace PV
open PySem PySem.Spec PyProof.Rows L2
def tSset (K : PySem.W.Frag) (ta : TE) : TE := fun σ H Q => ta σ H fun x H1 => ∃ (l : Addr) (ns : List Int), x = V.ref l ∧ SqT K H1 l (ns.map V.int) ∧ ns.length < 64 ∧
  ∀ (ms : List Int) (p : Addr), ms.Pairwise (· < ·) → (∀ k : Int, k ∈ ms ↔ k ∈ ns) → H1 p = none → Q (.ref p) (upd H1 p (.lst (ms.map V.int)))
theorem pe_sset {X : Cx} {a : Expr} {ta : TE} {p p2 q pos : Pos} (hc : X.calm = true) (hg : Gl X "sorted") (hm : X.mg "sorted" = none) (hg2 : Gl X "set") (hm2 : X.mg "set" = none) (ha : PE X a ta)
    (na : starEach [a] X.env = (false, eval a X.env) :: starEach [] X.env := by rfl) : PE X (.Call (.Name "sorted" p) [.Call (.Name "set" p2) [a] [] q] [] pos) (tSset X.K ta) := by
  refine ⟨fun pins s σ H Q I h => ?_⟩
  refine Call_ (ld_blt I hg hm PyProof.Rows.boot_sorted ?_)
  refine PyProof.Rows.callWith_builtin1 (PyProof.Rows.args_cons ?_ rfl) rfl rfl
  refine Call_ (ld_blt I hg2 hm2 PyProof.Rows.boot_set ?_)
  refine PyProof.Rows.callWith_type1 (PyProof.Rows.args_cons (thn (ha.run pins s σ H _ I h) fun v s1 ⟨x, H1, I1, r1, q1⟩ => PyProof.Rows.args_nil ?_) na) na rfl
  obtain ⟨l, ns, rfl, hq, hl, q1⟩ := q1
  cases r1
  obtain ⟨its, r, pl, hz⟩ := I1.tuple hq
  refine call_set_tupI ns (I1.ok.hd hc) pl (by simpa using r.ints) (by unfold scanBound; omega) fun h' tk c R hcl hk => ?_
  refine PyProof.Rows.args_nil ?_
  have I2 : Inv X pins σ H1 { s1 with heap := h', toks := tk } := I1.kept fun b o e => hk b o e
  have R2 : SetR X.w ({ s1 with heap := h', toks := tk } : Shared).heap s1.heap.objs.size (fun j => decide (j ∈ ns)) c := R
  revert I2 R2
  generalize ({ s1 with heap := h', toks := tk } : Shared) = s2
  intro I2 R2
  refine sorted_set R2 (I2.ok.hd hc) (by omega) fun s' p out c ms k g o hp hg hi hs hm hlm => ?_
  have hlen : (ms.map V.int).length ≤ sizeLine := by rw [List.length_map, hlm, sizeLine_eq]; omega
  have hn : H1 p = none := I2.hok.fresh hp
  have J : Inv X pins σ (upd H1 p (.lst (ms.map V.int))) { s2 with heap := s'.heap, gens := s'.gens, drawn := s'.drawn, toks := s'.toks } :=
    I2.call (ch := []) (Un.laid k hp hn) (I2.hok.laid k hp ⟨hlen, out.toList, c, vals_of_ints hi, hg⟩) (by rw [g]; exact I2.bare) (fun _ z => nomatch z)
  have e : s' = { s2 with heap := s'.heap, gens := s'.gens, drawn := s'.drawn, toks := s'.toks } := by
    cases s'
    cases s2
    cases o
    rfl
  rw [e]
  exact ⟨.ref p, _, J, rfl, q1 ms p hs (fun k => by rw [hm]; simp) hn⟩
theorem insS_mem (x : Int) : ∀ (l : List Int) (k : Int), k ∈ insS x l ↔ k = x ∨ k ∈ l
  | [], k => by simp [insS]
  | y :: r, k => by
    have ih := insS_mem x r k
    rw [insS]
    split
    · simp
    · split
      · rename_i e; subst e; simp
      · simp only [List.mem_cons, ih]
        constructor
        · rintro (h | h | h) <;> simp [h]
        · rintro (h | h | h) <;> simp [h]
theorem insS_asc (x : Int) : ∀ l : List Int, l.Pairwise (· < ·) → (insS x l).Pairwise (· < ·)
  | [], _ => by simp [insS]
  | y :: r, h => by
    obtain ⟨h1, h2⟩ := List.pairwise_cons.mp h
    rw [insS]
    split
    · rename_i hx
      refine List.pairwise_cons.mpr ⟨fun k hk => ?_, h⟩
      rcases List.mem_cons.mp hk with rfl | hk
      · exact hx
      · exact Int.lt_trans hx (h1 k hk)
    · split
      · exact h
      · rename_i hx hy
        refine List.pairwise_cons.mpr ⟨fun k hk => ?_, insS_asc x r h2⟩
        rcases (insS_mem x r k).mp hk with rfl | hk
        · omega
        · exact h1 k hk
theorem ssort_mem : ∀ (l : List Int) (k : Int), k ∈ ssort l ↔ k ∈ l
  | [], k => by simp [ssort]
  | x :: l, k => by rw [ssort, insS_mem, ssort_mem l k, List.mem_cons]
theorem ssort_asc : ∀ l : List Int, (ssort l).Pairwise (· < ·)
  | [] => .nil
  | x :: l => insS_asc x _ (ssort_asc l)
theorem asc_ext : ∀ (a b : List Int), a.Pairwise (· < ·) → b.Pairwise (· < ·) → (∀ k : Int, k ∈ a ↔ k ∈ b) → a = b
  | [], [], _, _, _ => rfl
  | [], y :: b, _, _, h => absurd ((h y).mpr List.mem_cons_self) (by simp)
  | x :: a, [], _, _, h => absurd ((h x).mp List.mem_cons_self) (by simp)
  | x :: a, y :: b, ha, hb, h => by
    obtain ⟨a1, a2⟩ := List.pairwise_cons.mp ha
    obtain ⟨b1, b2⟩ := List.pairwise_cons.mp hb
    have e : x = y := by
      rcases List.mem_cons.mp ((h x).mp List.mem_cons_self) with e | m
      · exact e
      · rcases List.mem_cons.mp ((h y).mpr List.mem_cons_self) with e | m2
        · exact e.symm
        · have := a1 y m2; have := b1 x m; omega
    subst e
    rw [asc_ext a b a2 b2 fun k => ?_]
    constructor
    · intro m
      rcases List.mem_cons.mp ((h k).mp (List.mem_cons_of_mem _ m)) with e | m2
      · have := a1 k m; omega
      · exact m2
    · intro m
      rcases List.mem_cons.mp ((h k).mpr (List.mem_cons_of_mem _ m)) with e | m2
      · have := b1 k m; omega
      · exact m2
theorem intsOf_dp {K : PySem.W.Frag} {H : Hp} : ∀ {xs : List V} {ds : List D} {as : List Addr} {l : List Int}, DpRs K H xs ds as → intsOf ds = some l → xs = l.map V.int ∧ ds = l.map .int
  | _, _, _, l, .nil, h => by simp only [intsOf] at h; cases h; exact ⟨rfl, rfl⟩
  | _, _, _, l, .cons r s, h => by
    cases r with
    | int i =>
      simp only [intsOf] at h
      split at h
      · rename_i l' e
        cases h
        obtain ⟨h1, h2⟩ := intsOf_dp s e
        exact ⟨by rw [h1]; rfl, by rw [h2]; rfl⟩
      · cases h
    | _ => simp only [intsOf] at h; cases h
section
variable {J : Info} {fs : List Fn} {ca : Nat → Addr} {k : Nat} {N : List Str} {sc : Scope} {W : WX} {X : Cx} {S : List Nat}
theorem s_sset {a : E} {x : Expr} {p1 p2 p3 p4 : Pos} (C : Cxt J fs ca k N sc W X) (g1 : glB sc ("sorted" : Str) = true) (g2 : glB sc ("set" : Str) = true) (px : plainX x = true) (ia : SE ca fs k S W X a x) :
    SE ca fs k S W X (.sset a) (.Call (.Name "sorted" p1) [.Call (.Name "set" p2) [x] [] p3] [] p4) := by
  have na : starEach [x] X.env = (false, eval x X.env) :: starEach [] X.env := star_of px
  refine (pe_sset C.calm (gl_of C g1) (C.blt _ (by decide +kernel)) (gl_of C g2) (C.blt _ (by decide +kernel)) ia na).weaken fun σ H Q ⟨ρ, A, rep, q⟩ => ?_
  rw [rn_rg] at q
  simp only [ev] at q
  refine tS_first rep (Stp.refl _ _) rep q fun r1 ρ1 v1 H1 A1 r1' s1 rv1 ef1 q => ?_
  obtain ⟨d, ed, q⟩ := RG.pure (ne_no _) q
  have ed := noExc_inv ed
  obtain ⟨as, d1, _⟩ := rv1.any
  obtain ⟨b, dd⟩ := r1
  cases dd <;> try (simp only [ssetD] at ed; cases ed; done)
  rename_i xs
  simp only [ssetD] at ed
  split at ed
  · rename_i l el
    split at ed
    · rename_i hl
      cases ed
      obtain ⟨t, vs, rfl, hT, rs⟩ := d1.tuple_inv
      obtain ⟨e1, e2⟩ := intsOf_dp rs el
      subst e1
      refine ⟨t, l, rfl, hT, hl, fun ms p hp hm hn => ?_⟩
      have em : ms = ssort l := asc_ext _ _ hp (ssort_asc l) fun k => by rw [hm, ssort_mem]
      subst em
      have sm : Same H1 (upd H1 p (.lst ((ssort l).map V.int))) := same_upd hn
      refine q _ _ A1 (r1'.new sm) (s1.then_new rep sm) ?_ fun e => ?_
      · refine .inl ⟨rfl, [p], .lst upd_same (ints_dp _), by simp, fun a ha => ?_, fun a ha => ?_⟩
        · simp only [List.mem_singleton] at ha
          subst ha
          exact new_out r1' hn
        · simp only [List.mem_singleton] at ha
          subst ha
          exact .inr (s1.there rep hn)
      · obtain ⟨q1, m1⟩ := ef1 e
        exact ⟨q1, m1.trans sm⟩
    · cases ed
  · cases ed
end
end PV
set_option Elab.async false
set_option linter.all false
set_option maxRecDepth 100000
set_option maxHeartbeats 1000000
/-! PV11: what a name owns is changed; pops, counts, calls. -/
namespace PV
open PySem PySem.Spec PyProof.Rows L2
def Own.put (A : Own) (i : Nat) (as : List Addr) : Own := ⟨fun j => if j = i then as else A j, A.fr⟩
theorem Own.put_same (A : Own) (i : Nat) (as : List Addr) : (A.put i as) i = as := if_pos rfl
theorem Own.put_ne (A : Own) {i j : Nat} (as : List Addr) (h : j ≠ i) : (A.put i as) j = A j := if_neg h
theorem get_set (ρ : PV.Env) (i j : Nat) (c : Option Cell) : PV.get (ρ.set i c) j = if i = j ∧ j < ρ.length then c else PV.get ρ j := by
  unfold PV.get
  by_cases h : i = j
  · subst h
    by_cases hl : i < ρ.length
    · rw [List.getElem?_set_self hl, if_pos ⟨rfl, hl⟩]
    · rw [List.getElem?_eq_none (by simpa using hl), if_neg (fun q => hl q.2), List.getElem?_eq_none (by simpa using hl)]
  · rw [List.getElem?_set_ne h, if_neg (fun q => h q.1)]
theorem get_lt {ρ : PV.Env} {i : Nat} {c : Cell} (h : PV.get ρ i = some c) : i < ρ.length := (List.getElem?_eq_some_iff.mp (get_of h)).1
theorem noBor_get {ρ : PV.Env} {i : Nat} {c : Cell} (h : noBor ρ = true) (e : PV.get ρ i = some c) : c.noBor = true := by
  have := List.all_eq_true.mp h _ (List.mem_of_getElem? (get_of e))
  exact this
theorem fix_upd {H : Hp} {a : Addr} {xs ys : List V} (h : H a = some (.lst xs)) : Fix H (upd H a (.lst ys)) := by
  refine ⟨fun b zs e => ?_, fun b o u e => ?_⟩
  · rw [upd_ne (ne_of e h (by intro z; cases z))]; exact e
  · rw [upd_ne (ne_of e h (by intro z; cases z))]; exact e
section
variable {K : PySem.W.Frag} {S : List Nat} {σ : L2.St} {ρ ρ0 : PV.Env} {H H0 : Hp} {A A0 : Own}
/-- the list at a, which name i owns, is changed; i holds the tree d' from now on -/
theorem Rep.upd1 {i : Nat} {d d' : D} {a : Addr} {v : V} {xs ys : List V} {as' : List Addr} (rep : Rep K H S σ ρ A) (nb : noBor ρ = true) (hi : PV.get ρ i = some (.own d)) (ha : a ∈ A i) (hH : H a = some (.lst xs)) (hv : σ[i]? = some (some v))
    (r : DpR K (upd H a (.lst ys)) v d' as') (nd : as'.Nodup) (ho : ∀ b ∈ as', b ∈ A i ∨ (¬ Bd A b ∧ b ∉ A.fr)) : Rep K (upd H a (.lst ys)) S σ (ρ.set i (some (.own d'))) (A.put i as') := by
  have bda : Bd A a := ⟨i, ha⟩
  have keep : ∀ b zs, H b = some (.lst zs) → b ≠ a → upd H a (.lst ys) b = some (.lst zs) := fun b zs e ne => by rw [upd_ne ne]; exact e
  have lst : ∀ b, (∃ zs, H b = some (.lst zs)) → ∃ zs, upd H a (.lst ys) b = some (.lst zs) := fun b ⟨zs, e⟩ => by
    by_cases hb : b = a
    · subst hb; exact ⟨_, upd_same⟩
    · exact ⟨zs, keep b zs e hb⟩
  refine ⟨fun j c h => ?_, fun j l b h1 h2 => ?_, fun j b h => ?_, fun b h => ?_, fun b h => lst b (rep.ftrk b h), fun j hjl h => ?_, by rw [List.length_set]; exact rep.len⟩
  · rw [get_set] at h
    by_cases hj : i = j
    · subst hj
      rw [if_pos ⟨rfl, get_lt hi⟩] at h
      cases h
      exact ⟨v, hv, by show DpR _ _ _ _ ((A.put i as') i) ∧ _; rw [Own.put_same]; exact ⟨r, nd⟩⟩
    · rw [if_neg (fun q => hj q.1)] at h
      obtain ⟨u, e, ok⟩ := rep.cell j c h
      refine ⟨u, e, ?_⟩
      cases c with
      | own e' =>
        show DpR _ _ _ _ ((A.put i as') j) ∧ _
        rw [Own.put_ne _ _ (Ne.symm hj)]
        exact ⟨ok.1.keep (fix_upd hH) fun b hb zs q => keep b zs q fun z => hj (rep.disj i j a ha (z ▸ hb)), ok.2⟩
      | fz e' =>
        obtain ⟨bs, h1, h2⟩ := ok
        exact ⟨bs, h1.keep (fix_upd hH) fun b hb zs q => keep b zs q fun z => rep.fdis b (h2 b hb) (z ▸ bda), h2⟩
      | bor e' => exact absurd (noBor_get nb h) (fun z => Bool.noConfusion z)
      | scr l =>
        obtain ⟨b, h1, h2⟩ := ok
        exact ⟨b, h1, (fix_upd hH).extL h2⟩
  · by_cases hj : j = i
    · by_cases hl : l = i
      · rw [hj, hl]
      · rw [hj, Own.put_same] at h1
        rw [Own.put_ne _ _ hl] at h2
        rcases ho b h1 with q | q
        · exact absurd (rep.disj i l b q h2) (Ne.symm hl)
        · exact absurd ⟨l, h2⟩ q.1
    · by_cases hl : l = i
      · rw [hl, Own.put_same] at h2
        rw [Own.put_ne _ _ hj] at h1
        rcases ho b h2 with q | q
        · exact absurd (rep.disj j i b h1 q) hj
        · exact absurd ⟨j, h1⟩ q.1
      · rw [Own.put_ne _ _ hj] at h1
        rw [Own.put_ne _ _ hl] at h2
        exact rep.disj j l b h1 h2
  · by_cases hj : j = i
    · rw [hj, Own.put_same] at h
      exact r.trk b h
    · rw [Own.put_ne _ _ hj] at h
      exact lst b (rep.trk j b h)
  · rintro ⟨j, hj⟩
    by_cases hji : j = i
    · rw [hji, Own.put_same] at hj
      rcases ho b hj with q | q
      · exact rep.fdis b h ⟨i, q⟩
      · exact q.2 h
    · rw [Own.put_ne _ _ hji] at hj
      exact rep.fdis b h ⟨j, hj⟩
  · by_cases hj : j = i
    · subst hj
      exact absurd (by rw [get_set, if_pos ⟨rfl, get_lt hi⟩]) (h d')
    · rw [Own.put_ne _ _ hj]
      refine rep.emp j (by rwa [List.length_set] at hjl) fun e he => h e ?_
      rw [get_set, if_neg (fun q => hj q.1.symm)]
      exact he
theorem Stp.upd1 {i : Nat} {a : Addr} {xs ys : List V} {as' : List Addr} (s : Stp H0 A0 H A) (ha : a ∈ A i) (hH : H a = some (.lst xs)) (ho : ∀ b ∈ as', b ∈ A i ∨ (Bd A0 b ∨ H0 b = none)) : Stp H0 A0 (upd H a (.lst ys)) (A.put i as') where
  own := fun b ⟨j, hj⟩ => by
    by_cases hji : j = i
    · rw [hji, Own.put_same] at hj
      rcases ho b hj with q | q
      · exact s.own b ⟨i, q⟩
      · exact q
    · rw [Own.put_ne _ _ hji] at hj
      exact s.own b ⟨j, hj⟩
  keep := fun b o e n => by
    have hb : b ≠ a := fun z => by
      subst z
      rcases s.own b ⟨i, ha⟩ with q | q
      · exact n q
      · rw [e] at q; cases q
    rw [upd_ne hb]
    exact s.keep b o e n
  the := fun b e => by
    by_cases hb : b = a
    · rw [hb, upd_same] at e; cases e
    · rw [upd_ne hb] at e; exact s.the b e
  fr := fun b h => s.fr b h
  fro := fun b h => s.fro b h
/-- the list that a name owns -/
theorem Rep.lst {i : Nat} {ds : List D} (rep : Rep K H S σ ρ A) (h : PV.get ρ i = some (.own (.list ds))) : ∃ a xs bs, σ[i]? = some (some (.ref a)) ∧ H a = some (.lst xs) ∧ DpRs K H xs ds bs ∧ A i = a :: bs ∧ (a :: bs).Nodup := by
  obtain ⟨v, e, ok⟩ := rep.cell i _ h
  obtain ⟨r, nd⟩ := ok
  generalize hA : A i = l at r nd
  cases r with
  | lst h r => exact ⟨_, _, _, e, h, r, rfl, nd⟩
end
section
variable {J : Info} {fs : List Fn} {ca : Nat → Addr} {k : Nat} {N : List Str} {sc : Scope} {W : WX} {X : Cx} {S : List Nat}
theorem DpRs.dropLast {K : PySem.W.Frag} {H : Hp} {v : List V} {d : List D} {as : List Addr} (r : DpRs K H v d as) : ∃ bs, DpRs K H v.dropLast d.dropLast bs ∧ bs.Sublist as := by
  rw [List.dropLast_eq_take, List.dropLast_eq_take, r.length]
  exact r.take _
/-- an item leaves the list of a name -/
theorem pop_ok {K : PySem.W.Frag} {σ : L2.St} {H0 H : Hp} {A0 A : Own} {ρ0 ρ : PV.Env} {vs : List Nat} {Q : VK} {i : Nat} {ds es : List D} {d : D} {a : Addr} {xs ys : List V} {bs cs : List Addr} (r0 : Rep K H0 S σ ρ0 A0) (s0 : Stp H0 A0 H A) (rep : Rep K H S σ ρ A) (nb : noBor ρ = true)
    (hg : PV.get ρ i = some (.own (.list ds))) (hv : σ[i]? = some (some (.ref a))) (hH : H a = some (.lst xs)) (hA : A i = a :: bs) (nd : (a :: bs).Nodup) (r : DpRs K H ys es cs) (hc : cs.Sublist bs) {x : V} {es' : List Addr} (hx : DpR K H x d es') (hi : imm d = true)
    (q : Rn K ca S W σ vs true H0 A0 (.ok ((true, d), ρ.set i (some (.own (.list es))))) Q) : Q x (upd H a (.lst ys)) := by
  have hn : a ∉ cs := fun m => (List.nodup_cons.mp nd).1 (hc.subset m)
  have r' : DpRs K (upd H a (.lst ys)) ys es cs := r.keep (fix_upd hH) fun b hb zs e => by
    rw [upd_ne (show b ≠ a from fun z => hn (by rw [← z]; exact hb))]
    exact e
  have nd' : (a :: cs).Nodup := List.nodup_cons.mpr ⟨hn, (List.nodup_cons.mp nd).2.sublist hc⟩
  have sub : ∀ b ∈ a :: cs, b ∈ A i := fun b hb => by
    rw [hA]
    rcases List.mem_cons.mp hb with e | hb
    · rw [e]; exact List.mem_cons_self
    · exact List.mem_cons_of_mem _ (hc.subset hb)
  have hx' : DpR K (upd H a (.lst ys)) x d es' := hx.keep (fix_upd hH) fun b hb => by rw [hx.imm hi] at hb; simp at hb
  refine q x _ (A.put i (a :: cs)) (rep.upd1 nb hg (by rw [hA]; exact List.mem_cons_self) hH hv (.lst upd_same r') nd' fun b hb => .inl (sub b hb)) (s0.upd1 (by rw [hA]; exact List.mem_cons_self) hH fun b hb => .inl (sub b hb)) (RVal.of_imm hx' hi) fun e => by cases e
theorem s_pop0 {i : Nat} {x : Str} {p1 p2 p3 : Pos} (C : Cxt J fs ca k N sc W X) (hn : nameB N sc i x = true) (hl : lineB p2 p3 = true) : SE ca fs k S W X (.pop0 i) (.Call (.Attribute (.Name x p1) "pop" p2) [] [] p3) := by
  refine (pe_bm0 PySem.F.plainAttrs_list PySem.F.slot_list_pop PySem.F.type_list_pop mt_pop (pe_nm C hn) rfl hl).weaken fun σ H Q ⟨ρ, A, rep, q⟩ => ?_
  rw [rn_rg] at q
  simp only [ev] at q
  obtain ⟨ds, eo, q⟩ := RG.pure (ne_own _ _) q
  obtain ⟨d, el, q⟩ := RG.pure (ne_last _) q
  obtain ⟨hk, q⟩ := RG.ite q
  simp only [Bool.and_eq_true] at hk
  have hg := own_inv eo
  have hd := last_inv el
  obtain ⟨a, xs, bs, hv, hH, r, hA, nd⟩ := rep.lst hg
  obtain ⟨cs, r2, sb⟩ := r.dropLast
  obtain ⟨y, es, hy, ry, _⟩ := r.atD hd
  refine ⟨_, hv, .inl ⟨rfl, xs, SqL.of hH⟩, a, xs, y, rfl, rfl, hH, ?_, pop_ok rep (Stp.refl _ _) rep hk.1 hg hv hH hA nd r2 sb ry hk.2 (rn_rg.mpr q)⟩
  rw [r.length]; exact hy
theorem ixN_seq {n j : Nat} {i : Int} (h : PV.ixN n i = some j) : seqIndex? i n = some j := by
  unfold PV.ixN at h
  unfold seqIndex?
  by_cases h0 : 0 ≤ i
  · rw [if_pos h0] at h
    have h1 : ¬ i < 0 := by omega
    simp only [h1, if_false]
    split at h
    · rename_i h2
      cases h
      simp [h0, h2]
    · cases h
  · rw [if_neg h0] at h
    have h1 : i < 0 := by omega
    simp only [h1, if_true]
    split at h
    · rename_i h2
      cases h
      have h3 : 0 ≤ i + (n : Int) := by omega
      have h4 : i + (n : Int) < n := by omega
      simp [h3, h4]
    · cases h
theorem s_pop1 {i : Nat} {e : E} {x : Str} {y : Expr} {p1 p2 p3 : Pos} (C : Cxt J fs ca k N sc W X) (hn : nameB N sc i x = true) (hl : lineB p2 p3 = true) (py : plainX y = true) (ie : SE ca fs k S W X e y) :
    SE ca fs k S W X (.pop1 i e) (.Call (.Attribute (.Name x p1) "pop" p2) [y] [] p3) := by
  have ny : starEach [y] X.env = (false, eval y X.env) :: starEach [] X.env := star_of py
  have few : ((backTo p3 (starEach [y] X.env)).all (fun x => !x.1) && (backToKw p3 (keywordEach [] X.env)).all (fun x => x.1.isSome) && decide ([y].length + ([] : List Keyword).length + (if ([] : List Keyword).isEmpty then 0 else 1) < 30)) = true := by rw [ny]; rfl
  refine (pe_bm PySem.F.plainAttrs_list PySem.F.slot_list_pop PySem.F.type_list_pop mt_popAt (pe_nm C hn) (pa_cons ie pa_nil ny) rfl few hl ny rfl).weaken fun σ H Q ⟨ρ, A, rep, q⟩ => ?_
  rw [rn_rg] at q
  simp only [ev] at q
  obtain ⟨ds0, eo, q⟩ := RG.pure (ne_own _ _) q
  obtain ⟨a0, xs0, bs0, hv0, hH0, _, _, _⟩ := rep.lst (own_inv eo)
  refine ⟨_, hv0, .inl ⟨rfl, xs0, SqL.of hH0⟩, ?_⟩
  refine tS_first rep (Stp.refl _ _) rep q fun r1 ρ1 v1 H1 A1 r1' s1 rv1 ef1 q => ?_
  dsimp only at q
  obtain ⟨ds, eo1, q⟩ := RG.pure (ne_own _ _) q
  obtain ⟨kk, ek, q⟩ := RG.pure (ne_int _) q
  obtain ⟨j, ej, q⟩ := RG.pure (ne_ix _ _) q
  obtain ⟨d, ed, q⟩ := RG.pure (ne_at _ _) q
  obtain ⟨hk, q⟩ := RG.ite q
  simp only [Bool.and_eq_true] at hk
  have hg := own_inv eo1
  have hj := ix_inv ej
  obtain ⟨j', hj', hd⟩ := at_inv ed
  rw [hj] at hj'
  cases hj'
  obtain ⟨a, xs, bs, hv, hH, r, hA, nd⟩ := r1'.lst hg
  rw [hv0] at hv
  cases hv
  obtain ⟨cs, r2, sb⟩ := r.eraseIdx j
  obtain ⟨y, es, hy, ry, _⟩ := r.atD hd
  obtain ⟨as, dd, _⟩ := rv1.any
  rw [int_inv ek] at dd
  have hk2 := hk.2
  simp only [smallI, decide_eq_true_eq] at hk2
  refine ⟨a0, xs, kk, j, y, rfl, by rw [dd.int_inv], hH, by omega, by omega, by rw [r.length]; exact ixN_seq hj, hy, ?_⟩
  exact pop_ok rep s1 r1' hk.1.1 hg hv0 hH hA nd r2 sb ry hk.1.2 (rn_rg.mpr q)
end
end PV
set_option Elab.async false
set_option linter.all false
set_option maxRecDepth 100000
set_option maxHeartbeats 1000000
/-! PV12: calls of defs. -/
namespace PV
open PySem PySem.Spec PyProof.Rows L2

def ArOk (K : PySem.W.Frag) (H : Hp) (A : Own) (U : List Nat) (σ : L2.St) (v : V) : Ar → Prop
  | .val r => ∃ as, DpR K H v r.2 as ∧ ∀ a ∈ as, ∀ i, i ∉ U → a ∉ A i
  | .ref i => σ[i]? = some (some v)
  | .scr i => σ[i]? = some (some v)
def PRa (K : PySem.W.Frag) (S : List Nat) (σ : L2.St) (ef : Bool) (U : List Nat) (H : Hp) (A : Own) (Q : List V → Hp → Prop) (x : List Ar × PV.Env) : Prop :=
  ∀ vs H' A', Rep K H' S σ x.2 A' → Stp H A H' A' → Paired (ArOk K H' A' U σ) vs x.1 → (ef = false → (A' = A ∧ Same H H') ∧ hasRef x.1 = false) → Q vs H'
def tAr (K : PySem.W.Frag) (ca : Nat → Addr) (cf : CF) (S : List Nat) (W : WX) (es : Es) : TA := fun σ H Q => ∃ ρ A, Rep K H S σ ρ A ∧ RG K ca W σ H A (PRa K S σ (effs es) (valsV es ++ S) H A Q) (eva cf es ρ)
section
variable {K : PySem.W.Frag} {ca : Nat → Addr} {cf : CF} {S : List Nat} {W : WX} {σ : L2.St} {H0 H : Hp} {A0 A : Own} {ρ0 ρ : PV.Env} {α : Type} {P : α → Prop}
theorem tAr_first {a : Es} {f : List Ar × PV.Env → Res α} {Q1 : List V → Hp → Prop} (r0 : Rep K H0 S σ ρ0 A0) (s0 : Stp H0 A0 H A) (rep : Rep K H S σ ρ A) (h : RG K ca W σ H0 A0 P (eva cf a ρ >>= f))
    (hq : ∀ r ρ1 v H1 A1, eva cf a ρ = .ok (r, ρ1) → Rep K H1 S σ ρ1 A1 → Stp H A H1 A1 → Paired (ArOk K H1 A1 (valsV a ++ S) σ) v r → (effs a = false → (A1 = A ∧ Same H H1) ∧ hasRef r = false) → RG K ca W σ H0 A0 P (f (r, ρ1)) → Q1 v H1) : tAr K ca cf S W a σ H Q1 := by
  refine ⟨ρ, A, rep, ?_⟩
  rcases e : eva cf a ρ with ⟨r, ρ1⟩ | ⟨c, k, p⟩ | _
  · rw [e] at h
    exact fun v H1 A1 r1 s1 rv ef1 => hq r ρ1 v H1 A1 e r1 s1 rv ef1 h
  · rw [e] at h
    have h' : ExQ K ca H0 A0 (fun a b H' => W a b σ H') c k p := h
    exact ExQ.before r0 s0 h'
  · rw [e] at h
    exact h
theorem ArOk.imp {H1 : Hp} {A1 : Own} {U U2 : List Nat} {v : V} {a : Ar} (h : ArOk K H1 A1 U σ v a) (g : ∀ i, i ∉ U2 → i ∉ U) : ArOk K H1 A1 U2 σ v a := by
  cases a with
  | val r =>
    obtain ⟨as, h, h2⟩ := h
    exact ⟨as, h, fun a ha i hi => h2 a ha i (g i hi)⟩
  | ref i => exact h
  | scr i => exact h
def notRS : E → Bool
  | .ref _ => false
  | .scr _ => false
  | _ => true
theorem eva_val {e : E} {r : Es} (h : notRS e = true) (ρ : PV.Env) : eva cf (.cons e r) ρ = (do
    let (x, ρ1) ← ev cf e ρ
    let (xs, ρ2) ← eva cf r ρ1
    if keeps x (effs r) then .ok (.val x :: xs, ρ2) else .stuck) := by
  cases e <;> first | rfl | (simp [notRS] at h)
end
section
variable {J : Info} {fs : List Fn} {ca : Nat → Addr} {k : Nat} {N : List Str} {sc : Scope} {W : WX} {X : Cx} {S : List Nat}
theorem aa_nil : PA X [] (tAr X.K ca (runF fs k) S W .nil) := pa_nil.weaken fun σ H Q ⟨ρ, A, rep, q⟩ => q [] H A rep (Stp.refl _ _) .nil fun _ => ⟨⟨rfl, Same.refl _⟩, rfl⟩
theorem aa_val {e : E} {r : Es} {x : Expr} {xs : List Expr} (hn : notRS e = true) (pl : plainX x = true) (ie : SE ca fs k S W X e x) (ir : PA X xs (tAr X.K ca (runF fs k) S W r)) : PA X (x :: xs) (tAr X.K ca (runF fs k) S W (.cons e r)) := by
  refine (pa_cons ie ir (star_of pl)).weaken fun σ H Q ⟨ρ, A, rep, q⟩ => ?_
  rw [eva_val hn] at q
  refine tS_first rep (Stp.refl _ _) rep q fun x ρ1 v1 H1 A1 r1 s1 rv1 ef1 q => ?_
  refine tAr_first rep s1 r1 q fun ys ρ2 vs2 H2 A2 _ r2 s2 rv2 ef2 q => ?_
  dsimp only at q
  obtain ⟨hk, q⟩ := RG.ite q
  have hv : valsV (.cons e r) = vars e ++ valsV r := by cases e <;> first | rfl | (simp [notRS] at hn)
  refine q _ H2 A2 r2 (Stp.trans rep s1 s2) (.cons ?_ (L2.Paired.mapP rv2 fun v a h => h.imp fun i hi => ?_)) fun e => ?_
  · obtain ⟨as, d, d2⟩ := (RVal.later rep s1 r1 s2 (fun e => (ef2 e).1) hk rv1).any
    refine ⟨as, d, fun a ha i hi => d2 a ha i ?_⟩
    rw [hv] at hi
    simp only [List.mem_append] at hi ⊢
    exact fun z => hi (z.imp .inl id)
  · rw [hv] at hi
    simp only [List.mem_append] at hi ⊢
    exact fun z => hi (z.imp .inr id)
  · simp only [effs, Bool.or_eq_false_iff] at e
    obtain ⟨q1, m1⟩ := ef1 e.1
    obtain ⟨⟨q2, m2⟩, h2⟩ := ef2 e.2
    exact ⟨⟨q2.trans q1, m1.trans m2⟩, h2⟩
theorem aa_nm {i : Nat} {a : Ar} {r : Es} {x : Str} {p : Pos} {xs : List Expr} {e : E} (C : Cxt J fs ca k N sc W X) (hn : nameB N sc i x = true) (ir : PA X xs (tAr X.K ca (runF fs k) S W r))
    (he : ∀ ρ, eva (runF fs k) (.cons e r) ρ = if (PV.get ρ i).isSome = true then eva (runF fs k) r ρ >>= fun y => .ok (a :: y.1, y.2) else .stuck) (ha : ∀ H A U σ v, σ[i]? = some (some v) → ArOk X.K H A U σ v a) (hr : hasRef [a] = eff e) (hv : valsV (.cons e r) = valsV r) : PA X (.Name x p :: xs) (tAr X.K ca (runF fs k) S W (.cons e r)) := by
  refine (pa_cons (pe_nm C hn) ir rfl).weaken fun σ H Q ⟨ρ, A, rep, q⟩ => ?_
  rw [he] at q
  obtain ⟨hk, q⟩ := RG.ite q
  obtain ⟨c, hc⟩ := Option.isSome_iff_exists.mp hk
  obtain ⟨v, hv', _⟩ := rep.cell i c hc
  refine ⟨v, hv', ?_⟩
  refine tAr_first rep (Stp.refl _ _) rep q fun ys ρ2 vs2 H2 A2 _ r2 s2 rv2 ef2 q => ?_
  refine q _ H2 A2 r2 s2 (.cons (ha _ _ _ _ _ hv') (by rw [hv]; exact rv2)) fun e => ?_
  simp only [effs, Bool.or_eq_false_iff] at e
  obtain ⟨q2, h2⟩ := ef2 e.2
  refine ⟨q2, ?_⟩
  rw [← hr] at e
  cases a <;> simp_all [hasRef]
theorem aa_ref {i : Nat} {r : Es} {x : Str} {p : Pos} {xs : List Expr} (C : Cxt J fs ca k N sc W X) (hn : nameB N sc i x = true) (ir : PA X xs (tAr X.K ca (runF fs k) S W r)) : PA X (.Name x p :: xs) (tAr X.K ca (runF fs k) S W (.cons (.ref i) r)) :=
  aa_nm (a := .ref i) C hn ir (fun ρ => by simp only [eva]) (fun _ _ _ _ _ h => h) rfl rfl
theorem aa_scr {i : Nat} {r : Es} {x : Str} {p : Pos} {xs : List Expr} (C : Cxt J fs ca k N sc W X) (hn : nameB N sc i x = true) (ir : PA X xs (tAr X.K ca (runF fs k) S W r)) : PA X (.Name x p :: xs) (tAr X.K ca (runF fs k) S W (.cons (.scr i) r)) :=
  aa_nm (a := .scr i) C hn ir (fun ρ => by simp only [eva]) (fun _ _ _ _ _ h => h) rfl rfl
/-! ### the call -/
theorem pd_left {α β : Type} {R : α → β → Prop} : ∀ {xs : List α} {ys : List β} {j : Nat} {x : α}, Paired R xs ys → xs[j]? = some x → ∃ y, ys[j]? = some y ∧ R x y
  | _, _, _, _, .nil, h => by simp at h
  | _, _, 0, _, .cons r _, h => by
    simp at h
    subst h
    exact ⟨_, rfl, r⟩
  | _, _, j + 1, _, .cons _ s, h => by
    obtain ⟨y, h1, h2⟩ := pd_left (j := j) s (by simpa using h)
    exact ⟨y, by simpa using h1, h2⟩
theorem pd_right {α β : Type} {R : α → β → Prop} : ∀ {xs : List α} {ys : List β} {j : Nat} {y : β}, Paired R xs ys → ys[j]? = some y → ∃ x, xs[j]? = some x ∧ R x y
  | _, _, _, _, .nil, h => by simp at h
  | _, _, 0, _, .cons r _, h => by
    simp at h
    subst h
    exact ⟨_, rfl, r⟩
  | _, _, j + 1, _, .cons _ s, h => by
    obtain ⟨y, h1, h2⟩ := pd_right (j := j) s (by simpa using h)
    exact ⟨y, by simpa using h1, h2⟩
theorem pd_len {α β : Type} {R : α → β → Prop} : ∀ {xs : List α} {ys : List β}, Paired R xs ys → xs.length = ys.length
  | _, _, .nil => rfl
  | _, _, .cons _ s => by simp [pd_len s]
def CellAr (ρ : PV.Env) : Ar → Cell → Prop
  | .val r, c => c = if imm r.2 then .own r.2 else .fz r.2
  | .ref i, c => ∃ d, PV.get ρ i = some (.own d) ∧ c = .own d
  | .scr i, c => ∃ l, PV.get ρ i = some (.scr l) ∧ c = .scr l
theorem arCells_ok {ρ : PV.Env} : ∀ {ars : List Ar} {cs : List Cell}, arCells ρ ars = some cs → Paired (CellAr ρ) ars cs
  | [], _, h => by simp only [arCells] at h; cases h; exact .nil
  | .val r :: as, _, h => by
    simp only [arCells] at h
    split at h
    · rename_i e; cases h; exact .cons rfl (arCells_ok e)
    · cases h
  | .ref i :: as, _, h => by
    simp only [arCells] at h
    split at h
    · rename_i e1 e; cases h; exact .cons ⟨_, e1, rfl⟩ (arCells_ok e)
    · cases h
  | .scr i :: as, _, h => by
    simp only [arCells] at h
    split at h
    · rename_i e1 e; cases h; exact .cons ⟨_, e1, rfl⟩ (arCells_ok e)
    · cases h
theorem refs_of {ars : List Ar} {i : Nat} : i ∈ arRefs ars ↔ ∃ j : Nat, ars[j]? = some (.ref i) := by
  induction ars with
  | nil => simp [arRefs]
  | cons a as ih =>
    constructor
    · intro h
      cases a with
      | ref i' =>
        rcases List.mem_cons.mp h with e | h
        · exact ⟨0, by simp [e]⟩
        · obtain ⟨j, e⟩ := ih.mp h
          exact ⟨j + 1, by simpa using e⟩
      | val r =>
        obtain ⟨j, e⟩ := ih.mp h
        exact ⟨j + 1, by simpa using e⟩
      | scr r =>
        obtain ⟨j, e⟩ := ih.mp h
        exact ⟨j + 1, by simpa using e⟩
    · rintro ⟨j, e⟩
      cases j with
      | zero =>
        simp at e
        subst e
        exact List.mem_cons_self
      | succ j =>
        have := ih.mpr ⟨j, by simpa using e⟩
        cases a <;> first | exact this | exact List.mem_cons_of_mem _ this
theorem arBack_ok : ∀ {ars : List Ar} {outs : List (Option Cell)} {ρ ρ2 : PV.Env}, arBack ρ ars outs = some ρ2 → (arRefs ars).Nodup → (∀ i, i ∉ arRefs ars → PV.get ρ2 i = PV.get ρ i) ∧
    ∀ (j i : Nat), ars[j]? = some (.ref i) → ∃ d, outs[j]? = some (some (.own d)) ∧ (i < ρ.length → PV.get ρ2 i = some (.own d)) ∧ ∀ c, PV.get ρ2 i = some c → c = .own d
  | [], _, ρ, ρ2, h, _ => by
    simp only [arBack] at h
    cases h
    exact ⟨fun _ _ => rfl, fun j i e => by simp at e⟩
  | .val r :: as, [], _, _, h, _ => by simp [arBack] at h
  | .scr r :: as, [], _, _, h, _ => by simp [arBack] at h
  | .ref r :: as, [], _, _, h, _ => by simp [arBack] at h
  | .val r :: as, c :: cs, ρ, ρ2, h, nd => by
    simp only [arBack] at h
    obtain ⟨h1, h2⟩ := arBack_ok h nd
    refine ⟨h1, fun j i e => ?_⟩
    cases j with
    | zero => simp at e
    | succ j => exact h2 j i (by simpa using e)
  | .scr r :: as, c :: cs, ρ, ρ2, h, nd => by
    simp only [arBack] at h
    obtain ⟨h1, h2⟩ := arBack_ok h nd
    refine ⟨h1, fun j i e => ?_⟩
    cases j with
    | zero => simp at e
    | succ j => exact h2 j i (by simpa using e)
  | .ref i0 :: as, c :: cs, ρ, ρ2, h, nd => by
    have nd' : i0 ∉ arRefs as ∧ (arRefs as).Nodup := List.nodup_cons.mp nd
    cases c with
    | none => simp [arBack] at h
    | some c =>
      cases c with
      | own d =>
        simp only [arBack] at h
        obtain ⟨h1, h2⟩ := arBack_ok h nd'.2
        refine ⟨fun i hi => ?_, fun j i e => ?_⟩
        · have hi' : i ≠ i0 ∧ i ∉ arRefs as := by simpa [arRefs] using hi
          rw [h1 i hi'.2, get_set, if_neg (fun q => hi'.1 q.1.symm)]
        · cases j with
          | zero =>
            simp at e
            subst e
            refine ⟨d, rfl, fun hl => by rw [h1 _ nd'.1, get_set, if_pos ⟨rfl, hl⟩], fun c hc => ?_⟩
            rw [h1 _ nd'.1, get_set] at hc
            by_cases hl : i0 < ρ.length
            · rw [if_pos ⟨rfl, hl⟩] at hc
              cases hc
              rfl
            · rw [if_neg (fun q => hl q.2)] at hc
              exact absurd (get_lt hc) hl
          | succ j =>
            obtain ⟨d', q1, q2, q3⟩ := h2 j i (by simpa using e)
            exact ⟨d', q1, fun hl => q2 (by rw [List.length_set]; exact hl), q3⟩
      | _ => simp [arBack] at h
theorem arBack_len : ∀ {ars : List Ar} {outs : List (Option Cell)} {ρ ρ2 : PV.Env}, arBack ρ ars outs = some ρ2 → ρ2.length = ρ.length
  | [], _, ρ, ρ2, h => by simp only [arBack] at h; cases h; rfl
  | .val r :: as, [], _, _, h => by simp [arBack] at h
  | .scr r :: as, [], _, _, h => by simp [arBack] at h
  | .ref r :: as, [], _, _, h => by simp [arBack] at h
  | .val r :: as, c :: cs, ρ, ρ2, h => arBack_len (ars := as) (outs := cs) h
  | .scr r :: as, c :: cs, ρ, ρ2, h => arBack_len (ars := as) (outs := cs) h
  | .ref i0 :: as, c :: cs, ρ, ρ2, h => by
    cases c with
    | none => simp [arBack] at h
    | some c =>
      cases c with
      | own d =>
        simp only [arBack] at h
        rw [arBack_len h, List.length_set]
      | _ => simp [arBack] at h
theorem noRef {ars : List Ar} (h : hasRef ars = false) : arRefs ars = [] := by
  induction ars with
  | nil => rfl
  | cons a as ih => cases a <;> first | exact ih h | (simp [hasRef] at h)
/-- what the values of the arguments hold -/
theorem val_nodes {K : PySem.W.Frag} {H : Hp} {A : Own} {U : List Nat} {σ : L2.St} : ∀ {vs : List V} {ars : List Ar}, Paired (ArOk K H A U σ) vs ars → ∃ F : List Addr, (∀ (j : Nat) v r, vs[j]? = some v → ars[j]? = some (.val r) → ∃ as, DpR K H v r.2 as ∧ ∀ a ∈ as, a ∈ F) ∧ (∀ a ∈ F, ∃ xs, H a = some (.lst xs)) ∧ ((arVals ars).all imm = true → F = []) ∧ ∀ a ∈ F, ∀ i, i ∉ U → a ∉ A i
  | _, _, .nil => ⟨[], fun j v r h => by simp at h, fun _ h => by simp at h, fun _ => rfl, fun _ h => by simp at h⟩
  | _, _, .cons (a := v) (b := a) h0 s => by
    obtain ⟨F, h1, h2, h3, h4⟩ := val_nodes s
    cases a with
    | val r =>
      obtain ⟨as, dp, dq⟩ := h0
      refine ⟨as ++ F, fun j v' r' e1 e2 => ?_, fun b hb => (List.mem_append.mp hb).elim (dp.trk b) (h2 b), fun e => ?_, fun b hb => (List.mem_append.mp hb).elim (dq b) (h4 b)⟩
      · cases j with
        | zero =>
          simp at e1 e2
          subst e1 e2
          exact ⟨as, dp, fun a ha => List.mem_append_left _ ha⟩
        | succ j =>
          obtain ⟨bs, q1, q2⟩ := h1 j v' r' (by simpa using e1) (by simpa using e2)
          exact ⟨bs, q1, fun a ha => List.mem_append_right _ (q2 a ha)⟩
      · simp only [arVals, List.all_cons, Bool.and_eq_true] at e
        rw [dp.imm e.1, h3 e.2]
        rfl
    | _ =>
      refine ⟨F, fun j v' r' e1 e2 => ?_, h2, h3, h4⟩
      cases j with
      | zero => simp at e2
      | succ j => exact h1 j v' r' (by simpa using e1) (by simpa using e2)
end
end PV
set_option Elab.async false
set_option linter.all false
set_option maxRecDepth 100000
set_option maxHeartbeats 1000000
/-! PV13: the call of a def. -/
namespace PV
open PySem PySem.Spec PyProof.Rows L2
section
variable {J : Info} {fs : List Fn} {ca : Nat → Addr} {k : Nat} {N : List Str} {sc : Scope} {W : WX} {X : Cx} {S : List Nat}
/-- what the def's names own at its begin -/
noncomputable def argOwn (A : Own) (ars : List Ar) (F : List Addr) : Own := ⟨fun j => match ars[j]? with
  | some (.ref i) => A i
  | _ => [], F⟩
open Classical in
/-- .. and what the caller's names own behind it -/
noncomputable def backOwn (A : Own) (ars : List Ar) (A' : Own) : Own := ⟨fun i => if h : ∃ j : Nat, ars[j]? = some (.ref i) then A' h.choose else A i, A.fr⟩
theorem argOwn_mem {A : Own} {ars : List Ar} {F : List Addr} {j : Nat} {a : Addr} (h : a ∈ (argOwn A ars F) j) : ∃ i, ars[j]? = some (.ref i) ∧ a ∈ A i := by
  unfold argOwn at h
  dsimp only at h
  split at h
  · rename_i i e; exact ⟨i, e, h⟩
  · simp at h
theorem argOwn_out {A : Own} {ars : List Ar} {F : List Addr} {j : Nat} (h : ars.length ≤ j) : (argOwn A ars F) j = [] := by
  unfold argOwn
  dsimp only
  rw [List.getElem?_eq_none h]
theorem argOwn_ref {A : Own} {ars : List Ar} {F : List Addr} {j i : Nat} (h : ars[j]? = some (.ref i)) : (argOwn A ars F) j = A i := by
  unfold argOwn
  dsimp only
  rw [h]
theorem backOwn_mem {A A' : Own} {ars : List Ar} {i : Nat} {a : Addr} (h : a ∈ (backOwn A ars A') i) : (∃ j : Nat, ars[j]? = some (.ref i) ∧ a ∈ A' j) ∨ ((¬ ∃ j : Nat, ars[j]? = some (.ref i)) ∧ a ∈ A i) := by
  unfold backOwn at h
  dsimp only at h
  split at h
  · rename_i q; exact .inl ⟨_, q.choose_spec, h⟩
  · rename_i q; exact .inr ⟨q, h⟩
theorem backOwn_ref {A A' : Own} {ars : List Ar} {i : Nat} (h : ∃ j : Nat, ars[j]? = some (.ref i)) : ∃ j : Nat, ars[j]? = some (.ref i) ∧ (backOwn A ars A') i = A' j := by
  refine ⟨h.choose, h.choose_spec, ?_⟩
  unfold backOwn
  dsimp only
  rw [dif_pos h]
theorem backOwn_not {A A' : Own} {ars : List Ar} {i : Nat} (h : ¬ ∃ j : Nat, ars[j]? = some (.ref i)) : (backOwn A ars A') i = A i := by
  unfold backOwn
  dsimp only
  rw [dif_neg h]
theorem ref_one {ars : List Ar} (nd : (arRefs ars).Nodup) : ∀ {j l i : Nat}, ars[j]? = some (.ref i) → ars[l]? = some (.ref i) → j = l := by
  induction ars with
  | nil => intro j l i h; simp at h
  | cons a as ih =>
    intro j l i h1 h2
    have tail : (arRefs as).Nodup := by cases a <;> first | exact nd | exact (List.nodup_cons.mp nd).2
    cases j with
    | zero =>
      simp at h1
      subst h1
      cases l with
      | zero => rfl
      | succ l => exact absurd (refs_of.mpr ⟨l, by simpa using h2⟩) (List.nodup_cons.mp nd).1
    | succ j =>
      cases l with
      | zero =>
        simp at h2
        subst h2
        exact absurd (refs_of.mpr ⟨j, by simpa using h1⟩) (List.nodup_cons.mp nd).1
      | succ l => exact congrArg (· + 1) (ih tail (j := j) (l := l) (i := i) (by simpa using h1) (by simpa using h2))
section
variable {K : PySem.W.Frag} {H H' : Hp} {σ : L2.St} {ρ : PV.Env} {A : Own} {vs : List V} {ars : List Ar} {cs : List Cell} {F : List Addr}
theorem get_map {cs : List Cell} {j : Nat} {c : Cell} (h : PV.get (cs.map some) j = some c) : cs[j]? = some c := by
  have q := get_of h
  rw [List.getElem?_map] at q
  cases e : cs[j]? with
  | none => rw [e] at q; cases q
  | some c' => rw [e] at q; cases q; rfl
/-- the def's state at its begin -/
theorem rep_args {U : List Nat} (rep : Rep K H S σ ρ A) (pa : Paired (ArOk K H A U σ) vs ars) (pc : Paired (CellAr ρ) ars cs) (f1 : ∀ (j : Nat) v r, vs[j]? = some v → ars[j]? = some (.val r) → ∃ as, DpR K H v r.2 as ∧ ∀ a ∈ as, a ∈ F) (f2 : ∀ a ∈ F, ∃ xs, H a = some (.lst xs)) (nd : (arRefs ars).Nodup)
    (f3 : ∀ a ∈ F, ∀ j i : Nat, ars[j]? = some (.ref i) → a ∉ A i) : Rep K H [] (vs.map some) (cs.map some) (argOwn A ars F) := by
  refine ⟨fun j c h => ?_, fun i j a h1 h2 => ?_, fun j a h => ?_, fun a h => ?_, fun a h => f2 a h, fun j _ h => ?_, by rw [List.length_map, List.length_map, pd_len pa, pd_len pc]; exact Nat.le_refl _⟩
  · have hc := get_map h
    obtain ⟨a, ha, ok⟩ := pd_right pc hc
    obtain ⟨v, hv, av⟩ := pd_right pa ha
    refine ⟨v, by rw [List.getElem?_map, hv]; rfl, ?_⟩
    cases a with
    | val r =>
      obtain ⟨as, d1, d2⟩ := f1 j v r hv ha
      have e : (argOwn A ars F) j = [] := by unfold argOwn; dsimp only; rw [ha]
      have okc : c = if imm r.2 = true then .own r.2 else .fz r.2 := ok
      subst okc
      by_cases hi : imm r.2 = true
      · rw [if_pos hi]
        show DpR K H v r.2 ((argOwn A ars F) j) ∧ _
        rw [e]
        have := d1.imm hi
        subst this
        exact ⟨d1, .nil⟩
      · rw [if_neg hi]
        exact ⟨as, d1, d2⟩
    | ref i =>
      obtain ⟨d, h1, h2⟩ := ok
      subst h2
      obtain ⟨u, e1, ok1⟩ := rep.cell i _ h1
      have av' : σ[i]? = some (some v) := av
      rw [e1] at av'
      cases av'
      show DpR K H v d ((argOwn A ars F) j) ∧ ((argOwn A ars F) j).Nodup
      rw [argOwn_ref ha]
      exact ok1
    | scr i =>
      obtain ⟨l, h1, h2⟩ := ok
      subst h2
      obtain ⟨u, e1, ok1⟩ := rep.cell i _ h1
      have av' : σ[i]? = some (some v) := av
      rw [e1] at av'
      cases av'
      exact ok1
  · obtain ⟨i', e1, m1⟩ := argOwn_mem h1
    obtain ⟨j', e2, m2⟩ := argOwn_mem h2
    have := rep.disj i' j' a m1 m2
    subst this
    exact ref_one nd e1 e2
  · obtain ⟨i, e, m⟩ := argOwn_mem h
    exact rep.trk i a m
  · rintro ⟨j, hj⟩
    obtain ⟨i, e, m⟩ := argOwn_mem hj
    exact f3 a h j i e m
  · cases e : ars[j]? with
    | none => unfold argOwn; dsimp only; rw [e]
    | some x =>
      cases x with
      | ref i =>
        obtain ⟨c, hc, ok⟩ := pd_left pc e
        obtain ⟨d, h1, h2⟩ := ok
        subst h2
        refine absurd ?_ (h d)
        unfold PV.get
        rw [List.getElem?_map, hc]
        rfl
      | _ => unfold argOwn; dsimp only; rw [e]
theorem bd_arg {a : Addr} (h : Bd (argOwn A ars F) a) : Bd A a := by
  obtain ⟨j, hj⟩ := h
  obtain ⟨i, _, m⟩ := argOwn_mem hj
  exact ⟨i, m⟩
/-- the caller's state behind it -/
theorem rep_back {U : List Nat} {σ' : L2.St} {outs : List (Option Cell)} {A' : Own} {ρ2 : PV.Env} {io : List Nat} (rep : Rep K H S σ ρ A) (nb : noBor ρ = true) (pa : Paired (ArOk K H A U σ) vs ars) (nd : (arRefs ars).Nodup) (r' : Rep K H' [] σ' outs A')
    (hio : ∀ j ∈ io, ∀ x, vs[j]? = some x → σ'[j]? = some (some x)) (hin : ∀ j i : Nat, ars[j]? = some (.ref i) → j ∈ io) (s : Stp0 H (argOwn A ars F) H' A') (hb : arBack ρ ars outs = some ρ2) (pc : Paired (CellAr ρ) ars cs) : Rep K H' S σ ρ2 (backOwn A ars A') ∧ Stp H A H' (backOwn A ars A') := by
  obtain ⟨b1, b2⟩ := arBack_ok hb nd
  have notb : ∀ {i : Nat} {a : Addr}, (¬ ∃ j : Nat, ars[j]? = some (.ref i)) → a ∈ A i → ¬ Bd (argOwn A ars F) a := fun hn ha ⟨j, hj⟩ => by
    obtain ⟨i', e, m⟩ := argOwn_mem hj
    have := rep.disj _ _ _ ha m
    subst this
    exact hn ⟨j, e⟩
  have notf : ∀ {a : Addr}, a ∈ A.fr → ¬ Bd (argOwn A ars F) a := fun ha q => rep.fdis _ ha (bd_arg q)
  have fx : Fix H H' := by
    refine ⟨fun a xs h => s.keep a _ h fun ⟨j, hj⟩ => ?_, fun a o u h => s.keep a _ h fun ⟨j, hj⟩ => ?_⟩
    · obtain ⟨i, e, m⟩ := argOwn_mem hj
      obtain ⟨ys, q⟩ := rep.trk i a m
      rw [h] at q
      cases q
    · obtain ⟨i, e, m⟩ := argOwn_mem hj
      obtain ⟨ys, q⟩ := rep.trk i a m
      rw [h] at q
      cases q
  -- what the def owns now is not of another name
  have cross : ∀ {i j : Nat} {a : Addr}, (¬ ∃ j : Nat, ars[j]? = some (.ref i)) → a ∈ A i → a ∈ A' j → False := fun hn ha hj => by
    rcases s.own _ ⟨_, hj⟩ with q | q
    · exact notb hn ha q
    · obtain ⟨ys, e⟩ := rep.trk _ _ ha
      rw [q] at e; cases e
  refine ⟨⟨fun i c h => ?_, fun i l a h1 h2 => ?_, fun i a h => ?_, fun a h => ?_, fun a h => ?_, fun i hil h => ?_, by rw [arBack_len hb]; exact rep.len⟩, ⟨fun a ⟨i, hi⟩ => ?_, fun a o h n => s.keep a o h fun q => n (bd_arg q), s.the, fun a h => h, fun a h => .inl h⟩⟩
  · by_cases hr : ∃ j : Nat, ars[j]? = some (.ref i)
    · obtain ⟨j, e, eA⟩ := backOwn_ref (A := A) (A' := A') hr
      obtain ⟨d, h1, _, h2⟩ := b2 j i e
      have := h2 c h
      subst this
      obtain ⟨v, hv, av⟩ := pd_right pa e
      have av' : σ[i]? = some (some v) := av
      have gj : PV.get outs j = some (.own d) := by unfold PV.get; rw [h1]
      obtain ⟨u, e1, ok⟩ := r'.cell j _ gj
      rw [hio j (hin j i e) v hv] at e1
      cases e1
      refine ⟨v, av', ?_⟩
      show DpR K H' v d ((backOwn A ars A') i) ∧ _
      rw [eA]
      exact ok
    · rw [b1 i (fun q => hr (refs_of.mp q))] at h
      obtain ⟨v, e1, ok⟩ := rep.cell i c h
      refine ⟨v, e1, ?_⟩
      cases c with
      | own d =>
        show DpR K H' v d ((backOwn A ars A') i) ∧ _
        rw [backOwn_not hr]
        exact ⟨ok.1.keep fx fun a ha xs q => s.keep a _ q (notb hr ha), ok.2⟩
      | fz d =>
        obtain ⟨as, k1, k2⟩ := ok
        exact ⟨as, k1.keep fx fun a ha xs q => s.keep a _ q (notf (k2 a ha)), k2⟩
      | bor d => exact absurd (noBor_get nb h) (fun z => Bool.noConfusion z)
      | scr l =>
        obtain ⟨a, k1, k2⟩ := ok
        exact ⟨a, k1, fx.extL k2⟩
  · rcases backOwn_mem h1 with ⟨j, e1, m1⟩ | ⟨n1, m1⟩
    · rcases backOwn_mem h2 with ⟨j2, e2, m2⟩ | ⟨n2, m2⟩
      · have := r'.disj j j2 a m1 m2
        subst this
        rw [e1] at e2
        cases e2
        rfl
      · exact (cross n2 m2 m1).elim
    · rcases backOwn_mem h2 with ⟨j2, e2, m2⟩ | ⟨n2, m2⟩
      · exact (cross n1 m1 m2).elim
      · exact rep.disj i l a m1 m2
  · rcases backOwn_mem h with ⟨j, e1, m1⟩ | ⟨n1, m1⟩
    · exact r'.trk j a m1
    · obtain ⟨xs, q⟩ := rep.trk i a m1
      exact ⟨xs, s.keep a _ q (notb n1 m1)⟩
  · rintro ⟨i, hi⟩
    rcases backOwn_mem hi with ⟨j, e1, m1⟩ | ⟨n1, m1⟩
    · rcases s.own _ ⟨_, m1⟩ with q | q
      · exact notf h q
      · obtain ⟨ys, e⟩ := rep.ftrk a h
        rw [q] at e; cases e
    · exact rep.fdis a h ⟨i, m1⟩
  · obtain ⟨xs, q⟩ := rep.ftrk a h
    exact ⟨xs, s.keep a _ q (notf h)⟩
  · by_cases hr : ∃ j : Nat, ars[j]? = some (.ref i)
    · obtain ⟨j, e⟩ := hr
      obtain ⟨d, _, h2, _⟩ := b2 j i e
      obtain ⟨c, _, ok⟩ := pd_left pc e
      obtain ⟨d', g, _⟩ := ok
      exact absurd (h2 (get_lt g)) (h d)
    · rw [backOwn_not hr]
      refine rep.emp i (by rwa [arBack_len hb] at hil) fun d hd => h d ?_
      rw [b1 i (fun q => hr (refs_of.mp q))]
      exact hd
  · rcases backOwn_mem hi with ⟨j, e1, m1⟩ | ⟨n1, m1⟩
    · exact (s.own _ ⟨_, m1⟩).imp bd_arg id
    · exact .inl ⟨i, m1⟩
theorem back_same : ∀ {ars : List Ar} {outs : List (Option Cell)} {ρ ρ2 : PV.Env}, arBack ρ ars outs = some ρ2 → arRefs ars = [] → ρ2 = ρ
  | [], _, ρ, ρ2, h, _ => by simp only [arBack] at h; cases h; rfl
  | .val r :: as, [], _, _, h, _ => by simp [arBack] at h
  | .scr r :: as, [], _, _, h, _ => by simp [arBack] at h
  | .ref r :: as, _, _, _, h, e => by simp [arRefs] at e
  | .val r :: as, c :: cs, ρ, ρ2, h, e => back_same (ars := as) (outs := cs) h e
  | .scr r :: as, c :: cs, ρ, ρ2, h, e => back_same (ars := as) (outs := cs) h e
end
theorem eva_refs {cf : CF} : ∀ {es : Es} {ρ ρ1 : PV.Env} {ars : List Ar} {io : List Nat} {n : Nat}, eva cf es ρ = .ok (ars, ρ1) → refsB io n es = true → ∀ j i : Nat, ars[j]? = some (.ref i) → n + j ∈ io
  | .nil, ρ, ρ1, ars, io, n, h, hb, j, i, e => by
    simp only [eva] at h
    cases h
    simp at e
  | .cons x r, ρ, ρ1, ars, io, n, h, hb, j, i, e => by
    have rest : ∀ ρ' ρ2 ys, eva cf r ρ' = .ok (ys, ρ2) → refsB io (n + 1) r = true → ∀ j i : Nat, ys[j]? = some (.ref i) → n + (j + 1) ∈ io := fun ρ' ρ2 ys q b j i e => by
      have := eva_refs q b j i e
      rwa [show n + 1 + j = n + (j + 1) by omega] at this
    by_cases hn : notRS x = true
    · rw [eva_val hn] at h
      have hb' : refsB io (n + 1) r = true := by cases x <;> first | exact hb | (simp [notRS] at hn)
      rcases e1 : ev cf x ρ with ⟨r1, ρ'⟩ | _ | _ <;> rw [e1] at h <;> try (cases h; done)
      simp only [bind_ok] at h
      rcases e2 : eva cf r ρ' with ⟨ys, ρ2⟩ | _ | _ <;> rw [e2] at h <;> try (cases h; done)
      simp only [bind_ok] at h
      split at h
      · cases h
        cases j with
        | zero => simp at e
        | succ j => exact rest _ _ _ e2 hb' j i (by simpa using e)
      · cases h
    · cases x <;> try (exact absurd rfl hn)
      · rename_i i0
        simp only [eva] at h
        split at h
        · rcases e2 : eva cf r ρ with ⟨ys, ρ2⟩ | _ | _ <;> rw [e2] at h <;> try (cases h; done)
          simp only [bind_ok] at h
          cases h
          simp only [refsB, Bool.and_eq_true] at hb
          cases j with
          | zero => exact List.contains_iff_mem.mp hb.1
          | succ j => exact rest _ _ _ e2 hb.2 j i (by simpa using e)
        · cases h
      · rename_i i0
        simp only [eva] at h
        split at h
        · rcases e2 : eva cf r ρ with ⟨ys, ρ2⟩ | _ | _ <;> rw [e2] at h <;> try (cases h; done)
          simp only [bind_ok] at h
          cases h
          have hb' : refsB io (n + 1) r = true := hb
          cases j with
          | zero => simp at e
          | succ j => exact rest _ _ _ e2 hb' j i (by simpa using e)
        · cases h
theorem eva_refE {cf : CF} : ∀ {es : Es} {ρ ρ1 : PV.Env} {ars : List Ar}, eva cf es ρ = .ok (ars, ρ1) → ∀ j i : Nat, ars[j]? = some (.ref i) → i ∈ refsE es
  | .nil, ρ, ρ1, ars, h, j, i, e => by
    simp only [eva] at h
    cases h
    simp at e
  | .cons x r, ρ, ρ1, ars, h, j, i, e => by
    by_cases hn : notRS x = true
    · rw [eva_val hn] at h
      have hv : refsE (.cons x r) = refsE r := by cases x <;> first | rfl | (simp [notRS] at hn)
      rcases e1 : ev cf x ρ with ⟨r1, ρ'⟩ | _ | _ <;> rw [e1] at h <;> try (cases h; done)
      simp only [bind_ok] at h
      rcases e2 : eva cf r ρ' with ⟨ys, ρ2⟩ | _ | _ <;> rw [e2] at h <;> try (cases h; done)
      simp only [bind_ok] at h
      split at h
      · cases h
        rw [hv]
        cases j with
        | zero => simp at e
        | succ j => exact eva_refE e2 j i (by simpa using e)
      · cases h
    · cases x <;> try (exact absurd rfl hn)
      · rename_i i0
        simp only [eva] at h
        split at h
        · rcases e2 : eva cf r ρ with ⟨ys, ρ2⟩ | _ | _ <;> rw [e2] at h <;> try (cases h; done)
          simp only [bind_ok] at h
          cases h
          cases j with
          | zero =>
            simp at e
            subst e
            exact List.mem_cons_self
          | succ j => exact List.mem_cons_of_mem _ (eva_refE e2 j i (by simpa using e))
        · cases h
      · rename_i i0
        simp only [eva] at h
        split at h
        · rcases e2 : eva cf r ρ with ⟨ys, ρ2⟩ | _ | _ <;> rw [e2] at h <;> try (cases h; done)
          simp only [bind_ok] at h
          cases h
          cases j with
          | zero => simp at e
          | succ j => exact eva_refE e2 j i (by simpa using e)
        · cases h
theorem io_of {io : List Nat} {j i : Nat} {ars : List Ar} (h : ∀ j i : Nat, ars[j]? = some (.ref i) → 0 + j ∈ io) (e : ars[j]? = some (.ref i)) : j ∈ io := by
  have := h j i e
  rwa [Nat.zero_add] at this
theorem w_call {f : Nat} {as : Es} {σ : L2.St} {H : Hp} {Q : VK} (hS : effs as = true → S = []) (ef : refsB (J.io f) 0 as = true) (h : tS X.K ca (runF fs k) S W (.call f as) σ H Q) : tCallS (spF J fs ca X.K k f) (WE W) (tAr X.K ca (runF fs k) S W as) σ H Q := by
  obtain ⟨ρ, A, rep, q⟩ := h
  rw [rn_rg] at q
  simp only [ev] at q
  refine tAr_first rep (Stp.refl _ _) rep q fun ars ρ1 vs H1 A1 ee r1 s1 rv1 ef1 q => ?_
  dsimp only at q
  unfold callA at q
  split at q
  · exact q.elim
  rename_i hc
  split at q
  · exact q.elim
  rename_i cs hcs
  have pc := arCells_ok hcs
  obtain ⟨F, f1, f2, f3, f4⟩ := val_nodes rv1
  have hl : vs.length = cs.length := (pd_len rv1).trans (pd_len pc)
  have hnb : noBor (cs.map some) = true := by
    apply List.all_eq_true.mpr
    intro x hx
    obtain ⟨c, hc', e⟩ := List.mem_map.mp hx
    subst e
    obtain ⟨j, hj⟩ := List.mem_iff_getElem?.mp hc'
    obtain ⟨a, _, ok⟩ := pd_right pc hj
    show Cell.noBor c = true
    cases a with
    | val r =>
      have okc : c = if imm r.2 = true then .own r.2 else .fz r.2 := ok
      rw [okc]
      split <;> rfl
    | ref i => obtain ⟨d, _, e⟩ := ok; rw [e]; rfl
    | scr i => obtain ⟨d, _, e⟩ := ok; rw [e]; rfl
  have io := fun j i e => io_of (eva_refs ee ef) (j := j) (i := i) e
  by_cases hr : hasRef ars = true
  · -- names are handed over
    have hc' : noBor ρ1 = true ∧ ((arVals ars).all imm = true ∨ sepE as = true) ∧ (arRefs ars).Nodup := by
      simp only [hr, Bool.true_and, Bool.not_eq_true', Bool.not_eq_false, Bool.and_eq_true, Bool.or_eq_true, decide_eq_true_eq] at hc
      exact ⟨hc.1.1, hc.1.2, hc.2⟩
    obtain ⟨c1, c2, c3⟩ := hc'
    have hF : ∀ a ∈ F, ∀ j i : Nat, ars[j]? = some (.ref i) → a ∉ A1 i := by
      intro a ha j i e
      rcases c2 with c2 | c2
      · rw [f3 c2] at ha; simp at ha
      · have sS : S = [] := hS (by
          cases e : effs as with
          | true => rfl
          | false => have := (ef1 e).2; rw [hr] at this; cases this)
        refine f4 a ha i fun z => ?_
        rw [sS, List.append_nil] at z
        have := List.all_eq_true.mp c2 i (eva_refE ee j i e)
        simp only [Bool.not_eq_true'] at this
        rw [List.contains_iff_mem.mpr z] at this
        cases this
    refine ⟨cs, argOwn A1 ars F, rep_args r1 rv1 pc f1 f2 c3 hF, hl, hnb, fun i hi => argOwn_out (by rw [pd_len pc]; exact hi), ?_⟩
    rcases e : runF fs k f cs with ⟨r, outs⟩ | ⟨c, kk, p⟩ | _
    · rw [e] at q
      intro v H' σ' A' r' hio s' hv
      simp only [bind_ok] at q
      split at q
      · rename_i ρ2 hb
        obtain ⟨r2, s2⟩ := rep_back r1 c1 rv1 c3 r' hio io s' hb pc
        obtain ⟨as, d1, d2, d3, d4⟩ := hv
        have old : ∀ a ∈ as, Bd A1 a ∨ H1 a = none := fun a ha => (d4 a ha).imp bd_arg id
        refine q v H' _ r2 (Stp.trans rep s1 s2) ?_ fun e => ?_
        · have out : ∀ a ∈ as, ¬ Bd (backOwn A1 ars A') a ∧ a ∉ (backOwn A1 ars A').fr := by
            refine fun a ha => ⟨fun ⟨i, hi⟩ => ?_, fun hi => ?_⟩
            · rcases backOwn_mem hi with ⟨j, e1, m1⟩ | ⟨n1, m1⟩
              · exact (d3 a ha).1 ⟨j, m1⟩
              · rcases d4 a ha with z | z
                · obtain ⟨j, hj⟩ := z
                  obtain ⟨i', e', m⟩ := argOwn_mem hj
                  have := r1.disj _ _ _ m1 m
                  subst this
                  exact n1 ⟨j, e'⟩
                · obtain ⟨ys, e⟩ := r1.trk _ _ m1
                  rw [z] at e; cases e
            · have hi' : a ∈ A1.fr := hi
              rcases d4 a ha with z | z
              · exact r1.fdis a hi' (bd_arg z)
              · obtain ⟨ys, e⟩ := r1.ftrk _ hi'
                rw [z] at e; cases e
          cases hr1 : r.1 with
          | true => exact .inl ⟨hr1, as, d1, d2, out, fun a ha => (old a ha).elim (s1.own a) fun z => .inr (s1.there rep z)⟩
          | false => exact .inr ⟨hr1, as, d1, fun a ha i _ hi => (out a ha).1 ⟨i, hi⟩⟩
        · have := (ef1 e).2
          rw [hr] at this
          cases this
      · exact q.elim
    · rw [e] at q
      have q' : ExQ X.K ca H A (fun a b H' => W a b σ H') c kk p := q
      have q2 := ExQ.before rep s1 q'
      exact fun d H' cv pv h1 h0 h2 h3 h4 h5 => q2 d H' cv pv (fun a o e n => h1 a o e fun b => n (bd_arg b)) h0 h2 h3 h4 h5
    · rw [e] at q
      exact q.elim
  · have hr' : hasRef ars = false := by simpa using hr
    have no := noRef hr'
    refine ⟨cs, argOwn A1 ars F, rep_args r1 rv1 pc f1 f2 (by rw [no]; exact .nil) (fun a _ j i e => by have := refs_of.mpr ⟨j, e⟩; rw [no] at this; simp at this), hl, hnb, fun i hi => argOwn_out (by rw [pd_len pc]; exact hi), ?_⟩
    have nobd : ∀ a, ¬ Bd (argOwn A1 ars F) a := fun a ⟨j, hj⟩ => by
      obtain ⟨i, e, _⟩ := argOwn_mem hj
      have := refs_of.mpr ⟨j, e⟩
      rw [no] at this
      simp at this
    rcases e : runF fs k f cs with ⟨r, outs⟩ | ⟨c, kk, p⟩ | _
    · rw [e] at q
      intro v H' σ' A' r' hio s' hv
      simp only [bind_ok] at q
      split at q
      · rename_i ρ2 hb
        have := back_same hb no
        subst this
        have sm : Same H1 H' := fun a o h => s'.keep a o h (nobd a)
        obtain ⟨as, d1, d2, d3, d4⟩ := hv
        have new : ∀ a ∈ as, H1 a = none := fun a ha => (d4 a ha).resolve_left (nobd a)
        refine q v H' A1 (r1.new sm) (s1.then_new rep sm) ?_ fun e => ?_
        · have out : ∀ a ∈ as, ¬ Bd A1 a ∧ a ∉ A1.fr := fun a ha => new_out r1 (new a ha)
          cases hr1 : r.1 with
          | true => exact .inl ⟨hr1, as, d1, d2, out, fun a ha => .inr (s1.there rep (new a ha))⟩
          | false => exact .inr ⟨hr1, as, d1, fun a ha i _ hi => (out a ha).1 ⟨i, hi⟩⟩
        · obtain ⟨⟨q1, m1⟩, _⟩ := ef1 e
          exact ⟨q1, m1.trans sm⟩
      · exact q.elim
    · rw [e] at q
      have q' : ExQ X.K ca H A (fun a b H' => W a b σ H') c kk p := q
      have q2 := ExQ.before rep s1 q'
      exact fun d H' cv pv h1 h0 h2 h3 h4 h5 => q2 d H' cv pv (fun a o e n => h1 a o e (nobd a)) h0 h2 h3 h4 h5
    · rw [e] at q
      exact q.elim
theorem s_call {f : Nat} {as : Es} {x : Expr} {xs : List Expr} {g : Str} {p pos : Pos} (C : Cxt J fs ca k N sc W X) (hf : f < J.nf) (hg : glB sc g = true) (hn : g = J.nm f) (ok : okName g = true) (pl : plainX x = true) (pls : plainAllX xs = true)
    (ia : PA X (x :: xs) (tAr X.K ca (runF fs k) S W as)) (io : refsB (J.io f) 0 as = true) (hS : effs as = true → S = []) : SE ca fs k S W X (.call f as) (.Call (.Name g p) (x :: xs) [] pos) := by
  obtain ⟨a, fd, ps, F, hm, hk, hb⟩ := C.fn f hf
  subst hn
  simp only [okName, Bool.and_eq_true, Bool.not_eq_true'] at ok
  have hpl : plainAllX (x :: xs) = true := by unfold plainAllX at pls ⊢; simp [pl, pls]
  exact (pe_callS (E := WE W) F C.room (gl_of C hg) hm hk hb (passAt C.takes) ia ok.1.1 (star_of pl) (back_of pls)).weaken fun _ _ _ h => w_call hS io h
end
end PV
set_option Elab.async false
set_option linter.all false
set_option maxRecDepth 100000
set_option maxHeartbeats 1000000
/-! PV14: what is walked. -/
namespace PV
open PySem PySem.Spec PyProof.Rows L2
/-- the iterator J yields the trees ds, as long as the lists at F stay as they are -/
def ItFor (K : PySem.W.Frag) (J : L2.It) (H1 : Hp) (ds : List D) (F : List Addr) : Prop := ∀ H, Fix H1 H → (∀ a ∈ F, ∀ xs, H1 a = some (.lst xs) → H a = some (.lst xs)) →
  ∀ i, (ds.length ≤ i → J.stop i H) ∧ ∀ d, ds[i]? = some d → J.go i H ∧ ∀ x H', J.yld i H x H' → Same H H' ∧ ∃ as, DpR K H' x d as ∧ ∀ a ∈ as, a ∈ F
section
variable {K : PySem.W.Frag} {H1 : Hp}
theorem it_list {a : Addr} {xs : List V} {ds : List D} {bs : List Addr} (h : H1 a = some (.lst xs)) (r : DpRs K H1 xs ds bs) : ItFor K (Itl K a) H1 ds (a :: bs) := by
  intro H fx kp i
  have h' := kp a List.mem_cons_self xs h
  have r' := r.keep fx fun b hb => kp b (List.mem_cons_of_mem _ hb)
  refine ⟨fun hl => ⟨xs, SqL.of h', by rw [r.length]; exact hl⟩, fun d hd => ?_⟩
  obtain ⟨x, es, hx, rx, sub⟩ := r'.atD hd
  refine ⟨⟨xs, x, SqL.of h', hx⟩, fun x' H' y => ?_⟩
  obtain ⟨e, y⟩ := y
  subst e
  have := y xs (SqL.of h')
  rw [hx] at this
  cases this
  exact ⟨Same.refl _, es, rx, fun b hb => List.mem_cons_of_mem _ (sub.subset hb)⟩
theorem it_tup {a : Addr} {xs : List V} {ds : List D} {bs : List Addr} (h : SqT K H1 a xs) (r : DpRs K H1 xs ds bs) : ItFor K (Itt K a) H1 ds bs := by
  intro H fx kp i
  have h' := fx.sqT h
  have r' := r.keep fx fun b hb => kp b hb
  refine ⟨fun hl => ⟨xs, h', by rw [r.length]; exact hl⟩, fun d hd => ?_⟩
  obtain ⟨x, es, hx, rx, sub⟩ := r'.atD hd
  refine ⟨⟨xs, x, h', hx⟩, fun x' H' y => ?_⟩
  obtain ⟨e, y⟩ := y
  subst e
  have := y xs h'
  rw [hx] at this
  cases this
  exact ⟨Same.refl _, es, rx, fun b hb => sub.subset hb⟩
theorem it_scr {a : Addr} {l : List Int} (h : ExtL K H1 a (l.map V.int)) : ItFor K (Itl K a) H1 (l.map PyData.int) [] := by
  intro H fx kp i
  have h' := fx.extL h
  have r' := ints_dp (K := K) (H := H) l
  refine ⟨fun hl => ⟨_, h'.seq, by simpa using hl⟩, fun d hd => ?_⟩
  obtain ⟨x, es, hx, rx, sub⟩ := r'.atD hd
  refine ⟨⟨_, x, h'.seq, hx⟩, fun x' H' y => ?_⟩
  obtain ⟨e, y⟩ := y
  subst e
  have := y _ h'.seq
  rw [hx] at this
  cases this
  exact ⟨Same.refl _, es, rx, fun b hb => sub.subset hb⟩
theorem it_rng (lo hi : Int) : ItFor K (Itr lo (hi - lo).toNat) H1 (rangeD lo hi) [] := by
  intro H fx kp i
  unfold rangeD
  refine ⟨fun hl => by rw [List.length_map, List.length_range] at hl; exact hl, fun d hd => ?_⟩
  rw [List.getElem?_map] at hd
  by_cases hi : i < (hi - lo).toNat
  · rw [List.getElem?_range hi] at hd
    cases hd
    refine ⟨hi, fun x H' y => ?_⟩
    obtain ⟨e, y⟩ := y
    subst e y
    exact ⟨Same.refl _, [], .int _, fun _ h => h⟩
  · rw [List.getElem?_eq_none (by simpa using hi)] at hd
    cases hd
theorem it_rngc (lo c : Int) (n : Nat) : ItFor K (Itc lo c n) H1 (rangeC lo c n) [] := by
  intro H fx kp i
  unfold rangeC
  refine ⟨fun hl => by rw [List.length_map, List.length_range] at hl; exact hl, fun d hd => ?_⟩
  rw [List.getElem?_map] at hd
  by_cases hi : i < n
  · rw [List.getElem?_range hi] at hd
    cases hd
    refine ⟨hi, fun x H' y => ?_⟩
    obtain ⟨e, y⟩ := y
    subst e y
    exact ⟨Same.refl _, [], .int _, fun _ h => h⟩
  · rw [List.getElem?_eq_none (by simpa using hi)] at hd
    cases hd
theorem enumD_at : ∀ {ds : List D} {k i : Nat} {d : D}, (enumD k ds)[i]? = some d → ∃ x, ds[i]? = some x ∧ d = .tuple [.int ((k + i : Nat) : Int), x]
  | [], _, _, _, h => by simp [enumD] at h
  | x :: r, k, 0, d, h => by
    simp [enumD] at h
    exact ⟨x, rfl, by rw [← h]; rfl⟩
  | x :: r, k, i + 1, d, h => by
    simp only [enumD, List.getElem?_cons_succ] at h
    obtain ⟨y, h1, h2⟩ := enumD_at h
    exact ⟨y, by simpa using h1, by rw [h2, show k + 1 + i = k + (i + 1) by omega]⟩
theorem enumD_len : ∀ (ds : List D) (k : Nat), (enumD k ds).length = ds.length
  | [], _ => rfl
  | _ :: r, k => by simp [enumD, enumD_len r]
theorem zipD_at : ∀ {ds es : List D} {i : Nat} {d : D}, (zipD ds es)[i]? = some d → ∃ x y, ds[i]? = some x ∧ es[i]? = some y ∧ d = .tuple [x, y]
  | [], _, _, _, h => by simp [zipD] at h
  | _ :: _, [], _, _, h => by simp [zipD] at h
  | x :: r, y :: s, 0, d, h => by
    simp [zipD] at h
    exact ⟨x, y, rfl, rfl, h.symm⟩
  | x :: r, y :: s, i + 1, d, h => by
    simp only [zipD, List.getElem?_cons_succ] at h
    obtain ⟨u, v, h1, h2, h3⟩ := zipD_at h
    exact ⟨u, v, by simpa using h1, by simpa using h2, h3⟩
theorem zipD_len : ∀ (ds es : List D), (zipD ds es).length = min ds.length es.length
  | [], _ => by simp [zipD]
  | _ :: _, [] => by simp [zipD]
  | _ :: r, _ :: s => by simp [zipD, zipD_len r s]
theorem it_enum {a : Addr} {xs : List V} {ds : List D} {bs : List Addr} (h : H1 a = some (.lst xs)) (r : DpRs K H1 xs ds bs) : ItFor K (Ite K a) H1 (enumD 0 ds) (a :: bs) := by
  intro H fx kp i
  have h' := kp a List.mem_cons_self xs h
  have r' := r.keep fx fun b hb => kp b (List.mem_cons_of_mem _ hb)
  refine ⟨fun hl => ⟨xs, SqL.of h', by rw [r.length]; rw [enumD_len] at hl; exact hl⟩, fun d hd => ?_⟩
  obtain ⟨z, hz, e⟩ := enumD_at hd
  subst e
  obtain ⟨x, es, hx, rx, sub⟩ := r'.atD hz
  refine ⟨⟨xs, x, SqL.of h', hx⟩, fun x' H' y => ?_⟩
  obtain ⟨T, x2, e1, hT, e2, y⟩ := y
  subst e1 e2
  have := y xs (SqL.of h')
  rw [hx] at this
  cases this
  refine ⟨same_upd hT, es, .tup (.inl (.inl upd_same)) ?_, fun b hb => List.mem_cons_of_mem _ (sub.subset hb)⟩
  have e : (0 + i : Nat) = i := Nat.zero_add i
  rw [e]
  exact .cons (as := []) (.int _) (.one (rx.new hT))
theorem it_zipL {a b : Addr} {xs ys : List V} {ds es : List D} {as bs : List Addr} (h : H1 a = some (.lst xs)) (r : DpRs K H1 xs ds as) (h2 : H1 b = some (.lst ys)) (r2 : DpRs K H1 ys es bs) : ItFor K (Itz K a b) H1 (zipD ds es) ((a :: as) ++ (b :: bs)) := by
  intro H fx kp i
  have h' := kp a (by simp) xs h
  have r' := r.keep fx fun c hc => kp c (by simp [hc])
  have h2' := kp b (by simp) ys h2
  have r2' := r2.keep fx fun c hc => kp c (by simp [hc])
  refine ⟨fun hl => ⟨xs, ys, SqL.of h', SqL.of h2', by rw [zipD_len] at hl; rw [r.length, r2.length]; omega⟩, fun d hd => ?_⟩
  obtain ⟨z, w, hz, hw, e⟩ := zipD_at hd
  subst e
  obtain ⟨x, cs, hx, rx, sub⟩ := r'.atD hz
  obtain ⟨y, es', hy, ry, sub2⟩ := r2'.atD hw
  refine ⟨⟨xs, ys, x, y, SqL.of h', SqL.of h2', hx, hy⟩, fun x' H' q => ?_⟩
  obtain ⟨T, u, v, e1, hT, e2, q1, q2⟩ := q
  subst e1 e2
  have := q1 xs (SqL.of h')
  rw [hx] at this
  cases this
  have := q2 ys (SqL.of h2')
  rw [hy] at this
  cases this
  refine ⟨same_upd hT, cs ++ es', .tup (.inl (.inl upd_same)) (.cons (rx.new hT) (.one (ry.new hT))), fun c hc => ?_⟩
  rcases List.mem_append.mp hc with m | m
  · exact List.mem_append_left _ (List.mem_cons_of_mem _ (sub.subset m))
  · exact List.mem_append_right _ (List.mem_cons_of_mem _ (sub2.subset m))
theorem it_zipT {a b : Addr} {xs ys : List V} {ds es : List D} {as bs : List Addr} (h : SqT K H1 a xs) (r : DpRs K H1 xs ds as) (h2 : SqT K H1 b ys) (r2 : DpRs K H1 ys es bs) : ItFor K (RZ.ItzT K a b) H1 (zipD ds es) (as ++ bs) := by
  intro H fx kp i
  have h' := fx.sqT h
  have r' := r.keep fx fun c hc => kp c (by simp [hc])
  have h2' := fx.sqT h2
  have r2' := r2.keep fx fun c hc => kp c (by simp [hc])
  refine ⟨fun hl => ⟨xs, ys, h', h2', by rw [zipD_len] at hl; rw [r.length, r2.length]; omega⟩, fun d hd => ?_⟩
  obtain ⟨z, w, hz, hw, e⟩ := zipD_at hd
  subst e
  obtain ⟨x, cs, hx, rx, sub⟩ := r'.atD hz
  obtain ⟨y, es', hy, ry, sub2⟩ := r2'.atD hw
  refine ⟨⟨xs, ys, x, y, h', h2', hx, hy⟩, fun x' H' q => ?_⟩
  obtain ⟨T, u, v, e1, hT, e2, q1, q2⟩ := q
  subst e1 e2
  have := q1 xs h'
  rw [hx] at this
  cases this
  have := q2 ys h2'
  rw [hy] at this
  cases this
  refine ⟨same_upd hT, cs ++ es', .tup (.inl (.inl upd_same)) (.cons (rx.new hT) (.one (ry.new hT))), fun c hc => ?_⟩
  rcases List.mem_append.mp hc with m | m
  · exact List.mem_append_left _ (sub.subset m)
  · exact List.mem_append_right _ (sub2.subset m)
theorem rev_at {ds : List D} {i : Nat} {d : D} (h : ds.reverse[i]? = some d) : i < ds.length ∧ ds[ds.length - 1 - i]? = some d := by
  have hi : i < ds.length := by
    have := (List.getElem?_eq_some_iff.mp h).1
    simpa using this
  rw [List.getElem?_reverse hi] at h
  exact ⟨hi, h⟩
theorem it_revL {a : Addr} {xs : List V} {ds : List D} {bs : List Addr} (h : H1 a = some (.lst xs)) (r : DpRs K H1 xs ds bs) : ItFor K (Itv K a xs.length) H1 ds.reverse (a :: bs) := by
  intro H fx kp i
  have h' := kp a List.mem_cons_self xs h
  have r' := r.keep fx fun b hb => kp b (List.mem_cons_of_mem _ hb)
  refine ⟨fun hl => by rw [List.length_reverse] at hl; show xs.length ≤ i; rw [r.length]; exact hl, fun d hd => ?_⟩
  obtain ⟨hi, hd'⟩ := rev_at hd
  obtain ⟨x, es, hx, rx, sub⟩ := r'.atD hd'
  rw [← r.length] at hx hi
  refine ⟨⟨hi, xs, x, SqL.of h', hx⟩, fun x' H' y => ?_⟩
  obtain ⟨e, y⟩ := y
  subst e
  have := y xs (SqL.of h')
  rw [hx] at this
  cases this
  exact ⟨Same.refl _, es, rx, fun b hb => List.mem_cons_of_mem _ (sub.subset hb)⟩
theorem it_revT {a : Addr} {xs : List V} {ds : List D} {bs : List Addr} (h : SqT K H1 a xs) (r : DpRs K H1 xs ds bs) : ItFor K (RT.ItvT K a xs.length) H1 ds.reverse bs := by
  intro H fx kp i
  have h' := fx.sqT h
  have r' := r.keep fx fun b hb => kp b hb
  refine ⟨fun hl => by rw [List.length_reverse] at hl; show xs.length ≤ i; rw [r.length]; exact hl, fun d hd => ?_⟩
  obtain ⟨hi, hd'⟩ := rev_at hd
  obtain ⟨x, es, hx, rx, sub⟩ := r'.atD hd'
  rw [← r.length] at hx hi
  refine ⟨⟨hi, xs, x, h', hx⟩, fun x' H' y => ?_⟩
  obtain ⟨e, y⟩ := y
  subst e
  have := y xs h'
  rw [hx] at this
  cases this
  exact ⟨Same.refl _, es, rx, fun b hb => sub.subset hb⟩
theorem it_str (x : Str) : ItFor K (Its x) H1 (signsD x) [] := by
  intro H fx kp i
  refine ⟨fun hl => ?_, fun d hd => ?_⟩
  · unfold signsD at hl
    rw [List.length_map, Array.length_toList] at hl
    exact hl
  · unfold signsD at hd
    rw [List.getElem?_map] at hd
    obtain ⟨c, hc, rfl⟩ := Option.map_eq_some_iff.mp hd
    rw [Array.getElem?_toList] at hc
    refine ⟨(Array.getElem?_eq_some_iff.mp hc).1, fun v H' y => ?_⟩
    obtain ⟨e, c', h1, h2⟩ := y
    subst e h2
    rw [hc] at h1
    cases h1
    exact ⟨Same.refl _, [], .str _, fun _ h => by simp at h⟩
end
def PRi (K : PySem.W.Frag) (S : List Nat) (σ : L2.St) (vs : List Nat) (ef : Bool) (H : Hp) (A : Own) (R : L2.It → Hp → Prop) (x : List D × PV.Env) : Prop :=
  ∀ J H' A' F, Rep K H' S σ x.2 A' → Stp H A H' A' → ItFor K J H' x.1 F → (∀ a ∈ F, ∀ i, i ∉ vs ++ S → a ∉ A' i) → (∀ a ∈ F, ∃ xs, H' a = some (.lst xs)) → (ef = false → A' = A ∧ Same H H') → R J H'
def tIt (K : PySem.W.Frag) (ca : Nat → Addr) (cf : CF) (S : List Nat) (W : WX) (it : It) : TI := fun σ H R => ∃ ρ A, Rep K H S σ ρ A ∧ RG K ca W σ H A (PRi K S σ (varsi it) (effi it) H A R) (evi cf it ρ)
theorem _root_.L2.PI.any {X : Cx} {tg e : Expr} {t' : TI} (h : ∀ σ H R, t' σ H R → ∃ t, PI X tg e t ∧ t σ H R) : PI X tg e t' := ⟨fun pins s σ H R I q => by
  obtain ⟨t, h1, h2⟩ := h σ H R q
  exact h1.run pins s σ H R I h2⟩
theorem _root_.L2.PI.weaken {X : Cx} {tg e : Expr} {t t' : TI} (h : PI X tg e t) (w : ∀ σ H R, t' σ H R → t σ H R) : PI X tg e t' := ⟨fun pins s σ H R I q => h.run pins s σ H R I (w σ H R q)⟩
section
variable {J : Info} {fs : List Fn} {ca : Nat → Addr} {k : Nat} {N : List Str} {sc : Scope} {W : WX} {X : Cx} {S : List Nat} {tg : Expr}
abbrev SI (ca : Nat → Addr) (fs : List Fn) (k : Nat) (S : List Nat) (W : WX) (X : Cx) (tg : Expr) (it : It) (x : Expr) : Prop := PI X tg x (tIt X.K ca (runF fs k) S W it)
theorem trk_cons {H : Hp} {a : Addr} {xs : List V} {bs : List Addr} (h : H a = some (.lst xs)) (r : ∀ b ∈ bs, ∃ ys, H b = some (.lst ys)) : ∀ b ∈ a :: bs, ∃ ys, H b = some (.lst ys) := fun b hb => by
  rcases List.mem_cons.mp hb with e | hb
  · rw [e]; exact ⟨_, h⟩
  · exact r b hb
theorem si_scr {i : Nat} {x : Str} {p : Pos} (C : Cxt J fs ca k N sc W X) (hn : nameB N sc i x = true) : SI ca fs k S W X tg (.scr i) (.Name x p) := by
  refine (pi_list (pe_nm C hn)).weaken fun σ H R ⟨ρ, A, rep, q⟩ => ?_
  simp only [evi] at q
  split at q
  · rename_i l e
    obtain ⟨v, ev1, a, e1, hx⟩ := rep.cell i _ e
    subst e1
    exact ⟨_, ev1, a, rfl, ⟨_, hx.seq⟩, q _ H A [] rep (Stp.refl _ _) (it_scr hx) (fun _ h => by simp at h) (fun _ h => by simp at h) fun _ => ⟨rfl, Same.refl _⟩⟩
  · exact q.elim
theorem si_seq {e : E} {x : Expr} (ie : SE ca fs k S W X e x) : SI ca fs k S W X tg (.seq e) x := by
  refine L2.PI.any fun σ H R ⟨ρ, A, rep, q⟩ => ?_
  simp only [evi] at q
  rcases e0 : ev (runF fs k) e ρ with ⟨⟨b, d⟩, ρ1⟩ | ⟨c, k', p⟩ | _
  · rw [e0] at q
    cases d with
    | list l =>
      refine ⟨_, pi_list ie, ρ, A, rep, ?_⟩
      rw [e0]
      intro v1 H1 A1 r1 s1 rv1 ef1
      obtain ⟨as, d1, n1⟩ := rv1.any
      obtain ⟨a, vs, bs, e, r3, h3, e3⟩ := d1.list_inv
      subst e3
      exact ⟨a, e, ⟨vs, SqL.of h3⟩, q _ H1 A1 (a :: bs) r1 s1 (it_list h3 r3) n1 (trk_cons h3 r3.trk) ef1⟩
    | tuple l =>
      refine ⟨_, pi_tup ie, ρ, A, rep, ?_⟩
      rw [e0]
      intro v1 H1 A1 r1 s1 rv1 ef1
      obtain ⟨as, d1, n1⟩ := rv1.any
      obtain ⟨a, vs, e, h3, r3⟩ := d1.tuple_inv
      exact ⟨a, e, ⟨vs, h3⟩, q _ H1 A1 as r1 s1 (it_tup h3 r3) n1 r3.trk ef1⟩
    | str x =>
      refine ⟨_, pi_str ie, ρ, A, rep, ?_⟩
      rw [e0]
      intro v1 H1 A1 r1 s1 rv1 ef1
      obtain ⟨as, d1, n1⟩ := rv1.any
      cases d1
      exact ⟨x, rfl, q _ H1 A1 [] r1 s1 (it_str x) (fun _ h => by simp at h) (fun _ h => by simp at h) ef1⟩
    | _ => exact q.elim
  · rw [e0] at q
    exact ⟨_, pi_list ie, ρ, A, rep, by rw [e0]; exact q⟩
  · rw [e0] at q
    exact q.elim
theorem si_rv {e : E} {x : Expr} {p1 p2 : Pos} (C : Cxt J fs ca k N sc W X) (g1 : glB sc ("reversed" : Str) = true) (px : plainX x = true) (ie : SE ca fs k S W X e x) : SI ca fs k S W X tg (.rv e) (.Call (.Name "reversed" p1) [x] [] p2) := by
  refine (RT.pi_revA (gl_of C g1) (C.blt _ (by decide +kernel)) ie (star_of px)).weaken fun σ H R ⟨ρ, A, rep, q⟩ => ?_
  simp only [evi] at q
  refine tS_first rep (Stp.refl _ _) rep q fun r1 ρ1 v1 H1 A1 r1' s1 rv1 ef1 q => ?_
  obtain ⟨b, d⟩ := r1
  obtain ⟨as, d1, n1⟩ := rv1.any
  dsimp only at q d1
  cases d with
  | list l =>
    obtain ⟨a, vs, bs, e, r3, h3, e3⟩ := d1.list_inv
    subst e3
    exact ⟨a, vs, e, .inl ⟨SqL.of h3, q _ H1 A1 (a :: bs) r1' s1 (it_revL h3 r3) n1 (trk_cons h3 r3.trk) ef1⟩⟩
  | tuple l =>
    obtain ⟨a, vs, e, h3, r3⟩ := d1.tuple_inv
    exact ⟨a, vs, e, .inr ⟨h3, q _ H1 A1 as r1' s1 (it_revT h3 r3) n1 r3.trk ef1⟩⟩
  | _ => exact q.elim
theorem si_r1 {a : E} {x : Expr} {p1 p2 : Pos} (C : Cxt J fs ca k N sc W X) (g1 : glB sc ("range" : Str) = true) (px : plainX x = true) (ie : SE ca fs k S W X a x) : SI ca fs k S W X tg (.r1 a) (.Call (.Name "range" p1) [x] [] p2) := by
  refine (pi_range1 (gl_of C g1) (C.blt _ (by decide +kernel)) (pa_cons ie pa_nil (star_of px)) (star_of px)).weaken fun σ H R ⟨ρ, A, rep, q⟩ => ?_
  simp only [evi] at q
  refine tS_first rep (Stp.refl _ _) rep q fun r1 ρ1 v1 H1 A1 r1' s1 rv1 ef1 q => ?_
  obtain ⟨b, d⟩ := r1
  obtain ⟨as, d1, n1⟩ := rv1.any
  dsimp only at q d1
  cases d <;> try (exact q.elim)
  simp only [asInt, bind_ok] at q
  obtain ⟨hk, q⟩ := RG.ite q
  simp only [smallI, decide_eq_true_eq] at hk
  refine ⟨_, by rw [d1.int_inv], hk.1, hk.2, ?_⟩
  have := q _ H1 A1 [] r1' s1 (it_rng (0 : Int) _) (fun _ h => by simp at h) (fun _ h => by simp at h) ef1
  rwa [Int.sub_zero] at this
theorem si_r2 {a b : E} {x y : Expr} {p1 p2 : Pos} (C : Cxt J fs ca k N sc W X) (g1 : glB sc ("range" : Str) = true) (px : plainX x = true) (py : plainX y = true) (ia : SE ca fs k S W X a x) (ib : SE ca fs k S W X b y) : SI ca fs k S W X tg (.r2 a b) (.Call (.Name "range" p1) [x, y] [] p2) := by
  have s2 : starEach [y] X.env = [(false, eval y X.env)] := star_of py
  have s1 : starEach [x, y] X.env = [(false, eval x X.env), (false, eval y X.env)] := by rw [star_of px, s2]
  refine (pi_range2 (gl_of C g1) (C.blt _ (by decide +kernel)) (pa_cons ia (pa_cons ib pa_nil s2) (star_of px)) s1 s2).weaken fun σ H R ⟨ρ, A, rep, q⟩ => ?_
  simp only [evi] at q
  refine tS_first rep (Stp.refl _ _) rep q fun r1 ρ1 v1 H1 A1 r1' s1 rv1 ef1 q => ?_
  refine tS_first rep s1 r1' q fun r2 ρ2 v2 H2 A2 r2' s2 rv2 ef2 q => ?_
  obtain ⟨o1, d1⟩ := r1
  obtain ⟨o2, d2⟩ := r2
  obtain ⟨as, e1, n1⟩ := rv1.any
  obtain ⟨bs, e2, n2⟩ := rv2.any
  dsimp only at q e1 e2
  cases d1 <;> try (exact q.elim)
  cases d2 <;> try (exact q.elim)
  simp only [asInt, bind_ok] at q
  obtain ⟨hk, q⟩ := RG.ite q
  simp only [smallI, Bool.and_eq_true, decide_eq_true_eq] at hk
  refine ⟨_, _, by rw [e1.int_inv, e2.int_inv], ⟨hk.1.1, hk.1.2, hk.2.1, hk.2.2⟩, q _ H2 A2 [] r2' (Stp.trans rep s1 s2) (it_rng _ _) (fun _ h => by simp at h) (fun _ h => by simp at h) fun e => ?_⟩
  simp only [effi, Bool.or_eq_false_iff] at e
  obtain ⟨q1, m1⟩ := ef1 e.1
  obtain ⟨q2, m2⟩ := ef2 e.2
  exact ⟨q2.trans q1, m1.trans m2⟩
end
end PV
set_option Elab.async false
set_option linter.all false
set_option maxRecDepth 100000
set_option maxHeartbeats 4000000
/-! PVE: enumerate of tuples and texts. -/
namespace PySem.W
open PySem PySem.Calls PyProof.Rows
theorem meets_en1 {v : Value} {ob : Obj} {HH : Heap → Prop} (B : Begins v ob HH) :
    Meets (Builtin.«enumerate.__new__» ⟨[.type "enumerate", v], []⟩) (fun _ R s => HH s.heap ∧
      R (.ok (.ret (.ref (s.heap.push ob).objs.size))) { s with heap := (s.heap.push ob).push { cls := .type "enumerate", data := .fields #[.none, .bool false, .ref s.heap.objs.size, rawInt 0, .none, .none] } }) :=
  .of_wp fun prog w A R s hh => by
    obtain ⟨hp, ge, dr, tk, os⟩ := s; obtain ⟨hB, hR⟩ := hh
    have hsub := sub_enumerate
    have goes : ∀ {A' : Around} {E : Value → Shared → Prop} {Q : Value → Shared → Prop}, Q (.ref hp.objs.size) ⟨hp.push ob, ge, dr, tk, os⟩ → wpAny (model prog w) A' (pyIter v) Q E ⟨hp, ge, dr, tk, os⟩ :=
      fun q => B.iter prog w _ _ ⟨hp, ge, dr, tk, os⟩ _ hB q
    wp_walk using goes
    refine wpAny_stack_any fun st => wpAny_pure ?_
    split
    · rename_i c _ _ _ _ _
      cases (c == Value.type "enumerate") <;> (wp_walk using goes; exact ⟨_, rfl, hR⟩)
    · wp_walk using goes
      exact ⟨_, rfl, hR⟩
section
variable {prog : Program} {w : World} {A : Around} {E : Value → Shared → Prop} {s : Shared}
theorem en_begins {v : Value} {ob : Obj} {HH : Heap → Prop} {Q : Value → Shared → Prop} (B : Begins v ob HH) (hB : HH s.heap)
    (h : ∀ hp', IsEnum hp' (s.heap.objs.size + 1) s.heap.objs.size 0 .none → hp'.get? s.heap.objs.size = some ob →
      (∀ b o, s.heap.get? b = some o → hp'.get? b = some o) → Q (.ref (s.heap.objs.size + 1)) { s with heap := hp' }) :
    wpAny (model prog w) A (call (.type "enumerate") [v]) Q E s := by
  refine callType_new F.called_enumerate (by decide) (F.typeCall_enumerate_1 _) (F.newCall_enumerate_1 _) (fun z => F.args_object_init_2 z _) F.entry_enumerate_new (meets_en1 B) ⟨hB, ?_⟩
  have zz : (s.heap.push ob).objs.size = s.heap.objs.size + 1 := Heap.size_push ..
  show _ ∧ _
  rw [zz]
  have en : IsEnum ((s.heap.push ob).push { cls := .type "enumerate", data := .fields #[.none, .bool false, .ref s.heap.objs.size, rawInt 0, .none, .none] }) (s.heap.objs.size + 1) s.heap.objs.size 0 .none := by
    have := Heap.get?_push_size (s.heap.push ob) (o := { cls := .type "enumerate", data := .fields #[.none, .bool false, .ref s.heap.objs.size, rawInt 0, .none, .none] }) rfl
    rw [zz] at this; exact this
  exact ⟨⟨_, en, rfl⟩, h _ en (Heap.get?_push_of_some _ (Heap.get?_push_size _ B.free)) fun b o x => Heap.get?_push_of_some _ (Heap.get?_push_of_some _ x)⟩
end
end PySem.W
namespace PV
open PySem PySem.Spec PyProof.Rows L2
section
variable {P : Program} {w : World} {K : PySem.W.Frag} {elts : List Expr} {kk : Nat} {tpos : Pos}
/-- enumerate(tuple), m items -/
def IteT (K : PySem.W.Frag) (a : Addr) (m : Nat) : L2.It :=
  ⟨fun i H => ∃ (xs : List V) (x : V), SqT K H a xs ∧ xs.length = m ∧ xs[i]? = some x, fun i H v H' => ∃ T x, v = .ref T ∧ H T = none ∧ H' = upd H T (.tup [.int (i : Nat), x]) ∧ ∀ xs, SqT K H a xs → xs[i]? = some x,
    fun i H => ∃ xs : List V, SqT K H a xs ∧ xs.length = m ∧ m ≤ i⟩
theorem turn_enumT (a e it : Addr) (m : Nat) (hai : a ≠ it) (hae : a ≠ e) :
    Turn P w K (.Tuple elts kk tpos) (IteT K a m) [e, it] e (fun i h => (∃ old, IsEnum h e it ((i : Nat) : Int) old) ∧ h.IsTupleIter it a i ∧ e ≠ it ∧ i ≤ m) where
  mem := by simp
  obj := fun i h st b hb => by
    obtain ⟨⟨old, he⟩, ⟨o, ho, hc, hd⟩, _⟩ := st
    rcases (show b = e ∨ b = it by simpa using hb) with z | z
    · rw [z]; exact ⟨_, he, fun v q => nomatch q⟩
    · rw [z]; exact ⟨o, ho, fun v q => by rw [hd] at q; cases q⟩
  keep := fun i h h' st k => let ⟨⟨old, he⟩, hi, hne⟩ := st; ⟨⟨old, k e (by simp) _ he⟩, hi.at fun o q => k it (by simp) o q, hne⟩
  item := by
    intro X hP hw hK hc i pins s σ H E I hf st hg
    subst hP hw hK
    obtain ⟨⟨old, he⟩, hit, hne, him⟩ := st
    obtain ⟨xs, x, hq, hxm, hx⟩ := hg
    obtain ⟨its, rv, p, hz⟩ := I.tuple hq
    obtain ⟨u, hu, ru⟩ := rv.get hx
    have hel : e < s.heap.objs.size := Heap.lt_size he
    have hil : it < s.heap.objs.size := by obtain ⟨_, q, _⟩ := hit; exact Heap.lt_size q
    have hn : i < its.length := (List.getElem?_eq_some_iff.mp hu).1
    refine wpAny_pyNext_enum_itemD (Draws.tuple (A := X.A.in1) (show X.A.in1.handled = none from I.ok.hd hc) it a hai its.toArray) he ⟨hit, p⟩ (by simpa using hn) hne (by simp [hne, Ne.symm hae]) fun y h' tk hy ho hst hT hsz hk => ?_
    have ey : y = u := by
      have : its[i]? = some y := by simpa using hy
      rw [hu] at this
      cases this; rfl
    subst ey
    refine ⟨_, rfl, wpAny_letOwnedTupleGo_enum (s := { s with heap := h', toks := tk + 1 }) ho fun h'' he' sb => ?_⟩
    have hT2 : h''.get? s.heap.objs.size = some { cls := .type "tuple", data := .seq #[.int i tk, y] } := (sb.2 _ (Nat.ne_of_gt hel)).trans hT
    have new : ObjOk X.prog X.w (upd H s.heap.objs.size (.tup [.int (i : Nat), x])) h'' s.heap.objs.size (.tup [.int (i : Nat), x]) :=
      ⟨by show 2 ≤ sizeLine; decide, [.int i tk, y], .cons ⟨_, rfl⟩ (.cons ru .nil), ⟨_, hT2, rfl, _, rfl⟩⟩
    have I1 : Inv X pins σ (upd H s.heap.objs.size (.tup [.int (i : Nat), x])) { s with heap := h'', toks := tk + 1 } :=
      I.turnedNew (ch := [e, it]) (fun b ob hb q => (sb.2 b (fun z => hb (by simp [z]))).trans (hk b ob (fun z => hb (by simp [z])) (fun z => hb (by simp [z])) q)) hf (Nat.le_refl _) new
    refine ⟨.ref s.heap.objs.size, _, I1, rfl, ⟨_, x, rfl, I.hok.fresh (Nat.le_refl _), rfl, fun ys hy => ?_⟩, ⟨⟨y, ?_⟩, hst.1.at fun o q => (sb.2 it (Ne.symm hne)).trans q, hne, by have := rv.length; omega⟩, fun b hb => ?_⟩
    · rw [I.tuple_inj hy hq]; exact hx
    · have e1 : ((i + 1 : Nat) : Int) = (i : Int) + 1 := by omega
      rw [e1]; exact he'
    · have hb' : b < s.heap.objs.size := by
        rcases (show b = e ∨ b = it by simpa using hb) with z | z
        · rw [z]; exact hel
        · rw [z]; exact hil
      rw [upd_ne (Nat.ne_of_lt hb')]
      exact (hf b hb).1
  done := by
    intro X hP hw hK hc i pins s σ H E I hf st hg
    subst hP hw hK
    obtain ⟨⟨old, he⟩, hit, hne, him⟩ := st
    obtain ⟨xs, hq, hxm, hx⟩ := hg
    obtain ⟨its, rv, p, hz⟩ := I.tuple hq
    obtain ⟨f0, f1, f2, f3, f4, f5⟩ := hf it (by simp)
    have ei : i = its.toArray.size := by have := rv.length; simp; omega
    subst ei
    exact wpAny_pyNext_enum_endD (Draws.tuple (A := X.A.in1) (show X.A.in1.handled = none from I.ok.hd hc) it a hai its.toArray) he ⟨hit, p⟩ fun h' eb => ⟨rfl, I.turned (t' := s.toks) (fun b o hb q => eb b o hb q) f0 f1 f3 f4 f5⟩
  self := fun A i s Q E st h => let ⟨⟨_, he⟩, _⟩ := st; wpAny_pyIter_enum he h
/-- enumerate(text) -/
def IteS (x : Str) : L2.It :=
  ⟨fun i _ => i < x.cps.size, fun i H v H' => ∃ T c, v = .ref T ∧ H T = none ∧ H' = upd H T (.tup [.int (i : Nat), .str ⟨#[c]⟩]) ∧ x.cps[i]? = some c, fun i _ => x.cps.size ≤ i⟩
theorem turn_enumS (x : Str) (t : Tok) (e it : Addr) :
    Turn P w K (.Tuple elts kk tpos) (IteS x) [e, it] e (fun i h => (∃ old, IsEnum h e it ((i : Nat) : Int) old) ∧ h.IsStrIter it (strIterType x) x t i ∧ e ≠ it ∧ i ≤ x.cps.size) where
  mem := by simp
  obj := fun i h st b hb => by
    obtain ⟨⟨old, he⟩, ⟨o, ho, hc, hd⟩, _⟩ := st
    rcases (show b = e ∨ b = it by simpa using hb) with z | z
    · rw [z]; exact ⟨_, he, fun v q => nomatch q⟩
    · rw [z]; exact ⟨o, ho, fun v q => by rw [hd] at q; cases q⟩
  keep := fun i h h' st k => let ⟨⟨old, he⟩, ⟨o, ho, r⟩, hne⟩ := st; ⟨⟨old, k e (by simp) _ he⟩, ⟨o, k it (by simp) o ho, r⟩, hne⟩
  item := by
    intro X hP hw hK hc i pins s σ H E I hf st hg
    subst hP hw hK
    obtain ⟨⟨old, he⟩, hit, hne, him⟩ := st
    have hel : e < s.heap.objs.size := Heap.lt_size he
    have hil : it < s.heap.objs.size := by obtain ⟨_, q, _⟩ := hit; exact Heap.lt_size q
    refine wpAny_pyNext_enum_itemD (Draws.text (A := X.A.in1) (show X.A.in1.handled = none from I.ok.hd hc) it x t) he hit hg hne (by simp [hne]) fun y h' tk hy ho hst hT hsz hk => ?_
    obtain ⟨c, u, hcx, ey⟩ := hy
    subst ey
    refine ⟨_, rfl, wpAny_letOwnedTupleGo_enum (s := { s with heap := h', toks := tk + 1 }) ho fun h'' he' sb => ?_⟩
    have hT2 : h''.get? s.heap.objs.size = some { cls := .type "tuple", data := .seq #[.int i tk, .str ⟨#[c]⟩ u] } := (sb.2 _ (Nat.ne_of_gt hel)).trans hT
    have new : ObjOk X.prog X.w (upd H s.heap.objs.size (.tup [.int (i : Nat), .str ⟨#[c]⟩])) h'' s.heap.objs.size (.tup [.int (i : Nat), .str ⟨#[c]⟩]) :=
      ⟨by show 2 ≤ sizeLine; decide, [.int i tk, .str ⟨#[c]⟩ u], .cons ⟨_, rfl⟩ (.cons ⟨_, rfl⟩ .nil), ⟨_, hT2, rfl, _, rfl⟩⟩
    have I1 : Inv X pins σ (upd H s.heap.objs.size (.tup [.int (i : Nat), .str ⟨#[c]⟩])) { s with heap := h'', toks := tk + 1 } :=
      I.turnedNew (ch := [e, it]) (fun b ob hb q => (sb.2 b (fun z => hb (by simp [z]))).trans (hk b ob (fun z => hb (by simp [z])) (fun z => hb (by simp [z])) q)) hf (Nat.le_refl _) new
    have hst' : h''.IsStrIter it (strIterType x) x t (i + 1) := let ⟨o, ho, r⟩ := hst; ⟨o, (sb.2 it (Ne.symm hne)).trans ho, r⟩
    refine ⟨.ref s.heap.objs.size, _, I1, rfl, ⟨_, c, rfl, I.hok.fresh (Nat.le_refl _), rfl, hcx⟩, ⟨⟨.str ⟨#[c]⟩ u, ?_⟩, hst', hne, hg⟩, fun b hb => ?_⟩
    · have e1 : ((i + 1 : Nat) : Int) = (i : Int) + 1 := by omega
      rw [e1]; exact he'
    · have hb' : b < s.heap.objs.size := by
        rcases (show b = e ∨ b = it by simpa using hb) with z | z
        · rw [z]; exact hel
        · rw [z]; exact hil
      rw [upd_ne (Nat.ne_of_lt hb')]
      exact (hf b hb).1
  done := by
    intro X hP hw hK hc i pins s σ H E I hf st hg
    subst hP hw hK
    obtain ⟨⟨old, he⟩, hit, hne, him⟩ := st
    obtain ⟨f0, f1, f2, f3, f4, f5⟩ := hf it (by simp)
    have ei : i = x.cps.size := Nat.le_antisymm him hg
    subst ei
    exact wpAny_pyNext_enum_endD (Draws.text (A := X.A.in1) (show X.A.in1.handled = none from I.ok.hd hc) it x t) he hit fun h' eb => ⟨rfl, I.turned (t' := s.toks) (fun b o hb q => eb b o hb q) f0 f1 f3 f4 f5⟩
  self := fun A i s Q E st h => let ⟨⟨_, he⟩, _⟩ := st; wpAny_pyIter_enum he h
end
section
variable {K : PySem.W.Frag} {H1 : Hp}
theorem it_enumT {a : Addr} {xs : List V} {ds : List D} {bs : List Addr} (h : SqT K H1 a xs) (r : DpRs K H1 xs ds bs) : ItFor K (IteT K a xs.length) H1 (enumD 0 ds) bs := by
  intro H fx kp i
  have h' := fx.sqT h
  have r' := r.keep fx fun b hb => kp b hb
  refine ⟨fun hl => ⟨xs, h', rfl, by rw [r.length]; rw [enumD_len] at hl; exact hl⟩, fun d hd => ?_⟩
  obtain ⟨z, hz, e⟩ := enumD_at hd
  subst e
  obtain ⟨x, es, hx, rx, sub⟩ := r'.atD hz
  refine ⟨⟨xs, x, h', rfl, hx⟩, fun x' H' y => ?_⟩
  obtain ⟨T, x2, e1, hT, e2, y⟩ := y
  subst e1 e2
  have := y xs h'
  rw [hx] at this
  cases this
  refine ⟨same_upd hT, es, .tup (.inl (.inl upd_same)) ?_, fun b hb => sub.subset hb⟩
  have e : (0 + i : Nat) = i := Nat.zero_add i
  rw [e]
  exact .cons (as := []) (.int _) (.one (rx.new hT))
theorem it_enumS (x : Str) : ItFor K (IteS x) H1 (enumD 0 (signsD x)) [] := by
  intro H fx kp i
  refine ⟨fun hl => ?_, fun d hd => ?_⟩
  · rw [enumD_len] at hl
    unfold signsD at hl
    rw [List.length_map, Array.length_toList] at hl
    exact hl
  · obtain ⟨z, hz, e⟩ := enumD_at hd
    subst e
    unfold signsD at hz
    rw [List.getElem?_map] at hz
    obtain ⟨c, hc, rfl⟩ := Option.map_eq_some_iff.mp hz
    rw [Array.getElem?_toList] at hc
    refine ⟨(Array.getElem?_eq_some_iff.mp hc).1, fun v H' y => ?_⟩
    obtain ⟨T, c', e1, hT, e2, h1⟩ := y
    subst e1 e2
    rw [hc] at h1
    cases h1
    refine ⟨same_upd hT, [], .tup (.inl (.inl upd_same)) ?_, fun _ h => by simp at h⟩
    have e : (0 + i : Nat) = i := Nat.zero_add i
    rw [e]
    exact .cons (as := []) (.int _) (.one (.str _))
end
/-- enumerate of a list, a tuple or a text -/
def iEnumX (K : PySem.W.Frag) (ta : TA) : TI := fun σ H R => ta σ H fun vs H1 => (∃ a xs, vs = [.ref a] ∧ SqL K H1 a xs ∧ R (Ite K a) H1) ∨ (∃ a xs, vs = [.ref a] ∧ SqT K H1 a xs ∧ R (IteT K a xs.length) H1) ∨ ∃ x, vs = [.str x] ∧ R (IteS x) H1
theorem pi_enumX {X : Cx} {e : Expr} {ta : TA} {p pos tpos : Pos} {elts : List Expr} {kk : Nat} (hg : Gl X "enumerate") (hm : X.mg "enumerate" = none) (ha : PA X [e] ta) (hs : starEach [e] X.env = [(false, eval e X.env)]) :
    PI X (.Tuple elts kk tpos) (.Call (.Name "enumerate" p) [e] [] pos) (iEnumX X.K ta) := by
  refine ⟨fun pins s σ H R I h => ?_⟩
  refine Call_ (ld_blt I hg hm boot_enumerate (PyProof.Rows.callWith_type1 (thn (ha.run pos pins s σ H _ I h) fun us s1 ⟨vs, H1, I1, r1, q1⟩ => ?_) hs rfl))
  have fpOk : ∀ b ∈ [s1.heap.objs.size + 1, s1.heap.objs.size], s1.heap.objs.size ≤ b := fun b hb => by
    rcases (show b = s1.heap.objs.size + 1 ∨ b = s1.heap.objs.size by simpa using hb) with z | z
    · rw [z]; exact Nat.le_add_right _ _
    · rw [z]; exact Nat.le_refl _
  rcases q1 with ⟨a, xs, ex, hq, q⟩ | ⟨a, xs, ex, hq, q⟩ | ⟨x, ex, q⟩
  · subst ex
    cases r1 with
    | cons r rr =>
      cases rr
      cases r
      obtain ⟨its, rv, p', hz⟩ := I1.list hq
      refine call_enumerate_list p'.isList fun h' he hit hsz hk => wpAny_pyIter_enum he ?_
      have I2 : Inv X pins σ H1 { s1 with heap := h' } := I1.kept (t' := s1.toks) hk
      exact ⟨s1.heap.objs.size + 1, [s1.heap.objs.size + 1, s1.heap.objs.size], _, _, H1, rfl, I2, turn_enum a (s1.heap.objs.size + 1) s1.heap.objs.size, ⟨⟨.none, he⟩, hit, Nat.succ_ne_self _⟩, fun b hb => I1.fpOk (fpOk b hb) (I1.hok.fresh (fpOk b hb)), q⟩
  · subst ex
    cases r1 with
    | cons r rr =>
      cases rr
      cases r
      obtain ⟨its, rv, p', hz⟩ := I1.tuple hq
      have hal : a < s1.heap.objs.size := by obtain ⟨o, q, _⟩ := p'; exact Heap.lt_size q
      refine PySem.W.en_begins (begins_tuple a its.toArray) p' fun h' he hit hk => wpAny_pyIter_enum he ?_
      have I2 : Inv X pins σ H1 { s1 with heap := h' } := I1.kept (t' := s1.toks) hk
      exact ⟨s1.heap.objs.size + 1, [s1.heap.objs.size + 1, s1.heap.objs.size], _, _, H1, rfl, I2, turn_enumT a (s1.heap.objs.size + 1) s1.heap.objs.size xs.length (Nat.ne_of_lt hal) (Nat.ne_of_lt (Nat.lt_succ_of_lt hal)), ⟨⟨.none, he⟩, ⟨_, hit, rfl, rfl⟩, Nat.succ_ne_self _, Nat.zero_le _⟩, fun b hb => I1.fpOk (fpOk b hb) (I1.hok.fresh (fpOk b hb)), q⟩
  · subst ex
    cases r1 with
    | cons r rr =>
      cases rr
      obtain ⟨t, rfl⟩ := r
      refine PySem.W.en_begins (begins_text x t) trivial fun h' he hit hk => wpAny_pyIter_enum he ?_
      have I2 : Inv X pins σ H1 { s1 with heap := h' } := I1.kept (t' := s1.toks) hk
      exact ⟨s1.heap.objs.size + 1, [s1.heap.objs.size + 1, s1.heap.objs.size], _, _, H1, rfl, I2, turn_enumS x t (s1.heap.objs.size + 1) s1.heap.objs.size, ⟨⟨.none, he⟩, ⟨_, hit, rfl, rfl⟩, Nat.succ_ne_self _, Nat.zero_le _⟩, fun b hb => I1.fpOk (fpOk b hb) (I1.hok.fresh (fpOk b hb)), q⟩
end PV
set_option Elab.async false
set_option linter.all false
set_option maxRecDepth 100000
set_option maxHeartbeats 1000000
/-! PV15: what is walked, further. -/
namespace PV
open PySem PySem.Spec PyProof.Rows L2
section
variable {J : Info} {fs : List Fn} {ca : Nat → Addr} {k : Nat} {N : List Str} {sc : Scope} {W : WX} {X : Cx} {S : List Nat} {tg : Expr}
theorem si_r3 {a b c : E} {x y z : Expr} {p1 p2 : Pos} (C : Cxt J fs ca k N sc W X) (g1 : glB sc ("range" : Str) = true) (px : plainX x = true) (py : plainX y = true) (pz : plainX z = true) (ia : SE ca fs k S W X a x) (ib : SE ca fs k S W X b y) (ic : SE ca fs k S W X c z) : SI ca fs k S W X tg (.r3 a b c) (.Call (.Name "range" p1) [x, y, z] [] p2) := by
  refine (pi_range3 (gl_of C g1) (C.blt _ (by decide +kernel)) (pa_cons ia (pa_cons ib (pa_cons ic pa_nil (star_of pz)) (star_of py)) (star_of px)) (star_of px) (back_of (xs := [y, z]) (by simp [plainAllX, py, pz]))).weaken fun σ H R ⟨ρ, A, rep, q⟩ => ?_
  simp only [evi] at q
  refine tS_first rep (Stp.refl _ _) rep q fun r1 ρ1 v1 H1 A1 r1' s1 rv1 ef1 q => ?_
  refine tS_first rep s1 r1' q fun r2 ρ2 v2 H2 A2 r2' s2 rv2 ef2 q => ?_
  have s12 := Stp.trans rep s1 s2
  refine tS_first rep s12 r2' q fun r3 ρ3 v3 H3 A3 r3' s3 rv3 ef3 q => ?_
  obtain ⟨o1, d1⟩ := r1
  obtain ⟨o2, d2⟩ := r2
  obtain ⟨o3, d3⟩ := r3
  obtain ⟨as, e1, n1⟩ := rv1.any
  obtain ⟨bs, e2, n2⟩ := rv2.any
  obtain ⟨cs, e3, n3⟩ := rv3.any
  dsimp only at q e1 e2 e3
  cases d1 <;> try (exact q.elim)
  cases d2 <;> try (exact q.elim)
  cases d3 <;> try (exact q.elim)
  simp only [asInt, bind_ok] at q
  obtain ⟨hk, q⟩ := RG.ite q
  simp only [Bool.and_eq_true, decide_eq_true_eq] at hk
  refine ⟨_, _, _, _, by rw [e1.int_inv, e2.int_inv, e3.int_inv], ⟨hk.2.1, by have := hk.2.2; omega, hk.1, PyProof.Rows.rangeSize_toNat _ _ _⟩, q _ H3 A3 [] r3' (Stp.trans rep s12 s3) (it_rngc _ _ _) (fun _ h => by simp at h) (fun _ h => by simp at h) fun e => ?_⟩
  simp only [effi, Bool.or_eq_false_iff] at e
  obtain ⟨q1, m1⟩ := ef1 e.1.1
  obtain ⟨q2, m2⟩ := ef2 e.1.2
  obtain ⟨q3, m3⟩ := ef3 e.2
  exact ⟨q3.trans (q2.trans q1), (m1.trans m2).trans m3⟩
theorem si_enum {a : E} {x : Expr} {p1 p2 p3 : Pos} {es : List Expr} {kk : Nat} (C : Cxt J fs ca k N sc W X) (g1 : glB sc ("enumerate" : Str) = true) (px : plainX x = true) (ia : SE ca fs k S W X a x) : SI ca fs k S W X (.Tuple es kk p3) (.enum a) (.Call (.Name "enumerate" p1) [x] [] p2) := by
  refine (pi_enumX (gl_of C g1) (C.blt _ (by decide +kernel)) (pa_cons ia pa_nil (star_of px)) (star_of px)).weaken fun σ H R ⟨ρ, A, rep, q⟩ => ?_
  simp only [evi] at q
  refine tS_first rep (Stp.refl _ _) rep q fun r1 ρ1 v1 H1 A1 r1' s1 rv1 ef1 q => ?_
  obtain ⟨b, d⟩ := r1
  obtain ⟨as, d1, n1⟩ := rv1.any
  dsimp only at q d1
  cases d <;> try (exact q.elim)
  · cases d1
    exact .inr (.inr ⟨_, rfl, q _ H1 A1 [] r1' s1 (it_enumS _) (fun _ h => by simp at h) (fun _ h => by simp at h) ef1⟩)
  · obtain ⟨a, vs, bs, e, r3, h3, e3⟩ := d1.list_inv
    subst e3 e
    exact .inl ⟨a, vs, rfl, SqL.of h3, q _ H1 A1 (a :: bs) r1' s1 (it_enum h3 r3) n1 (trk_cons h3 r3.trk) ef1⟩
  · obtain ⟨a, vs, e, h3, r3⟩ := d1.tuple_inv
    subst e
    exact .inr (.inl ⟨a, vs, rfl, h3, q _ H1 A1 as r1' s1 (it_enumT h3 r3) n1 r3.trk ef1⟩)
theorem si_zip {a b : E} {x y : Expr} {p1 p2 p3 : Pos} {es : List Expr} {kk : Nat} (C : Cxt J fs ca k N sc W X) (g1 : glB sc ("zip" : Str) = true) (px : plainX x = true) (py : plainX y = true) (ia : SE ca fs k S W X a x) (ib : SE ca fs k S W X b y) : SI ca fs k S W X (.Tuple es kk p3) (.zip a b) (.Call (.Name "zip" p1) [x, y] [] p2) := by
  refine (RZ.pi_zipA (gl_of C g1) (C.blt _ (by decide +kernel)) (pa_cons ia (pa_cons ib pa_nil (star_of py)) (star_of px)) (star_of px) (back_of (xs := [y]) (by simp [plainAllX, py]))).weaken fun σ H R ⟨ρ, A, rep, q⟩ => ?_
  simp only [evi] at q
  refine tS_first rep (Stp.refl _ _) rep q fun r1 ρ1 v1 H1 A1 r1' s1 rv1 ef1 q => ?_
  refine tS_first rep s1 r1' q fun r2 ρ2 v2 H2 A2 r2' s2 rv2 ef2 q => ?_
  dsimp only at q
  obtain ⟨hk, q⟩ := RG.ite q
  have rv1' := RVal.later rep s1 r1' s2 ef2 hk rv1
  obtain ⟨as, e1, n1⟩ := rv1'.any
  obtain ⟨bs, e2, n2⟩ := rv2.any
  have st := Stp.trans rep s1 s2
  have ef : (effi (.zip a b) = false → A2 = A ∧ Same H H2) := fun e => by
    simp only [effi, Bool.or_eq_false_iff] at e
    obtain ⟨q1, m1⟩ := ef1 e.1
    obtain ⟨q2, m2⟩ := ef2 e.2
    exact ⟨q2.trans q1, m1.trans m2⟩
  have n1' := avoid_mono (vs := varsi (.zip a b)) n1 fun i hi => List.mem_append_left _ hi
  have n2' := avoid_mono (vs := varsi (.zip a b)) n2 fun i hi => List.mem_append_right _ hi
  obtain ⟨o1, d1⟩ := r1
  obtain ⟨o2, d2⟩ := r2
  dsimp only at q e1 e2
  cases d1 <;> cases d2 <;> try (exact q.elim)
  · obtain ⟨a, vs, as', e, r3, h3, e3⟩ := e1.list_inv
    subst e3 e
    obtain ⟨b, ws, bs', e, r4, h4, e4⟩ := e2.list_inv
    subst e4 e
    refine ⟨a, b, vs, ws, rfl, .inl ⟨SqL.of h3, SqL.of h4, q _ H2 A2 _ r2' st (it_zipL h3 r3 h4 r4) (fun c hc => (List.mem_append.mp hc).elim (n1' c) (n2' c)) (fun c hc => (List.mem_append.mp hc).elim (trk_cons h3 r3.trk c) (trk_cons h4 r4.trk c)) ef⟩⟩
  · obtain ⟨a, vs, e, h3, r3⟩ := e1.tuple_inv
    subst e
    obtain ⟨b, ws, e, h4, r4⟩ := e2.tuple_inv
    subst e
    refine ⟨a, b, vs, ws, rfl, .inr ⟨h3, h4, q _ H2 A2 _ r2' st (it_zipT h3 r3 h4 r4) (fun c hc => (List.mem_append.mp hc).elim (n1' c) (n2' c)) (fun c hc => (List.mem_append.mp hc).elim (r3.trk c) (r4.trk c)) ef⟩⟩
end
end PV
set_option Elab.async false
set_option linter.all false
set_option maxRecDepth 100000
set_option maxHeartbeats 1000000
/-! PV16: targets; a comprehension's turn. -/
namespace PV
open PySem PySem.Spec PyProof.Rows L2
def Own.wip (A : Own) (vs : List Nat) : Own := ⟨fun i => if i ∈ vs then [] else A i, A.fr⟩
theorem Own.wip_in {A : Own} {vs : List Nat} {i : Nat} (h : i ∈ vs) : (A.wip vs) i = [] := if_pos h
theorem Own.wip_out {A : Own} {vs : List Nat} {i : Nat} (h : i ∉ vs) : (A.wip vs) i = A i := if_neg h
theorem Own.wip_sub {A : Own} {vs : List Nat} {i : Nat} {a : Addr} (h : a ∈ (A.wip vs) i) : a ∈ A i := by
  by_cases hi : i ∈ vs
  · rw [Own.wip_in hi] at h; simp at h
  · rwa [Own.wip_out hi] at h
theorem Own.wip_self {A : Own} {vs : List Nat} (h : ∀ i ∈ vs, A i = []) : A.wip vs = A := by
  have : (fun i => if i ∈ vs then [] else A i) = A.sl := by
    funext i
    by_cases hi : i ∈ vs
    · rw [if_pos hi]; exact (h i hi).symm
    · rw [if_neg hi]
  unfold Own.wip
  rw [this]
section
variable {K : PySem.W.Frag} {S : List Nat} {σ σ2 : L2.St} {ρ ρ2 : PV.Env} {H H' : Hp} {A : Own}
theorem wipe_get {ρ : PV.Env} {i : Nat} : ∀ {vs : List Nat}, PV.get (PV.wipe ρ vs) i = if i ∈ vs then none else PV.get ρ i
  | [] => by simp [PV.wipe]
  | v :: vs => by
    unfold PV.wipe
    rw [get_set, wipe_get (vs := vs)]
    by_cases h : v = i
    · subst h
      by_cases hl : v < (PV.wipe ρ vs).length
      · rw [if_pos ⟨rfl, hl⟩, if_pos List.mem_cons_self]
      · rw [if_neg (fun q => hl q.2), if_pos List.mem_cons_self]
        by_cases hv : v ∈ vs
        · rw [if_pos hv]
        · rw [if_neg hv]
          have hl' : ¬ v < ρ.length := by
            intro q
            apply hl
            clear hl hv
            induction vs with
            | nil => exact q
            | cons w ws ih => unfold PV.wipe; rw [List.length_set]; exact ih
          cases e : PV.get ρ v with
          | none => rfl
          | some c => exact absurd (get_lt e) hl'
    · rw [if_neg (fun q => h q.1)]
      by_cases hv : i ∈ vs
      · rw [if_pos hv, if_pos (List.mem_cons_of_mem _ hv)]
      · rw [if_neg hv, if_neg]
        intro q
        rcases List.mem_cons.mp q with e | q
        · exact h e.symm
        · exact hv q
theorem wipe_len (ρ : PV.Env) : ∀ vs : List Nat, (PV.wipe ρ vs).length = ρ.length
  | [] => rfl
  | v :: vs => by unfold PV.wipe; rw [List.length_set, wipe_len ρ vs]
/-- fewer names, fewer lists owned -/
theorem Stp.wip (s : Stp H A H' A2) (vs : List Nat) : Stp H A H' (A2.wip vs) := ⟨fun a ⟨i, hi⟩ => s.own a ⟨i, Own.wip_sub hi⟩, s.keep, s.the, s.fr, s.fro⟩
/-- names are forgotten -/
theorem Rep.wip (rep : Rep K H S σ ρ A) (vs : List Nat) (hl : σ.length = σ2.length) (hs : ∀ i, i ∉ vs → σ2[i]? = σ[i]?) (hg : ∀ i, PV.get ρ2 i = if i ∈ vs then none else PV.get ρ i) (hρ : ρ2.length = ρ.length) : Rep K H S σ2 ρ2 (A.wip vs) where
  cell := fun i c h => by
    rw [hg] at h
    by_cases hi : i ∈ vs
    · rw [if_pos hi] at h; cases h
    · rw [if_neg hi] at h
      obtain ⟨v, e, ok⟩ := rep.cell i c h
      refine ⟨v, by rw [hs i hi]; exact e, ?_⟩
      cases c with
      | own d => show DpR K H v d ((A.wip vs) i) ∧ _; rw [Own.wip_out hi]; exact ok
      | fz d => exact ok
      | bor d =>
        obtain ⟨as, h1, h2⟩ := ok
        exact ⟨as, h1, fun a ha j hj q => h2 a ha j hj (Own.wip_sub q)⟩
      | scr l => exact ok
  disj := fun i j a h1 h2 => rep.disj i j a (Own.wip_sub h1) (Own.wip_sub h2)
  trk := fun i a h => rep.trk i a (Own.wip_sub h)
  fdis := fun a h ⟨i, hi⟩ => rep.fdis a h ⟨i, Own.wip_sub hi⟩
  ftrk := rep.ftrk
  emp := fun i hil h => by
    by_cases hi : i ∈ vs
    · exact Own.wip_in hi
    · rw [Own.wip_out hi]
      refine rep.emp i (by rwa [hρ] at hil) fun d e => h d ?_
      rw [hg, if_neg hi]
      exact e
  len := by rw [hρ, ← hl]; exact rep.len
/-- more names to borrow from -/
theorem Rep.more {S' : List Nat} (rep : Rep K H S σ ρ A) (h : ∀ i ∈ S, i ∈ S') : Rep K H S' σ ρ A where
  cell := fun i c e => by
    obtain ⟨v, e, ok⟩ := rep.cell i c e
    refine ⟨v, e, ?_⟩
    cases c with
    | bor d =>
      obtain ⟨as, h1, h2⟩ := ok
      exact ⟨as, h1, fun a ha j hj => h2 a ha j fun q => hj (h j q)⟩
    | _ => exact ok
  disj := rep.disj
  trk := rep.trk
  fdis := rep.fdis
  ftrk := rep.ftrk
  emp := rep.emp
  len := rep.len
/-- a name takes a thing -/
theorem Rep.put {i : Nat} {v : V} {c : Cell} {as : List Addr} (rep : Rep K H S σ ρ A) (ok : CellOk K H S (A.put i as) i v c) (own : (∀ d, c ≠ .own d) → as = []) (hb : as = [] ∨ noBor ρ = true) (hd : ∀ a ∈ as, ∀ j, j ≠ i → a ∉ A j) (ht : ∀ a ∈ as, ∃ xs, H a = some (.lst xs)) (hf : ∀ a ∈ as, a ∉ A.fr)
    (hl : i < ρ.length) : Rep K H S (σ.set i (some v)) (ρ.set i (some c)) (A.put i as) where
  cell := fun j c' h => by
    rw [get_set] at h
    by_cases hj : i = j
    · subst hj
      rw [if_pos ⟨rfl, hl⟩] at h
      cases h
      exact ⟨v, by rw [List.getElem?_set_self (Nat.lt_of_lt_of_le hl rep.len)], ok⟩
    · rw [if_neg (fun q => hj q.1)] at h
      obtain ⟨u, e, k⟩ := rep.cell j c' h
      refine ⟨u, by rw [List.getElem?_set_ne hj]; exact e, ?_⟩
      cases c' with
      | own d => show DpR K H u d ((A.put i as) j) ∧ _; rw [Own.put_ne _ _ (Ne.symm hj)]; exact k
      | fz d => exact k
      | bor d =>
        rcases hb with z | z
        · obtain ⟨bs, h1, h2⟩ := k
          refine ⟨bs, h1, fun a ha l hl q => ?_⟩
          by_cases hli : l = i
          · rw [hli, Own.put_same, z] at q; simp at q
          · rw [Own.put_ne _ _ hli] at q
            exact h2 a ha l hl q
        · exact absurd (noBor_get z h) (fun z => Bool.noConfusion z)
      | scr l => exact k
  disj := fun j l a h1 h2 => by
    by_cases hj : j = i
    · by_cases hl : l = i
      · rw [hj, hl]
      · rw [hj, Own.put_same] at h1
        rw [Own.put_ne _ _ hl] at h2
        exact absurd h2 (hd a h1 l hl)
    · by_cases hl : l = i
      · rw [hl, Own.put_same] at h2
        rw [Own.put_ne _ _ hj] at h1
        exact absurd h1 (hd a h2 j hj)
      · rw [Own.put_ne _ _ hj] at h1
        rw [Own.put_ne _ _ hl] at h2
        exact rep.disj j l a h1 h2
  trk := fun j a h => by
    by_cases hj : j = i
    · rw [hj, Own.put_same] at h; exact ht a h
    · rw [Own.put_ne _ _ hj] at h; exact rep.trk j a h
  fdis := fun a h ⟨j, hj⟩ => by
    by_cases hji : j = i
    · rw [hji, Own.put_same] at hj; exact hf a hj h
    · rw [Own.put_ne _ _ hji] at hj; exact rep.fdis a h ⟨j, hj⟩
  ftrk := rep.ftrk
  emp := fun j hjl h => by
    by_cases hj : j = i
    · rw [hj, Own.put_same]
      refine own fun d e => ?_
      rw [hj] at h
      exact h d (by rw [get_set, if_pos ⟨rfl, hl⟩, e])
    · rw [Own.put_ne _ _ hj]
      refine rep.emp j (by rwa [List.length_set] at hjl) fun d e => h d ?_
      rw [get_set, if_neg (fun q => hj q.1.symm)]
      exact e
  len := by rw [List.length_set, List.length_set]; exact rep.len
/-- .. where there is no such name, nothing -/
theorem Rep.putNo {i : Nat} {v : V} {c : Cell} (rep : Rep K H S σ ρ A) (hl : ¬ i < ρ.length) : Rep K H S (σ.set i (some v)) (ρ.set i (some c)) (A.put i []) := by
  have hs : ρ.set i (some c) = ρ := List.set_eq_of_length_le (by omega)
  have hA : A.put i [] = A.wip [i] := by
    have : (fun j => if j = i then [] else A j) = fun j => if j ∈ [i] then [] else A j := by
      funext j
      by_cases hj : j = i
      · rw [if_pos hj, if_pos (by simp [hj])]
      · rw [if_neg hj, if_neg (by simp [hj])]
    unfold Own.put Own.wip
    rw [this]
  rw [hs, hA]
  refine rep.wip [i] (by rw [List.length_set]) (fun j hj => ?_) (fun j => ?_) rfl
  · have hj' : j ≠ i := by simpa using hj
    rw [List.getElem?_set_ne (Ne.symm hj')]
  · by_cases hj : j ∈ [i]
    · rw [if_pos hj]
      have hj' : j = i := by simpa using hj
      cases e : PV.get ρ j with
      | none => rfl
      | some c => exact absurd (by rw [← hj']; exact get_lt e) hl
    · rw [if_neg hj]
end
end PV
set_option Elab.async false
set_option linter.all false
set_option maxRecDepth 100000
set_option maxHeartbeats 1000000
/-! PV17: targets. -/
namespace PV
open PySem PySem.Spec PyProof.Rows L2
theorem Own.ext' {A B : Own} (h : ∀ j, A j = B j) (f : A.fr = B.fr) : A = B := by
  cases A; cases B
  have : _ = _ := funext h
  dsimp only at f this
  subst f
  cases this
  rfl
/-- a tree with the lists at as may be held so -/
def KOk (K : PySem.W.Frag) (H : Hp) (S : List Nat) (A : Own) (kc : D → Cell) (as : List Addr) : Prop := ∀ i v d as', DpR K H v d as' → (∀ a ∈ as', a ∈ as) → CellOk K H S A i v (kc d)
theorem kok_bor {K : PySem.W.Frag} {H : Hp} {S : List Nat} {A : Own} {as : List Addr} (h : ∀ a ∈ as, ∀ j, j ∉ S → a ∉ A j) : KOk K H S A .bor as := fun i v d as' r s => ⟨as', r, fun a ha => h a (s a ha)⟩
theorem kok_fz {K : PySem.W.Frag} {H : Hp} {S : List Nat} {A : Own} {as : List Addr} (h : ∀ a ∈ as, a ∈ A.fr) : KOk K H S A .fz as := fun i v d as' r s => ⟨as', r, fun a ha => h a (s a ha)⟩
def gs : List Nat → TGs
  | [] => gNil
  | i :: is => gCons (gName i) (gs is)
section
variable {K : PySem.W.Frag} {S : List Nat} {H : Hp} {kc : D → Cell}
theorem put_one {σ : L2.St} {ρ : PV.Env} {A : Own} {i : Nat} {v : V} {d : D} {as' as : List Addr} (hk : ∀ d d', kc d ≠ .own d') (rep : Rep K H S σ ρ A) (r : DpR K H v d as') (s : ∀ a ∈ as', a ∈ as) (ko : ∀ B : Own, (∀ j a, a ∈ B j → a ∈ A j) → B.fr = A.fr → KOk K H S B kc as) :
    Rep K H S (σ.set i (some v)) (ρ.set i (some (cellOf kc d))) (A.wip [i]) := by
  have hA : A.wip [i] = A.put i [] := Own.ext' (fun j => by
    by_cases hj : j = i
    · rw [Own.wip_in (by simp [hj]), hj, Own.put_same]
    · rw [Own.wip_out (by simp [hj]), Own.put_ne _ _ hj]) rfl
  rw [hA]
  by_cases hl : i < ρ.length
  · refine rep.put ?_ (fun _ => rfl) (.inl rfl) (fun a h => by simp at h) (fun a h => by simp at h) (fun a h => by simp at h) hl
    unfold cellOf
    by_cases hi : imm d = true
    · rw [if_pos hi]
      have := r.imm hi
      subst this
      show DpR K H v d ((A.put i []) i) ∧ ((A.put i []) i).Nodup
      rw [Own.put_same]
      exact ⟨r, .nil⟩
    · rw [if_neg hi]
      refine ko (A.put i []) (fun j a h => ?_) rfl i v d as' r s
      by_cases hj : j = i
      · rw [hj, Own.put_same] at h; simp at h
      · rwa [Own.put_ne _ _ hj] at h
  · exact rep.putNo hl
theorem put_all (hk : ∀ d d', kc d ≠ .own d') {as : List Addr} : ∀ {is : List Nat} {vs : List V} {ds : List D} {as' : List Addr} {σ : L2.St} {ρ ρ1 : PV.Env} {A : Own} {Q : L2.St → Hp → Prop}, Rep K H S σ ρ A → DpRs K H vs ds as' → (∀ a ∈ as', a ∈ as) → (∀ B : Own, (∀ j a, a ∈ B j → a ∈ A j) → B.fr = A.fr → KOk K H S B kc as) →
    putAll ρ is (ds.map (cellOf kc)) = some ρ1 → (∀ σ2, Rep K H S σ2 ρ1 (A.wip is) → (∀ j, j ∉ is → σ2[j]? = σ[j]?) → σ2.length = σ.length → Q σ2 H) → gs is vs σ H Q
  | [], _, _, _, σ, ρ, ρ1, A, Q, rep, .nil, s, ko, h, q => by
    simp only [List.map_nil, putAll] at h
    cases h
    refine ⟨rfl, q σ ?_ (fun _ _ => rfl) rfl⟩
    rwa [Own.wip_self (by simp)]
  | [], _, _, _, σ, ρ, ρ1, A, Q, rep, .cons _ _, s, ko, h, q => by simp [putAll] at h
  | i :: is, _, _, _, σ, ρ, ρ1, A, Q, rep, .nil, s, ko, h, q => by simp [putAll] at h
  | i :: is, _, _, _, σ, ρ, ρ1, A, Q, rep, .cons (v := v) (vs := vs) (d := d) (ds := ds) r rs, s, ko, h, q => by
    simp only [List.map_cons, putAll] at h
    refine ⟨v, vs, rfl, ?_⟩
    have r1 := put_one (i := i) hk rep r (fun a ha => s a (List.mem_append_left _ ha)) ko
    refine put_all hk r1 rs (fun a ha => s a (List.mem_append_right _ ha)) (fun B hB hf => ko B (fun j a ha => Own.wip_sub (hB j a ha)) hf) h fun σ2 r2 o2 l2 => q σ2 ?_ (fun j hj => ?_) (by rw [l2, List.length_set])
    · have e : (A.wip [i]).wip is = A.wip (i :: is) := Own.ext' (fun j => by
        by_cases h1 : j ∈ is
        · rw [Own.wip_in h1, Own.wip_in (List.mem_cons_of_mem _ h1)]
        · rw [Own.wip_out h1]
          by_cases h2 : j = i
          · rw [Own.wip_in (by simp [h2]), Own.wip_in (by simp [h2])]
          · rw [Own.wip_out (by simp [h2]), Own.wip_out (by simp [h1, h2])]) rfl
      rwa [e] at r2
    · have hj' : j ≠ i ∧ j ∉ is := by simpa using hj
      rw [o2 j hj'.2, List.getElem?_set_ne (Ne.symm hj'.1)]
def tTg (K : PySem.W.Frag) (S : List Nat) (kc : D → Cell) (tgt : List Nat) (single : Bool) : TG := fun v σ H Q => ∃ ρ A d as ρ1, Rep K H S σ ρ A ∧ DpR K H v d as ∧ (∀ B : Own, (∀ j a, a ∈ B j → a ∈ A j) → B.fr = A.fr → KOk K H S B kc as) ∧ bindT kc tgt single d ρ = .ok ρ1 ∧
  ∀ σ2, Rep K H S σ2 ρ1 (A.wip tgt) → (∀ j, j ∉ tgt → σ2[j]? = σ[j]?) → σ2.length = σ.length → Q σ2 H
end
section
variable {J : Info} {fs : List Fn} {ca : Nat → Addr} {k : Nat} {N : List Str} {sc : Scope} {W : WX} {X : Cx} {S : List Nat}
theorem _root_.L2.PG.weaken {X : Cx} {e : Expr} {t t' : TG} (h : PG X e t) (w : ∀ v σ H Q, t' v σ H Q → t v σ H Q) : PG X e t' := ⟨fun pins s σ H v u Q I r q => h.run pins s σ H v u Q I r (w v σ H Q q)⟩
theorem pg_nm {fn : Str → Bool} {x : Expr} {i : Nat} (C : Cxt J fs ca k N sc W X) (hfn : ∀ y, fn y = true → X.fn y = true) (h : tgtB fn N sc x i = true) : PG X x (gName i) := by
  unfold tgtB at h
  split at h
  · rename_i y p
    simp only [Bool.and_eq_true, decide_eq_true_eq] at h
    obtain ⟨⟨h1, h2⟩, _⟩ := h
    split at h2
    · rename_i e
      rw [← C.sc] at e
      exact pg_name C.nd (by rw [C.N]; exact h1) (.inl e) (.inr e)
    · rename_i e
      rw [← C.sc] at e
      exact pg_name C.nd (by rw [C.N]; exact h1) (.inr e) (.inl (hfn _ h2))
    · cases h2
  · cases h
theorem pgs_nm {fn : Str → Bool} (C : Cxt J fs ca k N sc W X) (hfn : ∀ y, fn y = true → X.fn y = true) : ∀ {xs : List Expr} {is : List Nat}, tgtsB fn N sc xs is = true → PGs X xs (gs is) ∧ (assignEach xs X.env).length = is.length ∧ (assignEach xs X.env).findIdx? (·.1) = none
  | [], [], _ => ⟨pgs_nil, rfl, rfl⟩
  | [], _ :: _, h => by simp [tgtsB] at h
  | _ :: _, [], h => by simp [tgtsB] at h
  | x :: xs, i :: is, h => by
    simp only [tgtsB, Bool.and_eq_true] at h
    obtain ⟨g, l, f⟩ := pgs_nm C hfn h.2
    have g1 := pg_nm C hfn h.1
    have hx : ∃ y p, x = .Name y p := by
      have := h.1
      unfold tgtB at this
      split at this
      · exact ⟨_, _, rfl⟩
      · cases this
    obtain ⟨y, p, e⟩ := hx
    subst e
    have ea : assignEach (.Name y p :: xs) X.env = (false, assign (.Name y p) X.env) :: assignEach xs X.env := rfl
    refine ⟨pgs_cons g1 g rfl, by rw [ea, List.length_cons, List.length_cons, l], ?_⟩
    rw [ea, List.findIdx?_cons]
    simp only [Bool.false_eq_true, if_false, f, Option.map_none]
theorem pg_tgt {fn : Str → Bool} {kc : D → Cell} {t : Expr} {tgt : List Nat} {single : Bool} (hk : ∀ d d', kc d ≠ .own d') (C : Cxt J fs ca k N sc W X) (hfn : ∀ y, fn y = true → X.fn y = true) (h : targetB fn N sc t tgt single = true) : PG X t (tTg X.K S kc tgt single) := by
  unfold targetB at h
  split at h
  · rename_i hs
    split at h
    · rename_i i
      refine (pg_nm C hfn h).weaken fun v σ H Q ⟨ρ, A, d, as, ρ1, rep, r, ko, hb, q⟩ => ?_
      unfold bindT at hb
      rw [if_pos hs] at hb
      cases hb
      refine q _ (put_one hk rep r (fun _ h => h) ko) (fun j hj => ?_) (by rw [List.length_set])
      have hj' : j ≠ i := by simpa using hj
      rw [List.getElem?_set_ne (Ne.symm hj')]
    · cases h
  · rename_i hs
    split at h
    · obtain ⟨g, l, f⟩ := pgs_nm C hfn h
      refine (pg_tup C.calm g l f).weaken fun v σ H Q ⟨ρ, A, d, as, ρ1, rep, r, ko, hb, q⟩ => ?_
      unfold bindT at hb
      rw [if_neg hs] at hb
      cases d with
      | tuple ds =>
        obtain ⟨a, vs, e, h3, r3⟩ := r.tuple_inv
        dsimp only at hb
        split at hb
        · rename_i ρ' hp
          cases hb
          refine ⟨a, vs, e, h3, ?_, put_all hk rep r3 (fun _ h => h) ko hp q⟩
          rw [r3.length]
          have len : ∀ {is : List Nat} {cs : List Cell} {ρ ρ' : PV.Env}, putAll ρ is cs = some ρ' → cs.length = is.length := by
            intro is
            induction is with
            | nil => intro cs ρ ρ' h; cases cs <;> simp [putAll] at h ⊢
            | cons i is ih => intro cs ρ ρ' h; cases cs <;> simp [putAll] at h ⊢; exact ih h
          have := len hp
          rwa [List.length_map] at this
        · cases hb
      | _ => cases hb
    · cases h
end
end PV
set_option Elab.async false
set_option linter.all false
set_option maxRecDepth 100000
set_option maxHeartbeats 1000000
/-! PV18: a comprehension's turn. -/
namespace PV
open PySem PySem.Spec PyProof.Rows L2
theorem bind_inv {α β : Type} {x : Res α} {f : α → Res β} {b : β} (h : (x >>= f) = .ok b) : ∃ a, x = .ok a ∧ f a = .ok b := by
  cases x with
  | ok a => exact ⟨a, rfl, h⟩
  | exc c k p => cases h
  | stuck => cases h
def turnE (cf : CF) (elt : E) (cnd : Es) (tgt : List Nat) (single : Bool) : D → PV.Env → Res (Option R × PV.Env) := fun d σ => do
  let σ1 ← bindT .bor tgt single d σ
  let (c, σ2) ← tests cf cnd σ1
  if c then
    let (r, σ3) ← ev cf elt σ2
    .ok (some r, σ3)
  else .ok (none, σ2)
abbrev WF : WX := fun _ _ _ _ => False
def tTests (K : PySem.W.Frag) (ca : Nat → Addr) (cf : CF) (S : List Nat) : Es → TT
  | .nil => tYes
  | .cons e _ => tT K ca cf S WF e
theorem wipe_in {σ : L2.St} {i : Nat} : ∀ {vs : List Nat}, i ∈ vs → (L2.wipe σ vs)[i]? = if i < σ.length then some none else none
  | v :: vs, h => by
    unfold L2.wipe
    by_cases e : v = i
    · subst e
      by_cases hl : v < (L2.wipe σ vs).length
      · rw [List.getElem?_set_self hl, if_pos (by rwa [wipe_length] at hl)]
      · rw [List.getElem?_eq_none (by simpa using hl), if_neg (by rwa [wipe_length] at hl)]
    · rw [List.getElem?_set_ne e]
      rcases List.mem_cons.mp h with q | q
      · exact absurd q.symm e
      · exact wipe_in q
theorem wipe_eq {σ σ2 : L2.St} {vs : List Nat} (h : ∀ j, j ∉ vs → σ2[j]? = σ[j]?) (l : σ2.length = σ.length) : L2.wipe σ2 vs = L2.wipe σ vs := by
  apply List.ext_getElem?
  intro j
  by_cases hj : j ∈ vs
  · rw [wipe_in hj, wipe_in hj, l]
  · rw [wipe_out hj, wipe_out hj, h j hj]
theorem RVal.wip {K : PySem.W.Frag} {H H' : Hp} {A A' : Own} {us vs : List Nat} {v : V} {r : R} (h : RVal K H A H' A' us v r) : RVal K H A H' (A'.wip vs) us v r := by
  rcases h with ⟨e, as, h1, h2, h3, h4⟩ | ⟨e, as, h1, h2⟩
  · exact .inl ⟨e, as, h1, h2, fun a ha => ⟨fun ⟨i, hi⟩ => (h3 a ha).1 ⟨i, Own.wip_sub hi⟩, (h3 a ha).2⟩, h4⟩
  · exact .inr ⟨e, as, h1, fun a ha i hi q => h2 a ha i hi (Own.wip_sub q)⟩
section
variable {K : PySem.W.Frag} {ca : Nat → Addr} {cf : CF} {S : List Nat}
theorem turn_lem {own tgt : List Nat} {single : Bool} {elt : E} {cnd : Es} {d : D} {ρw ρ' : PV.Env} {o : Option R} {σ : L2.St} {H : Hp} {A : Own} {v : V} {as : List Addr} {P : V → Hp → Prop} {Nn : Hp → Prop} (one : ∀ e r, cnd = .cons e r → r = .nil)
    (rep : Rep K H S (L2.wipe σ own) ρw A) (ow : ∀ i ∈ own, A i = []) (dp : DpR K H v d as) (ko : ∀ a ∈ as, ∀ j, j ∉ S → a ∉ A j) (tg : ∀ i ∈ tgt, i ∈ own) (hb : turnE cf elt cnd tgt single d ρw = .ok (o, ρ'))
    (hP : ∀ r y H4 A4, o = some r → Rep K H4 S (L2.wipe σ own) (PV.wipe ρ' own) A4 → (∀ i ∈ own, A4 i = []) → Stp H A H4 A4 → RVal K H A H4 A4 (vars elt ++ S) y r → ((eff elt || effs cnd) = false → A4 = A ∧ Same H H4) → P y H4)
    (hN : ∀ H3 A3, o = none → Rep K H3 S (L2.wipe σ own) (PV.wipe ρ' own) A3 → (∀ i ∈ own, A3 i = []) → Stp H A H3 A3 → ((eff elt || effs cnd) = false → A3 = A ∧ Same H H3) → Nn H3) :
    tTg K S .bor tgt single v (L2.wipe σ own) H fun σ2 H2 => L2.wipe σ2 own = L2.wipe σ own ∧ tTests K ca cf S cnd σ2 H2 fun b H3 => if b = true then tS K ca cf S WF elt σ2 H3 P else Nn H3 := by
  unfold turnE at hb
  obtain ⟨ρ1, e1, hb⟩ := bind_inv hb
  obtain ⟨⟨c, ρ2⟩, e2, hb⟩ := bind_inv hb
  dsimp only at hb
  refine ⟨ρw, A, d, as, ρ1, rep, dp, fun B hB _ => kok_bor fun a ha j hj q => ko a ha j hj (hB j a q), e1, fun σ2 r1 o1 l1 => ?_⟩
  have hA : A.wip tgt = A := Own.wip_self fun i hi => ow i (tg i hi)
  rw [hA] at r1
  have hw : L2.wipe σ2 own = L2.wipe σ own := by
    refine wipe_eq (fun j hj => ?_) (by rw [l1, wipe_length])
    rw [o1 j (fun q => hj (tg j q)), wipe_out hj]
  refine ⟨hw, ?_⟩
  have back : ∀ {H4 : Hp} {ρ4 : PV.Env} {A4 : Own}, Rep K H4 S σ2 ρ4 A4 → Rep K H4 S (L2.wipe σ own) (PV.wipe ρ4 own) (A4.wip own) := fun r => by
    refine r.wip own (by rw [l1]) (fun i hi => ?_) (fun i => wipe_get) (wipe_len _ _)
    rw [o1 i (fun q => hi (tg i q))]
  have same : ∀ {A4 : Own} {ef : Bool} {H4 : Hp}, (ef = false → A4 = A ∧ Same H H4) → ef = false → A4.wip own = A ∧ Same H H4 := fun h e => by
    obtain ⟨q, m⟩ := h e
    subst q
    exact ⟨Own.wip_self ow, m⟩
  -- the element
  have elem : ∀ {H3 : Hp} {A3 : Own}, Rep K H3 S σ2 ρ2 A3 → Stp H A H3 A3 → (effs cnd = false → A3 = A ∧ Same H H3) → if c = true then tS K ca cf S WF elt σ2 H3 P else Nn H3 := fun {H3 A3} r3 s3 ef3 => by
    cases c with
    | true =>
      simp only [if_true] at hb ⊢
      obtain ⟨⟨r, ρ3⟩, e3, hb⟩ := bind_inv hb
      cases hb
      refine ⟨ρ2, A3, r3, ?_⟩
      rw [e3]
      intro y H4 A4 r4 s4 rv4 ef4
      have st := Stp.trans rep s3 s4
      refine hP r y H4 (A4.wip own) rfl (back r4) (fun i hi => Own.wip_in hi) (st.wip own) (rv4.since rep s3).wip fun e => same (ef := (eff elt || effs cnd)) (fun e => ?_) e
      simp only [Bool.or_eq_false_iff] at e
      obtain ⟨q1, m1⟩ := ef3 e.2
      obtain ⟨q2, m2⟩ := ef4 e.1
      exact ⟨q2.trans q1, m1.trans m2⟩
    | false =>
      simp only [Bool.false_eq_true, if_false] at hb ⊢
      cases hb
      refine hN H3 (A3.wip own) rfl (back r3) (fun i hi => Own.wip_in hi) (s3.wip own) fun e => same (ef := (eff elt || effs cnd)) (fun e => ?_) e
      simp only [Bool.or_eq_false_iff] at e
      exact ef3 e.2
  cases cnd with
  | nil =>
    simp only [tests] at e2
    cases e2
    exact elem r1 (Stp.refl _ _) fun _ => ⟨rfl, Same.refl _⟩
  | cons e r =>
    have := one e r rfl
    subst this
    simp only [tests] at e2
    obtain ⟨⟨⟨ob, db⟩, ρx⟩, e4, e2⟩ := bind_inv e2
    obtain ⟨b, e5, e2⟩ := bind_inv e2
    have hd := bool_inv e5
    dsimp only at hd
    subst hd
    have hc : b = c ∧ ρx = ρ2 := by
      cases b
      · simp only [Bool.false_eq_true, if_false] at e2; cases e2; exact ⟨rfl, rfl⟩
      · simp only [if_true] at e2; cases e2; exact ⟨rfl, rfl⟩
    obtain ⟨hc1, hc2⟩ := hc
    subst hc1 hc2
    refine ⟨ρ1, A, r1, ?_⟩
    rw [e4]
    intro H3 A3 r3 s3 ef3
    refine elem r3 s3 fun e => ef3 ?_
    simp only [effs, Bool.or_eq_false_iff] at e
    exact e.1
end
end PV
set_option Elab.async false
set_option linter.all false
set_option maxRecDepth 100000
set_option maxHeartbeats 1000000
/-! PV19: freezing; lists in the making. -/
namespace PV
open PySem PySem.Spec PyProof.Rows L2
def Own.frz (A : Own) (vs : List Nat) (F : List Addr) : Own := ⟨(A.wip vs).sl, F ++ (vs.flatMap A.sl ++ A.fr)⟩
section
variable {K : PySem.W.Frag} {ca : Nat → Addr} {cf : CF} {S : List Nat} {W : WX} {σ : L2.St} {ρ ρ0 : PV.Env} {H H0 H1 : Hp} {A A0 : Own} {α : Type} {P : α → Prop}
theorem tIt_first {a : PV.It} {f : List D × PV.Env → Res α} {R1 : L2.It → Hp → Prop} (r0 : Rep K H0 S σ ρ0 A0) (s0 : Stp H0 A0 H A) (rep : Rep K H S σ ρ A) (h : RG K ca W σ H0 A0 P (evi cf a ρ >>= f))
    (hq : ∀ ds ρ1 J H1 A1 F, Rep K H1 S σ ρ1 A1 → Stp H A H1 A1 → ItFor K J H1 ds F → (∀ a' ∈ F, ∀ i, i ∉ varsi a ++ S → a' ∉ A1 i) → (∀ a' ∈ F, ∃ xs, H1 a' = some (.lst xs)) → (effi a = false → A1 = A ∧ Same H H1) → RG K ca W σ H0 A0 P (f (ds, ρ1)) → R1 J H1) : tIt K ca cf S W a σ H R1 := by
  refine ⟨ρ, A, rep, ?_⟩
  rcases e : evi cf a ρ with ⟨r, ρ1⟩ | ⟨c, k, p⟩ | _
  · rw [e] at h
    exact fun J H1 A1 F r1 s1 it av tr ef1 => hq r ρ1 J H1 A1 F r1 s1 it av tr ef1 h
  · rw [e] at h
    have h' : ExQ K ca H0 A0 (fun a b H' => W a b σ H') c k p := h
    exact ExQ.before r0 s0 h'
  · rw [e] at h
    exact h
theorem freeze_get (ρ : PV.Env) (j i : Nat) : PV.get (freeze ρ j) i = if i = j then frzC (PV.get ρ i) else PV.get ρ i := by
  unfold freeze
  split
  · rename_i d e
    by_cases hd : imm d = true
    · rw [if_pos hd]
      by_cases h : i = j
      · subst h
        rw [if_pos rfl, e]
        simp only [frzC]
        rw [if_pos hd]
      · rw [if_neg h]
    · rw [if_neg hd, get_set]
      by_cases h : i = j
      · subst h
        rw [if_pos rfl, if_pos ⟨rfl, get_lt e⟩, e]
        simp only [frzC]
        rw [if_neg hd]
      · rw [if_neg h, if_neg (fun q => h q.1.symm)]
  · rename_i h
    by_cases hj : i = j
    · subst hj
      rw [if_pos rfl]
      unfold frzC
      split
      · rename_i d e; exact absurd e (h d)
      · rfl
    · rw [if_neg hj]
theorem freeze_len (ρ : PV.Env) (j : Nat) : (freeze ρ j).length = ρ.length := by
  unfold freeze
  split
  · split
    · rfl
    · rw [List.length_set]
  · rfl
theorem freezes_len : ∀ (vs : List Nat) (ρ : PV.Env), (freezes ρ vs).length = ρ.length
  | [], _ => rfl
  | v :: vs, ρ => by
    show (freezes (freeze ρ v) vs).length = _
    rw [freezes_len vs, freeze_len]
theorem freezes_get (i : Nat) : ∀ (vs : List Nat) (ρ : PV.Env), PV.get (freezes ρ vs) i = if i ∈ vs then frzC (PV.get ρ i) else PV.get ρ i
  | [], ρ => by simp [freezes]
  | v :: vs, ρ => by
    show PV.get (freezes (freeze ρ v) vs) i = _
    rw [freezes_get i vs (freeze ρ v), freeze_get]
    by_cases h1 : i = v
    · subst h1
      rw [if_pos rfl]
      have : i ∈ i :: vs := List.mem_cons_self
      rw [if_pos this]
      cases e : PV.get ρ i with
      | none => simp [frzC]
      | some c =>
        cases c with
        | own d => by_cases hd : imm d = true <;> simp [frzC, hd]
        | _ => simp [frzC]
    · rw [if_neg h1]
      by_cases h2 : i ∈ vs
      · rw [if_pos h2, if_pos (List.mem_cons_of_mem _ h2)]
      · rw [if_neg h2, if_neg (by simp [h1, h2])]
theorem Rep.frz (rep : Rep K H S σ ρ A) (vs : List Nat) {F : List Addr} (hF : ∀ a ∈ F, (∃ xs, H a = some (.lst xs)) ∧ ∀ j, j ∉ vs → a ∉ A j) : Rep K H S σ (freezes ρ vs) (A.frz vs F) where
  cell := fun i c h => by
    rw [freezes_get] at h
    have old : ∀ {a : Addr}, a ∈ A.fr → a ∈ (A.frz vs F).fr := fun m => List.mem_append_right _ (List.mem_append_right _ m)
    by_cases hi : i ∈ vs
    · rw [if_pos hi] at h
      cases e : PV.get ρ i with
      | none => rw [e] at h; cases h
      | some c0 =>
        rw [e] at h
        obtain ⟨v, e1, ok⟩ := rep.cell i c0 e
        refine ⟨v, e1, ?_⟩
        cases c0 with
        | own d =>
          simp only [frzC] at h
          by_cases hd : imm d = true
          · rw [if_pos hd] at h
            cases h
            have eA : A i = [] := ok.1.imm hd
            have ok1 := ok.1
            rw [eA] at ok1
            show DpR K H v d ((A.wip vs) i) ∧ ((A.wip vs) i).Nodup
            rw [Own.wip_in hi]
            exact ⟨ok1, .nil⟩
          · rw [if_neg hd] at h
            cases h
            exact ⟨A i, ok.1, fun a ha => List.mem_append_right _ (List.mem_append_left _ (List.mem_flatMap.mpr ⟨i, hi, ha⟩))⟩
        | fz d =>
          cases h
          obtain ⟨as, k1, k2⟩ := ok
          exact ⟨as, k1, fun a ha => old (k2 a ha)⟩
        | bor d =>
          cases h
          obtain ⟨as, k1, k2⟩ := ok
          exact ⟨as, k1, fun a ha j hj q => k2 a ha j hj (Own.wip_sub q)⟩
        | scr l => cases h; exact ok
    · rw [if_neg hi] at h
      obtain ⟨v, e1, ok⟩ := rep.cell i c h
      refine ⟨v, e1, ?_⟩
      cases c with
      | own d =>
        show DpR K H v d ((A.wip vs) i) ∧ ((A.wip vs) i).Nodup
        rw [Own.wip_out hi]; exact ok
      | fz d =>
        obtain ⟨as, k1, k2⟩ := ok
        exact ⟨as, k1, fun a ha => old (k2 a ha)⟩
      | bor d =>
        obtain ⟨as, k1, k2⟩ := ok
        exact ⟨as, k1, fun a ha j hj q => k2 a ha j hj (Own.wip_sub q)⟩
      | scr l => exact ok
  disj := fun i j a h1 h2 => rep.disj i j a (Own.wip_sub h1) (Own.wip_sub h2)
  trk := fun i a h => rep.trk i a (Own.wip_sub h)
  fdis := fun a h ⟨i, hi⟩ => by
    have hi' : a ∈ (A.wip vs) i := hi
    by_cases hv : i ∈ vs
    · rw [Own.wip_in hv] at hi'; simp at hi'
    · rw [Own.wip_out hv] at hi'
      rcases List.mem_append.mp h with m | m
      · exact (hF a m).2 i hv hi'
      · rcases List.mem_append.mp m with m | m
        · obtain ⟨j, hj, ha⟩ := List.mem_flatMap.mp m
          have := rep.disj i j a hi' ha
          rw [this] at hv
          exact hv hj
        · exact rep.fdis a m ⟨i, hi'⟩
  ftrk := fun a h => by
    rcases List.mem_append.mp h with m | m
    · exact (hF a m).1
    · rcases List.mem_append.mp m with m | m
      · obtain ⟨j, hj, ha⟩ := List.mem_flatMap.mp m
        exact rep.trk j a ha
      · exact rep.ftrk a m
  emp := fun i hl h => by
    show (A.wip vs) i = []
    by_cases hi : i ∈ vs
    · exact Own.wip_in hi
    · rw [Own.wip_out hi]
      refine rep.emp i (by rwa [freezes_len] at hl) fun d e => h d ?_
      rw [freezes_get, if_neg hi]
      exact e
  len := by rw [freezes_len]; exact rep.len
theorem frz_bd {vs : List Nat} {F : List Addr} {a : Addr} (h : Bd (A.frz vs F) a) : ∃ i, i ∉ vs ∧ a ∈ A i := by
  obtain ⟨i, hi⟩ := h
  have hi' : a ∈ (A.wip vs) i := hi
  by_cases hv : i ∈ vs
  · rw [Own.wip_in hv] at hi'; simp at hi'
  · rw [Own.wip_out hv] at hi'; exact ⟨i, hv, hi'⟩
theorem Stp.frz (vs : List Nat) : Stp H A H (A.frz vs []) := by
  refine ⟨fun a h => ?_, fun a o h _ => h, fun a h => h, fun a h => List.mem_append_right _ (List.mem_append_right _ h), fun a h => ?_⟩
  · obtain ⟨i, _, m⟩ := frz_bd h
    exact .inl ⟨i, m⟩
  · rcases List.mem_append.mp h with m | m
    · simp at m
    · rcases List.mem_append.mp m with m | m
      · obtain ⟨j, _, ha⟩ := List.mem_flatMap.mp m
        exact .inr (.inl ⟨j, ha⟩)
      · exact .inl m
/-- a list in the making, as a name's that nobody has -/
theorem Rep.pseudo {p : Nat} {D : Addr} {acc : List V} (b : Rep K H1 S σ ρ A) (sm : Same H1 H) (h1 : H1 D = none) (h : H D = some (.lst acc)) (hp : ρ.length ≤ p) : Rep K H S σ ρ (A.put p (D :: A p)) := by
  have ne : ∀ {a : Addr}, (∃ xs, H1 a = some (.lst xs)) → a ≠ D := fun ⟨xs, e⟩ z => by rw [z, h1] at e; cases e
  have b' := b.new sm
  refine ⟨fun i c e => ?_, fun i j a q1 q2 => ?_, fun i a q => ?_, fun a q ⟨i, hi⟩ => ?_, b'.ftrk, fun i hl q => ?_, b.len⟩
  · obtain ⟨v, e1, ok⟩ := b.cell i c e
    have hip : i ≠ p := fun z => by have := get_lt e; omega
    refine ⟨v, e1, ?_⟩
    cases c with
    | own d =>
      show DpR K H v d ((A.put p (D :: A p)) i) ∧ _
      rw [Own.put_ne _ _ hip]
      exact ⟨ok.1.keep (Fix.of sm) fun a _ xs h => sm a _ h, ok.2⟩
    | fz d =>
      obtain ⟨as, k1, k2⟩ := ok
      exact ⟨as, k1.keep (Fix.of sm) (fun a _ xs h => sm a _ h), k2⟩
    | bor d =>
      obtain ⟨as, k1, k2⟩ := ok
      refine ⟨as, k1.keep (Fix.of sm) (fun a _ xs h => sm a _ h), fun a ha j hj q => ?_⟩
      by_cases hjp : j = p
      · rw [hjp, Own.put_same] at q
        rcases List.mem_cons.mp q with q | q
        · exact ne (k1.trk a ha) q
        · exact k2 a ha p (hjp ▸ hj) q
      · rw [Own.put_ne _ _ hjp] at q
        exact k2 a ha j hj q
    | scr l =>
      obtain ⟨a, k1, k2⟩ := ok
      exact ⟨a, k1, (Fix.of sm).extL k2⟩
  · by_cases hi : i = p
    · by_cases hj : j = p
      · rw [hi, hj]
      · rw [hi, Own.put_same] at q1
        rw [Own.put_ne _ _ hj] at q2
        rcases List.mem_cons.mp q1 with q1 | q1
        · exact absurd q1 (ne (b.trk j a q2))
        · rw [hi]; exact b.disj p j a q1 q2
    · by_cases hj : j = p
      · rw [hj, Own.put_same] at q2
        rw [Own.put_ne _ _ hi] at q1
        rcases List.mem_cons.mp q2 with q2 | q2
        · exact absurd q2 (ne (b.trk i a q1))
        · rw [hj]; exact b.disj i p a q1 q2
      · rw [Own.put_ne _ _ hi] at q1
        rw [Own.put_ne _ _ hj] at q2
        exact b.disj i j a q1 q2
  · by_cases hi : i = p
    · rw [hi, Own.put_same] at q
      rcases List.mem_cons.mp q with q | q
      · rw [q]; exact ⟨_, h⟩
      · exact b'.trk p a q
    · rw [Own.put_ne _ _ hi] at q
      exact b'.trk i a q
  · by_cases hip : i = p
    · rw [hip, Own.put_same] at hi
      rcases List.mem_cons.mp hi with hi | hi
      · exact ne (b.ftrk a q) hi
      · exact b.fdis a q ⟨p, hi⟩
    · rw [Own.put_ne _ _ hip] at hi
      exact b.fdis a q ⟨i, hi⟩
  · rw [Own.put_ne _ _ (show i ≠ p by omega)]
    exact b.emp i hl q
/-- a list that is nobody's is changed -/
theorem Rep.updN {D : Addr} {xs ys : List V} (rep : Rep K H S σ ρ A) (nb : noBor ρ = true) (hD : H D = some (.lst xs)) (n1 : ¬ Bd A D) (n2 : D ∉ A.fr) : Rep K (upd H D (.lst ys)) S σ ρ A := by
  have keep : ∀ {a : Addr} {zs : List V}, H a = some (.lst zs) → a ≠ D → upd H D (.lst ys) a = some (.lst zs) := fun e ne => by rw [upd_ne ne]; exact e
  have lst : ∀ {a : Addr}, (∃ zs, H a = some (.lst zs)) → ∃ zs, upd H D (.lst ys) a = some (.lst zs) := fun {a} ⟨zs, e⟩ => by
    by_cases h : a = D
    · rw [h]; exact ⟨ys, upd_same⟩
    · exact ⟨zs, keep e h⟩
  refine ⟨fun i c e => ?_, rep.disj, fun i a q => lst (rep.trk i a q), rep.fdis, fun a q => lst (rep.ftrk a q), rep.emp, rep.len⟩
  obtain ⟨v, e1, ok⟩ := rep.cell i c e
  refine ⟨v, e1, ?_⟩
  cases c with
  | own d => exact ⟨ok.1.keep (fix_upd hD) fun a ha xs q => keep q fun z => n1 ⟨i, z ▸ ha⟩, ok.2⟩
  | fz d =>
    obtain ⟨as, k1, k2⟩ := ok
    exact ⟨as, k1.keep (fix_upd hD) fun a ha xs q => keep q fun z => n2 (z ▸ k2 a ha), k2⟩
  | bor d => exact absurd (noBor_get nb e) (fun z => Bool.noConfusion z)
  | scr l =>
    obtain ⟨a, k1, k2⟩ := ok
    exact ⟨a, k1, (fix_upd hD).extL k2⟩
theorem Stp.updN {D : Addr} {ys : List V} (s : Stp H0 A0 H A) (h0 : H0 D = none) : Stp H0 A0 (upd H D (.lst ys)) A :=
  ⟨s.own, fun a o e n => by
    rw [upd_ne (fun z => by rw [z, h0] at e; cases e)]
    exact s.keep a o e n, fun a e => by
    by_cases h : a = D
    · rw [h]; exact h0
    · rw [upd_ne h] at e; exact s.the a e, s.fr, s.fro⟩
end
end PV
set_option Elab.async false
set_option linter.all false
set_option maxRecDepth 100000
set_option maxHeartbeats 1000000
/-! PV20: comprehensions. -/
namespace PV
open PySem PySem.Spec PyProof.Rows L2
theorem getD_drop {α : Type} {l : List α} {i : Nat} (h : i < l.length) : l.drop i = l[i] :: l.drop (i + 1) := by
  rw [List.drop_eq_getElem_cons h]
section
variable {K : PySem.W.Frag}
theorem DpRs.upd {H : Hp} {L : Addr} {xs ys : List V} {v : List V} {d : List D} {as : List Addr} (r : DpRs K H v d as) (hD : H L = some (.lst xs)) (n : ∀ a ∈ as, a ≠ L) : DpRs K (upd H L (.lst ys)) v d as :=
  r.keep (fix_upd hD) fun a ha zs e => by rw [upd_ne (n a ha)]; exact e
theorem DpR.upd {H : Hp} {L : Addr} {xs ys : List V} {v : V} {d : D} {as : List Addr} (r : DpR K H v d as) (hD : H L = some (.lst xs)) (n : ∀ a ∈ as, a ≠ L) : DpR K (upd H L (.lst ys)) v d as :=
  r.keep (fix_upd hD) fun a ha zs e => by rw [upd_ne (n a ha)]; exact e
/-- the items that a pure comprehension has collected -/
structure AccP (K : PySem.W.Frag) (H1 H : Hp) (A1 : Own) (vs : List Nat) (L : Addr) (acc : List V) (lacc : List D) (kacc : Bool) (as : List Addr) : Prop where
  dp : DpRs K H acc lacc as
  ne : ∀ a ∈ as, a ≠ L
  av : ∀ a ∈ as, ∀ i, i ∉ vs → a ∉ A1 i
  own : kacc = true → as.Nodup ∧ (∀ a ∈ as, ¬ Bd A1 a ∧ a ∉ A1.fr) ∧ ∀ a ∈ as, H1 a = none
end
section
variable {J : Info} {fs : List Fn} {ca : Nat → Addr} {k : Nat} {N : List Str} {sc : Scope} {W : WX} {X : Cx} {S : List Nat}
theorem own_emp {K : PySem.W.Frag} {H : Hp} {σ : L2.St} {ρ : PV.Env} {A : Own} {own : List Nat} (rep : Rep K H S σ ρ A) (h : own.all (fun i => immAt ρ i && decide (i < ρ.length)) = true) : ∀ i ∈ own, A i = [] := fun i hi => by
  have := List.all_eq_true.mp h i hi
  simp only [Bool.and_eq_true, decide_eq_true_eq] at this
  obtain ⟨h1, h2⟩ := this
  by_cases hd : ∃ d, PV.get ρ i = some (.own d)
  · obtain ⟨d, e⟩ := hd
    obtain ⟨v, _, ok⟩ := rep.cell i _ e
    have hi : imm d = true := by unfold immAt at h1; rw [e] at h1; exact h1
    exact ok.1.imm hi
  · exact rep.emp i h2 fun d e => hd ⟨d, e⟩
theorem fresh_slot (own vs : List Nat) (n : Nat) : ∃ p, n ≤ p ∧ p ∉ vs ∧ p ∉ own := by
  have big : ∀ l : List Nat, ∃ m, ∀ x ∈ l, x < m := fun l => by
    induction l with
    | nil => exact ⟨0, fun x h => by simp at h⟩
    | cons a r ih =>
      obtain ⟨m, hm⟩ := ih
      refine ⟨max m (a + 1), fun x hx => ?_⟩
      rcases List.mem_cons.mp hx with e | hx
      · omega
      · have := hm x hx; omega
  obtain ⟨m1, h1⟩ := big own
  obtain ⟨m2, h2⟩ := big vs
  exact ⟨n + m1 + m2, by omega, fun h => by have := h2 _ h; omega, fun h => by have := h1 _ h; omega⟩
theorem w_compP {elt : E} {tgt : List Nat} {single : Bool} {it : PV.It} {cnd : Es} {own : List Nat} {σ : L2.St} {H : Hp} {Q : VK} {K : PySem.W.Frag} {cf : CF} (one : ∀ e r, cnd = .cons e r → r = .nil) (tg : ∀ i ∈ tgt, i ∈ own) (he : (eff elt || effs cnd) = false)
    (h : tS K ca cf S W (.comp elt tgt single it cnd own) σ H Q) : tLc (tIt K ca cf S W it) (tTg K (varsi it ++ S) .bor tgt single) (tTests K ca cf (varsi it ++ S) cnd) (tS K ca cf (varsi it ++ S) WF elt) own σ H Q := by
  obtain ⟨ρ, A, rep, q⟩ := h
  rw [rn_rg] at q
  simp only [ev] at q
  refine tIt_first rep (Stp.refl _ _) rep q fun ds ρ1 JJ H1 A1 F r1 s1 it1 av1 tr1 ef1 q => ?_
  dsimp only at q
  obtain ⟨hown, q⟩ := RG.ite q
  rw [if_neg (by rw [he]; decide)] at q
  have hemp := own_emp r1 hown
  have q : RG K ca W σ H A (PR K S σ (vars (.comp elt tgt single it cnd own)) (eff (.comp elt tgt single it cnd own)) H A Q) (noExc (compP (turnE cf elt cnd tgt single) (PV.wipe ρ1 own) ds) >>= fun z => if lenOk z.2.length = true then .ok ((z.1, .list z.2), ρ1) else .stuck) := q
  obtain ⟨⟨kk, l⟩, e1, q⟩ := RG.pure (ne_no _) q
  have e1 := noExc_inv e1
  obtain ⟨hlen, q⟩ := RG.ite q
  intro D hD
  -- the block's state
  have rb : Rep K H1 (varsi it ++ S) (L2.wipe σ own) (PV.wipe ρ1 own) A1 := by
    have := (r1.more (S' := varsi it ++ S) fun i hi => List.mem_append_right _ hi).wip (σ2 := L2.wipe σ own) (ρ2 := PV.wipe ρ1 own) own (by rw [wipe_length]) (fun i hi => wipe_out hi) (fun i => wipe_get) (wipe_len _ _)
    rwa [Own.wip_self hemp] at this
  obtain ⟨p, hp1, hp2, hp3⟩ := fresh_slot own (vars elt ++ (varsi it ++ S)) (PV.wipe ρ1 own).length
  have pS : p ∉ varsi it ++ S := fun m => hp2 (List.mem_append_right _ m)
  have trkD : ∀ {a : Addr}, (∃ xs, H1 a = some (.lst xs)) → a ≠ D := fun ⟨xs, e⟩ z => by rw [z, hD] at e; cases e
  have ow2 : ∀ i ∈ own, (A1.put p (D :: A1 p)) i = [] := fun i hi => by rw [Own.put_ne _ _ (fun z => hp3 (by rw [← z]; exact hi))]; exact hemp i hi
  have newD := new_out r1 hD
  let Pv : Nat → Hp → Prop := fun i H => i ≤ ds.length ∧ Same H1 H ∧ ∃ acc lacc kacc as k' l', H D = some (.lst acc) ∧ compP (turnE cf elt cnd tgt single) (PV.wipe ρ1 own) (ds.drop i) = .ok (k', l') ∧ kk = (kacc && k') ∧ l = lacc ++ l' ∧ AccP K H1 H A1 (vars (.comp elt tgt single it cnd own) ++ S) D acc lacc kacc as
  refine ⟨fun i m H => m = ds.length - i ∧ Pv i H, ⟨ds.length, by simp, Nat.zero_le _, same_upd hD, [], [], true, [], kk, l, upd_same, by rw [List.drop_zero]; exact e1, by simp, by simp, .nil, fun a h => by simp at h, fun a h => by simp at h, fun _ => ⟨.nil, fun a h => by simp at h, fun a h => by simp at h⟩⟩, ?_⟩
  rintro i m H2 ⟨rfl, hi, sm, acc, lacc, kacc, as, k', l', hHD, ec, ek, el, ac⟩
  have itc := it1 H2 (Fix.of sm) (fun a _ xs e => sm a _ e) i
  by_cases hlt : i < ds.length
  · refine .inr ?_
    have hd : ds[i]? = some ds[i] := List.getElem?_eq_getElem hlt
    obtain ⟨go, yl⟩ := itc.2 _ hd
    refine ⟨go, Pv (i + 1), fun H' p' => ⟨ds.length - (i + 1), by omega, rfl, p'⟩, fun x H3 y => ?_⟩
    obtain ⟨sm3, bs, dx, sub⟩ := yl x H3 y
    have sm13 : Same H1 H3 := sm.trans sm3
    rw [getD_drop hlt] at ec
    simp only [compP] at ec
    obtain ⟨⟨o, ρ'⟩, eb, ec⟩ := bind_inv ec
    obtain ⟨⟨k2, l2⟩, ec2, ec⟩ := bind_inv ec
    dsimp only at ec
    have hHD3 : H3 D = some (.lst acc) := sm3 D _ hHD
    have rt : Rep K H3 (varsi it ++ S) (L2.wipe σ own) (PV.wipe ρ1 own) (A1.put p (D :: A1 p)) := rb.pseudo sm13 hD hHD3 hp1
    have ac3 : DpRs K H3 acc lacc as := ac.dp.keep (Fix.of sm3) fun a _ xs e => sm3 a _ e
    have ko : ∀ a ∈ bs, ∀ j, j ∉ varsi it ++ S → a ∉ (A1.put p (D :: A1 p)) j := fun a ha j hj m => by
      by_cases hjp : j = p
      · rw [hjp, Own.put_same] at m
        rcases List.mem_cons.mp m with m | m
        · exact trkD (tr1 a (sub a ha)) m
        · exact av1 a (sub a ha) p pS m
      · rw [Own.put_ne _ _ hjp] at m
        exact av1 a (sub a ha) j hj m
    refine turn_lem one rt ow2 dx ko tg eb (fun r y H4 A4 eo r4 _ s4 rv4 ef4 => ?_) (fun H4 A4 eo r4 _ s4 ef4 => ?_)
    · obtain ⟨eA, sm4⟩ := ef4 he
      subst eA
      subst eo
      cases ec
      have hHD4 : H4 D = some (.lst acc) := sm4 D _ hHD3
      have ac4 : DpRs K H4 acc lacc as := ac3.keep (Fix.of sm4) fun a _ xs e => sm4 a _ e
      -- the new item
      have item : ∃ cs, DpR K H4 y r.2 cs ∧ (∀ a ∈ cs, a ≠ D) ∧ (∀ a ∈ cs, ∀ i, i ∉ vars (.comp elt tgt single it cnd own) ++ S → a ∉ A1 i) ∧ ((r.1 || imm r.2) = true → cs.Nodup ∧ (∀ a ∈ cs, ¬ Bd A1 a ∧ a ∉ A1.fr) ∧ (∀ a ∈ cs, H1 a = none) ∧ ∀ a ∈ cs, H3 a = none) := by
        rcases rv4 with ⟨_, cs, d1, d2, d3, d4⟩ | ⟨er, cs, d1, d2⟩
        · have new3 : ∀ a ∈ cs, H3 a = none := fun a ha => (d4 a ha).resolve_left (d3 a ha).1
          have new1 : ∀ a ∈ cs, H1 a = none := fun a ha => by
            cases e : H1 a with
            | none => rfl
            | some o => have := sm13 a o e; rw [new3 a ha] at this; cases this
          refine ⟨cs, d1, fun a ha z => ?_, fun a ha i _ q => ?_, fun _ => ⟨d2, fun a ha => new_out r1 (new1 a ha), new1, new3⟩⟩
          · have := new3 a ha
            rw [z, hHD3] at this
            cases this
          · exact (new_out r1 (new1 a ha)).1 ⟨i, q⟩
        · refine ⟨cs, d1, fun a ha z => ?_, fun a ha i hi q => ?_, fun e => ?_⟩
          · have := d2 a ha p hp2
            rw [Own.put_same, z] at this
            simp at this
          · by_cases hip : i = p
            · have := d2 a ha p hp2
              rw [Own.put_same] at this
              exact this (List.mem_cons_of_mem _ (hip ▸ q))
            · refine d2 a ha i (fun m => hi ?_) (by rw [Own.put_ne _ _ hip]; exact q)
              simp only [vars, List.mem_append] at m ⊢
              rcases m with m | m | m
              · exact .inl (.inl (.inl m))
              · exact .inl (.inl (.inr m))
              · exact .inr m
          · rw [er, Bool.false_or] at e
            have := d1.imm e
            subst this
            exact ⟨.nil, fun a h => by simp at h, fun a h => by simp at h, fun a h => by simp at h⟩
      obtain ⟨cs, d1, d2, d3, d4⟩ := item
      have ll : acc.length = lacc.length := ac.dp.length
      refine ⟨acc, hHD4, ?_, hlt, ?_, acc ++ [y], lacc ++ [r.2], kacc && (r.1 || imm r.2), as ++ cs, k2, l2, upd_same, ec2, ?_, ?_, ?_⟩
      · simp only [lenOk, decide_eq_true_eq] at hlen
        rw [el] at hlen
        simp only [List.length_append, List.length_cons] at hlen
        omega
      · intro a o e
        have hne : a ≠ D := fun z => by rw [z, hD] at e; cases e
        rw [upd_ne hne]
        exact sm4 a o (sm13 a o e)
      · rw [ek]; cases kacc <;> cases r.1 <;> cases imm r.2 <;> cases k2 <;> rfl
      · rw [el]; simp
      · refine ⟨(ac4.app (.one d1)).upd hHD4 fun a ha => (List.mem_append.mp ha).elim (ac.ne a) (d2 a), fun a ha => (List.mem_append.mp ha).elim (ac.ne a) (d2 a), fun a ha => (List.mem_append.mp ha).elim (ac.av a) (d3 a), fun e => ?_⟩
        simp only [Bool.and_eq_true] at e
        obtain ⟨a1, a2, a3⟩ := ac.own e.1
        obtain ⟨b1, b2, b3, b4⟩ := d4 e.2
        refine ⟨List.nodup_append.mpr ⟨a1, b1, fun x hx y hy z => ?_⟩, fun a ha => (List.mem_append.mp ha).elim (a2 a) (b2 a), fun a ha => (List.mem_append.mp ha).elim (a3 a) (b3 a)⟩
        subst z
        obtain ⟨xs, e⟩ := ac3.trk x hx
        rw [b4 x hy] at e
        cases e
    · obtain ⟨eA, sm4⟩ := ef4 he
      subst eo
      cases ec
      refine ⟨hlt, sm13.trans sm4, acc, lacc, kacc, as, _, _, sm4 D _ hHD3, ec2, ek, el, ac3.keep (Fix.of sm4) (fun a _ xs e => sm4 a _ e), ac.ne, ac.av, ac.own⟩
  · have hle : i = ds.length := by omega
    subst hle
    refine .inl ⟨itc.1 (Nat.le_refl _), ?_⟩
    rw [List.drop_length] at ec
    simp only [compP] at ec
    cases ec
    rw [Bool.and_true] at ek
    rw [List.append_nil] at el
    subst ek el
    refine q _ H2 A1 (r1.new sm) (s1.then_new rep sm) ?_ fun e => ?_
    · cases hk : kk with
      | true =>
        obtain ⟨a1, a2, a3⟩ := ac.own hk
        refine .inl ⟨rfl, D :: as, .lst hHD ac.dp, List.nodup_cons.mpr ⟨fun m => ac.ne D m rfl, a1⟩, fun a ha => ?_, fun a ha => ?_⟩
        · rcases List.mem_cons.mp ha with z | ha
          · rw [z]; exact newD
          · exact a2 a ha
        · rcases List.mem_cons.mp ha with z | ha
          · rw [z]; exact .inr (s1.there rep hD)
          · exact .inr (s1.there rep (a3 a ha))
      | false =>
        refine .inr ⟨rfl, D :: as, .lst hHD ac.dp, fun a ha i hi => ?_⟩
        rcases List.mem_cons.mp ha with z | ha
        · rw [z]; exact fun m => newD.1 ⟨i, m⟩
        · exact ac.av a ha i hi
    · simp only [eff, Bool.or_eq_false_iff] at e
      obtain ⟨q1, m1⟩ := ef1 e.1.2
      exact ⟨q1, m1.trans sm⟩
theorem restore_get (ρ0 : PV.Env) (i : Nat) : ∀ (vs : List Nat) (ρ : PV.Env), ρ.length = ρ0.length → PV.get (restore ρ0 ρ vs) i = if i ∈ vs then PV.get ρ0 i else PV.get ρ i
  | [], ρ, _ => by simp [restore]
  | v :: vs, ρ, hl => by
    show PV.get ((restore ρ0 ρ vs).set v (PV.get ρ0 v)) i = _
    have len : ∀ us : List Nat, (restore ρ0 ρ us).length = ρ.length := fun us => by
      induction us with
      | nil => rfl
      | cons u us ih => show ((restore ρ0 ρ us).set u (PV.get ρ0 u)).length = _; rw [List.length_set, ih]
    rw [get_set, restore_get ρ0 i vs ρ hl]
    by_cases h : v = i
    · subst h
      rw [if_pos (show v ∈ v :: vs from List.mem_cons_self)]
      by_cases hv : v < ρ0.length
      · rw [if_pos ⟨rfl, by rw [len, hl]; exact hv⟩]
      · rw [if_neg (fun q => hv (by rw [len, hl] at q; exact q.2))]
        have e0 : PV.get ρ0 v = none := by
          cases e : PV.get ρ0 v with
          | none => rfl
          | some c => exact absurd (get_lt e) hv
        have e1 : PV.get ρ v = none := by
          cases e : PV.get ρ v with
          | none => rfl
          | some c => exact absurd (get_lt e) (by rw [hl]; exact hv)
        rw [e0, e1]
        split <;> rfl
    · rw [if_neg (fun q => h q.1)]
      by_cases hv : i ∈ vs
      · rw [if_pos hv, if_pos (List.mem_cons_of_mem _ hv)]
      · rw [if_neg hv, if_neg (by simp [Ne.symm h, hv])]
theorem restore_len (ρ0 : PV.Env) : ∀ (vs : List Nat) (ρ : PV.Env), (restore ρ0 ρ vs).length = ρ.length
  | [], _ => rfl
  | v :: vs, ρ => by show ((restore ρ0 ρ vs).set v (PV.get ρ0 v)).length = _; rw [List.length_set, restore_len ρ0 vs]
/-- names get back what they held, which had no lists -/
theorem Rep.restore {K : PySem.W.Frag} {H H1 : Hp} {σ : L2.St} {ρ1 ρ3 : PV.Env} {A A1 : Own} {own : List Nat} (r1 : Rep K H1 S σ ρ1 A1) (fx : Fix H1 H) (hown : own.all (fun i => immAt ρ1 i && decide (i < ρ1.length)) = true) (nb : noBor ρ1 = true) (hl : ρ3.length = ρ1.length)
    (rep : Rep K H S (L2.wipe σ own) ρ3 A) (ow : ∀ i ∈ own, A i = []) : Rep K H S σ (PV.restore ρ1 ρ3 own) A where
  cell := fun i c h => by
    rw [restore_get ρ1 i own ρ3 hl] at h
    by_cases hi : i ∈ own
    · rw [if_pos hi] at h
      obtain ⟨v, e, ok⟩ := r1.cell i c h
      have him : imm c.d = true := by
        have := List.all_eq_true.mp hown i hi
        simp only [Bool.and_eq_true] at this
        have := this.1
        unfold immAt at this
        rw [h] at this
        exact this
      refine ⟨v, e, ?_⟩
      cases c with
      | own d =>
        have hn : A1 i = [] := ok.1.imm him
        have := ok.1
        rw [hn] at this
        show DpR K H v d (A i) ∧ (A i).Nodup
        rw [ow i hi]
        exact ⟨this.keep fx fun a ha => by simp at ha, .nil⟩
      | fz d =>
        obtain ⟨as, k1, k2⟩ := ok
        have := k1.imm him
        subst this
        exact ⟨[], k1.keep fx (fun a ha => by simp at ha), fun a ha => by simp at ha⟩
      | bor d => exact absurd (noBor_get nb h) (fun z => Bool.noConfusion z)
      | scr l =>
        obtain ⟨a, k1, k2⟩ := ok
        exact ⟨a, k1, fx.extL k2⟩
    · rw [if_neg hi] at h
      obtain ⟨v, e, ok⟩ := rep.cell i c h
      exact ⟨v, by rw [← wipe_out hi]; exact e, ok⟩
  disj := rep.disj
  trk := rep.trk
  fdis := rep.fdis
  ftrk := rep.ftrk
  emp := fun i hil h => by
    by_cases hi : i ∈ own
    · exact ow i hi
    · refine rep.emp i (by rwa [restore_len] at hil) fun d e => h d ?_
      rw [restore_get ρ1 i own ρ3 hl, if_neg hi]
      exact e
  len := by rw [restore_len, hl]; exact r1.len
end
end PV
set_option Elab.async false
set_option linter.all false
set_option maxRecDepth 100000
set_option maxHeartbeats 1000000
/-! PV21: comprehensions that change things. -/
namespace PV
open PySem PySem.Spec PyProof.Rows L2
theorem noBor_of {ρ : PV.Env} (h : ∀ i c, PV.get ρ i = some c → c.noBor = true) : noBor ρ = true := by
  apply List.all_eq_true.mpr
  intro x hx
  cases x with
  | none => rfl
  | some c =>
    obtain ⟨i, hi⟩ := List.mem_iff_getElem?.mp hx
    exact h i c (by unfold PV.get; rw [hi])
section
variable {K : PySem.W.Frag} {ca : Nat → Addr} {cf : CF} {W : WX}
theorem w_compE {elt : E} {tgt : List Nat} {single : Bool} {it : PV.It} {cnd : Es} {own : List Nat} {σ : L2.St} {H : Hp} {Q : VK} (one : ∀ e r, cnd = .cons e r → r = .nil) (tg : ∀ i ∈ tgt, i ∈ own) (he : (eff elt || effs cnd) = true)
    (h : tS K ca cf [] W (.comp elt tgt single it cnd own) σ H Q) : tLc (tIt K ca cf [] W it) (tTg K [] .bor tgt single) (tTests K ca cf [] cnd) (tS K ca cf [] WF elt) own σ H Q := by
  obtain ⟨ρ, A, rep, q⟩ := h
  rw [rn_rg] at q
  simp only [ev] at q
  refine tIt_first rep (Stp.refl _ _) rep q fun ds ρ1 JJ H1 A1 F r1 s1 it1 av1 tr1 ef1 q => ?_
  dsimp only at q
  obtain ⟨hown, q⟩ := RG.ite q
  rw [if_pos he] at q
  obtain ⟨himm, q⟩ := RG.ite q
  simp only [Bool.and_eq_true] at himm
  obtain ⟨himm, nb1⟩ := himm
  have hemp := own_emp r1 hown
  have q : RG K ca W σ H A (PR K [] σ (vars (.comp elt tgt single it cnd own)) (eff (.comp elt tgt single it cnd own)) H A Q) (noExc (compL (turnE cf elt cnd tgt single) own ds (PV.wipe (freezes ρ1 (varsi it)) own)) >>= fun z => if (lenOk z.1.length && decide (z.2.length = ρ1.length)) = true then .ok ((true, .list z.1), PV.restore ρ1 z.2 own) else .stuck) := q
  obtain ⟨⟨l, ρ3⟩, e1, q⟩ := RG.pure (ne_no _) q
  have e1 := noExc_inv e1
  obtain ⟨hlen, q⟩ := RG.ite q
  simp only [Bool.and_eq_true, decide_eq_true_eq] at hlen
  obtain ⟨hlen, hl3⟩ := hlen
  intro D hD
  -- the block's state
  generalize hA2 : (A1.frz (varsi it) []).wip own = A2
  have rf := r1.frz (varsi it) (F := []) (fun a h => by simp at h)
  have rb : Rep K H1 [] (L2.wipe σ own) (PV.wipe (freezes ρ1 (varsi it)) own) A2 := by
    rw [← hA2]
    exact rf.wip own (by rw [wipe_length]) (fun i hi => wipe_out hi) (fun i => wipe_get) (wipe_len _ _)
  have s12 : Stp H1 A1 H1 A2 := by
    rw [← hA2]
    exact (Stp.frz (varsi it)).wip own
  have ow0 : ∀ i ∈ own, A2 i = [] := fun i hi => by rw [← hA2]; exact Own.wip_in hi
  have nb0 : noBor (PV.wipe (freezes ρ1 (varsi it)) own) = true := noBor_of fun i c e => by
    rw [wipe_get] at e
    split at e
    · cases e
    · rw [freezes_get] at e
      split at e
      · unfold frzC at e
        split at e
        · split at e <;> (cases e; rfl)
        · exact noBor_get nb1 e
      · exact noBor_get nb1 e
  have Fbd : ∀ a ∈ F, ¬ Bd A2 a := fun a ha ⟨i, hi⟩ => by
    rw [← hA2] at hi
    obtain ⟨j, hj, m⟩ := frz_bd ⟨i, Own.wip_sub hi⟩
    exact av1 a ha j (by rw [List.append_nil]; exact hj) m
  have newD := new_out rb hD
  let Pv : Nat → Hp → Prop := fun i H => i ≤ ds.length ∧ ∃ Ai ρi acc lacc as l', H D = some (.lst acc) ∧ Rep K H [] (L2.wipe σ own) ρi Ai ∧ (∀ j ∈ own, Ai j = []) ∧ noBor ρi = true ∧ Stp H1 A2 H Ai ∧ (¬ Bd Ai D ∧ D ∉ Ai.fr) ∧
    compL (turnE cf elt cnd tgt single) own (ds.drop i) ρi = .ok (l', ρ3) ∧ l = lacc ++ l' ∧ DpRs K H acc lacc as ∧ as.Nodup ∧ (∀ a ∈ as, a ≠ D) ∧ (∀ a ∈ as, ¬ Bd Ai a ∧ a ∉ Ai.fr) ∧ ∀ a ∈ as, Bd A2 a ∨ H1 a = none
  have sm0 : Same H1 (upd H1 D (.lst [])) := same_upd hD
  refine ⟨fun i m H => m = ds.length - i ∧ Pv i H, ⟨ds.length, by simp, Nat.zero_le _, A2, _, [], [], [], l, upd_same, rb.new sm0, ow0, nb0, Stp.new sm0, newD, by rw [List.drop_zero]; exact e1, rfl, .nil, .nil, fun a h => by simp at h, fun a h => by simp at h, fun a h => by simp at h⟩, ?_⟩
  rintro i m H2 ⟨rfl, hi, Ai, ρi, acc, lacc, as, l', hHD, ri, owi, nbi, si, nD, ec, el, ad, an, ane, aout, aold⟩
  have itc := it1 H2 (si.fix rb) (fun a ha xs e => si.keep a _ e (Fbd a ha)) i
  by_cases hlt : i < ds.length
  · refine .inr ?_
    have hd : ds[i]? = some ds[i] := List.getElem?_eq_getElem hlt
    have hdi : imm ds[i] = true := List.all_eq_true.mp himm _ (List.getElem_mem hlt)
    obtain ⟨go, yl⟩ := itc.2 _ hd
    refine ⟨go, Pv (i + 1), fun H' p' => ⟨ds.length - (i + 1), by omega, rfl, p'⟩, fun x H3 y => ?_⟩
    obtain ⟨sm3, bs, dx, sub⟩ := yl x H3 y
    have hbs := dx.imm hdi
    subst hbs
    rw [getD_drop hlt] at ec
    simp only [compL] at ec
    obtain ⟨⟨o, ρ'⟩, eb, ec⟩ := bind_inv ec
    dsimp only at ec
    split at ec
    · rename_i nb2
      obtain ⟨⟨l2, ρ3'⟩, ec2, ec⟩ := bind_inv ec
      dsimp only at ec
      have hHD3 : H3 D = some (.lst acc) := sm3 D _ hHD
      have rt := ri.new sm3
      have si3 : Stp H1 A2 H3 Ai := Stp.trans rb si (Stp.new sm3)
      have ad3 : DpRs K H3 acc lacc as := ad.keep (Fix.of sm3) fun a _ xs e => sm3 a _ e
      have keepD : ∀ {H4 : Hp} {A4 : Own}, Stp H3 Ai H4 A4 → H4 D = some (.lst acc) ∧ (¬ Bd A4 D ∧ D ∉ A4.fr) := fun s4 => by
        refine ⟨s4.keep D _ hHD3 nD.1, fun b => ?_, fun b => ?_⟩
        · rcases s4.own D b with z | z
          · exact nD.1 z
          · rw [hHD3] at z; cases z
        · rcases s4.fro D b with z | z | z
          · exact nD.2 z
          · exact nD.1 z
          · rw [hHD3] at z; cases z
      have keepA : ∀ {H4 : Hp} {A4 : Own}, Stp H3 Ai H4 A4 → DpRs K H4 acc lacc as ∧ ∀ a ∈ as, ¬ Bd A4 a ∧ a ∉ A4.fr := fun s4 => by
        refine ⟨ad3.keep (s4.fix rt) fun a ha xs e => s4.keep a _ e (aout a ha).1, fun a ha => ⟨fun b => ?_, fun b => ?_⟩⟩
        · rcases s4.own a b with z | z
          · exact (aout a ha).1 z
          · obtain ⟨xs, e⟩ := ad3.trk a ha
            rw [z] at e; cases e
        · rcases s4.fro a b with z | z | z
          · exact (aout a ha).2 z
          · exact (aout a ha).1 z
          · obtain ⟨xs, e⟩ := ad3.trk a ha
            rw [z] at e; cases e
      refine turn_lem one rt owi dx (fun a h => by simp at h) tg eb (fun r y H4 A4 eo r4 ow4 s4 rv4 ef4 => ?_) (fun H4 A4 eo r4 ow4 s4 ef4 => ?_)
      · subst eo
        dsimp only at ec
        split at ec
        · rename_i hr
          cases ec
          obtain ⟨hHD4, nD4⟩ := keepD s4
          obtain ⟨ad4, aout4⟩ := keepA s4
          have item : ∃ cs, DpR K H4 y r.2 cs ∧ cs.Nodup ∧ (∀ a ∈ cs, ¬ Bd A4 a ∧ a ∉ A4.fr) ∧ ∀ a ∈ cs, Bd Ai a ∨ H3 a = none := by
            rcases rv4 with ⟨_, cs, d1, d2, d3, d4⟩ | ⟨er, cs, d1, d2⟩
            · exact ⟨cs, d1, d2, d3, d4⟩
            · rw [er, Bool.false_or] at hr
              have := d1.imm hr
              subst this
              exact ⟨[], d1, .nil, fun a h => by simp at h, fun a h => by simp at h⟩
          obtain ⟨cs, d1, d2, d3, d4⟩ := item
          have csD : ∀ a ∈ cs, a ≠ D := fun a ha z => by
            rcases d4 a ha with b | b
            · exact nD.1 (z ▸ b)
            · rw [z, hHD3] at b; cases b
          have ll : acc.length = lacc.length := ad.length
          refine ⟨acc, hHD4, ?_, hlt, A4, PV.wipe ρ' own, acc ++ [y], lacc ++ [r.2], as ++ cs, l2, upd_same, r4.updN nb2 hHD4 nD4.1 nD4.2, ow4, nb2, (Stp.trans rb si3 s4).updN hD, nD4, ec2, by rw [el]; simp, ?_, ?_, ?_, ?_, ?_⟩
          · simp only [lenOk, decide_eq_true_eq] at hlen
            rw [el] at hlen
            simp only [List.length_append, List.length_cons] at hlen
            omega
          · exact (ad4.app (.one d1)).upd hHD4 fun a ha => (List.mem_append.mp ha).elim (ane a) (csD a)
          · refine List.nodup_append.mpr ⟨an, d2, fun x hx y hy z => ?_⟩
            subst z
            rcases d4 x hy with b | b
            · exact (aout x hx).1 b
            · obtain ⟨xs, e⟩ := ad3.trk x hx
              rw [b] at e; cases e
          · exact fun a ha => (List.mem_append.mp ha).elim (ane a) (csD a)
          · exact fun a ha => (List.mem_append.mp ha).elim (aout4 a) (d3 a)
          · refine fun a ha => (List.mem_append.mp ha).elim (aold a) fun m => ?_
            rcases d4 a m with b | b
            · exact si3.own a b
            · exact .inr (si3.there rb b)
        · cases ec
      · subst eo
        cases ec
        obtain ⟨hHD4, nD4⟩ := keepD s4
        obtain ⟨ad4, aout4⟩ := keepA s4
        exact ⟨hlt, A4, PV.wipe ρ' own, acc, lacc, as, _, hHD4, r4, ow4, nb2, Stp.trans rb si3 s4, nD4, ec2, el, ad4, an, ane, aout4, aold⟩
    · cases ec
  · have hle : i = ds.length := by omega
    subst hle
    refine .inl ⟨itc.1 (Nat.le_refl _), ?_⟩
    rw [List.drop_length] at ec
    simp only [compL] at ec
    cases ec
    rw [List.append_nil] at el
    subst el
    have r12 : Stp H1 A1 H2 Ai := Stp.trans r1 s12 si
    have st := Stp.trans rep s1 r12
    have rr := Rep.restore r1 (si.fix rb) hown nb1 hl3 ri owi
    refine q _ H2 Ai rr st ?_ fun e => ?_
    · refine .inl ⟨rfl, D :: as, .lst hHD ad, List.nodup_cons.mpr ⟨fun m => ane D m rfl, an⟩, fun a ha => ?_, fun a ha => ?_⟩
      · rcases List.mem_cons.mp ha with z | ha
        · rw [z]; exact nD
        · exact aout a ha
      · rcases List.mem_cons.mp ha with z | ha
        · rw [z]; exact .inr (s1.there rep hD)
        · rcases aold a ha with b | b
          · rcases s12.own a b with b | b
            · exact s1.own a b
            · exact .inr (s1.there rep b)
          · exact .inr (s1.there rep b)
    · have e' : eff elt = false ∧ effs cnd = false := by
        simp only [eff, Bool.or_eq_false_iff] at e
        exact ⟨e.1.1, e.2⟩
      rw [e'.1, e'.2] at he
      cases he
end
section
variable {J : Info} {ca : Nat → Addr} {K : PySem.W.Frag}
/-- l.count(x) of data -/
def rCntD (K : PySem.W.Frag) : V → List V → Hp → VK → Prop := fun x xs H Q => ∃ (a : Addr) (vs : List V) (ds : List D) (as : List Addr) (y : V) (d : D) (bs : List Addr), x = .ref a ∧ xs = [y] ∧ H a = some (.lst vs) ∧ DpRs K H vs ds as ∧ DpR K H y d bs ∧ min (PyData.depthAll ds) d.depth ≤ 60 ∧ Q (.int (ds.countP fun y => PyData.eqv y d : Nat)) H
theorem mt_countD {fs : List Fn} {k : Nat} {N : List Str} {sc : Scope} {W : WX} {X : Cx} (C : Cxt J fs ca k N sc W X) : MtR X "list.count" (rCntD X.K) := by
  intro pins s σ H x xs v us Q I rx rxs h
  obtain ⟨a, vs, ds, as, y, d, bs, rfl, rfl, hH, r, rd, hm, q⟩ := h
  have hu := C.hu
  cases rx
  obtain ⟨u, rfl, ru⟩ := rxs.one
  obtain ⟨its, rv, p, hlen⟩ := I.list (SqL.of hH)
  obtain ⟨as2, R⟩ := Dp.readsAll I _ _ _ r.dp rv
  obtain ⟨bs2, R2⟩ := Dp.reads I _ _ _ rd.dp ru
  refine PySem.SeqAt.count_list_data p.isList (by simpa using R) R2 r.plain rd.plain (by omega) ?_
  exact ⟨.int _, H, I.tok _, ⟨_, rfl⟩, q⟩
end
section
variable {J : Info} {fs : List Fn} {ca : Nat → Addr} {k : Nat} {N : List Str} {sc : Scope} {W : WX} {X : Cx} {S : List Nat}
theorem s_count {o : E} {as : Es} {x y : Expr} {pa pc : Pos} (C : Cxt J fs ca k N sc W X) (hr : recvX x = true) (hl : lineB pa pc = true) (py : plainX y = true) (io : SE ca fs k S W X o x) (ia : SA ca fs k S W X as [y]) :
    SE ca fs k S W X (.mt .count o as) (.Call (.Attribute x "count" pa) [y] [] pc) := by
  have ny : starEach [y] X.env = (false, eval y X.env) :: starEach [] X.env := star_of py
  have few : ((backTo pc (starEach [y] X.env)).all (fun x => !x.1) && (backToKw pc (keywordEach [] X.env)).all (fun x => x.1.isSome) && decide ([y].length + ([] : List Keyword).length + (if ([] : List Keyword).isEmpty then 0 else 1) < 30)) = true := by rw [ny]; rfl
  have hbase : attributeBase x "count" X.env (eval x X.env) = eval x X.env := by cases x <;> first | rfl | (simp [recvX] at hr; done)
  refine (pe_bm PySem.F.plainAttrs_list PySem.F.slot_list_count PySem.F.type_list_count (mt_countD C) io ia hbase few hl ny rfl).weaken fun σ H Q ⟨ρ, A, rep, q⟩ => ?_
  rw [rn_rg] at q
  simp only [ev] at q
  refine tS_first rep (Stp.refl _ _) rep q fun r1 ρ1 v1 H1 A1 r1' s1 rv1 ef1 q => ?_
  dsimp only at q
  obtain ⟨l, el, q⟩ := RG.pure (ne_lst _) q
  have el := lst_inv el
  obtain ⟨as1, d1, _⟩ := rv1.any
  rw [el] at d1
  obtain ⟨a, vs, bs, e, r3, h3, e3⟩ := d1.list_inv
  refine ⟨by rw [e]; exact .inl ⟨rfl, vs, SqL.of h3⟩, ?_⟩
  refine tSs_first rep s1 r1' q fun ys ρ2 ws H2 A2 r2 s2 rv2 ef2 q => ?_
  dsimp only at q
  obtain ⟨hk, q⟩ := RG.ite q
  obtain ⟨d, ed, q⟩ := RG.pure (ne_no _) q
  have ed := noExc_inv ed
  rw [el] at ed
  have rv1' := RVal.later rep s1 r1' s2 ef2 hk rv1
  obtain ⟨as2, d2, _⟩ := rv1'.any
  rw [el, e] at d2
  obtain ⟨a', vs', bs', e', r4, h4, e4⟩ := d2.list_inv
  cases e'
  obtain ⟨cs, dz, _⟩ := rv2.2
  generalize hys : ys.map (·.2) = zs at ed dz
  match zs, dz, ed with
  | [], dz, ed => simp only [mt] at ed; cases ed
  | _ :: _ :: _, dz, ed => simp only [mt] at ed; cases ed
  | [z], dz, ed =>
    obtain ⟨w, ew, rw1⟩ := dz.one_inv
    subst ew
    simp only [mt] at ed
    split at ed
    · rename_i hm
      cases ed
      refine ⟨a, vs', l, bs', w, z, _, e, rfl, h4, r4, rw1, hm, q _ H2 A2 r2 (Stp.trans rep s1 s2) (RVal.of_imm (.int _) rfl) fun e => ?_⟩
      simp only [eff, Bool.or_eq_false_iff] at e
      obtain ⟨q1, m1⟩ := ef1 e.1
      obtain ⟨q2, m2⟩ := ef2 e.2
      exact ⟨q2.trans q1, m1.trans m2⟩
    · cases ed
end
end PV
set_option Elab.async false
set_option linter.all false
set_option maxRecDepth 100000
set_option maxHeartbeats 2000000
/-! PVC2: comprehensions of two clauses that change nothing. -/
namespace PV
open PySem PySem.Spec PyProof.Rows L2
/-- one turn of the first clause -/
def turn2 (cf : CF) (elt : E) (tgt : List Nat) (single : Bool) (cnd : Es) (tgt1 : List Nat) (single1 : Bool) (it1 : PV.It) (cnd1 : Es) (own1 : List Nat) : D → PV.Env → Res (Bool × List D) := fun d σ => do
  let σ1 ← bindT .bor tgt single d σ
  let (c, σ2) ← tests cf cnd σ1
  if c then
    let (ds1, σ3) ← evi cf it1 σ2
    if own1.all (fun i => immAt σ3 i && decide (i < σ3.length)) then compP (turnE cf elt cnd1 tgt1 single1) (PV.wipe σ3 own1) ds1 else .stuck
  else .ok (true, [])
section
variable {K : PySem.W.Frag}
/-- the list behind a name that is no cell may change -/
theorem Rep.updP {H : Hp} {S : List Nat} {σ : L2.St} {ρ : PV.Env} {A : Own} {p : Nat} {D : Addr} {acc acc' : List V} (b : Rep K H S σ ρ A) (h : H D = some (.lst acc)) (hD : D ∈ A p) (hp : ρ.length ≤ p) (hS : p ∉ S) : Rep K (upd H D (.lst acc')) S σ ρ A where
  cell := fun i c e => by
    obtain ⟨v, e1, ok⟩ := b.cell i c e
    have hip : i ≠ p := fun z => by have := get_lt e; omega
    refine ⟨v, e1, ?_⟩
    cases c with
    | own d => exact ⟨ok.1.upd h fun a ha z => hip (b.disj i p D (z ▸ ha) hD), ok.2⟩
    | fz d =>
      obtain ⟨as, k1, k2⟩ := ok
      exact ⟨as, k1.upd h (fun a ha z => b.fdis D (z ▸ k2 a ha) ⟨p, hD⟩), k2⟩
    | bor d =>
      obtain ⟨as, k1, k2⟩ := ok
      exact ⟨as, k1.upd h (fun a ha z => k2 a ha p hS (z ▸ hD)), k2⟩
    | scr l =>
      obtain ⟨a, k1, k2⟩ := ok
      exact ⟨a, k1, (fix_upd h).extL k2⟩
  disj := b.disj
  trk := fun i a q => by
    by_cases z : a = D
    · rw [z, upd_same]; exact ⟨_, rfl⟩
    · rw [upd_ne z]; exact b.trk i a q
  fdis := b.fdis
  ftrk := fun a q => by
    by_cases z : a = D
    · rw [z, upd_same]; exact ⟨_, rfl⟩
    · rw [upd_ne z]; exact b.ftrk a q
  emp := b.emp
  len := b.len
/-- a new item, told without the place of the list that is being made -/
theorem item_lem {H1 H3 H4 : Hp} {A1 : Own} {p : Nat} {D : Addr} {acc : List V} {us vs : List Nat} {y : V} {r : R} (nO : ∀ {a : Addr}, H1 a = none → ¬ Bd A1 a ∧ a ∉ A1.fr) (sm13 : Same H1 H3) (hHD3 : H3 D = some (.lst acc)) (hp : p ∉ us) (hu : ∀ i ∈ us, i ∈ vs)
    (rv : RVal K H3 (A1.put p (D :: A1 p)) H4 (A1.put p (D :: A1 p)) us y r) :
    ∃ cs, DpR K H4 y r.2 cs ∧ (∀ a ∈ cs, a ≠ D) ∧ (∀ a ∈ cs, ∀ i, i ∉ vs → a ∉ A1 i) ∧ ((r.1 || imm r.2) = true → cs.Nodup ∧ (∀ a ∈ cs, ¬ Bd A1 a ∧ a ∉ A1.fr) ∧ (∀ a ∈ cs, H1 a = none) ∧ ∀ a ∈ cs, H3 a = none) := by
  rcases rv with ⟨_, cs, d1, d2, d3, d4⟩ | ⟨er, cs, d1, d2⟩
  · have new3 : ∀ a ∈ cs, H3 a = none := fun a ha => (d4 a ha).resolve_left (d3 a ha).1
    have new1 : ∀ a ∈ cs, H1 a = none := fun a ha => by
      cases e : H1 a with
      | none => rfl
      | some o => have := sm13 a o e; rw [new3 a ha] at this; cases this
    refine ⟨cs, d1, fun a ha z => ?_, fun a ha i _ q => (nO (new1 a ha)).1 ⟨i, q⟩, fun _ => ⟨d2, fun a ha => nO (new1 a ha), new1, new3⟩⟩
    have := new3 a ha
    rw [z, hHD3] at this
    cases this
  · refine ⟨cs, d1, fun a ha z => ?_, fun a ha i hi q => ?_, fun e => ?_⟩
    · have := d2 a ha p hp
      rw [Own.put_same, z] at this
      simp at this
    · by_cases hip : i = p
      · have := d2 a ha p hp
        rw [Own.put_same] at this
        exact this (List.mem_cons_of_mem _ (hip ▸ q))
      · exact d2 a ha i (fun m => hi (hu i m)) (by rw [Own.put_ne _ _ hip]; exact q)
    · rw [er, Bool.false_or] at e
      have := d1.imm e
      subst this
      exact ⟨.nil, fun a h => by simp at h, fun a h => by simp at h, fun a h => by simp at h⟩
end
section
variable {K : PySem.W.Frag} {ca : Nat → Addr} {cf : CF} {S : List Nat}
/-- the store and the tests of a turn, which change nothing -/
theorem turn0_lem {own tgt : List Nat} {single : Bool} {cnd : Es} {d : D} {ρw ρ1 ρ2 : PV.Env} {c : Bool} {σ : L2.St} {H : Hp} {A : Own} {v : V} {as : List Addr} {G : L2.St → Bool → Hp → Prop} (one : ∀ e r, cnd = .cons e r → r = .nil) (he : effs cnd = false)
    (rep : Rep K H S (L2.wipe σ own) ρw A) (ow : ∀ i ∈ own, A i = []) (dp : DpR K H v d as) (ko : ∀ a ∈ as, ∀ j, j ∉ S → a ∉ A j) (tg : ∀ i ∈ tgt, i ∈ own) (e1 : bindT .bor tgt single d ρw = .ok ρ1) (e2 : tests cf cnd ρ1 = .ok (c, ρ2))
    (hG : ∀ σ2 H3, L2.wipe σ2 own = L2.wipe σ own → σ2.length = σ.length → Rep K H3 S σ2 ρ2 A → Same H H3 → G σ2 c H3) :
    tTg K S .bor tgt single v (L2.wipe σ own) H fun σ2 H2 => L2.wipe σ2 own = L2.wipe σ own ∧ tTests K ca cf S cnd σ2 H2 fun b H3 => G σ2 b H3 := by
  refine ⟨ρw, A, d, as, ρ1, rep, dp, fun B hB _ => kok_bor fun a ha j hj q => ko a ha j hj (hB j a q), e1, fun σ2 r1 o1 l1 => ?_⟩
  have hA : A.wip tgt = A := Own.wip_self fun i hi => ow i (tg i hi)
  rw [hA] at r1
  have hw : L2.wipe σ2 own = L2.wipe σ own := by
    refine wipe_eq (fun j hj => ?_) (by rw [l1, wipe_length])
    rw [o1 j (fun q => hj (tg j q)), wipe_out hj]
  have hl : σ2.length = σ.length := by rw [l1, wipe_length]
  refine ⟨hw, ?_⟩
  cases cnd with
  | nil =>
    simp only [tests] at e2
    cases e2
    exact hG σ2 H hw hl r1 (Same.refl _)
  | cons e r =>
    have := one e r rfl
    subst this
    simp only [tests] at e2
    obtain ⟨⟨⟨ob, db⟩, ρx⟩, e4, e2⟩ := bind_inv e2
    obtain ⟨b, e5, e2⟩ := bind_inv e2
    have hd := bool_inv e5
    dsimp only at hd
    subst hd
    have hc : b = c ∧ ρx = ρ2 := by
      cases b
      · simp only [Bool.false_eq_true, if_false] at e2; cases e2; exact ⟨rfl, rfl⟩
      · simp only [if_true] at e2; cases e2; exact ⟨rfl, rfl⟩
    obtain ⟨hc1, hc2⟩ := hc
    subst hc1 hc2
    refine ⟨ρ1, A, r1, ?_⟩
    rw [e4]
    intro H3 A3 r3 s3 ef3
    simp only [effs, Bool.or_eq_false_iff] at he
    obtain ⟨q, m⟩ := ef3 he.1
    subst q
    exact hG σ2 H3 hw hl r3 m
/-- the second clause's loop -/
theorem in_lem {elt : E} {tgt1 : List Nat} {single1 : Bool} {it1 : PV.It} {cnd1 : Es} {own1 vs : List Nat} {as : List Addr} {σ2 : L2.St} {ρ2 ρ3 : PV.Env} {ds1 : List D} {l1 lacc : List D} {k1 kacc : Bool} {H1 H0 : Hp} {A1 : Own} {p : Nat} {D : Addr} {acc : List V} {Nx : Hp → Prop} (one : ∀ e r, cnd1 = .cons e r → r = .nil) (tg : ∀ i ∈ tgt1, i ∈ own1) (he : (eff elt || effs cnd1) = false) (hi : effi it1 = false)
    (rep : Rep K H0 S σ2 ρ2 (A1.put p (D :: A1 p))) (nO : ∀ {a : Addr}, H1 a = none → ¬ Bd A1 a ∧ a ∉ A1.fr) (hD : H1 D = none) (sm0 : Same H1 H0) (hD0 : H0 D = some (.lst acc)) (ac0 : AccP K H1 H0 A1 vs D acc lacc kacc as) (hpl : σ2.length ≤ p) (hp : p ∉ vars elt ++ (varsi it1 ++ S)) (hu : ∀ i ∈ vars elt ++ (varsi it1 ++ S), i ∈ vs)
    (e1 : evi cf it1 ρ2 = .ok (ds1, ρ3)) (hown : own1.all (fun i => immAt ρ3 i && decide (i < ρ3.length)) = true) (e2 : compP (turnE cf elt cnd1 tgt1 single1) (PV.wipe ρ3 own1) ds1 = .ok (k1, l1)) (hlen : lenOk (lacc ++ l1).length = true)
    (hNx : ∀ H acc' as', Same H1 H → H D = some (.lst acc') → AccP K H1 H A1 vs D acc' (lacc ++ l1) (kacc && k1) as' → Nx H) :
    tIt K ca cf S WF it1 σ2 H0 fun J1 H4 => ∃ W1 : Nat → Nat → Hp → Prop, (∃ m, W1 0 m H4) ∧ ∀ j k H, W1 j k H →
      (J1.stop j H ∧ Nx H) ∨ (J1.go j H ∧ ∃ Nx1 : Hp → Prop, (∀ H', Nx1 H' → ∃ k', k' < k ∧ W1 (j + 1) k' H') ∧ ∀ x H', J1.yld j H x H' → tTg K (varsi it1 ++ S) .bor tgt1 single1 x (L2.wipe σ2 own1) H' fun σ3 H5 => L2.wipe σ3 own1 = L2.wipe σ2 own1 ∧ tTests K ca cf (varsi it1 ++ S) cnd1 σ3 H5 fun b H6 =>
        if b = true then tS K ca cf (varsi it1 ++ S) WF elt σ3 H6 fun y H7 => ∃ acc, H7 D = some (.lst acc) ∧ acc.length < sizeLine ∧ Nx1 (upd H7 D (.lst (acc ++ [y]))) else Nx1 H6) := by
  refine ⟨ρ2, A1.put p (D :: A1 p), rep, ?_⟩
  rw [e1]
  intro J H4 A4 F r4 s4 it av tr ef
  obtain ⟨qA, sm4⟩ := ef hi
  subst qA
  dsimp only at r4
  have hemp := own_emp r4 hown
  have sm14 := sm0.trans sm4
  have pS : p ∉ varsi it1 ++ S := fun m => hp (List.mem_append_right _ m)
  have hDp : D ∈ (A1.put p (D :: A1 p)) p := by rw [Own.put_same]; exact List.mem_cons_self
  have hD4 : H4 D = some (.lst acc) := sm4 D _ hD0
  have FD : ∀ a ∈ F, a ≠ D := fun a ha z => av a ha p pS (z ▸ hDp)
  have hpl3 : ρ3.length ≤ p := Nat.le_trans r4.len hpl
  have rb : Rep K H4 (varsi it1 ++ S) (L2.wipe σ2 own1) (PV.wipe ρ3 own1) (A1.put p (D :: A1 p)) := by
    have := (r4.more (S' := varsi it1 ++ S) fun i hi => List.mem_append_right _ hi).wip (σ2 := L2.wipe σ2 own1) (ρ2 := PV.wipe ρ3 own1) own1 (by rw [wipe_length]) (fun i hi => wipe_out hi) (fun i => wipe_get) (wipe_len _ _)
    rwa [Own.wip_self hemp] at this
  have hpw : (PV.wipe ρ3 own1).length ≤ p := Nat.le_trans rb.len (by rw [wipe_length]; exact hpl)
  let Pv : Nat → Hp → Prop := fun j H => j ≤ ds1.length ∧ Same H1 H ∧ (∀ a o, a ≠ D → H4 a = some o → H a = some o) ∧ Rep K H (varsi it1 ++ S) (L2.wipe σ2 own1) (PV.wipe ρ3 own1) (A1.put p (D :: A1 p)) ∧ ∃ acc lacc' kacc' as k' l', H D = some (.lst acc) ∧ compP (turnE cf elt cnd1 tgt1 single1) (PV.wipe ρ3 own1) (ds1.drop j) = .ok (k', l') ∧ (kacc && k1) = (kacc' && k') ∧ lacc ++ l1 = lacc' ++ l' ∧ AccP K H1 H A1 vs D acc lacc' kacc' as
  refine ⟨fun j m H => m = ds1.length - j ∧ Pv j H, ⟨ds1.length, by simp, Nat.zero_le _, sm14, fun a o _ h => h, rb, acc, lacc, kacc, as, k1, l1, hD4, by rw [List.drop_zero]; exact e2, rfl, rfl, ⟨ac0.dp.keep (Fix.of sm4) fun a _ xs e => sm4 a _ e, ac0.ne, ac0.av, ac0.own⟩⟩, ?_⟩
  rintro j m H2 ⟨rfl, hj, sm, sD, rb2, acc2, lacc2, kacc2, as2, k', l', hHD, ec, ek, el, ac⟩
  have fx42 : Fix H4 H2 := ⟨fun a xs h => sD a _ (fun z => by rw [z, hD4] at h; cases h) h, fun a o u h => sD a _ (fun z => by rw [z, hD4] at h; cases h) h⟩
  have itc := it H2 fx42 (fun a ha xs e => sD a _ (FD a ha) e) j
  by_cases hlt : j < ds1.length
  · refine .inr ?_
    have hd : ds1[j]? = some ds1[j] := List.getElem?_eq_getElem hlt
    obtain ⟨go, yl⟩ := itc.2 _ hd
    refine ⟨go, Pv (j + 1), fun H' p' => ⟨ds1.length - (j + 1), by omega, rfl, p'⟩, fun x H3 y => ?_⟩
    obtain ⟨sm3, bs, dx, sub⟩ := yl x H3 y
    have sm13 : Same H1 H3 := sm.trans sm3
    rw [getD_drop hlt] at ec
    simp only [compP] at ec
    obtain ⟨⟨o, ρ'⟩, eb, ec⟩ := bind_inv ec
    obtain ⟨⟨k2, l2⟩, ec2, ec⟩ := bind_inv ec
    dsimp only at ec
    have hHD3 : H3 D = some (.lst acc2) := sm3 D _ hHD
    have rt : Rep K H3 (varsi it1 ++ S) (L2.wipe σ2 own1) (PV.wipe ρ3 own1) (A1.put p (D :: A1 p)) := rb2.new sm3
    have ac3 : DpRs K H3 acc2 lacc2 as2 := ac.dp.keep (Fix.of sm3) fun a _ xs e => sm3 a _ e
    have sD3 : ∀ a o, a ≠ D → H4 a = some o → H3 a = some o := fun a o n h => sm3 a o (sD a o n h)
    refine turn_lem one rt hemp dx (fun a ha i hi => av a (sub a ha) i hi) tg eb (fun r y H5 A5 eo r5 _ s5 rv5 ef5 => ?_) (fun H5 A5 eo r5 _ s5 ef5 => ?_)
    · obtain ⟨eA, sm5⟩ := ef5 he
      subst eA
      subst eo
      cases ec
      have hHD5 : H5 D = some (.lst acc2) := sm5 D _ hHD3
      have ac5 : DpRs K H5 acc2 lacc2 as2 := ac3.keep (Fix.of sm5) fun a _ xs e => sm5 a _ e
      obtain ⟨cs, d1, d2, d3, d4⟩ := item_lem nO sm13 hHD3 hp hu rv5
      have ll : acc2.length = lacc2.length := ac.dp.length
      refine ⟨acc2, hHD5, ?_, hlt, ?_, ?_, ((rt.new sm5).updP hHD5 hDp hpw pS), acc2 ++ [y], lacc2 ++ [r.2], kacc2 && (r.1 || imm r.2), as2 ++ cs, k2, l2, upd_same, ec2, ?_, ?_, ?_⟩
      · simp only [lenOk, decide_eq_true_eq] at hlen
        rw [el] at hlen
        simp only [List.length_append, List.length_cons] at hlen
        omega
      · intro a o e
        have hne : a ≠ D := fun z => by rw [z, hD] at e; cases e
        rw [upd_ne hne]
        exact sm5 a o (sm13 a o e)
      · intro a o n e
        rw [upd_ne n]
        exact sm5 a o (sD3 a o n e)
      · rw [ek]; cases kacc2 <;> cases r.1 <;> cases imm r.2 <;> cases k2 <;> rfl
      · rw [el]; simp
      · refine ⟨(ac5.app (.one d1)).upd hHD5 fun a ha => (List.mem_append.mp ha).elim (ac.ne a) (d2 a), fun a ha => (List.mem_append.mp ha).elim (ac.ne a) (d2 a), fun a ha => (List.mem_append.mp ha).elim (ac.av a) (d3 a), fun e => ?_⟩
        simp only [Bool.and_eq_true] at e
        obtain ⟨a1, a2, a3⟩ := ac.own e.1
        obtain ⟨b1, b2, b3, b4⟩ := d4 e.2
        refine ⟨List.nodup_append.mpr ⟨a1, b1, fun x hx y hy z => ?_⟩, fun a ha => (List.mem_append.mp ha).elim (a2 a) (b2 a), fun a ha => (List.mem_append.mp ha).elim (a3 a) (b3 a)⟩
        subst z
        obtain ⟨xs, e⟩ := ac3.trk x hx
        rw [b4 x hy] at e
        cases e
    · obtain ⟨eA, sm5⟩ := ef5 he
      subst eA
      subst eo
      cases ec
      exact ⟨hlt, sm13.trans sm5, fun a o n e => sm5 a o (sD3 a o n e), rt.new sm5, acc2, lacc2, kacc2, as2, _, _, sm5 D _ hHD3, ec2, ek, el, ac3.keep (Fix.of sm5) (fun a _ xs e => sm5 a _ e), ac.ne, ac.av, ac.own⟩
  · have hle : j = ds1.length := by omega
    subst hle
    refine .inl ⟨itc.1 (Nat.le_refl _), ?_⟩
    rw [List.drop_length] at ec
    simp only [compP] at ec
    cases ec
    rw [Bool.and_true] at ek
    rw [List.append_nil] at el
    exact hNx H2 acc2 as2 sm hHD (ek ▸ el ▸ ac)
end
section
variable {ca : Nat → Addr} {S : List Nat} {W : WX}
theorem w_comp2P {elt : E} {tgt tgt1 : List Nat} {single single1 : Bool} {it it1 : PV.It} {cnd cnd1 : Es} {own own1 vs : List Nat} {ef : Bool} {σ : L2.St} {H : Hp} {Q : VK} {K : PySem.W.Frag} {cf : CF} {ρ : PV.Env} {A : Own} (one : ∀ e r, cnd = .cons e r → r = .nil) (one1 : ∀ e r, cnd1 = .cons e r → r = .nil) (tg : ∀ i ∈ tgt, i ∈ own) (tg1 : ∀ i ∈ tgt1, i ∈ own1)
    (hvs : vs = vars elt ++ varsi it ++ varss cnd ++ varsi it1 ++ varss cnd1) (hef : ef = false → effi it = false) (he : (eff elt || effs cnd || effi it1 || effs cnd1) = false) (rep : Rep K H S σ ρ A)
    (q : RG K ca W σ H A (PR K S σ vs ef H A Q) (evi cf it ρ >>= fun z => if own.all (fun i => immAt z.2 i && decide (i < z.2.length)) = true then noExc (compP2 (turn2 cf elt tgt single cnd tgt1 single1 it1 cnd1 own1) (PV.wipe z.2 own) z.1) >>= fun y => if lenOk y.2.length = true then .ok ((y.1, .list y.2), z.2) else .stuck else .stuck)) :
    tLc2 (tIt K ca cf S W it) (tTg K (varsi it ++ S) .bor tgt single) (tTests K ca cf (varsi it ++ S) cnd) (tIt K ca cf (varsi it ++ S) WF it1) (tTg K (varsi it1 ++ (varsi it ++ S)) .bor tgt1 single1) (tTests K ca cf (varsi it1 ++ (varsi it ++ S)) cnd1) (tS K ca cf (varsi it1 ++ (varsi it ++ S)) WF elt) own own1 σ H Q := by
  simp only [Bool.or_eq_false_iff] at he
  obtain ⟨⟨⟨he1, he2⟩, he3⟩, he4⟩ := he
  refine tIt_first rep (Stp.refl _ _) rep q fun ds ρ1 JJ H1 A1 F r1 s1 it1' av1 tr1 ef1 q => ?_
  dsimp only at q
  obtain ⟨hown, q⟩ := RG.ite q
  have hemp := own_emp r1 hown
  obtain ⟨⟨kk, l⟩, e1, q⟩ := RG.pure (ne_no _) q
  have e1 := noExc_inv e1
  obtain ⟨hlen, q⟩ := RG.ite q
  intro D hD
  have rb : Rep K H1 (varsi it ++ S) (L2.wipe σ own) (PV.wipe ρ1 own) A1 := by
    have := (r1.more (S' := varsi it ++ S) fun i hi => List.mem_append_right _ hi).wip (σ2 := L2.wipe σ own) (ρ2 := PV.wipe ρ1 own) own (by rw [wipe_length]) (fun i hi => wipe_out hi) (fun i => wipe_get) (wipe_len _ _)
    rwa [Own.wip_self hemp] at this
  obtain ⟨p, hp1, hp2, hp3⟩ := fresh_slot own (vars elt ++ (varsi it1 ++ (varsi it ++ S))) σ.length
  have pS : p ∉ varsi it ++ S := fun m => hp2 (List.mem_append_right _ (List.mem_append_right _ m))
  have hpw : (PV.wipe ρ1 own).length ≤ p := Nat.le_trans rb.len (by rw [wipe_length]; exact hp1)
  have trkD : ∀ {a : Addr}, (∃ xs, H1 a = some (.lst xs)) → a ≠ D := fun ⟨xs, e⟩ z => by rw [z, hD] at e; cases e
  have ow2 : ∀ i ∈ own, (A1.put p (D :: A1 p)) i = [] := fun i hi => by rw [Own.put_ne _ _ (fun z => hp3 (by rw [← z]; exact hi))]; exact hemp i hi
  have newD := new_out r1 hD
  have hu : ∀ i ∈ vars elt ++ (varsi it1 ++ (varsi it ++ S)), i ∈ vs ++ S := fun i hi => by
    rw [hvs]
    simp only [List.mem_append] at hi ⊢
    rcases hi with h | h | h | h
    · exact .inl (.inl (.inl (.inl (.inl h))))
    · exact .inl (.inl (.inr h))
    · exact .inl (.inl (.inl (.inl (.inr h))))
    · exact .inr h
  let Pv : Nat → Hp → Prop := fun i H => i ≤ ds.length ∧ Same H1 H ∧ ∃ acc lacc kacc as k' l', H D = some (.lst acc) ∧ compP2 (turn2 cf elt tgt single cnd tgt1 single1 it1 cnd1 own1) (PV.wipe ρ1 own) (ds.drop i) = .ok (k', l') ∧ kk = (kacc && k') ∧ l = lacc ++ l' ∧ AccP K H1 H A1 (vs ++ S) D acc lacc kacc as
  refine ⟨fun i m H => m = ds.length - i ∧ Pv i H, ⟨ds.length, by simp, Nat.zero_le _, same_upd hD, [], [], true, [], kk, l, upd_same, by rw [List.drop_zero]; exact e1, by simp, by simp, .nil, fun a h => by simp at h, fun a h => by simp at h, fun _ => ⟨.nil, fun a h => by simp at h, fun a h => by simp at h⟩⟩, ?_⟩
  rintro i m H2 ⟨rfl, hi, sm, acc, lacc, kacc, as, k', l', hHD, ec, ek, el, ac⟩
  have itc := it1' H2 (Fix.of sm) (fun a _ xs e => sm a _ e) i
  by_cases hlt : i < ds.length
  · refine .inr ?_
    have hd : ds[i]? = some ds[i] := List.getElem?_eq_getElem hlt
    obtain ⟨go, yl⟩ := itc.2 _ hd
    refine ⟨go, Pv (i + 1), fun H' p' => ⟨ds.length - (i + 1), by omega, rfl, p'⟩, fun x H3 y => ?_⟩
    obtain ⟨sm3, bs, dx, sub⟩ := yl x H3 y
    have sm13 : Same H1 H3 := sm.trans sm3
    rw [getD_drop hlt] at ec
    simp only [compP2] at ec
    obtain ⟨⟨k1, l1⟩, eb, ec⟩ := bind_inv ec
    obtain ⟨⟨k2, l2⟩, ec2, ec⟩ := bind_inv ec
    dsimp only at ec
    cases ec
    have hHD3 : H3 D = some (.lst acc) := sm3 D _ hHD
    have rt : Rep K H3 (varsi it ++ S) (L2.wipe σ own) (PV.wipe ρ1 own) (A1.put p (D :: A1 p)) := rb.pseudo sm13 hD hHD3 hpw
    have ac3 : AccP K H1 H3 A1 (vs ++ S) D acc lacc kacc as := ⟨ac.dp.keep (Fix.of sm3) fun a _ xs e => sm3 a _ e, ac.ne, ac.av, ac.own⟩
    have ko : ∀ a ∈ bs, ∀ j, j ∉ varsi it ++ S → a ∉ (A1.put p (D :: A1 p)) j := fun a ha j hj m => by
      by_cases hjp : j = p
      · rw [hjp, Own.put_same] at m
        rcases List.mem_cons.mp m with m | m
        · exact trkD (tr1 a (sub a ha)) m
        · exact av1 a (sub a ha) p pS m
      · rw [Own.put_ne _ _ hjp] at m
        exact av1 a (sub a ha) j hj m
    have next : ∀ H acc' as', Same H1 H → H D = some (.lst acc') → AccP K H1 H A1 (vs ++ S) D acc' (lacc ++ l1) (kacc && k1) as' → Pv (i + 1) H := fun H' acc' as' s h a =>
      ⟨hlt, s, acc', lacc ++ l1, kacc && k1, as', k2, l2, h, ec2, by rw [ek, Bool.and_assoc], by rw [el, List.append_assoc], a⟩
    unfold turn2 at eb
    obtain ⟨ρa, ea, eb⟩ := bind_inv eb
    obtain ⟨⟨c, ρb⟩, et, eb⟩ := bind_inv eb
    dsimp only at eb
    refine turn0_lem (c := c) one he2 rt ow2 dx ko tg ea et fun σ2 H4 hw hl2 r4 sm4 => ?_
    have hHD4 : H4 D = some (.lst acc) := sm4 D _ hHD3
    have ac4 : AccP K H1 H4 A1 (vs ++ S) D acc lacc kacc as := ⟨ac3.dp.keep (Fix.of sm4) fun a _ xs e => sm4 a _ e, ac.ne, ac.av, ac.own⟩
    cases c with
    | true =>
      simp only [if_true] at eb ⊢
      obtain ⟨⟨ds1, ρ3⟩, ei, eb⟩ := bind_inv eb
      dsimp only at eb
      split at eb
      · rename_i hown1
        refine in_lem one1 tg1 (by rw [he1, he4]; rfl) he3 r4 (fun h => new_out r1 h) hD (sm13.trans sm4) hHD4 ac4 (by rw [hl2]; exact hp1) hp2 hu ei hown1 eb ?_ next
        simp only [lenOk, decide_eq_true_eq] at hlen ⊢
        rw [el] at hlen
        simp only [List.length_append] at hlen ⊢
        omega
      · cases eb
    | false =>
      simp only [Bool.false_eq_true, if_false] at eb ⊢
      cases eb
      exact next H4 acc as (sm13.trans sm4) hHD4 (by rw [List.append_nil, Bool.and_true]; exact ac4)
  · have hle : i = ds.length := by omega
    subst hle
    refine .inl ⟨itc.1 (Nat.le_refl _), ?_⟩
    rw [List.drop_length] at ec
    simp only [compP2] at ec
    cases ec
    rw [Bool.and_true] at ek
    rw [List.append_nil] at el
    subst ek el
    refine q _ H2 A1 (r1.new sm) (s1.then_new rep sm) ?_ fun e => ?_
    · cases hk : kk with
      | true =>
        obtain ⟨a1, a2, a3⟩ := ac.own hk
        refine .inl ⟨rfl, D :: as, .lst hHD ac.dp, List.nodup_cons.mpr ⟨fun m => ac.ne D m rfl, a1⟩, fun a ha => ?_, fun a ha => ?_⟩
        · rcases List.mem_cons.mp ha with z | ha
          · rw [z]; exact newD
          · exact a2 a ha
        · rcases List.mem_cons.mp ha with z | ha
          · rw [z]; exact .inr (s1.there rep hD)
          · exact .inr (s1.there rep (a3 a ha))
      | false =>
        refine .inr ⟨rfl, D :: as, .lst hHD ac.dp, fun a ha i hi => ?_⟩
        rcases List.mem_cons.mp ha with z | ha
        · rw [z]; exact fun m => newD.1 ⟨i, m⟩
        · exact ac.av a ha i hi
    · obtain ⟨q1, m1⟩ := ef1 (hef e)
      exact ⟨q1, m1.trans sm⟩
end
end PV
set_option Elab.async false
set_option linter.all false
set_option maxRecDepth 100000
set_option maxHeartbeats 4000000
/-! PV22: all expressions. -/
namespace PV
open PySem PySem.Spec PyProof.Rows L2
def GoodE (e : E) : Prop := ∀ ⦃J : Info⦄ ⦃fs : List Fn⦄ ⦃ca : Nat → Addr⦄ ⦃k : Nat⦄ ⦃N : List Str⦄ ⦃sc : Scope⦄ ⦃W : WX⦄ ⦃X : Cx⦄ ⦃S : List Nat⦄, Cxt J fs ca k N sc W X → (eff e = true → S = []) → ∀ x, mE J N e sc x = true → SE ca fs k S W X e x ∧ ST ca fs k S W X e x
def GoodEs (es : Es) : Prop := ∀ ⦃J : Info⦄ ⦃fs : List Fn⦄ ⦃ca : Nat → Addr⦄ ⦃k : Nat⦄ ⦃N : List Str⦄ ⦃sc : Scope⦄ ⦃W : WX⦄ ⦃X : Cx⦄ ⦃S : List Nat⦄, Cxt J fs ca k N sc W X → (effs es = true → S = []) →
  (∀ xs, mEs J N es sc xs = true → SA ca fs k S W X es xs ∧ PA X xs (tAr X.K ca (runF fs k) S W es)) ∧ (∀ xs, mCs J N es sc xs = true → (∀ e r, es = .cons e r → r = .nil) ∧ (∀ e, es = .cons e .nil → ∃ x, xs = [x] ∧ ST ca fs k S W X e x) ∧ (es = .nil → xs = []))
def GoodO (o : Oe) : Prop := ∀ ⦃J : Info⦄ ⦃fs : List Fn⦄ ⦃ca : Nat → Addr⦄ ⦃k : Nat⦄ ⦃N : List Str⦄ ⦃sc : Scope⦄ ⦃W : WX⦄ ⦃X : Cx⦄ ⦃S : List Nat⦄, Cxt J fs ca k N sc W X → (effo o = true → S = []) → ∀ x, mO J N o sc x = true → PO X x (tOo X.K ca (runF fs k) S W o)
def GoodI (it : PV.It) : Prop := ∀ ⦃J : Info⦄ ⦃fs : List Fn⦄ ⦃ca : Nat → Addr⦄ ⦃k : Nat⦄ ⦃N : List Str⦄ ⦃sc : Scope⦄ ⦃W : WX⦄ ⦃X : Cx⦄ ⦃S : List Nat⦄, Cxt J fs ca k N sc W X → (effi it = true → S = []) → ∀ x tg, mI J N it sc x = true → (∀ single, pairB single it = true → (single = false → ∃ es kk p, tg = .Tuple es kk p) → SI ca fs k S W X tg it x)
theorem or_l {a b : Bool} {S : List Nat} (h : (a || b) = true → S = []) : a = true → S = [] := fun e => h (by simp [e])
theorem or_r {a b : Bool} {S : List Nat} (h : (a || b) = true → S = []) : b = true → S = [] := fun e => h (by simp [e])
theorem names_snd (N : List Str) (own : List Nat) : (namesOf N own).map (·.2) = own := by
  unfold namesOf
  rw [List.map_map]
  have : ((·.2) ∘ fun i : Nat => (N.getD i ("" : Str), i)) = id := rfl
  rw [this, List.map_id]
theorem plain_iter {it : Expr} {env : PySem.Env} (h : plainX it = true) : ∀ x, foldedSetIterable it env x = pure x := by
  intro x
  cases it <;> first | rfl | (simp [plainX] at h)
theorem mI_plain {J : Info} {N : List Str} {it : PV.It} {sc : Scope} {x : Expr} (h : mI J N it sc x = true) : plainX x = true := by
  cases it <;> simp only [mI] at h
  case seq e => simp only [Bool.and_eq_true] at h; exact h.1
  all_goals
    split at h
    · rfl
    · cases h
theorem single_tup {fn : Str → Bool} {N : List Str} {sc : Scope} {t : Expr} {tgt : List Nat} {single : Bool} (h : targetB fn N sc t tgt single = true) : single = false → ∃ es kk p, t = .Tuple es kk p := by
  intro e
  subst e
  unfold targetB at h
  simp only [Bool.false_eq_true, if_false] at h
  split at h
  · exact ⟨_, _, _, rfl⟩
  · cases h
section
variable {J : Info} {fs : List Fn} {ca : Nat → Addr} {k : Nat} {N : List Str} {sc : Scope} {W : WX} {X : Cx} {S : List Nat}
theorem pts_of {cnd : Es} {ifs : List Expr} {S : List Nat} {X : Cx} (g : (∀ e r, cnd = .cons e r → r = .nil) ∧ (∀ e, cnd = .cons e .nil → ∃ x, ifs = [x] ∧ ST ca fs k S WF X e x) ∧ (cnd = .nil → ifs = [])) : PTs X ifs (tTests X.K ca (runF fs k) S cnd) := by
  obtain ⟨g1, g2, g3⟩ := g
  cases cnd with
  | nil => rw [g3 rfl]; exact pts_nil
  | cons e r =>
    have := g1 e r rfl
    subst this
    obtain ⟨x, e1, h⟩ := g2 e rfl
    rw [e1]
    exact pts_one h
theorem s_comp {elt : E} {tgt : List Nat} {single : Bool} {it : PV.It} {cnd : Es} {own : List Nat} {x t i : Expr} {ifs : List Expr} {scope : Scope} {pos : Pos} (C : Cxt J fs ca k N sc W X) (hS : eff (.comp elt tgt single it cnd own) = true → S = []) (ge : GoodE elt) (gi : GoodI it) (gc : GoodEs cnd)
    (hb : blkC N sc scope (namesOf N own) = true) (ht : targetB (fun x => scope.names.lookup x == some .cell) N (relS scope sc) t tgt single = true) (hto : tgt.all (fun i => own.contains i) = true) (hp : pairB single it = true) (hi : mI J N it sc i = true) (hc : mCs J N cnd (relS scope sc) ifs = true) (he : mE J N elt (relS scope sc) x = true) :
    SE ca fs k S W X (.comp elt tgt single it cnd own) (.ListComp x [⟨t, i, ifs, 0⟩] scope pos) := by
  have tg : ∀ i ∈ tgt, i ∈ own := fun i hi => by
    have := List.all_eq_true.mp hto i hi
    exact List.contains_iff_mem.mp this
  have bo : BlkOk X.N X.env.scope scope (namesOf N own) := by rw [C.N, C.sc]; exact blkOk_by hb
  have go : ∀ S' : List Nat, ((eff elt || effs cnd) = true → S' = []) → (effi it = true → S = []) → PE X (.ListComp x [⟨t, i, ifs, 0⟩] scope pos) (tLc (tIt X.K ca (runF fs k) S W it) (tTg X.K S' .bor tgt single) (tTests X.K ca (runF fs k) S' cnd) (tS X.K ca (runF fs k) S' WF elt) own) := fun S' h1 h2 => by
    have := pe_lc (pos := pos) (elt := x) (te := tS X.K ca (runF fs k) S' WF elt) (tt := tTests X.K ca (runF fs k) S' cnd) (g := tTg X.K S' .bor tgt single) C.calm C.nd (gi C h2 i t hi single hp (single_tup ht)) bo
      (fun s H D cl fp => pg_tgt (kc := .bor) (S := S') (fun d d' => by simp) (C.blk s H scope D cl fp) (fun y hy => hy) ht)
      (fun s H D cl fp => pts_of ((gc (C.blk s H scope D cl fp) (or_r h1)).2 ifs hc))
      (fun s H D cl fp => (ge (C.blk s H scope D cl fp) (or_l h1) x he).1) (plain_iter (mI_plain hi))
    rwa [names_snd] at this
  have one : ∀ e r, cnd = .cons e r → r = .nil := by
    intro e r h
    subst h
    cases r with
    | nil => rfl
    | cons e' r' => simp [mCs] at hc
  have hi' : effi it = true → S = [] := fun e => hS (by simp [eff, e])
  by_cases hf : (eff elt || effs cnd) = true
  · have hS0 : S = [] := hS (by
      simp only [eff, Bool.or_eq_true] at hf ⊢
      rcases hf with h | h
      · exact .inl (.inl h)
      · exact .inr h)
    subst hS0
    exact (go [] (fun _ => rfl) hi').weaken fun σ H Q h => w_compE one tg hf h
  · have hf' : (eff elt || effs cnd) = false := by simpa using hf
    exact (go (varsi it ++ S) (fun e => absurd e hf) hi').weaken fun σ H Q h => w_compP one tg hf' h
theorem s_comp2 {elt : E} {tgt tgt1 : List Nat} {single single1 : Bool} {it it1 : PV.It} {cnd cnd1 : Es} {own : List Nat} {x t i t1 i1 : Expr} {ifs ifs1 : List Expr} {scope : Scope} {pos : Pos} (C : Cxt J fs ca k N sc W X) (hS : eff (.comp2 elt tgt single it cnd own tgt1 single1 it1 cnd1) = true → S = []) (ge : GoodE elt) (gi : GoodI it) (gc : GoodEs cnd) (gi1 : GoodI it1) (gc1 : GoodEs cnd1)
    (hb : blkC N sc scope (namesOf N own) = true) (ht : targetB (fun x => scope.names.lookup x == some .cell) N (relS scope sc) t tgt single = true) (hto : tgt.all (fun i => own.contains i) = true) (hp : pairB single it = true) (hi : mI J N it sc i = true) (hc : mCs J N cnd (relS scope sc) ifs = true) (he : mE J N elt (relS scope sc) x = true)
    (ht1 : targetB (fun x => scope.names.lookup x == some .cell) N (relS scope sc) t1 tgt1 single1 = true) (hto1 : tgt1.all (fun i => own.contains i) = true) (hp1 : pairB single1 it1 = true) (hi1 : mI J N it1 (relS scope sc) i1 = true) (hc1 : mCs J N cnd1 (relS scope sc) ifs1 = true) (hf' : (eff elt || effs cnd || effi it1 || effs cnd1) = false) :
    SE ca fs k S W X (.comp2 elt tgt single it cnd own tgt1 single1 it1 cnd1) (.ListComp x [⟨t, i, ifs, 0⟩, ⟨t1, i1, ifs1, 0⟩] scope pos) := by
  have tg : ∀ i ∈ tgt, i ∈ own := fun i hi => List.contains_iff_mem.mp (List.all_eq_true.mp hto i hi)
  have tg1 : ∀ i ∈ tgt1, i ∈ own := fun i hi => List.contains_iff_mem.mp (List.all_eq_true.mp hto1 i hi)
  have bo : BlkOk X.N X.env.scope scope (namesOf N own) := by rw [C.N, C.sc]; exact blkOk_by hb
  have one : ∀ {cnd : Es} {sc : Scope} {ifs : List Expr}, mCs J N cnd sc ifs = true → ∀ e r, cnd = .cons e r → r = .nil := by
    intro cnd sc ifs hc e r h
    subst h
    cases r with
    | nil => rfl
    | cons e' r' => simp [mCs] at hc
  have hi' : effi it = true → S = [] := fun e => hS (by simp [eff, e])
  have hf2 := hf'
  simp only [Bool.or_eq_false_iff] at hf2
  obtain ⟨⟨⟨f1, f2⟩, f3⟩, f4⟩ := hf2
  have no : ∀ {b : Bool} {S' : List Nat}, b = false → b = true → S' = [] := fun h e => by rw [h] at e; cases e
  have := pe_lc2 (pos := pos) (elt := x) (te := tS X.K ca (runF fs k) (varsi it1 ++ (varsi it ++ S)) WF elt) (tt := tTests X.K ca (runF fs k) (varsi it ++ S) cnd) (g := tTg X.K (varsi it ++ S) .bor tgt single) (wi1 := tIt X.K ca (runF fs k) (varsi it ++ S) WF it1) (g1 := tTg X.K (varsi it1 ++ (varsi it ++ S)) .bor tgt1 single1) (tt1 := tTests X.K ca (runF fs k) (varsi it1 ++ (varsi it ++ S)) cnd1) (vs1 := tgt1) C.calm C.nd (gi C hi' i t hi single hp (single_tup ht)) bo (by rw [names_snd]; exact tg1)
    (fun s H D cl fp => pg_tgt (kc := .bor) (S := varsi it ++ S) (fun d d' => by simp) (C.blk s H scope D cl fp) (fun y hy => hy) ht)
    (fun s H D cl fp => pts_of ((gc (C.blk s H scope D cl fp) (no f2)).2 ifs hc))
    (fun s H D cl fp => gi1 (C.blk s H scope D cl fp) (no f3) i1 t1 hi1 single1 hp1 (single_tup ht1))
    (fun s H D cl fp => pg_tgt (kc := .bor) (S := varsi it1 ++ (varsi it ++ S)) (fun d d' => by simp) (C.blk s H scope D cl fp) (fun y hy => hy) ht1)
    (fun s H D cl fp => pts_of ((gc1 (C.blk s H scope D cl fp) (no f4)).2 ifs1 hc1))
    (fun s H D cl fp => (ge (C.blk s H scope D cl fp) (no f1) x he).1) (plain_iter (mI_plain hi)) (fun env => plain_iter (mI_plain hi1))
  rw [names_snd] at this
  refine this.weaken fun σ H Q h => ?_
  obtain ⟨ρ, A, rep, q⟩ := h
  rw [rn_rg] at q
  simp only [ev] at q
  refine w_comp2P (one hc) (one hc1) tg (fun i h => h) rfl (fun e => ?_) hf' rep (ef := eff (.comp2 elt tgt single it cnd own tgt1 single1 it1 cnd1)) ?_
  · simp only [eff, Bool.or_eq_false_iff] at e
    exact e.1.1.1.2
  · simp only [hf', Bool.false_eq_true, if_false] at q
    exact q
end
theorem both {ca : Nat → Addr} {fs : List Fn} {k : Nat} {S : List Nat} {W : WX} {X : Cx} {e : E} {x : Expr} (h : SE ca fs k S W X e x) (he : ∀ whole, isTrue x X.env whole = (do let v ← whole; standAt x.pos; holding [v] (truthy v))) : SE ca fs k S W X e x ∧ ST ca fs k S W X e x := ⟨h, st_of h he⟩
mutual
theorem good_E : ∀ e : E, GoodE e
  | .var i => by
    intro J fs ca k N sc W X S C hS x h
    have g := s_var (S := S) C h
    simp only [mE] at h
    split at h <;> first | exact ⟨g, st_of g fun _ => rfl⟩ | cases h
  | .ref i => by
    intro J fs ca k N sc W X S C hS x h
    exact ⟨⟨fun pins s σ H Q I ⟨ρ, A, rep, q⟩ => q.elim⟩, ⟨fun pins s σ H Q I ⟨ρ, A, rep, q⟩ => q.elim⟩⟩
  | .scr i => by
    intro J fs ca k N sc W X S C hS x h
    exact ⟨⟨fun pins s σ H Q I ⟨ρ, A, rep, q⟩ => q.elim⟩, ⟨fun pins s σ H Q I ⟨ρ, A, rep, q⟩ => q.elim⟩⟩
  | .scrL i => by
    intro J fs ca k N sc W X S C hS x h
    simp only [mE] at h
    split at h <;> try (cases h; done)
    simp only [Bool.and_eq_true, decide_eq_true_eq] at h
    obtain ⟨⟨h1, h2⟩, h3⟩ := h
    subst h1
    exact both (s_scrL (S := S) C h2 h3) fun _ => rfl
  | .int n => by
    intro J fs ca k N sc W X S C hS x h
    have g := s_int (S := S) C h
    simp only [mE] at h
    split at h <;> first | exact ⟨g, st_of g fun _ => rfl⟩ | cases h
  | .str n => by
    intro J fs ca k N sc W X S C hS x h
    have g := s_str (ca := ca) (fs := fs) (k := k) (S := S) (W := W) (X := X) h
    simp only [mE] at h
    split at h <;> first | exact ⟨g, st_of g fun _ => rfl⟩ | cases h
  | .bl n => by
    intro J fs ca k N sc W X S C hS x h
    have g := s_bl (ca := ca) (fs := fs) (k := k) (S := S) (W := W) (X := X) h
    simp only [mE] at h
    split at h <;> first | exact ⟨g, st_of g fun _ => rfl⟩ | cases h
  | .non => by
    intro J fs ca k N sc W X S C hS x h
    have g := s_non (ca := ca) (fs := fs) (k := k) (S := S) (W := W) (X := X) h
    simp only [mE] at h
    split at h <;> first | exact ⟨g, st_of g fun _ => rfl⟩ | cases h
  | .op2 o a b => by
    intro J fs ca k N sc W X S C hS x h
    have ga := fun x h => good_E a C (or_l hS) x h
    have gb := fun x h => good_E b C (or_r hS) x h
    have g := s_op2 C (fun x h => (ga x h).1) (fun x h => (gb x h).1) h
    simp only [mE] at h
    split at h <;> try (cases h; done)
    · exact ⟨g, st_of g fun _ => rfl⟩
    · simp only [Bool.and_eq_true, decide_eq_true_eq] at h
      obtain ⟨⟨⟨e, pl⟩, h1⟩, h2⟩ := h
      exact ⟨g, t_op2 C (ga _ h1).1 (gb _ h2).1 pl e⟩
  | .op1 o a => by
    intro J fs ca k N sc W X S C hS x h
    have ga := fun x h => good_E a C hS x h
    simp only [mE] at h
    split at h <;> try (cases h; done)
    · exact both (s_neg  (ga _ h).1) fun _ => rfl
    · simp only [Bool.and_eq_true] at h
      exact ⟨s_nt (ga _ h.2).1, t_nt (ga _ h.2).2⟩
  | .and a b => by
    intro J fs ca k N sc W X S C hS x h
    have ga := fun x h => good_E a C (or_l hS) x h
    have gb := fun x h => good_E b C (or_r hS) x h
    simp only [mE] at h
    split at h <;> try (cases h; done)
    · simp only [Bool.and_eq_true] at h
      obtain ⟨⟨⟨p1, p2⟩, h1⟩, h2⟩ := h
      exact ⟨s_and (ga _ h1).1 (pe_one (gb _ h2).1), t_and (ga _ h1).2 (pw_and1 (gb _ h2).2).pt⟩
    · simp only [Bool.and_eq_true] at h
      obtain ⟨⟨p1, h1⟩, h2⟩ := h
      exact ⟨s_and (ga _ h1).1 (gb _ h2).1, t_and (ga _ h1).2 (gb _ h2).2⟩
  | .or a b => by
    intro J fs ca k N sc W X S C hS x h
    have ga := fun x h => good_E a C (or_l hS) x h
    have gb := fun x h => good_E b C (or_r hS) x h
    simp only [mE] at h
    split at h <;> try (cases h; done)
    · simp only [Bool.and_eq_true] at h
      obtain ⟨⟨⟨p1, p2⟩, h1⟩, h2⟩ := h
      exact ⟨s_or (ga _ h1).1 (pe_one (gb _ h2).1), t_or (ga _ h1).2 (pw_or1 (gb _ h2).2).pt⟩
    · simp only [Bool.and_eq_true] at h
      obtain ⟨⟨p1, h1⟩, h2⟩ := h
      exact ⟨s_or (ga _ h1).1 (gb _ h2).1, t_or (ga _ h1).2 (gb _ h2).2⟩
  | .ite c a b => by
    intro J fs ca k N sc W X S C hS x h
    have gc := fun x h => good_E c C (or_l (or_l hS)) x h
    have ga := fun x h => good_E a C (or_r (or_l hS)) x h
    have gb := fun x h => good_E b C (or_r hS) x h
    simp only [mE] at h
    split at h <;> try (cases h; done)
    simp only [Bool.and_eq_true] at h
    obtain ⟨⟨⟨_, h0⟩, h1⟩, h2⟩ := h
    exact ⟨s_ite (gc _ h0).2 (ga _ h1).1 (gb _ h2).1, t_ite (gc _ h0).2 (ga _ h1).2 (gb _ h2).2⟩
  | .cmp3 o p a b c => by
    intro J fs ca k N sc W X S C hS x h
    have ga := fun x h => good_E a C (or_l (or_l hS)) x h
    have gb := fun x h => good_E b C (or_r (or_l hS)) x h
    have gc := fun x h => good_E c C (or_r hS) x h
    simp only [mE] at h
    split at h <;> try (cases h; done)
    simp only [Bool.and_eq_true, decide_eq_true_eq] at h
    obtain ⟨⟨⟨⟨⟨⟨e1, e2⟩, p1⟩, p2⟩, h0⟩, h1⟩, h2⟩ := h
    exact ⟨s_cmp3 C e1 e2 p1 p2 (ga _ h0).1 (gb _ h1).1 (gc _ h2).1, t_cmp3 C e1 e2 p1 p2 (ga _ h0).1 (gb _ h1).1 (gc _ h2).1⟩
  | .bi f as => by
    intro J fs ca k N sc W X S C hS x h
    have ga := (good_Es as C hS).1
    simp only [mE] at h
    split at h <;> try (cases h; done)
    simp only [Bool.and_eq_true, decide_eq_true_eq] at h
    obtain ⟨⟨⟨⟨e1, h1⟩, p1⟩, p2⟩, h2⟩ := h
    subst e1
    exact both (s_bi C h1 p1 p2 (ga _ h2).1) fun _ => rfl
  | .mt .index _ _ => by
    intro J fs ca k N sc W X S C hS x h
    simp [mE] at h
  | .mt .count o as => by
    intro J fs ca k N sc W X S C hS x h
    have ga := fun x h => good_E o C (or_l hS) x h
    have gb := (good_Es as C (or_r hS)).1
    simp only [mE] at h
    split at h <;> try (cases h; done)
    simp only [Bool.and_eq_true, decide_eq_true_eq] at h
    obtain ⟨⟨⟨⟨⟨e1, h1⟩, h2⟩, h3⟩, h4⟩, h5⟩ := h
    subst e1
    exact both (s_count C h1 h2 h3 (ga _ h4).1 (gb _ h5).1) fun _ => rfl
  | .sub o i => by
    intro J fs ca k N sc W X S C hS x h
    have ga := fun x h => good_E o C (or_l hS) x h
    have gb := fun x h => good_E i C (or_r hS) x h
    simp only [mE] at h
    split at h <;> try (cases h; done)
    simp only [Bool.and_eq_true] at h
    obtain ⟨⟨p1, h1⟩, h2⟩ := h
    by_cases hv : ∃ j, o = .var j
    · obtain ⟨j, rfl⟩ := hv
      exact both (s_subV C h1 p1 (gb _ h2).1) fun _ => rfl
    · exact both (s_sub p1 (fun ρ => by cases o <;> first | rfl | exact absurd ⟨_, rfl⟩ hv) (ga _ h1).1 (gb _ h2).1) fun _ => rfl
  | .slc o lo hi => by
    intro J fs ca k N sc W X S C hS x h
    have ga := fun x h => good_E o C (or_l (or_l hS)) x h
    have gl := good_O lo C (or_r (or_l hS))
    have gh := good_O hi C (or_r hS)
    simp only [mE] at h
    split at h <;> try (cases h; done)
    simp only [Bool.and_eq_true] at h
    obtain ⟨⟨h1, h2⟩, h3⟩ := h
    exact both (s_slcE (ga _ h1).1 (gl _ h2) (gh _ h3)) fun _ => rfl
  | .rev o => by
    intro J fs ca k N sc W X S C hS x h
    have ga := fun x h => good_E o C hS x h
    simp only [mE] at h
    split at h <;> try (cases h; done)
    exact both (s_rev (ga _ h).1) fun _ => rfl
  | .tup es => by
    intro J fs ca k N sc W X S C hS x h
    have ga := (good_Es es C hS).1
    simp only [mE] at h
    split at h <;> try (cases h; done)
    exact both (s_tup (ga _ h).1) fun _ => rfl
  | .lst es => by
    intro J fs ca k N sc W X S C hS x h
    have ga := (good_Es es C hS).1
    simp only [mE] at h
    split at h <;> try (cases h; done)
    exact both (s_lst (ga _ h).1) fun _ => rfl
  | .call f as => by
    intro J fs ca k N sc W X S C hS x h
    have ga := (good_Es as C hS).1
    simp only [mE] at h
    split at h <;> try (cases h; done)
    simp only [Bool.and_eq_true, decide_eq_true_eq] at h
    obtain ⟨⟨⟨⟨⟨⟨⟨hf, e1⟩, h1⟩, h2⟩, p1⟩, p2⟩, h3⟩, h4⟩ := h
    exact both (s_call C hf h1 e1 h2 p1 p2 (ga _ h3).2 h4 hS) fun _ => rfl
  | .pop0 i => by
    intro J fs ca k N sc W X S C hS x h
    simp only [mE] at h
    split at h <;> try (cases h; done)
    simp only [Bool.and_eq_true, decide_eq_true_eq] at h
    obtain ⟨⟨e1, h1⟩, h2⟩ := h
    subst e1
    exact both (s_pop0 (S := S) C h1 h2) fun _ => rfl
  | .pop1 i e => by
    intro J fs ca k N sc W X S C hS x h
    have ga := fun x h => good_E e C (fun _ => hS rfl) x h
    simp only [mE] at h
    split at h <;> try (cases h; done)
    simp only [Bool.and_eq_true, decide_eq_true_eq] at h
    obtain ⟨⟨⟨⟨e1, h1⟩, h2⟩, p1⟩, h3⟩ := h
    subst e1
    exact both (s_pop1 (S := S) C h1 h2 p1 (ga _ h3).1) fun _ => rfl
  | .comp elt tgt single it cnd own => by
    intro J fs ca k N sc W X S C hS x h
    have ge := good_E elt
    have gi := good_I it
    have gc := good_Es cnd
    simp only [mE] at h
    split at h <;> try (cases h; done)
    simp only [Bool.and_eq_true] at h
    obtain ⟨⟨⟨⟨⟨⟨⟨p1, h1⟩, h2⟩, h3⟩, h4⟩, h5⟩, h6⟩, h7⟩ := h
    exact both (s_comp C hS ge gi gc h1 h2 h3 h4 h5 h6 h7) fun _ => rfl
  | .rng a b => by
    intro J fs ca k N sc W X S C hS x h
    have ga := fun x h => good_E a C (or_l hS) x h
    have gb := fun x h => good_E b C (or_r hS) x h
    simp only [mE] at h
    split at h <;> try (cases h; done)
    simp only [Bool.and_eq_true, decide_eq_true_eq] at h
    obtain ⟨⟨⟨⟨⟨⟨⟨e1, h1⟩, e2⟩, h2⟩, p1⟩, p2⟩, h3⟩, h4⟩ := h
    subst e1 e2
    exact both (s_rng C h1 h2 p1 p2 (ga _ h3).1 (gb _ h4).1) fun _ => rfl
  | .rng1 b => by
    intro J fs ca k N sc W X S C hS x h
    have gb := fun x h => good_E b C hS x h
    simp only [mE] at h
    split at h <;> try (cases h; done)
    simp only [Bool.and_eq_true, decide_eq_true_eq] at h
    obtain ⟨⟨⟨⟨⟨e1, h1⟩, e2⟩, h2⟩, p2⟩, h4⟩ := h
    subst e1 e2
    exact both (s_rng1 C h1 h2 p2 (gb _ h4).1) fun _ => rfl
  | .comp2 elt tgt single it cnd own tgt1 single1 it1 cnd1 => by
    intro J fs ca k N sc W X S C hS x h
    have ge := good_E elt
    have gi := good_I it
    have gc := good_Es cnd
    have gi1 := good_I it1
    have gc1 := good_Es cnd1
    simp only [mE] at h
    split at h <;> try (cases h; done)
    simp only [Bool.and_eq_true] at h
    obtain ⟨⟨⟨⟨⟨⟨⟨⟨⟨⟨⟨⟨⟨p1, h1⟩, h2⟩, h3⟩, h4⟩, h5⟩, h6⟩, h7⟩, h8⟩, h9⟩, h10⟩, h11⟩, h12⟩, h13⟩ := h
    exact both (s_comp2 C hS ge gi gc gi1 gc1 h1 h2 h3 h4 h5 h6 h7 h8 h9 h10 h11 h12 (by simpa using h13)) fun _ => rfl
  | .isBool a => by
    intro J fs ca k N sc W X S C hS x h
    have ga := fun x h => good_E a C hS x h
    simp only [mE] at h
    split at h <;> try (cases h; done)
    simp only [Bool.and_eq_true, decide_eq_true_eq] at h
    obtain ⟨⟨⟨⟨⟨e1, h1⟩, e2⟩, h2⟩, p1⟩, h3⟩ := h
    subst e1 e2
    exact both (s_isBool C h1 h2 p1 (ga _ h3).1) fun _ => rfl
  | .isTup a => by
    intro J fs ca k N sc W X S C hS x h
    have ga := fun x h => good_E a C hS x h
    simp only [mE] at h
    split at h <;> try (cases h; done)
    simp only [Bool.and_eq_true, decide_eq_true_eq] at h
    obtain ⟨⟨⟨⟨⟨e1, h1⟩, e2⟩, h2⟩, p1⟩, h3⟩ := h
    subst e1 e2
    exact both (s_isTup C h1 h2 p1 (ga _ h3).1) fun _ => rfl
  | .isInt a => by
    intro J fs ca k N sc W X S C hS x h
    have ga := fun x h => good_E a C hS x h
    simp only [mE] at h
    split at h <;> try (cases h; done)
    simp only [Bool.and_eq_true, decide_eq_true_eq] at h
    obtain ⟨⟨⟨⟨⟨e1, h1⟩, e2⟩, h2⟩, p1⟩, h3⟩ := h
    subst e1 e2
    exact both (s_isInt C h1 h2 p1 (ga _ h3).1) fun _ => rfl
  | .sset a => by
    intro J fs ca k N sc W X S C hS x h
    have ga := fun x h => good_E a C hS x h
    simp only [mE] at h
    split at h <;> try (cases h; done)
    simp only [Bool.and_eq_true, decide_eq_true_eq] at h
    obtain ⟨⟨⟨⟨⟨e1, h1⟩, e2⟩, h2⟩, p1⟩, h3⟩ := h
    subst e1 e2
    exact both (s_sset C h1 h2 p1 (ga _ h3).1) fun _ => rfl
theorem good_Es : ∀ es : Es, GoodEs es
  | .nil => by
    intro J fs ca k N sc W X S C hS
    refine ⟨fun xs h => ?_, fun xs h => ?_⟩
    · simp only [mEs] at h
      split at h <;> first | exact ⟨a_nil, aa_nil⟩ | cases h
    · simp only [mCs] at h
      split at h <;> first | exact ⟨fun e r q => (by cases q), fun e q => (by cases q), fun _ => rfl⟩ | cases h
  | .cons e r => by
    intro J fs ca k N sc W X S C hS
    have ge := fun x h => good_E e C (or_l hS) x h
    have gr := (good_Es r C (or_r hS)).1
    refine ⟨fun xs h => ?_, fun xs h => ?_⟩
    · simp only [mEs] at h
      split at h <;> try (cases h; done)
      simp only [Bool.and_eq_true] at h
      obtain ⟨⟨p1, h1⟩, h2⟩ := h
      obtain ⟨g1, g2⟩ := gr _ h2
      refine ⟨a_cons p1 (ge _ h1).1 g1, ?_⟩
      by_cases hn : notRS e = true
      · exact aa_val hn p1 (ge _ h1).1 g2
      · cases e <;> try (exact absurd rfl hn)
        · simp only [mE] at h1
          split at h1 <;> first | exact aa_ref C h1 g2 | cases h1
        · simp only [mE] at h1
          split at h1 <;> first | exact aa_scr C h1 g2 | cases h1
    · cases r with
      | nil =>
        simp only [mCs] at h
        split at h <;> try (cases h; done)
        simp only [Bool.and_eq_true] at h
        refine ⟨fun e' r' q => (by cases q; rfl), fun e' q => ?_, fun q => (by cases q)⟩
        cases q
        exact ⟨_, rfl, (ge _ h.2).2⟩
      | cons e' r' => simp [mCs] at h
theorem good_O : ∀ o : Oe, GoodO o
  | .none => by
    intro J fs ca k N sc W X S C hS x h
    simp only [mO] at h
    split at h <;> first | exact o_none | cases h
  | .some e => by
    intro J fs ca k N sc W X S C hS x h
    have ge := fun x h => good_E e C hS x h
    simp only [mO] at h
    split at h <;> try (cases h; done)
    simp only [Bool.and_eq_true] at h
    exact o_some (ge _ h.2).1
theorem good_I : ∀ it : PV.It, GoodI it
  | .scr i => by
    intro J fs ca k N sc W X S C hS x tg h single _ _
    simp only [mI] at h
    split at h <;> first | exact si_scr C h | cases h
  | .seq e => by
    intro J fs ca k N sc W X S C hS x tg h single _ _
    have ge := fun x h => good_E e C hS x h
    simp only [mI, Bool.and_eq_true] at h
    exact si_seq (ge _ h.2).1
  | .r1 a => by
    intro J fs ca k N sc W X S C hS x tg h single _ _
    have ga := fun x h => good_E a C hS x h
    simp only [mI] at h
    split at h <;> try (cases h; done)
    simp only [Bool.and_eq_true, decide_eq_true_eq] at h
    obtain ⟨⟨⟨e1, h1⟩, p1⟩, h2⟩ := h
    subst e1
    exact si_r1 C h1 p1 (ga _ h2).1
  | .r2 a b => by
    intro J fs ca k N sc W X S C hS x tg h single _ _
    have ga := fun x h => good_E a C (or_l hS) x h
    have gb := fun x h => good_E b C (or_r hS) x h
    simp only [mI] at h
    split at h <;> try (cases h; done)
    simp only [Bool.and_eq_true, decide_eq_true_eq] at h
    obtain ⟨⟨⟨⟨⟨e1, h1⟩, p1⟩, p2⟩, h2⟩, h3⟩ := h
    subst e1
    exact si_r2 C h1 p1 p2 (ga _ h2).1 (gb _ h3).1
  | .r3 a b c => by
    intro J fs ca k N sc W X S C hS x tg h single _ _
    have ga := fun x h => good_E a C (or_l (or_l hS)) x h
    have gb := fun x h => good_E b C (or_r (or_l hS)) x h
    have gc := fun x h => good_E c C (or_r hS) x h
    simp only [mI] at h
    split at h <;> try (cases h; done)
    simp only [Bool.and_eq_true, decide_eq_true_eq] at h
    obtain ⟨⟨⟨⟨⟨⟨⟨e1, h1⟩, p1⟩, p2⟩, p3⟩, h2⟩, h3⟩, h4⟩ := h
    subst e1
    exact si_r3 C h1 p1 p2 p3 (ga _ h2).1 (gb _ h3).1 (gc _ h4).1
  | .enum a => by
    intro J fs ca k N sc W X S C hS x tg h single hp ht
    have ga := fun x h => good_E a C hS x h
    have hp' : single = false := by simpa [pairB] using hp
    obtain ⟨es, kk, p, e⟩ := ht hp'
    subst e
    simp only [mI] at h
    split at h <;> try (cases h; done)
    simp only [Bool.and_eq_true, decide_eq_true_eq] at h
    obtain ⟨⟨⟨e1, h1⟩, p1⟩, h2⟩ := h
    subst e1
    exact si_enum C h1 p1 (ga _ h2).1
  | .zip a b => by
    intro J fs ca k N sc W X S C hS x tg h single hp ht
    have ga := fun x h => good_E a C (or_l hS) x h
    have gb := fun x h => good_E b C (or_r hS) x h
    have hp' : single = false := by simpa [pairB] using hp
    obtain ⟨es, kk, p, e⟩ := ht hp'
    subst e
    simp only [mI] at h
    split at h <;> try (cases h; done)
    simp only [Bool.and_eq_true, decide_eq_true_eq] at h
    obtain ⟨⟨⟨⟨⟨e1, h1⟩, p1⟩, p2⟩, h2⟩, h3⟩ := h
    subst e1
    exact si_zip C h1 p1 p2 (ga _ h2).1 (gb _ h3).1
  | .rv a => by
    intro J fs ca k N sc W X S C hS x tg h single _ _
    have ga := fun x h => good_E a C hS x h
    simp only [mI] at h
    split at h <;> try (cases h; done)
    simp only [Bool.and_eq_true, decide_eq_true_eq] at h
    obtain ⟨⟨⟨e1, h1⟩, p1⟩, h2⟩ := h
    subst e1
    exact si_rv C h1 p1 (ga _ h2).1
end
end PV
set_option Elab.async false
set_option linter.all false
set_option maxRecDepth 100000
set_option maxHeartbeats 1000000
/-! PV23: what is taken; what a statement promises. -/
namespace PV
open PySem PySem.Spec PyProof.Rows L2
section
variable {K : PySem.W.Frag} {ca : Nat → Addr} {cf : CF} {W : WX} {σ : L2.St} {H H0 : Hp} {A A0 : Own} {ρ ρ0 : PV.Env} {α : Type} {P : α → Prop}
def tX (K : PySem.W.Frag) (ca : Nat → Addr) (cf : CF) (W : WX) (e : E) : TE := fun σ H Q => ∃ ρ A, Rep K H [] σ ρ A ∧ RG K ca W σ H A (PR K [] σ (vars e) true H A Q) (evX cf e ρ)
def tXs (K : PySem.W.Frag) (ca : Nat → Addr) (cf : CF) (W : WX) (es : Es) : TA := fun σ H Q => ∃ ρ A, Rep K H [] σ ρ A ∧ RG K ca W σ H A (PRs K [] σ (varss es) true H A Q) (evXs cf es ρ)
theorem tX_first {a : E} {f : R × PV.Env → Res α} {Q1 : VK} (r0 : Rep K H0 [] σ ρ0 A0) (s0 : Stp H0 A0 H A) (rep : Rep K H [] σ ρ A) (h : RG K ca W σ H0 A0 P (evX cf a ρ >>= f))
    (hq : ∀ r ρ1 v H1 A1, Rep K H1 [] σ ρ1 A1 → Stp H A H1 A1 → RVal K H A H1 A1 (vars a ++ []) v r → RG K ca W σ H0 A0 P (f (r, ρ1)) → Q1 v H1) : tX K ca cf W a σ H Q1 := by
  refine ⟨ρ, A, rep, ?_⟩
  rcases e : evX cf a ρ with ⟨r, ρ1⟩ | ⟨c, k, p⟩ | _
  · rw [e] at h
    exact fun v H1 A1 r1 s1 rv _ => hq r ρ1 v H1 A1 r1 s1 rv h
  · rw [e] at h
    have h' : ExQ K ca H0 A0 (fun a b H' => W a b σ H') c k p := h
    exact ExQ.before r0 s0 h'
  · rw [e] at h
    exact h
theorem tXs_first {a : Es} {f : List R × PV.Env → Res α} {Q1 : List V → Hp → Prop} (r0 : Rep K H0 [] σ ρ0 A0) (s0 : Stp H0 A0 H A) (rep : Rep K H [] σ ρ A) (h : RG K ca W σ H0 A0 P (evXs cf a ρ >>= f))
    (hq : ∀ r ρ1 v H1 A1, Rep K H1 [] σ ρ1 A1 → Stp H A H1 A1 → RVs K H A H1 A1 (varss a ++ []) v r → RG K ca W σ H0 A0 P (f (r, ρ1)) → Q1 v H1) : tXs K ca cf W a σ H Q1 := by
  refine ⟨ρ, A, rep, ?_⟩
  rcases e : evXs cf a ρ with ⟨r, ρ1⟩ | ⟨c, k, p⟩ | _
  · rw [e] at h
    exact fun v H1 A1 r1 s1 rv _ => hq r ρ1 v H1 A1 r1 s1 rv h
  · rw [e] at h
    have h' : ExQ K ca H0 A0 (fun a b H' => W a b σ H') c k p := h
    exact ExQ.before r0 s0 h'
  · rw [e] at h
    exact h
def plainEv : E → Bool
  | .var _ => false
  | .tup _ => false
  | .lst _ => false
  | _ => true
theorem evX_eq {e : E} (h : plainEv e = true) (ρ : PV.Env) : evX cf e ρ = ev cf e ρ := by
  cases e <;> first | rfl | (simp [plainEv] at h)
theorem tX_tS {e : E} {Q : VK} (h : plainEv e = true) (q : tX K ca cf W e σ H Q) : tS K ca cf [] W e σ H Q := by
  obtain ⟨ρ, A, rep, q⟩ := q
  rw [evX_eq h] at q
  refine ⟨ρ, A, rep, ?_⟩
  rw [rn_rg]
  rcases e1 : ev cf e ρ with ⟨r, ρ1⟩ | ⟨c, k, p⟩ | _
  · rw [e1] at q
    exact fun v H' A' r1 s1 rv _ => q v H' A' r1 s1 rv fun z => by cases z
  · rw [e1] at q; exact q
  · rw [e1] at q; exact q
/-- a name gives away its lists -/
theorem Rep.take {i : Nat} {c : Cell} (rep : Rep K H [] σ ρ A) (hg : PV.get ρ i = some c) : Rep K H [] σ (ρ.set i none) (A.wip [i]) :=
  rep.wip [i] rfl (fun _ _ => rfl) (fun j => by
    rw [get_set]
    by_cases hj : i = j
    · subst hj
      rw [if_pos ⟨rfl, get_lt hg⟩, if_pos (by simp)]
    · rw [if_neg (fun q => hj q.1), if_neg (by simpa using Ne.symm hj)]) (by rw [List.length_set])
end
section
variable {J : Info} {fs : List Fn} {ca : Nat → Addr} {k : Nat} {N : List Str} {sc : Scope} {W : WX} {X : Cx}
theorem x_var {i : Nat} {x : Expr} (C : Cxt J fs ca k N sc W X) (h : mE J N (.var i) sc x = true) : PE X x (tX X.K ca (runF fs k) W (.var i)) := by
  simp only [mE] at h
  split at h <;> try (cases h; done)
  refine (pe_nm C h).weaken fun σ H Q ⟨ρ, A, rep, q⟩ => ?_
  simp only [evX] at q
  split at q
  · rename_i d e
    obtain ⟨v, ev1, ok⟩ := rep.cell i _ e
    split at q
    · rename_i hi
      exact ⟨v, ev1, q v H A rep (Stp.refl _ _) (RVal.of_imm ok.1 hi) fun z => by cases z⟩
    · refine ⟨v, ev1, q v H (A.wip [i]) (rep.take e) ((Stp.refl _ _).wip [i]) (.inl ⟨rfl, A i, ok.1, ok.2, fun a ha => ⟨fun ⟨j, hj⟩ => ?_, fun b => rep.fdis a b ⟨i, ha⟩⟩, fun a ha => .inl ⟨i, ha⟩⟩) fun z => by cases z⟩
      have hji : j ≠ i := fun z => by rw [z, Own.wip_in (by simp)] at hj; simp at hj
      exact hji (rep.disj j i a (Own.wip_sub hj) ha)
  · exact q.elim
  · rename_i c hc1 hc2 e
    have hr : PV.rd ρ i = .ok (imm c.d, c.d) := by
      unfold PV.rd
      rw [e]
      cases c with
      | scr l => exact absurd rfl (hc2 l)
      | _ => rfl
    obtain ⟨v, ev1, _, rv⟩ := rd_ok rep hr
    exact ⟨v, ev1, q v H A rep (Stp.refl _ _) rv fun z => by cases z⟩
  · exact q.elim
theorem x_tup {es : Es} {xs : List Expr} {j : Nat} {pos : Pos} (ia : PA X xs (tXs X.K ca (runF fs k) W es)) : PE X (.Tuple xs j pos) (tX X.K ca (runF fs k) W (.tup es)) := by
  refine (pe_tup ia).weaken fun σ H Q ⟨ρ, A, rep, q⟩ => ?_
  simp only [evX] at q
  refine tXs_first rep (Stp.refl _ _) rep q fun rs ρ1 vs1 H1 A1 r1 s1 rv1 q => ?_
  dsimp only at q
  split at q
  · rename_i hl
    obtain ⟨bs, d2, n2⟩ := rv1.2
    refine ⟨by rw [d2.length, List.length_map]; simpa [lenOk] using hl, fun p hp => ?_⟩
    have sm : Same H1 (upd H1 p (.tup vs1)) := same_upd hp
    refine q _ _ A1 (r1.new sm) (s1.then_new rep sm) ?_ fun z => by cases z
    cases ho : rs.all (fun x => x.1 || imm x.2) with
    | true =>
      obtain ⟨as, g1, g2, g3, g4⟩ := rv1.1 ho
      exact .inl ⟨rfl, as, .tup (.inl (.inl upd_same)) (g1.new hp), g2, g3, g4⟩
    | false => exact .inr ⟨rfl, bs, .tup (.inl (.inl upd_same)) (d2.new hp), n2⟩
  · exact q.elim
theorem x_lst {es : Es} {xs : List Expr} {pos : Pos} (ia : PA X xs (tXs X.K ca (runF fs k) W es)) : PE X (.List xs pos) (tX X.K ca (runF fs k) W (.lst es)) := by
  refine (pe_lst ia).weaken fun σ H Q ⟨ρ, A, rep, q⟩ => ?_
  simp only [evX] at q
  refine tXs_first rep (Stp.refl _ _) rep q fun rs ρ1 vs1 H1 A1 r1 s1 rv1 q => ?_
  dsimp only at q
  split at q
  · rename_i hl
    obtain ⟨bs, d2, n2⟩ := rv1.2
    refine ⟨by rw [d2.length, List.length_map]; simpa [lenOk] using hl, fun p hp => ?_⟩
    have sm : Same H1 (upd H1 p (.lst vs1)) := same_upd hp
    have new := new_out r1 hp
    refine q _ _ A1 (r1.new sm) (s1.then_new rep sm) ?_ fun z => by cases z
    cases ho : rs.all (fun x => x.1 || imm x.2) with
    | true =>
      obtain ⟨as, g1, g2, g3, g4⟩ := rv1.1 ho
      refine .inl ⟨rfl, p :: as, .lst upd_same (g1.new hp), List.nodup_cons.mpr ⟨fun m => ?_, g2⟩, fun a ha => ?_, fun a ha => ?_⟩
      · obtain ⟨ys, q⟩ := g1.trk p m
        rw [hp] at q
        cases q
      · rcases List.mem_cons.mp ha with e | ha
        · rw [e]; exact new
        · exact g3 a ha
      · rcases List.mem_cons.mp ha with e | ha
        · rw [e]; exact .inr (s1.there rep hp)
        · exact g4 a ha
    | false =>
      refine .inr ⟨rfl, p :: bs, .lst upd_same (d2.new hp), fun a ha i hi => ?_⟩
      rcases List.mem_cons.mp ha with e | ha
      · rw [e]; exact fun m => new.1 ⟨i, m⟩
      · exact n2 a ha i hi
  · exact q.elim
mutual
theorem good_X : ∀ (e : E) ⦃J : Info⦄ ⦃fs : List Fn⦄ ⦃ca : Nat → Addr⦄ ⦃k : Nat⦄ ⦃N : List Str⦄ ⦃sc : Scope⦄ ⦃W : WX⦄ ⦃X : Cx⦄, Cxt J fs ca k N sc W X → ∀ x, mE J N e sc x = true → PE X x (tX X.K ca (runF fs k) W e)
  | .var i => fun J fs ca k N sc W X C x h => x_var C h
  | .tup es => fun J fs ca k N sc W X C x h => by
    have g := good_Xs es C
    simp only [mE] at h
    split at h <;> try (cases h; done)
    exact x_tup (g _ h)
  | .lst es => fun J fs ca k N sc W X C x h => by
    have g := good_Xs es C
    simp only [mE] at h
    split at h <;> try (cases h; done)
    exact x_lst (g _ h)
  | .int n => fun J fs ca k N sc W X C x h => ((good_E (.int n) C (fun _ => rfl) x h).1).weaken fun _ _ _ q => tX_tS rfl q
  | .str n => fun J fs ca k N sc W X C x h => ((good_E (.str n) C (fun _ => rfl) x h).1).weaken fun _ _ _ q => tX_tS rfl q
  | .bl n => fun J fs ca k N sc W X C x h => ((good_E (.bl n) C (fun _ => rfl) x h).1).weaken fun _ _ _ q => tX_tS rfl q
  | .non => fun J fs ca k N sc W X C x h => ((good_E .non C (fun _ => rfl) x h).1).weaken fun _ _ _ q => tX_tS rfl q
  | .op2 o a b => fun J fs ca k N sc W X C x h => ((good_E (.op2 o a b) C (fun _ => rfl) x h).1).weaken fun _ _ _ q => tX_tS rfl q
  | .op1 o a => fun J fs ca k N sc W X C x h => ((good_E (.op1 o a) C (fun _ => rfl) x h).1).weaken fun _ _ _ q => tX_tS rfl q
  | .and a b => fun J fs ca k N sc W X C x h => ((good_E (.and a b) C (fun _ => rfl) x h).1).weaken fun _ _ _ q => tX_tS rfl q
  | .or a b => fun J fs ca k N sc W X C x h => ((good_E (.or a b) C (fun _ => rfl) x h).1).weaken fun _ _ _ q => tX_tS rfl q
  | .ite c a b => fun J fs ca k N sc W X C x h => ((good_E (.ite c a b) C (fun _ => rfl) x h).1).weaken fun _ _ _ q => tX_tS rfl q
  | .cmp3 o p a b c => fun J fs ca k N sc W X C x h => ((good_E (.cmp3 o p a b c) C (fun _ => rfl) x h).1).weaken fun _ _ _ q => tX_tS rfl q
  | .bi f as => fun J fs ca k N sc W X C x h => ((good_E (.bi f as) C (fun _ => rfl) x h).1).weaken fun _ _ _ q => tX_tS rfl q
  | .mt m o as => fun J fs ca k N sc W X C x h => ((good_E (.mt m o as) C (fun _ => rfl) x h).1).weaken fun _ _ _ q => tX_tS rfl q
  | .sub o i => fun J fs ca k N sc W X C x h => ((good_E (.sub o i) C (fun _ => rfl) x h).1).weaken fun _ _ _ q => tX_tS rfl q
  | .slc o l r => fun J fs ca k N sc W X C x h => ((good_E (.slc o l r) C (fun _ => rfl) x h).1).weaken fun _ _ _ q => tX_tS rfl q
  | .rev o => fun J fs ca k N sc W X C x h => ((good_E (.rev o) C (fun _ => rfl) x h).1).weaken fun _ _ _ q => tX_tS rfl q
  | .call f as => fun J fs ca k N sc W X C x h => ((good_E (.call f as) C (fun _ => rfl) x h).1).weaken fun _ _ _ q => tX_tS rfl q
  | .ref i => fun J fs ca k N sc W X C x h => ((good_E (.ref i) C (fun _ => rfl) x h).1).weaken fun _ _ _ q => tX_tS rfl q
  | .scr i => fun J fs ca k N sc W X C x h => ((good_E (.scr i) C (fun _ => rfl) x h).1).weaken fun _ _ _ q => tX_tS rfl q
  | .scrL i => fun J fs ca k N sc W X C x h => ((good_E (.scrL i) C (fun _ => rfl) x h).1).weaken fun _ _ _ q => tX_tS rfl q
  | .pop0 i => fun J fs ca k N sc W X C x h => ((good_E (.pop0 i) C (fun _ => rfl) x h).1).weaken fun _ _ _ q => tX_tS rfl q
  | .pop1 i e => fun J fs ca k N sc W X C x h => ((good_E (.pop1 i e) C (fun _ => rfl) x h).1).weaken fun _ _ _ q => tX_tS rfl q
  | .comp a b c d e f => fun J fs ca k N sc W X C x h => ((good_E (.comp a b c d e f) C (fun _ => rfl) x h).1).weaken fun _ _ _ q => tX_tS rfl q
  | .rng a b => fun J fs ca k N sc W X C x h => ((good_E (.rng a b) C (fun _ => rfl) x h).1).weaken fun _ _ _ q => tX_tS rfl q
  | .rng1 b => fun J fs ca k N sc W X C x h => ((good_E (.rng1 b) C (fun _ => rfl) x h).1).weaken fun _ _ _ q => tX_tS rfl q
  | .isBool e => fun J fs ca k N sc W X C x h => ((good_E (.isBool e) C (fun _ => rfl) x h).1).weaken fun _ _ _ q => tX_tS rfl q
  | .isTup e => fun J fs ca k N sc W X C x h => ((good_E (.isTup e) C (fun _ => rfl) x h).1).weaken fun _ _ _ q => tX_tS rfl q
  | .isInt e => fun J fs ca k N sc W X C x h => ((good_E (.isInt e) C (fun _ => rfl) x h).1).weaken fun _ _ _ q => tX_tS rfl q
  | .comp2 a b c d e f g h i j => fun J fs ca k N sc W X C x hh => ((good_E (.comp2 a b c d e f g h i j) C (fun _ => rfl) x hh).1).weaken fun _ _ _ q => tX_tS rfl q
  | .sset e => fun J fs ca k N sc W X C x h => ((good_E (.sset e) C (fun _ => rfl) x h).1).weaken fun _ _ _ q => tX_tS rfl q
theorem good_Xs : ∀ (es : Es) ⦃J : Info⦄ ⦃fs : List Fn⦄ ⦃ca : Nat → Addr⦄ ⦃k : Nat⦄ ⦃N : List Str⦄ ⦃sc : Scope⦄ ⦃W : WX⦄ ⦃X : Cx⦄, Cxt J fs ca k N sc W X → ∀ xs, mEs J N es sc xs = true → PA X xs (tXs X.K ca (runF fs k) W es)
  | .nil => fun J fs ca k N sc W X C xs h => by
    simp only [mEs] at h
    split at h <;> try (cases h; done)
    refine pa_nil.weaken fun σ H Q ⟨ρ, A, rep, q⟩ => ?_
    simp only [evXs] at q
    exact q [] H A rep (Stp.refl _ _) ⟨fun _ => ⟨[], .nil, .nil, fun _ m => by simp at m, fun _ m => by simp at m⟩, [], .nil, fun _ m => by simp at m⟩ fun z => by cases z
  | .cons e r => fun J fs ca k N sc W X C xs h => by
    have ge := good_X e C
    have gr := good_Xs r C
    simp only [mEs] at h
    split at h <;> try (cases h; done)
    simp only [Bool.and_eq_true] at h
    obtain ⟨⟨pl, h1⟩, h2⟩ := h
    refine (pa_cons (ge _ h1) (gr _ h2) (star_of pl)).weaken fun σ H Q ⟨ρ, A, rep, q⟩ => ?_
    simp only [evXs] at q
    refine tX_first rep (Stp.refl _ _) rep q fun x ρ1 v1 H1 A1 r1 s1 rv1 q => ?_
    refine tXs_first rep s1 r1 q fun ys ρ2 vs2 H2 A2 r2 s2 rv2 q => ?_
    dsimp only at q
    split at q
    · rename_i hk
      refine q _ H2 A2 r2 (Stp.trans rep s1 s2) (RVs.cons (ef := true) rep s1 r1 s2 (fun z => by cases z) (by simpa [keeps] using hk) rv1 rv2 (fun i hi => ?_) fun i hi => ?_) fun z => by cases z
      · exact (List.mem_append.mp hi).elim (fun m => List.mem_append_left _ (List.mem_append_left _ m)) fun m => List.mem_append_right _ m
      · exact (List.mem_append.mp hi).elim (fun m => List.mem_append_left _ (List.mem_append_right _ m)) fun m => List.mem_append_right _ m
    · exact q.elim
end
end
/-! ### what a statement promises -/
/-- the slots io stay -/
def Fx (io : List Nat) (σ σ' : L2.St) : Prop := σ'.length = σ.length ∧ ∀ j ∈ io, σ'[j]? = σ[j]?
theorem Fx.refl (io : List Nat) (σ : L2.St) : Fx io σ σ := ⟨rfl, fun _ _ => rfl⟩
theorem Fx.trans {io : List Nat} {σ σ1 σ2 : L2.St} (a : Fx io σ σ1) (b : Fx io σ1 σ2) : Fx io σ σ2 := ⟨b.1.trans a.1, fun j hj => (b.2 j hj).trans (a.2 j hj)⟩
def ExS (K : PySem.W.Frag) (ca : Nat → Addr) (H : Hp) (A : Own) (W : WX) (σ : L2.St) (c : Nat) (k p : D) : Prop := ExQ K ca H A (fun a b H' => ∀ σ' : L2.St, σ'.length = σ.length → W a b σ' H') c k p
def RetV (K : PySem.W.Frag) (H : Hp) (A : Own) (H' : Hp) (A' : Own) (v : V) (d : D) : Prop := ∃ as, DpR K H' v d as ∧ as.Nodup ∧ (∀ a ∈ as, ¬ Bd A' a ∧ a ∉ A'.fr) ∧ ∀ a ∈ as, Bd A a ∨ H a = none
def OutQ (K : PySem.W.Frag) (io : List Nat) (σ : L2.St) (H : Hp) (A : Own) (Z : Ends) : Out × PV.Env → Prop
  | (.nx, ρ') => ∀ σ' H' A', Rep K H' [] σ' ρ' A' → Stp0 H A H' A' → Fx io σ σ' → Z.nx σ' H'
  | (.brk, ρ') => ∀ σ' H' A', Rep K H' [] σ' ρ' A' → Stp0 H A H' A' → Fx io σ σ' → Z.bk σ' H'
  | (.cnt, ρ') => ∀ σ' H' A', Rep K H' [] σ' ρ' A' → Stp0 H A H' A' → Fx io σ σ' → Z.ct σ' H'
  | (.ret d, ρ') => ∀ v σ' H' A', Rep K H' [] σ' ρ' A' → Stp0 H A H' A' → Fx io σ σ' → RetV K H A H' A' v d → Z.rt v H'
def RS (K : PySem.W.Frag) (ca : Nat → Addr) (W : WX) (io : List Nat) (σ : L2.St) (H : Hp) (A : Own) (Z : Ends) : Res (Out × PV.Env) → Prop
  | .ok x => OutQ K io σ H A Z x
  | .exc c k p => ExS K ca H A W σ c k p
  | .stuck => False
section
variable {K : PySem.W.Frag} {ca : Nat → Addr} {cf : CF} {W : WX} {io : List Nat} {σ σ1 : L2.St} {H H1 : Hp} {A A1 : Own} {ρ ρ1 : PV.Env} {Z : Ends}
theorem ExQ.before0 {E : Value → Option Addr → Hp → Prop} {c : Nat} {k p : D} (s : Stp0 H A H1 A1) (h : ExQ K ca H A E c k p) : ExQ K ca H1 A1 E c k p := fun d H' cv pv h1 h0 h2 h3 h4 h5 =>
  h d H' cv pv (fun a o e n => h1 a o (s.keep a o e n) fun b => (s.own a b).elim n fun q => by rw [e] at q; cases q) (fun a e => s.the a (h0 a e)) (s.the d h2) h3 h4 h5
theorem ExS.later {c : Nat} {k p : D} (s : Stp0 H A H1 A1) (f : σ1.length = σ.length) (h : ExS K ca H A W σ c k p) : ExS K ca H1 A1 W σ1 c k p :=
  (ExQ.before0 s h).imp fun a b H' q σ' e => q σ' (e.trans f)
theorem RetV.since {H2 : Hp} {A2 : Own} {v : V} {d : D} (s : Stp0 H A H1 A1) (h : RetV K H1 A1 H2 A2 v d) : RetV K H A H2 A2 v d := by
  obtain ⟨as, h1, h2, h3, h4⟩ := h
  exact ⟨as, h1, h2, h3, fun a ha => (h4 a ha).elim (s.own a) fun q => .inr (s.the a q)⟩
theorem RS.later {res : Res (Out × PV.Env)} (s : Stp0 H A H1 A1) (f : Fx io σ σ1) (h : RS K ca W io σ H A Z res) : RS K ca W io σ1 H1 A1 Z res := by
  rcases res with ⟨o, ρ'⟩ | ⟨c, k, p⟩ | _
  · cases o with
    | nx => exact fun σ' H' A' r t g => h σ' H' A' r (s.trans t) (f.trans g)
    | brk => exact fun σ' H' A' r t g => h σ' H' A' r (s.trans t) (f.trans g)
    | cnt => exact fun σ' H' A' r t g => h σ' H' A' r (s.trans t) (f.trans g)
    | ret d => exact fun v σ' H' A' r t g rv => h v σ' H' A' r (s.trans t) (f.trans g) (rv.since s)
  · exact ExS.later s f.1 h
  · exact h
theorem ExS.at {c : Nat} {k p : D} (h : ExS K ca H A W σ c k p) : ExQ K ca H A (fun a b H' => W a b σ H') c k p := ExQ.imp h fun a b H' q => q σ rfl
theorem sX {a : E} {f : R × PV.Env → Res (Out × PV.Env)} {Q1 : VK} (rep : Rep K H [] σ ρ A) (h : RS K ca W io σ H A Z (evX cf a ρ >>= f))
    (hq : ∀ r ρ1 v H1 A1, Rep K H1 [] σ ρ1 A1 → Stp H A H1 A1 → RVal K H A H1 A1 (vars a ++ []) v r → RS K ca W io σ H A Z (f (r, ρ1)) → Q1 v H1) : tX K ca cf W a σ H Q1 := by
  refine ⟨ρ, A, rep, ?_⟩
  rcases e : evX cf a ρ with ⟨r, ρ1⟩ | ⟨c, k, p⟩ | _
  · rw [e] at h
    exact fun v H1 A1 r1 s1 rv _ => hq r ρ1 v H1 A1 r1 s1 rv h
  · rw [e] at h
    exact ExS.at h
  · rw [e] at h
    exact h
theorem sE {a : E} {f : R × PV.Env → Res (Out × PV.Env)} {Q1 : VK} (rep : Rep K H [] σ ρ A) (h : RS K ca W io σ H A Z (ev cf a ρ >>= f))
    (hq : ∀ r ρ1 v H1 A1, Rep K H1 [] σ ρ1 A1 → Stp H A H1 A1 → RVal K H A H1 A1 (vars a ++ []) v r → (eff a = false → A1 = A ∧ Same H H1) → RS K ca W io σ H A Z (f (r, ρ1)) → Q1 v H1) : tS K ca cf [] W a σ H Q1 := by
  refine ⟨ρ, A, rep, ?_⟩
  rw [rn_rg]
  rcases e : ev cf a ρ with ⟨r, ρ1⟩ | ⟨c, k, p⟩ | _
  · rw [e] at h
    exact fun v H1 A1 r1 s1 rv ef => hq r ρ1 v H1 A1 r1 s1 rv ef h
  · rw [e] at h
    exact ExS.at h
  · rw [e] at h
    exact h
theorem sT {a : E} {f : Bool × PV.Env → Res (Out × PV.Env)} {Q1 : Bool → Hp → Prop} (rep : Rep K H [] σ ρ A) (h : RS K ca W io σ H A Z (ev cf a ρ >>= fun x => asBool x.1.2 >>= fun b => f (b, x.2)))
    (hq : ∀ b ρ1 H1 A1, Rep K H1 [] σ ρ1 A1 → Stp H A H1 A1 → RS K ca W io σ H A Z (f (b, ρ1)) → Q1 b H1) : tT K ca cf [] W a σ H Q1 := by
  refine ⟨ρ, A, rep, ?_⟩
  rcases e : ev cf a ρ with ⟨⟨o, d⟩, ρ1⟩ | ⟨c, k, p⟩ | _
  · rw [e] at h
    cases d <;> try exact h
    exact fun H1 A1 r1 s1 ef1 => hq _ ρ1 H1 A1 r1 s1 h
  · rw [e] at h
    exact ExS.at h
  · rw [e] at h
    exact h
theorem sI {a : PV.It} {f : List D × PV.Env → Res (Out × PV.Env)} {R1 : L2.It → Hp → Prop} (rep : Rep K H [] σ ρ A) (h : RS K ca W io σ H A Z (evi cf a ρ >>= f))
    (hq : ∀ ds ρ1 J H1 A1 F, Rep K H1 [] σ ρ1 A1 → Stp H A H1 A1 → ItFor K J H1 ds F → (∀ a' ∈ F, ∀ i, i ∉ varsi a ++ [] → a' ∉ A1 i) → (∀ a' ∈ F, ∃ xs, H1 a' = some (.lst xs)) → RS K ca W io σ H A Z (f (ds, ρ1)) → R1 J H1) : tIt K ca cf [] W a σ H R1 := by
  refine ⟨ρ, A, rep, ?_⟩
  rcases e : evi cf a ρ with ⟨r, ρ1⟩ | ⟨c, k, p⟩ | _
  · rw [e] at h
    exact fun J H1 A1 F r1 s1 it av tr ef1 => hq r ρ1 J H1 A1 F r1 s1 it av tr h
  · rw [e] at h
    exact ExS.at h
  · rw [e] at h
    exact h
theorem RS.pure {α : Type} {x : Res α} {f : α → Res (Out × PV.Env)} (hx : NE x) (h : RS K ca W io σ H A Z (x >>= f)) : ∃ b, x = .ok b ∧ RS K ca W io σ H A Z (f b) := by
  cases x with
  | ok b => exact ⟨b, rfl, h⟩
  | exc c k p => exact absurd rfl (hx c k p)
  | stuck => exact h.elim
theorem RS.ite {c : Bool} {x : Res (Out × PV.Env)} (h : RS K ca W io σ H A Z (if c = true then x else .stuck)) : c = true ∧ RS K ca W io σ H A Z x := by
  cases c with
  | true => exact ⟨rfl, h⟩
  | false => exact h.elim
def tStm (K : PySem.W.Frag) (ca : Nat → Addr) (cf : CF) (W : WX) (io : List Nat) (s : S) : TS := fun Z σ H => ∃ ρ A, Rep K H [] σ ρ A ∧ RS K ca W io σ H A Z (exec cf s ρ)
def tStms (K : PySem.W.Frag) (ca : Nat → Addr) (cf : CF) (W : WX) (io : List Nat) (s : Ss) : TS := fun Z σ H => ∃ ρ A, Rep K H [] σ ρ A ∧ RS K ca W io σ H A Z (execs cf s ρ)
end
end PV
set_option Elab.async false
set_option linter.all false
set_option maxRecDepth 100000
set_option maxHeartbeats 1000000
/-! PV24: statements, one by one. -/
namespace PV
open PySem PySem.Spec PyProof.Rows L2
def notLC : Expr → Bool
  | .ListComp .. => false
  | _ => true
def notTL : Expr → Bool
  | .Tuple .. => false
  | .List .. => false
  | _ => true
theorem swaps_no {x : Expr} {t : Option Expr} {l : Nat} {env : PySem.Env} (h : plainX x = true) (n : notLC x = true) : swapsWith x t l env = pure false := by
  cases x <;> first | rfl | (simp [plainX] at h; done) | (simp [notLC] at n; done)
def cellN (sc : Scope) : Expr → Bool
  | .Name y _ => match sc.names.lookup y with
    | some .cell => true
    | _ => false
  | _ => false
theorem swaps_cell {x y : Expr} {l : Nat} {env : PySem.Env} (h : cellN env.scope y = true) : swapsWith x (some y) l env = pure false := by
  unfold cellN at h
  split at h
  · rename_i y p
    split at h
    · rename_i e
      have ky : env.kindOf y = some .cell := e
      unfold swapsWith
      cases x <;> first | rfl | (simp only [ky]; simp [show (NameKind.cell == NameKind.local) = false from by decide])
    · cases h
  · cases h
structure CxS (J : Info) (fs : List Fn) (ca : Nat → Addr) (k : Nat) (N : List Str) (sc : Scope) (W : WX) (X : Cx) : Prop where
  C : Cxt J fs ca k N sc W X
  own : PassesOwn (model X.prog X.w) X.A X.env X.xe
  fn1 : ∀ y, X.fn y = true
section
variable {K : PySem.W.Frag} {σ : L2.St} {H H1 : Hp} {A A1 : Own} {ρ ρ1 : PV.Env}
theorem store_okP {i : Nat} {v : V} {r : R} {vs : List Nat} (rep : Rep K H1 [] σ ρ1 A1) (nb : noBor ρ1 = true) (st : Stp0 H A H1 A1) (rv : RVal K H A H1 A1 (vs ++ []) v r) : ∃ A2, Rep K H1 [] (σ.set i (some v)) (store ρ1 i r vs) A2 ∧ Stp0 H A H1 A2 := by
  have drop : ∀ {B : Own} {ρ' : PV.Env}, Stp0 H A H1 B → Stp0 H A H1 (B.put i []) := fun {B ρ'} s => ⟨fun a ⟨j, hj⟩ => by
    by_cases hji : j = i
    · rw [hji, Own.put_same] at hj; simp at hj
    · rw [Own.put_ne _ _ hji] at hj; exact s.own a ⟨j, hj⟩, s.keep, s.the⟩
  unfold store
  by_cases ho : (r.1 || imm r.2) = true
  · rw [if_pos ho]
    have item : ∃ as, DpR K H1 v r.2 as ∧ as.Nodup ∧ (∀ a ∈ as, ¬ Bd A1 a ∧ a ∉ A1.fr) ∧ ∀ a ∈ as, Bd A a ∨ H a = none := by
      by_cases hi : imm r.2 = true
      · obtain ⟨as, d1, _⟩ := rv.any
        have e0 := d1.imm hi
        subst e0
        exact ⟨[], d1, .nil, fun _ m => by simp at m, fun _ m => by simp at m⟩
      · rcases rv with ⟨_, as, h1, h2, h3, h4⟩ | ⟨e0, _⟩
        · exact ⟨as, h1, h2, h3, h4⟩
        · rw [e0] at ho
          exact absurd (by simpa using ho) hi
    obtain ⟨as, d1, d2, d3, d4⟩ := item
    by_cases hl : i < ρ1.length
    · refine ⟨A1.put i as, rep.put ?_ (fun z => absurd rfl (z r.2)) (.inr nb) (fun a ha j _ q => (d3 a ha).1 ⟨j, q⟩) d1.trk (fun a ha => (d3 a ha).2) hl, fun a ⟨j, hj⟩ => ?_, st.keep, st.the⟩
      · show DpR K H1 v r.2 ((A1.put i as) i) ∧ _
        rw [Own.put_same]
        exact ⟨d1, d2⟩
      · by_cases hji : j = i
        · rw [hji, Own.put_same] at hj; exact d4 a hj
        · rw [Own.put_ne _ _ hji] at hj; exact st.own a ⟨j, hj⟩
    · exact ⟨A1.put i [], rep.putNo hl, drop (ρ' := ρ1) st⟩
  · rw [if_neg ho]
    rcases rv with ⟨e0, _⟩ | ⟨e0, as, d1, d2⟩
    · rw [e0] at ho; exact absurd rfl ho
    · have rf := rep.frz vs (F := as) fun a ha => ⟨d1.trk a ha, fun j hj => d2 a ha j (by rw [List.append_nil]; exact hj)⟩
      have sf : Stp0 H A H1 (A1.frz vs as) := ⟨fun a hb => by
        obtain ⟨j, _, m⟩ := frz_bd hb
        exact st.own a ⟨j, m⟩, st.keep, st.the⟩
      refine ⟨(A1.frz vs as).put i [], ?_, drop (ρ' := ρ1) sf⟩
      by_cases hl : i < (freezes ρ1 vs).length
      · refine rf.put ?_ (fun _ => rfl) (.inl rfl) (fun a h => by simp at h) (fun a h => by simp at h) (fun a h => by simp at h) hl
        exact ⟨as, d1, fun a ha => List.mem_append_left _ ha⟩
      · exact rf.putNo hl
end
section
variable {J : Info} {fs : List Fn} {ca : Nat → Addr} {k : Nat} {N : List Str} {sc : Scope} {W : WX} {X : Cx} {io : List Nat}
abbrev SS (ca : Nat → Addr) (fs : List Fn) (k : Nat) (W : WX) (io : List Nat) (X : Cx) (s : S) (x : Stmt) : Prop := PS X x (tStm X.K ca (runF fs k) W io s)
abbrev SSs (ca : Nat → Addr) (fs : List Fn) (k : Nat) (W : WX) (io : List Nat) (X : Cx) (s : Ss) (x : List Stmt) : Prop := PSs X x (tStms X.K ca (runF fs k) W io s)
theorem _root_.L2.PS.weaken {X : Cx} {e : Stmt} {t t' : TS} (h : PS X e t) (w : ∀ Z σ H, t' Z σ H → t Z σ H) : PS X e t' := ⟨fun pins s σ H Z I q => h.run pins s σ H Z I (w Z σ H q)⟩
theorem _root_.L2.PSs.weaken {X : Cx} {e : List Stmt} {t t' : TS} (h : PSs X e t) (w : ∀ Z σ H, t' Z σ H → t Z σ H) : PSs X e t' := ⟨fun pins s σ H Z I q => h.run pins s σ H Z I (w Z σ H q)⟩
theorem fx_set {i : Nat} {v : V} {σ : L2.St} (h : io.contains i = false) : Fx io σ (σ.set i (some v)) := ⟨by rw [List.length_set], fun j hj => by
  rw [List.getElem?_set_ne]
  intro z
  rw [z, List.contains_iff_mem.mpr hj] at h
  cases h⟩
/-- name = value, by the value's reading -/
theorem w_asg {e : E} {i : Nat} {Z : Ends} {σ : L2.St} {H : Hp} (hio : io.contains i = false) (h : tStm X.K ca (runF fs k) W io (.asg i e) Z σ H) : tAsg (tX X.K ca (runF fs k) W e) (gName i) Z σ H := by
  obtain ⟨ρ, A, rep, q⟩ := h
  simp only [exec] at q
  refine sX rep q fun r ρ1 v H1 A1 r1 s1 rv q => ?_
  dsimp only at q
  obtain ⟨nb, q⟩ := RS.ite q
  obtain ⟨A2, r2, s2⟩ := store_okP (i := i) r1 nb s1.z rv
  exact q _ H1 A2 r2 s2 (fx_set hio)
theorem st_asg {e : E} {i : Nat} {y : Expr} {x : Expr} {pos : Pos} (Q : CxS J fs ca k N sc W X) (ht : tgtB (fun _ => true) N sc y i = true) (hio : io.contains i = false) (hsw : ∀ l, swapsWith x (some y) l X.env = pure false) (he : mE J N e sc x = true) : SS ca fs k W io X (.asg i e) (.Assign [y] x pos) := by
  unfold tgtB at ht
  split at ht
  · rename_i y p
    simp only [Bool.and_eq_true, decide_eq_true_eq] at ht
    obtain ⟨⟨h1, h2⟩, _⟩ := ht
    have hx : Loc X.env.scope y := by
      rw [Q.C.sc]
      split at h2 <;> rename_i e <;> first | exact .inl e | exact .inr e | cases h2
    exact (ps_set Q.C.nd (by rw [Q.C.N]; exact h1) hx (good_X e Q.C x he) (hsw _) (.inl (Q.fn1 y))).weaken fun Z σ H h => w_asg hio h
  · cases ht
theorem st_asgT {e : E} {is : List Nat} {y : Expr} {x : Expr} {pos : Pos} (Q : CxS J fs ca k N sc W X) (ht : targetB (fun _ => true) N sc y is false = true) (hio : is.all (fun i => !io.contains i) = true) (px : plainX x = true) (nl : notLC x = true) (nt : notTL x = true) (he : mE J N e sc x = true) : SS ca fs k W io X (.asgT is e) (.Assign [y] x pos) := by
  obtain ⟨es, kk, p, ey⟩ := single_tup ht rfl
  have g := pg_tgt (kc := .bor) (S := []) (fun d d' => by simp) Q.C (fun y _ => Q.fn1 y) ht
  subst ey
  refine (ps_asg (pos := pos) (good_X e Q.C x he) g (show swapsWithSole [.Tuple es kk p] x pos.line X.env = pure false from swaps_no (t := some (.Tuple es kk p)) (l := pos.line) (env := X.env) px nl) (by cases x <;> first | rfl | (simp [notTL] at nt; done)) rfl).weaken fun Z σ H ⟨ρ, A, rep, q⟩ => ?_
  simp only [exec] at q
  refine sX rep q fun r ρ1 v H1 A1 r1 s1 rv q => ?_
  dsimp only at q
  obtain ⟨him, q⟩ := RS.ite q
  obtain ⟨as, d1, _⟩ := rv.any
  have := d1.imm him
  subst this
  have ne : NE (bindT .bor is false r.2 ρ1) := by
    intro c k p z
    unfold bindT at z
    simp only [Bool.false_eq_true, if_false] at z
    split at z
    · split at z <;> cases z
    · cases z
  obtain ⟨ρ2, e2, q⟩ := RS.pure ne q
  refine ⟨ρ1, A1, r.2, [], ρ2, r1, d1, fun B _ _ => kok_bor (fun a h => by simp at h), e2, fun σ2 r2 o2 l2 => ?_⟩
  refine q _ H1 _ r2 ⟨fun a ⟨j, hj⟩ => s1.own a ⟨j, Own.wip_sub hj⟩, s1.keep, s1.the⟩ ⟨l2, fun j hj => o2 j fun m => ?_⟩
  have := List.all_eq_true.mp hio j m
  rw [List.contains_iff_mem.mpr hj] at this
  cases this
theorem st_ex {e : E} {x : Expr} {pos : Pos} (Q : CxS J fs ca k N sc W X) (px : plainX x = true) (nl : notLC x = true) (he : mE J N e sc x = true) : SS ca fs k W io X (.ex e) (.Expr x pos) := by
  refine (ps_expr (good_E e Q.C (fun _ => rfl) x he).1 (swaps_no px nl)).weaken fun Z σ H ⟨ρ, A, rep, q⟩ => ?_
  simp only [exec] at q
  refine sE rep q fun r ρ1 v H1 A1 r1 s1 rv ef q => ?_
  exact q σ H1 A1 r1 s1.z (Fx.refl _ _)
theorem st_ret {e : E} {x : Expr} {pos : Pos} (Q : CxS J fs ca k N sc W X) (he : mE J N e sc x = true) : SS ca fs k W io X (.ret e) (.Return (some x) pos) := by
  refine (ps_ret (good_X e Q.C x he)).weaken fun Z σ H ⟨ρ, A, rep, q⟩ => ?_
  simp only [exec] at q
  refine sX rep q fun r ρ1 v H1 A1 r1 s1 rv q => ?_
  dsimp only at q
  obtain ⟨ho, q⟩ := RS.ite q
  refine q v σ H1 A1 r1 s1.z (Fx.refl _ _) ?_
  by_cases hi : imm r.2 = true
  · obtain ⟨as, d1, _⟩ := rv.any
    have e0 := d1.imm hi
    subst e0
    exact ⟨[], d1, .nil, fun _ m => by simp at m, fun _ m => by simp at m⟩
  · rcases rv with ⟨_, as, h1, h2, h3, h4⟩ | ⟨e0, _⟩
    · exact ⟨as, h1, h2, h3, h4⟩
    · rw [e0] at ho
      exact absurd (by simpa using ho) hi
theorem st_retN {pos : Pos} : SS ca fs k W io X .retN (.Return none pos) := by
  refine ps_retN.weaken fun Z σ H ⟨ρ, A, rep, q⟩ => ?_
  simp only [exec] at q
  exact q .non σ H A rep (Stp.refl _ _).z (Fx.refl _ _) ⟨[], .non, .nil, fun _ m => by simp at m, fun _ m => by simp at m⟩
theorem st_pass {pos : Pos} : SS ca fs k W io X .pass (.Pass pos) := ps_pass.weaken fun Z σ H ⟨ρ, A, rep, q⟩ => q σ H A rep (Stp.refl _ _).z (Fx.refl _ _)
theorem st_brk {pos : Pos} : SS ca fs k W io X .brk (.Break pos) := ps_break.weaken fun Z σ H ⟨ρ, A, rep, q⟩ => q σ H A rep (Stp.refl _ _).z (Fx.refl _ _)
theorem st_cnt {pos : Pos} : SS ca fs k W io X .cnt (.Continue pos) := ps_continue.weaken fun Z σ H ⟨ρ, A, rep, q⟩ => q σ H A rep (Stp.refl _ _).z (Fx.refl _ _)
theorem sts_nil : SSs ca fs k W io X .nil [] := pss_nil.weaken fun Z σ H ⟨ρ, A, rep, q⟩ => q σ H A rep (Stp.refl _ _).z (Fx.refl _ _)
theorem sts_cons {s : S} {r : Ss} {x : Stmt} {xs : List Stmt} (i1 : SS ca fs k W io X s x) (i2 : SSs ca fs k W io X r xs) : SSs ca fs k W io X (.cons s r) (x :: xs) := by
  refine (pss_cons i1 i2).weaken fun Z σ H ⟨ρ, A, rep, q⟩ => ?_
  simp only [execs] at q
  refine ⟨ρ, A, rep, ?_⟩
  rcases e : exec (runF fs k) s ρ with ⟨o, ρ1⟩ | ⟨c, kk, p⟩ | _
  · rw [e] at q
    simp only [bind_ok] at q
    cases o with
    | nx => exact fun σ' H' A' r1 t g => ⟨ρ1, A', r1, q.later t g⟩
    | brk => exact q
    | cnt => exact q
    | ret d => exact q
  · rw [e] at q; exact q
  · rw [e] at q; exact q
theorem st_if {c : E} {a b : Ss} {x : Expr} {xs ys : List Stmt} {pos : Pos} (Q : CxS J fs ca k N sc W X) (he : mE J N c sc x = true) (ia : SSs ca fs k W io X a xs) (ib : SSs ca fs k W io X b ys) : SS ca fs k W io X (.iff c a b) (.If x xs ys pos) := by
  refine (ps_if (good_E c Q.C (fun _ => rfl) x he).2 ia ib).weaken fun Z σ H ⟨ρ, A, rep, q⟩ => ?_
  simp only [exec] at q
  refine sT (f := fun z => if z.1 = true then execs (runF fs k) a z.2 else execs (runF fs k) b z.2) rep q fun t ρ1 H1 A1 r1 s1 q => ?_
  cases t with
  | true => exact ⟨ρ1, A1, r1, q.later s1.z (Fx.refl _ _)⟩
  | false => exact ⟨ρ1, A1, r1, q.later s1.z (Fx.refl _ _)⟩
end
end PV
set_option Elab.async false
set_option linter.all false
set_option maxRecDepth 100000
set_option maxHeartbeats 1000000
/-! PV25: loops; comprehensions stored; lists changed. -/
namespace PV
open PySem PySem.Spec PyProof.Rows L2
section
variable {J : Info} {fs : List Fn} {ca : Nat → Addr} {k : Nat} {N : List Str} {sc : Scope} {W : WX} {X : Cx} {io : List Nat}
theorem forL_ne {f : D → PV.Env → Res (Out × PV.Env)} {d : D} {ds : List D} {ρ : PV.Env} : forL f (d :: ds) ρ = (f d ρ >>= fun x => match x.1 with
    | .ret r => .ok (.ret r, x.2)
    | .brk => .ok (.nx, x.2)
    | _ => forL f ds x.2) := by
  simp only [forL] <;> rfl
/-- the body's end, with what follows it in a loop -/
theorem RS.turn {K : PySem.W.Frag} {σ : L2.St} {H : Hp} {A : Own} {Z : Ends} {res : Res (Out × PV.Env)} {next : PV.Env → Res (Out × PV.Env)} {Nn : L2.St → Hp → Prop}
    (h : RS K ca W io σ H A Z (res >>= fun x => match x.1 with
      | .ret r => .ok (.ret r, x.2)
      | .brk => .ok (.nx, x.2)
      | _ => next x.2))
    (hn : ∀ σ' H' A' ρ', Rep K H' [] σ' ρ' A' → Stp0 H A H' A' → Fx io σ σ' → RS K ca W io σ' H' A' Z (next ρ') → Nn σ' H') : RS K ca W io σ H A { Z with nx := Nn, ct := Nn, bk := Z.nx } res := by
  rcases res with ⟨o, ρ'⟩ | ⟨c, kk, p⟩ | _
  · cases o with
    | nx => exact fun σ' H' A' r s f => hn σ' H' A' ρ' r s f (RS.later s f h)
    | cnt => exact fun σ' H' A' r s f => hn σ' H' A' ρ' r s f (RS.later s f h)
    | brk => exact h
    | ret d => exact h
  · exact h
  · exact h
theorem st_for {tgt : List Nat} {single : Bool} {it : PV.It} {b : Ss} {t x : Expr} {body : List Stmt} {pos : Pos} (Q : CxS J fs ca k N sc W X) (ht : targetB (fun _ => true) N sc t tgt single = true) (hio : tgt.all (fun i => !io.contains i) = true) (hp : pairB single it = true) (hi : mI J N it sc x = true)
    (ib : SSs ca fs k W io X b body) : SS ca fs k W io X (.for tgt single it b) (.For t x body [] pos) := by
  have g := pg_tgt (kc := .fz) (S := []) (fun d d' => by simp) Q.C (fun y _ => Q.fn1 y) ht
  refine (ps_for Q.own Q.C.calm (good_I it Q.C (fun _ => rfl) x t hi single hp (single_tup ht)) g ib (plain_iter (mI_plain hi))).weaken fun Z σ H ⟨ρ, A, rep, q⟩ => ?_
  simp only [exec] at q
  refine sI rep q fun ds ρ1 JJ H1 A1 F r1 s1 it1 av1 tr1 q => ?_
  dsimp only at q
  generalize hf : (fun (d : D) (σ : PV.Env) => bindT Cell.fz tgt single d σ >>= fun σ1 => execs (runF fs k) b σ1) = f at q
  have rf := r1.frz (varsi it) (F := F) fun a ha => ⟨tr1 a ha, fun j hj => av1 a ha j (by rw [List.append_nil]; exact hj)⟩
  generalize hA2 : A1.frz (varsi it) F = A2 at rf
  have s12 : Stp0 H1 A1 H1 A2 := ⟨fun a hb => by
    rw [← hA2] at hb
    obtain ⟨j, _, m⟩ := frz_bd hb
    exact .inl ⟨j, m⟩, fun a o h _ => h, fun a h => h⟩
  have Fbd : ∀ a ∈ F, ¬ Bd A2 a := fun a ha hb => by
    rw [← hA2] at hb
    obtain ⟨j, hj, m⟩ := frz_bd hb
    exact av1 a ha j (by rw [List.append_nil]; exact hj) m
  have q0 : RS X.K ca W io σ H1 A2 Z (forL f ds (freezes ρ1 (varsi it))) := q.later (s1.z.trans s12) (Fx.refl _ _)
  let Pv : Nat → L2.St → Hp → Prop := fun i σ' H' => i ≤ ds.length ∧ ∃ ρi Ai, Rep X.K H' [] σ' ρi Ai ∧ Stp0 H1 A2 H' Ai ∧ RS X.K ca W io σ' H' Ai Z (forL f (ds.drop i) ρi)
  refine ⟨fun i m σ' H' => m = ds.length - i ∧ Pv i σ' H', ⟨ds.length, by simp, Nat.zero_le _, _, A2, rf, ⟨fun a h => .inl h, fun a o h _ => h, fun a h => h⟩, by rw [List.drop_zero]; exact q0⟩, ?_⟩
  rintro i m σi Hi ⟨rfl, hle, ρi, Ai, ri, si, qi⟩
  have itc := it1 Hi (si.fix rf) (fun a ha xs e => si.keep a _ e (Fbd a ha)) i
  by_cases hlt : i < ds.length
  · refine .inr ?_
    have hd : ds[i]? = some ds[i] := List.getElem?_eq_getElem hlt
    obtain ⟨go, yl⟩ := itc.2 _ hd
    refine ⟨go, Pv (i + 1), fun σ' H' p' => ⟨ds.length - (i + 1), by omega, rfl, p'⟩, fun v H3 y => ?_⟩
    obtain ⟨sm3, as, dx, sub⟩ := yl v H3 y
    rw [getD_drop hlt, forL_ne] at qi
    have r3 := (ri.new sm3).frz [] (F := F) fun a ha => by
      obtain ⟨xs, e⟩ := tr1 a ha
      refine ⟨⟨xs, sm3 a _ (si.keep a _ e (Fbd a ha))⟩, fun j _ hj => ?_⟩
      rcases si.own a ⟨j, hj⟩ with z | z
      · exact Fbd a ha z
      · rw [e] at z; cases z
    have e0 : freezes ρi [] = ρi := rfl
    rw [e0] at r3
    have s3 : Stp0 Hi Ai H3 (Ai.frz [] F) := ⟨fun a hb => by
      obtain ⟨j, _, m⟩ := frz_bd hb
      exact .inl ⟨j, m⟩, fun a o h _ => sm3 a o h, fun a h => same_there sm3 h⟩
    have qi3 := qi.later s3 (Fx.refl io σi)
    subst hf
    dsimp only at qi3
    have ne : NE (bindT Cell.fz tgt single ds[i] ρi) := by
      intro c k p z
      unfold bindT at z
      split at z
      · split at z <;> cases z
      · split at z
        · split at z <;> cases z
        · cases z
    have assoc : RS X.K ca W io σi H3 (Ai.frz [] F) Z (bindT Cell.fz tgt single ds[i] ρi >>= fun σ1 => (execs (runF fs k) b σ1 >>= fun x => match x.1 with
        | .ret r => .ok (.ret r, x.2)
        | .brk => .ok (.nx, x.2)
        | _ => forL (fun d σ => bindT Cell.fz tgt single d σ >>= fun σ1 => execs (runF fs k) b σ1) (ds.drop (i + 1)) x.2)) := by
      cases e : bindT Cell.fz tgt single ds[i] ρi with
      | ok ρ2 => rw [e] at qi3; exact qi3
      | exc c k p => exact absurd e (ne c k p)
      | stuck => rw [e] at qi3; exact qi3
    obtain ⟨ρ2, e2, q2⟩ := RS.pure ne assoc
    refine ⟨ρi, Ai.frz [] F, ds[i], as, ρ2, r3, dx, fun B _ hB => kok_fz fun a ha => by rw [hB]; exact List.mem_append_left _ (sub a ha), e2, fun σ2 r4 o4 l4 => ?_⟩
    have s4 : Stp0 H3 (Ai.frz [] F) H3 ((Ai.frz [] F).wip tgt) := ⟨fun a ⟨j, hj⟩ => .inl ⟨j, Own.wip_sub hj⟩, fun a o h _ => h, fun a h => h⟩
    have f4 : Fx io σi σ2 := ⟨l4, fun j hj => o4 j fun m => by
      have := List.all_eq_true.mp hio j m
      rw [List.contains_iff_mem.mpr hj] at this
      cases this⟩
    have si4 : Stp0 H1 A2 H3 ((Ai.frz [] F).wip tgt) := (si.trans s3).trans s4
    refine ⟨ρ2, _, r4, RS.turn (q2.later s4 f4) fun σ' H' A' ρ' r' s' f' q' => ⟨hlt, ρ', A', r', si4.trans s', q'⟩⟩
  · have hle' : i = ds.length := by omega
    subst hle'
    refine .inl ⟨itc.1 (Nat.le_refl _), ?_⟩
    rw [List.drop_length] at qi
    simp only [forL] at qi
    exact qi σi Hi Ai ri (Stp.refl _ _).z (Fx.refl _ _)
theorem st_whl {c : E} {b : Ss} {x : Expr} {body : List Stmt} {pos : Pos} (Q : CxS J fs ca k N sc W X) (hc : mE J N c sc x = true) (ib : SSs ca fs k W io X b body) : SS ca fs k W io X (.whl c b) (.While x body [] pos) := by
  refine (ps_while Q.own (good_E c Q.C (fun _ => rfl) x hc).2 ib).weaken fun Z σ H ⟨ρ, A, rep, q⟩ => ?_
  simp only [exec] at q
  generalize hcf : (fun σ => ev (runF fs k) c σ >>= fun x => asBool x.1.2 >>= fun b => Res.ok (b, x.2)) = cf at q
  generalize hbf : (fun σ => execs (runF fs k) b σ) = bf at q
  refine ⟨fun m σ' H' => ∃ ρ' A', Rep X.K H' [] σ' ρ' A' ∧ RS X.K ca W io σ' H' A' Z (whileL cf bf m ρ'), ⟨fuel, ρ, A, rep, q⟩, ?_⟩
  rintro m σ1 H1 ⟨ρ1, A1, r1, q1⟩
  cases m with
  | zero => exact q1.elim
  | succ m =>
    simp only [whileL] at q1
    subst hcf
    have q1' : RS X.K ca W io σ1 H1 A1 Z (ev (runF fs k) c ρ1 >>= fun x => asBool x.1.2 >>= fun t => (fun z : Bool × PV.Env => if z.1 = true then (bf z.2 >>= fun x => match x.1 with
        | .ret r => .ok (.ret r, x.2)
        | .brk => .ok (.nx, x.2)
        | _ => whileL (fun σ => ev (runF fs k) c σ >>= fun x => asBool x.1.2 >>= fun b => Res.ok (b, x.2)) bf m x.2) else .ok (.nx, z.2)) (t, x.2)) := by
      dsimp only at q1
      rcases e : ev (runF fs k) c ρ1 with ⟨⟨o, d⟩, ρx⟩ | ⟨c', kk, p⟩ | _
      · rw [e] at q1
        cases d <;> try exact q1
      · rw [e] at q1; exact q1
      · rw [e] at q1; exact q1
    refine sT (f := fun z : Bool × PV.Env => if z.1 = true then (bf z.2 >>= fun x => match x.1 with
        | .ret r => .ok (.ret r, x.2)
        | .brk => .ok (.nx, x.2)
        | _ => whileL (fun σ => ev (runF fs k) c σ >>= fun x => asBool x.1.2 >>= fun b => Res.ok (b, x.2)) bf m x.2) else .ok (.nx, z.2)) r1 q1' fun t ρ2 H2 A2 r2 s2 q2 => ?_
    cases t with
    | true =>
      rw [if_pos rfl]
      simp only [if_true] at q2
      refine ⟨fun σ' H' => ∃ ρ' A', Rep X.K H' [] σ' ρ' A' ∧ RS X.K ca W io σ' H' A' Z (whileL (fun σ => ev (runF fs k) c σ >>= fun x => asBool x.1.2 >>= fun b => Res.ok (b, x.2)) bf m ρ'), fun σ' H' p' => ⟨m, Nat.lt_succ_self _, p'⟩, ρ2, A2, r2, ?_⟩
      subst hbf
      exact RS.turn (q2.later s2.z (Fx.refl _ _)) fun σ' H' A' ρ' r' s' f' q' => ⟨ρ', A', r', q'⟩
    | false =>
      rw [if_neg (by decide)]
      simp only [Bool.false_eq_true, if_false] at q2
      exact q2 σ1 H2 A2 r2 s2.z (Fx.refl _ _)
end
end PV
set_option Elab.async false
set_option linter.all false
set_option maxRecDepth 100000
set_option maxHeartbeats 1000000
/-! PV26: a comprehension stored; lists changed. -/
namespace PV
open PySem PySem.Spec PyProof.Rows L2
section
variable {J : Info} {fs : List Fn} {ca : Nat → Addr} {k : Nat} {N : List Str} {sc : Scope} {W : WX} {X : Cx} {io : List Nat}
/-- name = [.. for ..] on one line -/
theorem st_asgC {elt : E} {tgt : List Nat} {single : Bool} {it : PV.It} {cnd : Es} {own : List Nat} {j : Nat} {y : Str} {py : Pos} {x t i : Expr} {ifs : List Expr} {scope : Scope} {pos spos : Pos} (Q : CxS J fs ca k N sc W X)
    (hy : N[j]? = some y) (hl : sc.names.lookup y = some .local) (hio : io.contains j = false) (hk : sc.kind = .function) (hline : (py.line == pos.line) = true) (hsn : (scope.names.any fun (n, k) => n == y && (k == .local || k == .cell)) = false)
    (hb : blkC N sc scope (namesOf N own) = true) (ht : targetB (fun x => scope.names.lookup x == some .cell) N (relS scope sc) t tgt single = true) (hto : tgt.all (fun i => own.contains i) = true) (hp : pairB single it = true) (hi : mI J N it sc i = true) (hc : mCs J N cnd (relS scope sc) ifs = true) (he : mE J N elt (relS scope sc) x = true) :
    SS ca fs k W io X (.asg j (.comp elt tgt single it cnd own)) (.Assign [.Name y py] (.ListComp x [⟨t, i, ifs, 0⟩] scope pos) spos) := by
  have C := Q.C
  have tg : ∀ i ∈ tgt, i ∈ own := fun i hi => by
    have := List.all_eq_true.mp hto i hi
    exact List.contains_iff_mem.mp this
  have bo : BlkOk X.N X.env.scope scope (namesOf N own) := by rw [C.N, C.sc]; exact blkOk_by hb
  have hl' : X.env.scope.names.lookup y = some .local := by rw [C.sc]; exact hl
  have sw : swapsWith (.ListComp x [⟨t, i, ifs, 0⟩] scope pos) (some (.Name y py)) spos.line X.env = pure true := sw_true (by rw [C.sc]; exact hk) hl' hline hsn
  have go : ∀ S' : List Nat, ((eff elt || effs cnd) = true → S' = []) → PS X (.Assign [.Name y py] (.ListComp x [⟨t, i, ifs, 0⟩] scope pos) spos) (tAsg (tLc (tIt X.K ca (runF fs k) [] W it) (tTg X.K S' .bor tgt single) (tTests X.K ca (runF fs k) S' cnd) (tS X.K ca (runF fs k) S' WF elt) own) (gName j)) := fun S' h1 => by
    have := ps_setLc (i := j) (py := py) (spos := spos) (pos := pos) (elt := x) (te := tS X.K ca (runF fs k) S' WF elt) (tt := tTests X.K ca (runF fs k) S' cnd) (g := tTg X.K S' .bor tgt single) C.calm C.nd (by rw [C.N]; exact hy) hl' sw (good_I it C (fun _ => rfl) i t hi single hp (single_tup ht)) bo
      (fun s H D cl fp => pg_tgt (kc := .bor) (S := S') (fun d d' => by simp) (C.blk s H scope D cl fp) (fun y hy => hy) ht)
      (fun s H D cl fp => pts_of ((good_Es cnd (C.blk s H scope D cl fp) (or_r h1)).2 ifs hc))
      (fun s H D cl fp => (good_E elt (C.blk s H scope D cl fp) (or_l h1) x he).1) (plain_iter (mI_plain hi))
    rwa [names_snd] at this
  have one : ∀ e r, cnd = .cons e r → r = .nil := by
    intro e r h
    subst h
    cases r with
    | nil => rfl
    | cons e' r' => simp [mCs] at hc
  by_cases hf : (eff elt || effs cnd) = true
  · refine (go [] (fun _ => rfl)).weaken fun Z σ H h => ?_
    exact w_compE one tg hf (tX_tS rfl (w_asg hio h))
  · have hf' : (eff elt || effs cnd) = false := by simpa using hf
    refine (go (varsi it ++ []) (fun e => absurd e hf)).weaken fun Z σ H h => ?_
    exact w_compP one tg hf' (tX_tS rfl (w_asg hio h))
/-- name = [.. for .. for ..] on one line -/
theorem st_asgC2 {elt : E} {tgt tgt1 : List Nat} {single single1 : Bool} {it it1 : PV.It} {cnd cnd1 : Es} {own : List Nat} {j : Nat} {y : Str} {py : Pos} {x t i t1 i1 : Expr} {ifs ifs1 : List Expr} {scope : Scope} {pos spos : Pos} (Q : CxS J fs ca k N sc W X)
    (hy : N[j]? = some y) (hl : sc.names.lookup y = some .local) (hio : io.contains j = false) (hk : sc.kind = .function) (hline : (py.line == pos.line) = true) (hsn : (scope.names.any fun (n, k) => n == y && (k == .local || k == .cell)) = false)
    (hb : blkC N sc scope (namesOf N own) = true) (ht : targetB (fun x => scope.names.lookup x == some .cell) N (relS scope sc) t tgt single = true) (hto : tgt.all (fun i => own.contains i) = true) (hp : pairB single it = true) (hi : mI J N it sc i = true) (hc : mCs J N cnd (relS scope sc) ifs = true) (he : mE J N elt (relS scope sc) x = true)
    (ht1 : targetB (fun x => scope.names.lookup x == some .cell) N (relS scope sc) t1 tgt1 single1 = true) (hto1 : tgt1.all (fun i => own.contains i) = true) (hp1 : pairB single1 it1 = true) (hi1 : mI J N it1 (relS scope sc) i1 = true) (hc1 : mCs J N cnd1 (relS scope sc) ifs1 = true) (hf' : (eff elt || effs cnd || effi it1 || effs cnd1) = false) :
    SS ca fs k W io X (.asg j (.comp2 elt tgt single it cnd own tgt1 single1 it1 cnd1)) (.Assign [.Name y py] (.ListComp x [⟨t, i, ifs, 0⟩, ⟨t1, i1, ifs1, 0⟩] scope pos) spos) := by
  have C := Q.C
  have tg : ∀ i ∈ tgt, i ∈ own := fun i hi => List.contains_iff_mem.mp (List.all_eq_true.mp hto i hi)
  have tg1 : ∀ i ∈ tgt1, i ∈ own := fun i hi => List.contains_iff_mem.mp (List.all_eq_true.mp hto1 i hi)
  have bo : BlkOk X.N X.env.scope scope (namesOf N own) := by rw [C.N, C.sc]; exact blkOk_by hb
  have hl' : X.env.scope.names.lookup y = some .local := by rw [C.sc]; exact hl
  have sw : swapsWith (.ListComp x [⟨t, i, ifs, 0⟩, ⟨t1, i1, ifs1, 0⟩] scope pos) (some (.Name y py)) spos.line X.env = pure true := sw_true (by rw [C.sc]; exact hk) hl' hline hsn
  have one : ∀ {cnd : Es} {sc : Scope} {ifs : List Expr}, mCs J N cnd sc ifs = true → ∀ e r, cnd = .cons e r → r = .nil := by
    intro cnd sc ifs hc e r h
    subst h
    cases r with
    | nil => rfl
    | cons e' r' => simp [mCs] at hc
  have hf2 := hf'
  simp only [Bool.or_eq_false_iff] at hf2
  obtain ⟨⟨⟨f1, f2⟩, f3⟩, f4⟩ := hf2
  have no : ∀ {b : Bool} {S' : List Nat}, b = false → b = true → S' = [] := fun h e => by rw [h] at e; cases e
  have := ps_setLc2 (i := j) (py := py) (spos := spos) (pos := pos) (elt := x) (te := tS X.K ca (runF fs k) (varsi it1 ++ (varsi it ++ [])) WF elt) (tt := tTests X.K ca (runF fs k) (varsi it ++ []) cnd) (g := tTg X.K (varsi it ++ []) .bor tgt single) (wi1 := tIt X.K ca (runF fs k) (varsi it ++ []) WF it1) (g1 := tTg X.K (varsi it1 ++ (varsi it ++ [])) .bor tgt1 single1) (tt1 := tTests X.K ca (runF fs k) (varsi it1 ++ (varsi it ++ [])) cnd1) (vs1 := tgt1) C.calm C.nd (by rw [C.N]; exact hy) hl' sw (good_I it C (fun _ => rfl) i t hi single hp (single_tup ht)) bo (by rw [names_snd]; exact tg1)
    (fun s H D cl fp => pg_tgt (kc := .bor) (S := varsi it ++ []) (fun d d' => by simp) (C.blk s H scope D cl fp) (fun y hy => hy) ht)
    (fun s H D cl fp => pts_of ((good_Es cnd (C.blk s H scope D cl fp) (no f2)).2 ifs hc))
    (fun s H D cl fp => good_I it1 (C.blk s H scope D cl fp) (no f3) i1 t1 hi1 single1 hp1 (single_tup ht1))
    (fun s H D cl fp => pg_tgt (kc := .bor) (S := varsi it1 ++ (varsi it ++ [])) (fun d d' => by simp) (C.blk s H scope D cl fp) (fun y hy => hy) ht1)
    (fun s H D cl fp => pts_of ((good_Es cnd1 (C.blk s H scope D cl fp) (no f4)).2 ifs1 hc1))
    (fun s H D cl fp => (good_E elt (C.blk s H scope D cl fp) (no f1) x he).1) (plain_iter (mI_plain hi)) (fun env => plain_iter (mI_plain hi1))
  rw [names_snd] at this
  refine this.weaken fun Z σ H h => ?_
  obtain ⟨ρ, A, rep, q⟩ := tX_tS rfl (w_asg hio h)
  rw [rn_rg] at q
  simp only [ev] at q
  refine w_comp2P (one hc) (one hc1) tg (fun i h => h) rfl (fun e => ?_) hf' rep (ef := eff (.comp2 elt tgt single it cnd own tgt1 single1 it1 cnd1)) ?_
  · simp only [eff, Bool.or_eq_false_iff] at e
    exact e.1.1.1.2
  · simp only [hf', Bool.false_eq_true, if_false] at q
    exact q
theorem ixN_same (n : Nat) (i : Int) (j : Nat) (h : PV.ixN n i = some j) : L2.ixN n i = some j := by
  unfold PV.ixN at h
  unfold L2.ixN
  exact h
/-- a value that goes into a list of a name -/
theorem into {K : PySem.W.Frag} {σ : L2.St} {H H1 : Hp} {A A1 : Own} {ρ1 : PV.Env} {us : List Nat} {v : V} {r : R} (rv : RVal K H A H1 A1 us v r) (ho : (r.1 || imm r.2) = true) : ∃ as, DpR K H1 v r.2 as ∧ as.Nodup ∧ (∀ a ∈ as, ¬ Bd A1 a ∧ a ∉ A1.fr) ∧ ∀ a ∈ as, Bd A a ∨ H a = none := by
  by_cases hi : imm r.2 = true
  · obtain ⟨as, d1, _⟩ := rv.any
    have e0 := d1.imm hi
    subst e0
    exact ⟨[], d1, .nil, fun _ m => by simp at m, fun _ m => by simp at m⟩
  · rcases rv with ⟨_, as, h1, h2, h3, h4⟩ | ⟨e0, _⟩
    · exact ⟨as, h1, h2, h3, h4⟩
    · rw [e0] at ho
      exact absurd (by simpa using ho) hi
/-- .. survives a step -/
theorem into_later {K : PySem.W.Frag} {σ : L2.St} {H1 H2 : Hp} {A1 A2 : Own} {ρ1 : PV.Env} {v : V} {d : D} {as : List Addr} (r1 : Rep K H1 [] σ ρ1 A1) (t : Stp H1 A1 H2 A2) (h1 : DpR K H1 v d as) (h3 : ∀ a ∈ as, ¬ Bd A1 a ∧ a ∉ A1.fr) : DpR K H2 v d as ∧ ∀ a ∈ as, ¬ Bd A2 a ∧ a ∉ A2.fr := by
  refine ⟨h1.keep (t.fix r1) (fun a ha ys hy => t.keep a _ hy (h3 a ha).1), fun a ha => ⟨fun b => ?_, fun b => ?_⟩⟩
  · rcases t.own a b with b | b
    · exact (h3 a ha).1 b
    · obtain ⟨ys, q⟩ := h1.trk a ha
      rw [b] at q
      cases q
  · rcases t.fro a b with b | b | b
    · exact (h3 a ha).2 b
    · exact (h3 a ha).1 b
    · obtain ⟨ys, q⟩ := h1.trk a ha
      rw [b] at q
      cases q
theorem DpRs.set {K : PySem.W.Frag} {H : Hp} : ∀ {v : List V} {d : List D} {as : List Addr} {j : Nat} {x : V} {y : D} {bs : List Addr}, DpRs K H v d as → j < d.length → DpR K H x y bs → as.Nodup → bs.Nodup → (∀ b ∈ bs, b ∉ as) → ∃ cs, DpRs K H (v.set j x) (d.set j y) cs ∧ cs.Nodup ∧ ∀ c ∈ cs, c ∈ as ∨ c ∈ bs
  | _, _, _, _, _, _, _, .nil, hj, _, _, _, _ => by simp at hj
  | _, _, _, 0, x, y, bs, .cons (as := a1) (bs := a2) r s, _, rx, na, nb, hd => by
    have na' := List.nodup_append.mp na
    refine ⟨bs ++ a2, .cons rx s, List.nodup_append.mpr ⟨nb, na'.2.1, fun a ha b hb e => hd a ha (List.mem_append_right _ (e ▸ hb))⟩, fun c hc => ?_⟩
    rcases List.mem_append.mp hc with m | m
    · exact .inr m
    · exact .inl (List.mem_append_right _ m)
  | _, _, _, j + 1, x, y, bs, .cons (as := a1) (bs := a2) r s, hj, rx, na, nb, hd => by
    have na' := List.nodup_append.mp na
    obtain ⟨cs, h1, h2, h3⟩ := DpRs.set (j := j) s (by simpa using hj) rx na'.2.1 nb fun b hb m => hd b hb (List.mem_append_right _ m)
    refine ⟨a1 ++ cs, .cons r h1, List.nodup_append.mpr ⟨na'.1, h2, fun a ha b hb e => ?_⟩, fun c hc => ?_⟩
    · subst e
      rcases h3 a hb with m | m
      · exact na'.2.2 a ha a m rfl
      · exact hd a m (List.mem_append_left _ ha)
    · rcases List.mem_append.mp hc with m | m
      · exact .inl (List.mem_append_left _ m)
      · exact (h3 c m).imp (fun m => List.mem_append_right _ m) id
/-- the list of a name has changed -/
theorem chg {K : PySem.W.Frag} {σ : L2.St} {H0 H : Hp} {A0 A : Own} {ρ : PV.Env} {i : Nat} {ds es : List D} {a : Addr} {xs ys : List V} {bs cs as : List Addr} (st : Stp0 H0 A0 H A) (rep : Rep K H [] σ ρ A) (nb : noBor ρ = true) (hg : PV.get ρ i = some (.own (.list ds))) (hv : σ[i]? = some (some (.ref a)))
    (hH : H a = some (.lst xs)) (hA : A i = a :: bs) (nd : (a :: bs).Nodup) (r : DpRs K H ys es cs) (nc : cs.Nodup) (hc : ∀ c ∈ cs, c ∈ bs ∨ c ∈ as) (ha : ∀ c ∈ as, ¬ Bd A c ∧ c ∉ A.fr) (ho : ∀ c ∈ as, Bd A0 c ∨ H0 c = none) :
    ∃ A2, Rep K (upd H a (.lst ys)) [] σ (ρ.set i (some (.own (.list es)))) A2 ∧ Stp0 H0 A0 (upd H a (.lst ys)) A2 := by
  have hAi : a ∈ A i := by rw [hA]; exact List.mem_cons_self
  have hn : a ∉ cs := fun m => by
    rcases hc a m with q | q
    · exact (List.nodup_cons.mp nd).1 q
    · exact (ha a q).1 ⟨i, hAi⟩
  have r' : DpRs K (upd H a (.lst ys)) ys es cs := r.upd hH fun b hb z => hn (z ▸ hb)
  refine ⟨A.put i (a :: cs), rep.upd1 nb hg hAi hH hv (.lst upd_same r') (List.nodup_cons.mpr ⟨hn, nc⟩) fun b hb => ?_, fun b ⟨j, hj⟩ => ?_, fun b o e n => ?_, fun b e => ?_⟩
  · rcases List.mem_cons.mp hb with e | hb
    · rw [e]; exact .inl hAi
    · rcases hc b hb with q | q
      · exact .inl (by rw [hA]; exact List.mem_cons_of_mem _ q)
      · exact .inr (ha b q)
  · by_cases hji : j = i
    · rw [hji, Own.put_same] at hj
      rcases List.mem_cons.mp hj with e | hj
      · rw [e]; exact st.own a ⟨i, hAi⟩
      · rcases hc b hj with q | q
        · exact st.own b ⟨i, by rw [hA]; exact List.mem_cons_of_mem _ q⟩
        · exact ho b q
    · rw [Own.put_ne _ _ hji] at hj
      exact st.own b ⟨j, hj⟩
  · have hb : b ≠ a := fun z => by
      subst z
      rcases st.own b ⟨i, hAi⟩ with q | q
      · exact n q
      · rw [e] at q; cases q
    rw [upd_ne hb]
    exact st.keep b o e n
  · by_cases hb : b = a
    · rw [hb, upd_same] at e; cases e
    · rw [upd_ne hb] at e; exact st.the b e
theorem sE2 {K : PySem.W.Frag} {cf : CF} {σ : L2.St} {H H1 : Hp} {A A1 : Own} {ρ : PV.Env} {Z : Ends} {a : E} {f : R × PV.Env → Res (Out × PV.Env)} {Q1 : VK} (s : Stp0 H A H1 A1) (rep : Rep K H1 [] σ ρ A1) (h : RS K ca W io σ H A Z (ev cf a ρ >>= f))
    (hq : ∀ r ρ1 v H2 A2, Rep K H2 [] σ ρ1 A2 → Stp H1 A1 H2 A2 → RVal K H1 A1 H2 A2 (vars a ++ []) v r → (eff a = false → A2 = A1 ∧ Same H1 H2) → RS K ca W io σ H A Z (f (r, ρ1)) → Q1 v H2) : tS K ca cf [] W a σ H1 Q1 := by
  refine ⟨ρ, A1, rep, ?_⟩
  rw [rn_rg]
  rcases e : ev cf a ρ with ⟨r, ρ1⟩ | ⟨c, k, p⟩ | _
  · rw [e] at h
    exact fun v H1 A1 r1 s1 rv ef => hq r ρ1 v H1 A1 r1 s1 rv ef h
  · rw [e] at h
    have h' : ExS K ca H A W σ c k p := h
    exact ExS.at (ExS.later s rfl h')
  · rw [e] at h
    exact h
theorem nodup_of {a : Addr} {bs : List Addr} (h : (a :: bs).Nodup) : bs.Nodup := (List.nodup_cons.mp h).2
theorem ixN_lt {n j : Nat} {i : Int} (hj : PV.ixN n i = some j) : j < n := by
  unfold PV.ixN at hj
  split at hj
  · split at hj
    · cases hj; omega
    · cases hj
  · split at hj
    · cases hj; omega
    · cases hj
theorem st_setv {i : Nat} {ix e : E} {y : Str} {p1 p2 pos : Pos} {xi x : Expr} (Q : CxS J fs ca k N sc W X) (hn : nameB N sc i y = true) (pi : plainX xi = true) (hi : mE J N ix sc xi = true) (px : plainX x = true) (nl : notLC x = true) (he : mE J N e sc x = true) :
    SS ca fs k W io X (.setv i ix e) (.Assign [.Subscript (.Name y p1) xi p2] x pos) := by
  have g := pg_sub (pos := p2) (pe_nm (p := p1) Q.C hn) (good_E ix Q.C (fun _ => rfl) xi hi).1 set_list (by intro v; cases xi <;> first | rfl | (simp [plainX] at pi; done))
  refine (ps_asg (pos := pos) (good_X e Q.C x he) g (show swapsWithSole [.Subscript (.Name y p1) xi p2] x pos.line X.env = pure false from swaps_no (t := some (.Subscript (.Name y p1) xi p2)) (l := pos.line) (env := X.env) px nl) (by cases x <;> rfl) rfl).weaken fun Z σ H ⟨ρ, A, rep, q⟩ => ?_
  simp only [exec] at q
  refine sX rep q fun r ρ1 v H1 A1 r1 s1 rv q => ?_
  dsimp only at q
  obtain ⟨ds0, eo, q⟩ := RS.pure (ne_own _ _) q
  obtain ⟨a0, xs0, bs0, hv0, hH0, _, _, _⟩ := r1.lst (own_inv eo)
  refine ⟨_, hv0, ?_⟩
  refine sE2 s1.z r1 q fun kx ρ2 w H2 A2 r2 s2 rw2 ef2 q2 => ?_
  dsimp only at q2
  obtain ⟨hk, q2⟩ := RS.ite q2
  simp only [Bool.and_eq_true] at hk
  obtain ⟨ho, nb⟩ := hk
  obtain ⟨ds, eo1, q2⟩ := RS.pure (ne_own _ _) q2
  obtain ⟨kk, ek, q2⟩ := RS.pure (ne_int _) q2
  obtain ⟨es, ees, q2⟩ := RS.pure (ne_set _ _ _) q2
  have hg := own_inv eo1
  obtain ⟨j, hj, hes⟩ := set_inv ees
  obtain ⟨a, xs, bs, hv, hH, rr, hA, nd⟩ := r2.lst hg
  rw [hv0] at hv
  cases hv
  obtain ⟨as, d1, d2, d3, d4⟩ := into (ρ1 := ρ1) (σ := σ) rv ho
  obtain ⟨d1', d3'⟩ := into_later r1 s2 d1 d3
  obtain ⟨is, dk, _⟩ := rw2.any
  rw [int_inv ek] at dk
  have dis : ∀ b ∈ as, b ∉ bs := fun b hb m => (d3' b hb).1 ⟨i, by rw [hA]; exact List.mem_cons_of_mem _ m⟩
  obtain ⟨cs, g1, g2, g3⟩ := rr.set (ixN_lt hj) d1' (nodup_of nd) d2 dis
  have st := s1.z.trans s2.z
  refine ⟨a0, xs, kk, j, rfl, dk.int_inv, hH, ixN_same _ _ _ (by rw [rr.length]; exact hj), ?_⟩
  rw [← hes] at g1
  obtain ⟨A3, r3, s3⟩ := chg st r2 nb hg hv0 hH hA nd g1 g2 g3 d3' d4
  exact q2 σ _ A3 r3 s3 (Fx.refl _ _)
theorem st_app {i : Nat} {e : E} {y : Str} {p1 p2 p3 pos : Pos} {x : Expr} (Q : CxS J fs ca k N sc W X) (hn : nameB N sc i y = true) (hl : lineB p2 p3 = true) (px : plainX x = true) (he : mE J N e sc x = true) :
    SS ca fs k W io X (.app i e) (.Expr (.Call (.Attribute (.Name y p1) "append" p2) [x] [] p3) pos) := by
  have ny : starEach [x] X.env = (false, eval x X.env) :: starEach [] X.env := star_of px
  have few : ((backTo p3 (starEach [x] X.env)).all (fun x => !x.1) && (backToKw p3 (keywordEach [] X.env)).all (fun x => x.1.isSome) && decide ([x].length + ([] : List Keyword).length + (if ([] : List Keyword).isEmpty then 0 else 1) < 30)) = true := by rw [ny]; rfl
  refine (ps_expr (pe_bm PySem.F.plainAttrs_list PySem.F.slot_list_append PySem.F.type_list_append mt_append (pe_nm Q.C hn) (pa_cons (good_X e Q.C x he) pa_nil ny) rfl few hl ny rfl)).weaken fun Z σ H ⟨ρ, A, rep, q⟩ => ?_
  simp only [exec] at q
  obtain ⟨ds0, eo, q⟩ := RS.pure (ne_own _ _) q
  obtain ⟨a0, xs0, bs0, hv0, hH0, _, _, _⟩ := rep.lst (own_inv eo)
  refine ⟨_, hv0, .inl ⟨rfl, xs0, SqL.of hH0⟩, ?_⟩
  refine sX rep q fun r ρ1 v H1 A1 r1 s1 rv q => ?_
  dsimp only at q
  obtain ⟨hk, q⟩ := RS.ite q
  simp only [Bool.and_eq_true] at hk
  obtain ⟨ho, nb⟩ := hk
  obtain ⟨ds, eo1, q⟩ := RS.pure (ne_own _ _) q
  split at q
  · rename_i hlt
    have hg := own_inv eo1
    obtain ⟨a, xs, bs, hv, hH, rr, hA, nd⟩ := r1.lst hg
    rw [hv0] at hv
    cases hv
    obtain ⟨as, d1, d2, d3, d4⟩ := into (ρ1 := ρ1) (σ := σ) rv ho
    have dis : ∀ b ∈ as, b ∉ bs := fun b hb m => (d3 b hb).1 ⟨i, by rw [hA]; exact List.mem_cons_of_mem _ m⟩
    have g1 : DpRs X.K H1 (xs ++ [v]) (ds ++ [r.2]) (bs ++ as) := rr.app (.one d1)
    have g2 : (bs ++ as).Nodup := List.nodup_append.mpr ⟨nodup_of nd, d2, fun c hc b hb e => dis b hb (e ▸ hc)⟩
    refine ⟨a0, xs, v, rfl, rfl, hH, by rw [rr.length]; exact hlt, ?_⟩
    obtain ⟨A3, r3, s3⟩ := chg s1.z r1 nb hg hv0 hH hA nd g1 g2 (fun c hc => List.mem_append.mp hc) d3 d4
    exact q σ _ A3 r3 s3 (Fx.refl _ _)
  · exact q.elim
/-- an item that is a list has got one more -/
theorem DpRs.app1 {K : PySem.W.Frag} {H : Hp} {b : Addr} {ys : List V} {v0 : V} {d0 : D} {as0 : List Addr} (hH : H b = some (.lst ys)) (r0 : DpR K H v0 d0 as0) (n0 : as0.Nodup) : ∀ {v : List V} {d : List D} {as : List Addr} {j : Nat} {es : List D}, DpRs K H v d as → as.Nodup → (∀ c ∈ as0, c ∉ as) → v[j]? = some (.ref b) → d[j]? = some (.list es) →
    b ∈ as ∧ es.length = ys.length ∧ ∃ cs, DpRs K (L2.upd H b (.lst (ys ++ [v0]))) v (d.set j (.list (es ++ [d0]))) cs ∧ cs.Nodup ∧ ∀ c ∈ cs, c ∈ as ∨ c ∈ as0
  | _, _, _, _, _, .nil, _, _, hv, _ => by simp at hv
  | _, _, _, 0, es, .cons (as := a1) (bs := a2) r s, na, hd, hv, hz => by
    simp only [List.getElem?_cons_zero, Option.some.injEq] at hv hz
    subst hv hz
    obtain ⟨b', ys', cs, e1, r2, h2, e2⟩ := r.list_inv
    cases e1
    rw [hH] at h2
    cases h2
    subst e2
    have n1 := List.nodup_append.mp na
    have n2 := List.nodup_cons.mp n1.1
    have hb0 : b ∉ as0 := fun m => hd b m (by simp)
    refine ⟨by simp, r2.length.symm, (b :: (cs ++ as0)) ++ a2, .cons (.lst upd_same ((r2.app (.one r0)).upd hH fun c hc e => ?_)) (s.upd hH fun c hc e => ?_), ?_, fun c hc => ?_⟩
    · subst e
      rcases List.mem_append.mp hc with m | m
      · exact n2.1 m
      · exact hb0 m
    · subst e
      exact n1.2.2 c List.mem_cons_self c hc rfl
    · have hp : ((b :: (cs ++ as0)) ++ a2).Perm ((b :: cs ++ a2) ++ as0) := by
        simp only [List.cons_append, List.append_assoc]
        exact List.Perm.cons _ (List.Perm.append_left _ List.perm_append_comm)
      rw [hp.nodup_iff]
      exact List.nodup_append.mpr ⟨na, n0, fun a ha c hc e => hd c hc (e ▸ ha)⟩
    · simp only [List.cons_append, List.append_assoc, List.mem_cons, List.mem_append] at hc ⊢
      rcases hc with m | m | m | m
      · exact .inl (.inl m)
      · exact .inl (.inr (.inl m))
      · exact .inr m
      · exact .inl (.inr (.inr m))
  | _, _, _, j + 1, es, .cons (as := a1) (bs := a2) r s, na, hd, hv, hz => by
    have n1 := List.nodup_append.mp na
    obtain ⟨g0, gl, cs, g1, g2, g3⟩ := DpRs.app1 hH r0 n0 (j := j) s n1.2.1 (fun c hc m => hd c hc (List.mem_append_right _ m)) (by simpa using hv) (by simpa using hz)
    refine ⟨List.mem_append_right _ g0, gl, a1 ++ cs, .cons (r.upd hH fun c hc e => ?_) g1, List.nodup_append.mpr ⟨n1.1, g2, fun a ha c hc e => ?_⟩, fun c hc => ?_⟩
    · subst e
      exact n1.2.2 c hc c g0 rfl
    · subst e
      rcases g3 a hc with m | m
      · exact n1.2.2 a ha a m rfl
      · exact hd a m (List.mem_append_left _ ha)
    · rcases List.mem_append.mp hc with m | m
      · exact .inl (List.mem_append_left _ m)
      · exact (g3 c m).imp (fun m => List.mem_append_right _ m) id
/-- a list that a name holds has changed, be it deep -/
theorem chg1 {K : PySem.W.Frag} {σ : L2.St} {H0 H : Hp} {A0 A : Own} {ρ : PV.Env} {i : Nat} {d d' : D} {a : Addr} {v : V} {xs ys : List V} {cs as : List Addr} (st : Stp0 H0 A0 H A) (rep : Rep K H [] σ ρ A) (nb : noBor ρ = true) (hg : PV.get ρ i = some (.own d)) (hv : σ[i]? = some (some v))
    (hH : H a = some (.lst xs)) (hAi : a ∈ A i) (r : DpR K (upd H a (.lst ys)) v d' cs) (nc : cs.Nodup) (hc : ∀ c ∈ cs, c ∈ A i ∨ c ∈ as) (ha : ∀ c ∈ as, ¬ Bd A c ∧ c ∉ A.fr) (ho : ∀ c ∈ as, Bd A0 c ∨ H0 c = none) :
    ∃ A2, Rep K (upd H a (.lst ys)) [] σ (ρ.set i (some (.own d'))) A2 ∧ Stp0 H0 A0 (upd H a (.lst ys)) A2 := by
  refine ⟨A.put i cs, rep.upd1 nb hg hAi hH hv r nc fun b hb => ?_, fun b ⟨j, hj⟩ => ?_, fun b o e n => ?_, fun b e => ?_⟩
  · exact (hc b hb).imp id (ha b)
  · by_cases hji : j = i
    · rw [hji, Own.put_same] at hj
      rcases hc b hj with q | q
      · exact st.own b ⟨i, q⟩
      · exact ho b q
    · rw [Own.put_ne _ _ hji] at hj
      exact st.own b ⟨j, hj⟩
  · have hb : b ≠ a := fun z => by
      subst z
      rcases st.own b ⟨i, hAi⟩ with q | q
      · exact n q
      · rw [e] at q; cases q
    rw [upd_ne hb]
    exact st.keep b o e n
  · by_cases hb : b = a
    · rw [hb, upd_same] at e; cases e
    · rw [upd_ne hb] at e; exact st.the b e
theorem st_app1 {i : Nat} {ix e : E} {y : Str} {p0 p1 p2 p3 pos : Pos} {xi x : Expr} (Q : CxS J fs ca k N sc W X) (hn : nameB N sc i y = true) (pi : plainX xi = true) (hi : mE J N ix sc xi = true) (hl : lineB p2 p3 = true) (px : plainX x = true) (he : mE J N e sc x = true) :
    SS ca fs k W io X (.app1 i ix e) (.Expr (.Call (.Attribute (.Subscript (.Name y p0) xi p1) "append" p2) [x] [] p3) pos) := by
  have ny : starEach [x] X.env = (false, eval x X.env) :: starEach [] X.env := star_of px
  have few : ((backTo p3 (starEach [x] X.env)).all (fun x => !x.1) && (backToKw p3 (keywordEach [] X.env)).all (fun x => x.1.isSome) && decide ([x].length + ([] : List Keyword).length + (if ([] : List Keyword).isEmpty then 0 else 1) < 30)) = true := by rw [ny]; rfl
  refine (ps_expr (pe_bm PySem.F.plainAttrs_list PySem.F.slot_list_append PySem.F.type_list_append mt_append (pe_ix ix_list (pe_nm Q.C hn) (good_E ix Q.C (fun _ => rfl) xi hi).1 (plainIx_of pi)) (pa_cons (good_E e Q.C (fun _ => rfl) x he).1 pa_nil ny) rfl few hl ny rfl)).weaken fun Z σ H ⟨ρ, A, rep, q⟩ => ?_
  simp only [exec] at q
  obtain ⟨ds0, eo, q⟩ := RS.pure (ne_own _ _) q
  obtain ⟨a0, xs0, bs0, hv0, hH0, _, _, _⟩ := rep.lst (own_inv eo)
  refine ⟨_, hv0, ?_⟩
  refine sE rep q fun kx ρ1 w H1 A1 r1 s1 rw1 _ q => ?_
  dsimp only at q
  obtain ⟨ds1, eo1, q⟩ := RS.pure (ne_own _ _) q
  obtain ⟨kk, ek, q⟩ := RS.pure (ne_int _) q
  obtain ⟨z, ez, q⟩ := RS.pure (ne_at _ _) q
  obtain ⟨es0, ees0, q⟩ := RS.pure (ne_lst _) q
  obtain ⟨a, xs, bs, hv, hH, rr, hA, nd⟩ := r1.lst (own_inv eo1)
  rw [hv0] at hv
  cases hv
  obtain ⟨j, hj, hz⟩ := at_inv ez
  obtain ⟨is, dk, _⟩ := rw1.any
  rw [int_inv ek] at dk
  obtain ⟨zv, zs, hzv, rz, _⟩ := rr.atD hz
  rw [lst_inv ees0] at rz
  obtain ⟨b, ys, cs, e1, _, hb, _⟩ := rz.list_inv
  subst e1
  refine ⟨a0, xs, kk, .ref b, rfl, dk.int_inv, SqL.of hH, ?_, .inl ⟨rfl, ys, SqL.of hb⟩, ?_⟩
  · unfold atI
    rw [← ixN_eq, rr.length, hj]
    exact hzv
  have q1 := q.later s1.z (Fx.refl _ _)
  refine sE r1 q1 fun r ρ2 v H2 A2 r2 s2 rv ef q2 => ?_
  dsimp only at q2
  obtain ⟨hk, q2⟩ := RS.ite q2
  simp only [Bool.and_eq_true, Bool.not_eq_true'] at hk
  obtain ⟨⟨⟨ho, nb⟩, _⟩, hef⟩ := hk
  obtain ⟨_, sm⟩ := ef hef
  rw [ek] at q2
  obtain ⟨ds, eo2, q3⟩ := RS.pure (ne_own _ _) q2
  clear q2 q1 q
  obtain ⟨z2, ez2, q4⟩ := RS.pure (ne_at _ _) q3
  obtain ⟨es, ees, q5⟩ := RS.pure (ne_lst _) q4
  clear q3 q4
  split at q5
  · rename_i hlt
    obtain ⟨fs', efs, q6⟩ := RS.pure (ne_set _ _ _) q5
    obtain ⟨j3, hj3, hes3⟩ := set_inv efs
    have hg := own_inv eo2
    obtain ⟨a2, xs2, bs2, hv2, hH2, rr2, hA2, nd2⟩ := r2.lst hg
    rw [hv0] at hv2
    cases hv2
    rw [sm _ _ hH] at hH2
    cases hH2
    obtain ⟨j2, hj2, hz2⟩ := at_inv ez2
    rw [← rr2.length, rr.length, hj] at hj2 hj3
    cases hj2
    cases hj3
    rw [lst_inv ees] at hz2
    have hb2 := sm _ _ hb
    obtain ⟨as, d1, d2, d3, d4⟩ := into (ρ1 := ρ2) (σ := σ) rv ho
    have dis : ∀ c ∈ as, c ∉ bs2 := fun c hc m => (d3 c hc).1 ⟨i, by rw [hA2]; exact List.mem_cons_of_mem _ m⟩
    obtain ⟨g0, gl, cs2, g1, g2, g3⟩ := DpRs.app1 hb2 d1 d2 rr2 (nodup_of nd2) dis hzv hz2
    refine ⟨b, ys, v, rfl, rfl, hb2, by rw [← gl]; exact hlt, ?_⟩
    have nb2 := (List.nodup_cons.mp nd2).1
    have hab : a0 ≠ b := fun e => nb2 (e ▸ g0)
    have ha2 : a0 ∈ A2 i := by rw [hA2]; exact List.mem_cons_self
    have hn2 : a0 ∉ cs2 := fun m => (g3 _ m).elim nb2 fun m => (d3 _ m).1 ⟨i, ha2⟩
    rw [← hes3] at g1
    obtain ⟨A3, r3, s3⟩ := chg1 (as := as) (st := Stp.z s2) r2 nb hg hv0 hb2 (by rw [hA2]; exact List.mem_cons_of_mem _ g0) (.lst (by rw [upd_ne hab]; exact sm _ _ hH) g1) (List.nodup_cons.mpr ⟨hn2, g2⟩)
      (fun c hc => by
        rcases List.mem_cons.mp hc with e | m
        · rw [e]; exact .inl ha2
        · exact (g3 c m).imp (fun m => by rw [hA2]; exact List.mem_cons_of_mem _ m) id) d3 d4
    exact q6 σ _ A3 r3 s3 (Fx.refl _ _)
  · exact q5.elim
/-- an item that is a list has one item changed -/
theorem DpRs.set1 {K : PySem.W.Frag} {H : Hp} {b : Addr} {ys : List V} {v0 : V} {d0 : D} {as0 : List Addr} {j2 : Nat} (hH : H b = some (.lst ys)) (r0 : DpR K H v0 d0 as0) (n0 : as0.Nodup) (hj2 : j2 < ys.length) : ∀ {v : List V} {d : List D} {as : List Addr} {j : Nat} {es : List D}, DpRs K H v d as → as.Nodup → (∀ c ∈ as0, c ∉ as) → v[j]? = some (.ref b) → d[j]? = some (.list es) →
    b ∈ as ∧ es.length = ys.length ∧ ∃ cs, DpRs K (L2.upd H b (.lst (ys.set j2 v0))) v (d.set j (.list (es.set j2 d0))) cs ∧ cs.Nodup ∧ ∀ c ∈ cs, c ∈ as ∨ c ∈ as0
  | _, _, _, _, _, .nil, _, _, hv, _ => by simp at hv
  | _, _, _, 0, es, .cons (as := a1) (bs := a2) r s, na, hd, hv, hz => by
    simp only [List.getElem?_cons_zero, Option.some.injEq] at hv hz
    subst hv hz
    obtain ⟨b', ys', cs, e1, r2, h2, e2⟩ := r.list_inv
    cases e1
    rw [hH] at h2
    cases h2
    subst e2
    have n1 := List.nodup_append.mp na
    have n2 := List.nodup_cons.mp n1.1
    have hb0 : b ∉ as0 := fun m => hd b m (by simp)
    obtain ⟨cs', g1, g2, g3⟩ := r2.set (j := j2) (by rw [← r2.length]; exact hj2) r0 n2.2 n0 (fun c hc m => hd c hc (List.mem_append_left _ (List.mem_cons_of_mem _ m)))
    have hb1 : b ∉ cs' := fun m => (g3 b m).elim n2.1 hb0
    refine ⟨by simp, r2.length.symm, (b :: cs') ++ a2, .cons (.lst upd_same (g1.upd hH fun c hc e => hb1 (e ▸ hc))) (s.upd hH fun c hc e => ?_), List.nodup_append.mpr ⟨List.nodup_cons.mpr ⟨hb1, g2⟩, n1.2.1, fun a ha c hc e => ?_⟩, fun c hc => ?_⟩
    · subst e
      exact n1.2.2 c List.mem_cons_self c hc rfl
    · subst e
      rcases List.mem_cons.mp ha with e | ha
      · exact n1.2.2 a (by rw [e]; exact List.mem_cons_self) a hc rfl
      · rcases g3 a ha with m | m
        · exact n1.2.2 a (List.mem_cons_of_mem _ m) a hc rfl
        · exact hd a m (List.mem_append_right _ hc)
    · simp only [List.cons_append, List.mem_cons, List.mem_append] at hc ⊢
      rcases hc with m | m | m
      · exact .inl (.inl m)
      · exact (g3 c m).imp (fun m => .inr (.inl m)) id
      · exact .inl (.inr (.inr m))
  | _, _, _, j + 1, es, .cons (as := a1) (bs := a2) r s, na, hd, hv, hz => by
    have n1 := List.nodup_append.mp na
    obtain ⟨g0, gl, cs, g1, g2, g3⟩ := DpRs.set1 hH r0 n0 hj2 (j := j) s n1.2.1 (fun c hc m => hd c hc (List.mem_append_right _ m)) (by simpa using hv) (by simpa using hz)
    refine ⟨List.mem_append_right _ g0, gl, a1 ++ cs, .cons (r.upd hH fun c hc e => ?_) g1, List.nodup_append.mpr ⟨n1.1, g2, fun a ha c hc e => ?_⟩, fun c hc => ?_⟩
    · subst e
      exact n1.2.2 c hc c g0 rfl
    · subst e
      rcases g3 a hc with m | m
      · exact n1.2.2 a ha a m rfl
      · exact hd a m (List.mem_append_left _ ha)
    · rcases List.mem_append.mp hc with m | m
      · exact .inl (List.mem_append_left _ m)
      · exact (g3 c m).imp (fun m => List.mem_append_right _ m) id
/-- a name hidden from a step: what it owns stays -/
theorem hide_rep {K : PySem.W.Frag} {σ : L2.St} {H : Hp} {A : Own} {ρ : PV.Env} {i : Nat} (rep : Rep K H [] σ ρ A) : Rep K H [] σ (ρ.set i none) (A.wip [i]) := by
  refine rep.wip [i] rfl (fun _ _ => rfl) (fun j => ?_) (by rw [List.length_set])
  rw [get_set]
  by_cases hj : j ∈ [i]
  · have hj' : i = j := (List.mem_singleton.mp hj).symm
    rw [if_pos hj]
    by_cases hl : j < ρ.length
    · rw [if_pos ⟨hj', hl⟩]
    · rw [if_neg fun q => hl q.2]
      unfold PV.get
      rw [List.getElem?_eq_none (by omega)]
  · rw [if_neg hj, if_neg fun q => hj (by rw [q.1]; exact List.mem_singleton_self _)]
theorem hide_bd {A : Own} {i : Nat} {a : Addr} (h : Bd (A.wip [i]) a) : ∃ j, j ≠ i ∧ a ∈ A j := by
  obtain ⟨j, hj⟩ := h
  refine ⟨j, fun e => ?_, Own.wip_sub hj⟩
  rw [Own.wip_in (by rw [e]; exact List.mem_singleton_self _)] at hj
  simp at hj
theorem hide_back {K : PySem.W.Frag} {σ : L2.St} {H H' : Hp} {A A' : Own} {ρ ρ' : PV.Env} {i : Nat} {d : D} {v : V} (rep : Rep K H [] σ ρ A) (hg : PV.get ρ i = some (.own d)) (hv : σ[i]? = some (some v)) (r' : Rep K H' [] σ ρ' A') (s : Stp H (A.wip [i]) H' A') (nb : noBor ρ' = true) (hl : i < ρ'.length) :
    Rep K H' [] σ (ρ'.set i (some (.own d))) (A'.put i (A i)) ∧ Stp0 H A H' (A'.put i (A i)) ∧ ∀ a ∈ A i, ∀ o, H a = some o → H' a = some o := by
  obtain ⟨v', hv', ok, nd⟩ := rep.cell i _ hg
  rw [hv] at hv'
  cases hv'
  have nbd : ∀ a ∈ A i, ¬ Bd (A.wip [i]) a := fun a ha hb => by
    obtain ⟨j, hj, m⟩ := hide_bd hb
    exact hj (rep.disj j i a m ha)
  have kp : ∀ a ∈ A i, ∀ o, H a = some o → H' a = some o := fun a ha o e => s.keep a o e (nbd a ha)
  have old : ∀ a ∈ A i, ¬ (H a = none) := fun a ha e => by
    obtain ⟨xs, q⟩ := rep.trk i a ha
    rw [e] at q
    cases q
  have ok' : DpR K H' v d (A i) := ok.keep (s.fix (hide_rep rep)) fun a ha xs e => kp a ha _ e
  refine ⟨?_, ⟨fun a hb => ?_, fun a o e n => s.keep a o e fun hb => ?_, s.the⟩, kp⟩
  · have := r'.put (i := i) (v := v) (c := .own d) (as := A i) (by
        show DpR K H' v d ((A'.put i (A i)) i) ∧ _
        rw [Own.put_same]
        exact ⟨ok', nd⟩) (fun z => absurd rfl (z d)) (.inr nb) (fun a ha j hj m => ?_) (fun a ha => ?_) (fun a ha m => ?_) hl
    · have e : σ.set i (some v) = σ := by
        obtain ⟨hl', e'⟩ := List.getElem?_eq_some_iff.mp hv
        rw [← e', List.set_getElem_self]
      rwa [e] at this
    · rcases s.own a ⟨j, m⟩ with q | q
      · exact nbd a ha q
      · exact old a ha q
    · obtain ⟨xs, e⟩ := rep.trk i a ha
      exact ⟨xs, kp a ha _ e⟩
    · rcases s.fro a m with q | q | q
      · exact rep.fdis a q ⟨i, ha⟩
      · exact nbd a ha q
      · exact old a ha q
  · obtain ⟨j, hj⟩ := hb
    by_cases e : j = i
    · rw [e, Own.put_same] at hj; exact .inl ⟨i, hj⟩
    · rw [Own.put_ne _ _ e] at hj
      rcases s.own a ⟨j, hj⟩ with q | q
      · obtain ⟨j', _, m⟩ := hide_bd q
        exact .inl ⟨j', m⟩
      · exact .inr q
  · obtain ⟨j', _, m⟩ := hide_bd hb
    exact n ⟨j', m⟩
theorem st_set2 {i : Nat} {ix jx e : E} {y : Str} {p0 p1 p2 pos : Pos} {xi xj x : Expr} (Q : CxS J fs ca k N sc W X) (hn : nameB N sc i y = true) (pi : plainX xi = true) (hi : mE J N ix sc xi = true) (pj : plainX xj = true) (hj : mE J N jx sc xj = true) (px : plainX x = true) (nl : notLC x = true) (he : mE J N e sc x = true) :
    SS ca fs k W io X (.set2 i ix jx e) (.Assign [.Subscript (.Subscript (.Name y p0) xi p1) xj p2] x pos) := by
  have g := pg_sub (pos := p2) (pe_ix (pos := p1) ix_list (pe_nm (p := p0) Q.C hn) (good_E ix Q.C (fun _ => rfl) xi hi).1 (plainIx_of pi)) (good_E jx Q.C (fun _ => rfl) xj hj).1 set_list (by intro v; cases xj <;> first | rfl | (simp [plainX] at pj; done))
  refine (ps_asg (pos := pos) (good_X e Q.C x he) g (show swapsWithSole [.Subscript (.Subscript (.Name y p0) xi p1) xj p2] x pos.line X.env = pure false from swaps_no (t := some (.Subscript (.Subscript (.Name y p0) xi p1) xj p2)) (l := pos.line) (env := X.env) px nl) (by cases x <;> rfl) rfl).weaken fun Z σ H ⟨ρ, A, rep, q⟩ => ?_
  simp only [exec] at q
  refine sX rep q fun r ρ1 v H1 A1 r1 s1 rv q => ?_
  dsimp only at q
  obtain ⟨ds0, eo, q⟩ := RS.pure (ne_own _ _) q
  obtain ⟨a0, xs0, bs0, hv0, hH0, _, _, _⟩ := r1.lst (own_inv eo)
  refine ⟨_, hv0, ?_⟩
  refine sE2 s1.z r1 q fun kx ρ2 w H2 A2 r2 s2 rw2 ef2 q2 => ?_
  dsimp only at q2
  obtain ⟨hk, q2⟩ := RS.ite q2
  simp only [Bool.and_eq_true] at hk
  obtain ⟨ho, nb⟩ := hk
  obtain ⟨ds, eo1, q2⟩ := RS.pure (ne_own _ _) q2
  obtain ⟨kk, ek, q2⟩ := RS.pure (ne_int _) q2
  obtain ⟨z, ez, q2⟩ := RS.pure (ne_at _ _) q2
  obtain ⟨es, ees, q2⟩ := RS.pure (ne_lst _) q2
  have hg := own_inv eo1
  obtain ⟨a, xs, bs, hv, hH, rr, hA, nd⟩ := r2.lst hg
  rw [hv0] at hv
  cases hv
  obtain ⟨j, hj1, hz⟩ := at_inv ez
  obtain ⟨is, dk, _⟩ := rw2.any
  rw [int_inv ek] at dk
  obtain ⟨zv, zs, hzv, rz, _⟩ := rr.atD hz
  rw [lst_inv ees] at rz hz
  obtain ⟨b, ys, cs, e1, rys, hb, ecs⟩ := rz.list_inv
  subst e1
  have hba : b ∈ A2 i := by
    obtain ⟨x', bs', e', r', sub⟩ := rr.atD hz
    rw [hzv] at e'
    cases e'
    obtain ⟨b', _, cs', e2, _, _, e3⟩ := r'.list_inv
    cases e2
    rw [hA]
    exact List.mem_cons_of_mem _ (sub.subset (by rw [e3]; exact List.mem_cons_self))
  have haa : a0 ∈ A2 i := by rw [hA]; exact List.mem_cons_self
  refine ⟨a0, xs, kk, .ref b, rfl, dk.int_inv, SqL.of hH, ?_, ?_⟩
  · unfold atI
    rw [← ixN_eq, rr.length, hj1]
    exact hzv
  obtain ⟨as, d1, d2, d3, d4⟩ := into (ρ1 := ρ1) (σ := σ) rv ho
  obtain ⟨d1', d3'⟩ := into_later r1 s2 d1 d3
  have dis : ∀ c ∈ as, c ∉ bs := fun c hc m => (d3' c hc).1 ⟨i, by rw [hA]; exact List.mem_cons_of_mem _ m⟩
  have wp : Stp0 H A H2 (A2.wip [i]) := by
    have st := s1.z.trans s2.z
    exact ⟨fun c hb => by
      obtain ⟨j', _, m⟩ := hide_bd hb
      exact st.own c ⟨j', m⟩, st.keep, st.the⟩
  refine sE2 wp (hide_rep r2) q2 fun l ρ3 w3 H3 A3 r3 s3 rw3 ef3 q3 => ?_
  dsimp only at q3
  obtain ⟨hk3, q3⟩ := RS.ite q3
  simp only [Bool.and_eq_true, decide_eq_true_eq] at hk3
  obtain ⟨nb3, hl3⟩ := hk3
  obtain ⟨ll, el, q3⟩ := RS.pure (ne_int _) q3
  obtain ⟨es', ees', q3⟩ := RS.pure (ne_set _ _ _) q3
  obtain ⟨ds', eds', q3⟩ := RS.pure (ne_set _ _ _) q3
  obtain ⟨R4, S4, K4⟩ := hide_back r2 hg hv0 r3 s3 nb3 hl3
  obtain ⟨d1'', d3''⟩ := into_later (hide_rep r2) s3 d1' fun c hc => ⟨fun hb => by
    obtain ⟨j', _, m⟩ := hide_bd hb
    exact (d3' c hc).1 ⟨j', m⟩, (d3' c hc).2⟩
  have rr3 : DpRs X.K H3 xs ds bs := rr.keep (s3.fix (hide_rep r2)) fun c hc zs e => K4 c (by rw [hA]; exact List.mem_cons_of_mem _ hc) _ e
  have hb3 := K4 b hba _ hb
  have ha3 := K4 a0 haa _ hH
  obtain ⟨is3, dk3, _⟩ := rw3.any
  rw [int_inv el] at dk3
  obtain ⟨j2, hj2, hes2⟩ := set_inv ees'
  obtain ⟨j3, hj3, hes3⟩ := set_inv eds'
  rw [hj1] at hj3
  cases hj3
  have hly : es.length = ys.length := rys.length.symm
  obtain ⟨_, gl, cs2, g1, g2, g3⟩ := DpRs.set1 hb3 d1'' d2 (j2 := j2) (by rw [← hly]; exact ixN_lt hj2) rr3 (nodup_of nd) dis hzv hz
  refine ⟨b, ys, ll, j2, rfl, dk3.int_inv, hb3, ixN_same _ _ _ (by rw [← hly]; exact hj2), ?_⟩
  have nb4 : noBor (ρ3.set i (some (.own (.list ds)))) = true := noBor_of fun j' c e => by
    rw [get_set] at e
    split at e
    · cases e; rfl
    · exact noBor_get nb3 e
  have hg4 : PV.get (ρ3.set i (some (.own (.list ds)))) i = some (.own (.list ds)) := by rw [get_set, if_pos ⟨rfl, hl3⟩]
  have hAi4 : (A3.put i (A2 i)) i = A2 i := Own.put_same _ _ _
  have nb2 := (List.nodup_cons.mp nd).1
  have hbb : b ∈ bs := by
    rw [hA] at hba
    rcases List.mem_cons.mp hba with e | m
    · rw [e] at hb
      rw [hH] at hb
      cases hb
      exact absurd (by rw [e] : b = a0) (fun z => by
        obtain ⟨x', bs', e', r', sub⟩ := rr.atD hz
        rw [hzv] at e'
        cases e'
        obtain ⟨b', _, cs', e2, _, _, e3⟩ := r'.list_inv
        cases e2
        exact nb2 (z ▸ sub.subset (by rw [e3]; exact List.mem_cons_self)))
    · exact m
  have hab : a0 ≠ b := fun e => nb2 (e ▸ hbb)
  have d5 : ∀ c ∈ as, ¬ Bd (A3.put i (A2 i)) c ∧ c ∉ (A3.put i (A2 i)).fr := fun c hc => ⟨fun ⟨j', m⟩ => by
    by_cases e : j' = i
    · rw [e, Own.put_same] at m; exact (d3' c hc).1 ⟨i, m⟩
    · rw [Own.put_ne _ _ e] at m; exact (d3'' c hc).1 ⟨j', m⟩, (d3'' c hc).2⟩
  have hn2 : a0 ∉ cs2 := fun m => (g3 _ m).elim nb2 fun m => (d5 _ m).1 ⟨i, by rw [hAi4]; exact haa⟩
  rw [← hes2, ← hes3] at g1
  obtain ⟨A5, r5, s5⟩ := chg1 (as := as) (st := (s1.z.trans s2.z).trans S4) R4 nb4 hg4 hv0 hb3 (by rw [hAi4]; exact hba) (.lst (by rw [upd_ne hab]; exact ha3) g1) (List.nodup_cons.mpr ⟨hn2, g2⟩)
    (fun c hc => by
      rcases List.mem_cons.mp hc with e | m
      · rw [e, hAi4]; exact .inl haa
      · exact (g3 c m).imp (fun m => by rw [hAi4, hA]; exact List.mem_cons_of_mem _ m) id) d5 d4
  rw [List.set_set] at r5
  exact q3 σ _ A5 r5 s5 (Fx.refl _ _)
theorem st_ext {i : Nat} {e : E} {y : Str} {p1 p2 p3 pos : Pos} {x : Expr} (Q : CxS J fs ca k N sc W X) (hn : nameB N sc i y = true) (hl : lineB p2 p3 = true) (px : plainX x = true) (he : mE J N e sc x = true) :
    SS ca fs k W io X (.ext i e) (.Expr (.Call (.Attribute (.Name y p1) "extend" p2) [x] [] p3) pos) := by
  have ny : starEach [x] X.env = (false, eval x X.env) :: starEach [] X.env := star_of px
  have few : ((backTo p3 (starEach [x] X.env)).all (fun x => !x.1) && (backToKw p3 (keywordEach [] X.env)).all (fun x => x.1.isSome) && decide ([x].length + ([] : List Keyword).length + (if ([] : List Keyword).isEmpty then 0 else 1) < 30)) = true := by rw [ny]; rfl
  refine (ps_expr (pe_bm PySem.F.plainAttrs_list PySem.F.slot_list_extend PySem.F.type_list_extend mt_extend (pe_nm Q.C hn) (pa_cons (good_E e Q.C (fun _ => rfl) x he).1 pa_nil ny) rfl few hl ny rfl)).weaken fun Z σ H ⟨ρ, A, rep, q⟩ => ?_
  simp only [exec] at q
  obtain ⟨ds0, eo, q⟩ := RS.pure (ne_own _ _) q
  obtain ⟨a0, xs0, bs0, hv0, hH0, _, _, _⟩ := rep.lst (own_inv eo)
  refine ⟨_, hv0, .inl ⟨rfl, xs0, SqL.of hH0⟩, ?_⟩
  refine sE rep q fun r ρ1 v H1 A1 r1 s1 rv _ q => ?_
  dsimp only at q
  obtain ⟨ds, eo1, q⟩ := RS.pure (ne_own _ _) q
  obtain ⟨es, ees, q⟩ := RS.pure (ne_lst _) q
  obtain ⟨hk, q⟩ := RS.ite q
  simp only [Bool.and_eq_true, lenOk, decide_eq_true_eq] at hk
  obtain ⟨⟨him, nb⟩, hlen⟩ := hk
  have hg := own_inv eo1
  obtain ⟨a, xs, bs, hv, hH, rr, hA, nd⟩ := r1.lst hg
  rw [hv0] at hv
  cases hv
  obtain ⟨as, d1, _⟩ := rv.any
  rw [lst_inv ees] at d1
  obtain ⟨b, zs, cs, e1, rz, hz, e3⟩ := d1.list_inv
  have hcs := rz.imm him
  subst e1 hcs
  have g1 : DpRs X.K H1 (xs ++ zs) (ds ++ es) (bs ++ []) := rr.app rz
  rw [List.append_nil] at g1
  refine ⟨a0, b, xs, zs, rfl, rfl, hH, hz, by rw [rr.length, rz.length]; exact hlen, ?_⟩
  obtain ⟨A3, r3, s3⟩ := chg (as := []) s1.z r1 nb hg hv0 hH hA nd g1 (nodup_of nd) (fun c hc => .inl hc) (fun c hc => by simp at hc) (fun c hc => by simp at hc)
  exact q σ _ A3 r3 s3 (Fx.refl _ _)
end
end PV
set_option Elab.async false
set_option linter.all false
set_option maxRecDepth 100000
set_option maxHeartbeats 1000000
/-! PV27: errors raised. -/
namespace PV
open PySem PySem.Spec PyProof.Rows L2
/-- self.code = code; self.place = place, of a fresh error -/
def spI (K : PySem.W.Frag) : Sp := fun vs H Q _ => ∃ (a C : Addr) (c p : V), vs = [.ref a, c, p] ∧ OexC K C ∧ PySem.W.findIn K (.ref C) "code" = some none ∧ PySem.W.findIn K (.ref C) "place" = some none ∧ H a = some (exo a C none) ∧
  ∀ dx, H dx = none → dx ≠ a → Q .non (upd (upd (upd H dx (exd dx [("code", c)])) a (exo a C (some dx))) dx (exd dx [("place", p), ("code", c)]))
/-- the errors' classes -/
structure ExcOk (J : Info) (ca : Nat → Addr) (X : Cx) : Prop where
  cls : ∀ c, c < J.nc → X.mg (J.cn c) = some (.ref (ca c)) ∧ OexC X.K (ca c) ∧ XfC X.K (ca c) ∧ PySem.W.findIn X.K (.ref (ca c)) "code" = some none ∧ PySem.W.findIn X.K (.ref (ca c)) "place" = some none ∧
    ∃ fI fd ps ds, PySem.W.findIn X.K (.ref (ca c)) "__init__" = some (some (.ref fI)) ∧ PySem.W.typeIn X.K (.ref fI) = some (.type "function") ∧ FnOk X.prog X.w X.K X.mg X.base (L2.CX X.prog X.w) 1 fI fd ps (spI X.K) ∧ Binds X.K fd ps ds ∧ Vals [.int 0] ds ∧ Binds X.K fd ps []
  cat : ∀ z c, z < J.nc → c < J.nc → J.cat z c = true → PySem.W.exmOne X.K (.ref (ca c)) (.ref (ca z)) = some true
section
variable {J : Info} {fs : List Fn} {ca : Nat → Addr} {k : Nat} {N : List Str} {sc : Scope} {W : WX} {X : Cx} {io : List Nat}
/-- an error is made -/
theorem made {H : Hp} {A : Own} {c : Nat} {code place : D} {cv pv : V} {Q : XK} {dvs ws : List V} (hw : ws ++ dvs = [cv, pv]) (T : OexC X.K (ca c)) (n1 : PySem.W.findIn X.K (.ref (ca c)) "code" = some none) (n2 : PySem.W.findIn X.K (.ref (ca c)) "place" = some none)
    (hc : ∀ H', (∀ a o, H a = some o → H' a = some o) → DpR X.K H' cv code []) (hp : ∀ H', (∀ a o, H a = some o → H' a = some o) → DpR X.K H' pv place []) (h : ExQ X.K ca H A (fun a b H' => Q a b H') c code place) :
    ∀ a, H a = none → spI X.K (.ref a :: (ws ++ dvs)) (upd H a (exo a (ca c) none)) (fun v H2 => v = .non ∧ ∃ (d : Addr) (fs : List (Str × V)), H2 a = some (exo a (ca c) (some d)) ∧ H2 d = some (exd d fs) ∧ H d = none ∧ Q (.ref (ca c)) (some d) (upd (del H2 a) d (.xd fs))) (fun _ _ _ => False) := by
  intro a ha
  refine ⟨a, ca c, cv, pv, by rw [hw], T, n1, n2, upd_same, fun dx hdx hne => ⟨rfl, dx, _, ?_, upd_same, ?_, ?_⟩⟩
  · rw [upd_ne (Ne.symm hne), upd_same]
  · rw [upd_ne hne] at hdx; exact hdx
  · have hd0 : H dx = none := by rw [upd_ne hne] at hdx; exact hdx
    have keep : ∀ b o, H b = some o → upd (del (upd (upd (upd (upd H a (exo a (ca c) none)) dx (exd dx [("code", cv)])) a (exo a (ca c) (some dx))) dx (exd dx [("place", pv), ("code", cv)])) a) dx (.xd [("place", pv), ("code", cv)]) b = some o := fun b o e => by
      have hba : b ≠ a := fun z => by rw [z, ha] at e; cases e
      have hbd : b ≠ dx := fun z => by rw [z, hd0] at e; cases e
      rw [upd_ne hbd, del_ne hba, upd_ne hbd, upd_ne hba, upd_ne hbd, upd_ne hba]
      exact e
    refine h dx _ cv pv (fun b o e _ => keep b o e) (fun b e => ?_) hd0 upd_same (hc _ keep) (hp _ keep)
    cases q : H b with
    | none => rfl
    | some o => rw [keep b o q] at e; cases e
theorem pas_false (C : Cxt J fs ca k N sc W X) : Passes (L2.CX X.prog X.w) X (fun _ _ _ => False) := fun pins σ H s e s' I c => passes_call C.takes (fun _ _ _ _ z => z.elim) pins σ H s e s' I c
theorem st_raise1 {c : Nat} {code : Str} {g : Str} {j : Nat} {p p2 pos pos' : Pos} (Q : CxS J fs ca k N sc W X) (E : ExcOk J ca X) (hc : c < J.nc) (hn : g = J.cn c) (hg : glB sc g = true) (ok : okName g = true) :
    SS ca fs k W io X (.raise1 c code) (.Raise (some (.Call (.Name g p) [.Constant (.str code) j p2] [] pos)) none pos') := by
  obtain ⟨m, T, _, n1, n2, fI, fd, ps, ds, iC, tI, F, hb, hd, _⟩ := E.cls c hc
  subst hn
  simp only [okName, Bool.and_eq_true, Bool.not_eq_true'] at ok
  have mk := pmk_oex (p := p) (pos := pos) T iC tI F (Q.C.room.mono (by omega)) hb hd (pas_false Q.C) (gl_of Q.C hg) m (pa_cons (pe_str (X := X) (x := code) (j := j) (pos := p2)) pa_nil rfl) ok.1.1 rfl rfl
  refine (ps_raise Q.C.calm Q.C.takes mk).weaken fun Z σ H ⟨ρ, A, rep, q⟩ => ?_
  simp only [exec] at q
  refine ⟨by show ([V.str code] : List V).length ≤ 1000; simp, ?_⟩
  have q' : ExS X.K ca H A W σ c (.str code) (.int 0) := q
  exact made (ws := [.str code]) (dvs := [.int 0]) rfl T n1 n2 (fun H' _ => .str code) (fun H' _ => .int 0) (ExS.at q')
theorem st_raise2 {c : Nat} {code : Str} {e : E} {x : Expr} {g : Str} {j : Nat} {p p2 pos pos' : Pos} (Q : CxS J fs ca k N sc W X) (E : ExcOk J ca X) (hc : c < J.nc) (hn : g = J.cn c) (hg : glB sc g = true) (ok : okName g = true) (px : plainX x = true) (he : mE J N e sc x = true) :
    SS ca fs k W io X (.raise2 c code e) (.Raise (some (.Call (.Name g p) [.Constant (.str code) j p2, x] [] pos)) none pos') := by
  obtain ⟨m, T, _, n1, n2, fI, fd, ps, ds, iC, tI, F, _, _, hb⟩ := E.cls c hc
  subst hn
  simp only [okName, Bool.and_eq_true, Bool.not_eq_true'] at ok
  have mk := pmk_oex (p := p) (pos := pos) (ds := []) (dvs := []) T iC tI F (Q.C.room.mono (by omega)) hb .nil (pas_false Q.C) (gl_of Q.C hg) m (pa_cons (pe_str (X := X) (x := code) (j := j) (pos := p2)) (pa_cons (good_E e Q.C (fun _ => rfl) x he).1 pa_nil (star_of px)) rfl) ok.1.1 rfl (back_of (xs := [x]) (by simp [plainAllX, px]))
  refine (ps_raise Q.C.calm Q.C.takes mk).weaken fun Z σ H ⟨ρ, A, rep, q⟩ => ?_
  simp only [exec] at q
  refine sE2 (Stp.refl _ _).z rep q fun r ρ1 v H1 A1 r1 s1 rv ef q => ?_
  dsimp only at q
  split at q
  · rename_i hk
    simp only [Bool.and_eq_true, Bool.not_eq_true'] at hk
    obtain ⟨as, d1, _⟩ := rv.any
    have := d1.imm hk.1
    subst this
    have q' : ExS X.K ca H A W σ c (.str code) r.2 := q
    have q1 := ExS.later s1.z rfl q'
    refine ⟨by show ([V.str code, v] : List V).length ≤ 1000; simp, ?_⟩
    refine made (ws := [.str code, v]) (dvs := []) rfl T n1 n2 (fun H' _ => .str code) (fun H' sm => d1.keep (Fix.of sm) fun a h => by simp at h) (ExS.at q1)
  · exact q.elim
end
end PV
set_option Elab.async false
set_option linter.all false
set_option maxRecDepth 100000
set_option maxHeartbeats 1000000
/-! PV28: errors caught. -/
namespace PV
open PySem PySem.Spec PyProof.Rows L2
section
variable {J : Info} {fs : List Fn} {ca : Nat → Addr} {k : Nat} {N : List Str} {sc : Scope} {W : WX} {X : Cx} {io : List Nat}
/-- the context of a try's body -/
theorem CxS.tr (Q : CxS J fs ca k N sc W X) {W' : WX} {pn : List (Addr × Obj)} {xe : Value → Shared → Prop} (tk : Takes (X.tr pn xe) W') (own : PassesOwn (model X.prog X.w) X.A X.env xe) : CxS J fs ca k N sc W' (X.tr pn xe) :=
  ⟨⟨Q.C.N, Q.C.sc, Q.C.calm, Q.C.nd, Q.C.room, Q.C.blt, Q.C.gc, tk, Q.C.fn⟩, own, Q.fn1⟩
/-- return e.code -/
theorem suite0 {i : Nat} {n : Str} {a : Addr} {oe : Obj} {cls : Value} {d : Option Addr} {pn : List (Addr × Obj)} {p1 p2 p3 : Pos} {C : Addr} (T : XfC X.K C) (hno : PySem.W.findIn X.K (.ref C) "code" = some none) (hz : Zc cls d oe) (hf : ∃ vs, oe.data = .fields vs)
    (hi : X.N[i]? = some n) (hv : Vis X.env.scope n) (h1 : (n == ("__debug__" : Str)) = false) (h2 : (n == ("__classdict__" : Str)) = false) :
    PSs (X.suite a ((a, oe) :: pn)) [.Return (some (.Attribute (.Name n p1) "code" p2)) p3] (tRet (tXf a cls d C "code" (tVar i))) :=
  pss_one (ps_ret (pe_xf T hno hz hf (pe_var hi hv h1 h2)))
/-- return (e.code, e.place) -/
theorem suite1 {i : Nat} {n : Str} {a : Addr} {oe : Obj} {cls : Value} {d : Option Addr} {pn : List (Addr × Obj)} {p1 p2 p3 p4 p5 p6 : Pos} {j : Nat} {C : Addr} (T : XfC X.K C) (hno : PySem.W.findIn X.K (.ref C) "code" = some none) (hno2 : PySem.W.findIn X.K (.ref C) "place" = some none) (hz : Zc cls d oe) (hf : ∃ vs, oe.data = .fields vs)
    (hi : X.N[i]? = some n) (hv : Vis X.env.scope n) (h1 : (n == ("__debug__" : Str)) = false) (h2 : (n == ("__classdict__" : Str)) = false) :
    PSs (X.suite a ((a, oe) :: pn)) [.Return (some (.Tuple [.Attribute (.Name n p1) "code" p2, .Attribute (.Name n p3) "place" p4] j p5)) p6] (tRet (tTup (tCons (tXf a cls d C "code" (tVar i)) (tCons (tXf a cls d C "place" (tVar i)) tNil)))) :=
  pss_one (ps_ret (pe_tup (pa_cons (pe_xf T hno hz hf (pe_var hi hv h1 h2)) (pa_cons (pe_xf T hno2 hz hf (pe_var hi hv h1 h2)) pa_nil rfl) rfl)))
/-- return False -/
theorem suite2 {a : Addr} {oe : Obj} {pn : List (Addr × Obj)} {p1 p2 : Pos} {j : Nat} {b : Bool} : PSs (X.suite a ((a, oe) :: pn)) [.Return (some (.Constant (.bool b) j p1)) p2] (tRet (tC (.bl b))) := pss_one (ps_ret pe_bl)
theorem _root_.L2.PSs.any {X : Cx} {e : List Stmt} {t' : TS} (h : ∀ Z σ H, t' Z σ H → ∃ t, PSs X e t ∧ t Z σ H) : PSs X e t' := ⟨fun pins s σ H Z I q => by
  obtain ⟨t, h1, h2⟩ := h Z σ H q
  exact h1.run pins s σ H Z I h2⟩
/-- the clause's suite, of the kind kd -/
def suiteB (n : Str) (kd : Nat) : List Stmt → Bool
  | [.Return (some (.Attribute (.Name m _) f _)) _] => decide (kd = 0) && decide (m = n) && decide (f = ("code" : Str))
  | [.Return (some (.Tuple [.Attribute (.Name m _) f _, .Attribute (.Name m2 _) f2 _] _ _)) _] => decide (kd = 1) && decide (m = n) && decide (f = ("code" : Str)) && decide (m2 = n) && decide (f2 = ("place" : Str))
  | [.Return (some (.Constant (.bool false) _ _)) _] => decide (2 ≤ kd)
  | _ => false
/-- the suite's reading -/
def tSu (J : Info) (ca : Nat → Addr) (i kd : Nat) (a : Addr) (cls : Value) (d : Option Addr) : TS := fun Z σ H => σ[i]? = some (some (.ref a)) ∧ ∃ (c : Nat) (dd : Addr) (cv pv : V), c < J.nc ∧ cls = .ref (ca c) ∧ d = some dd ∧ H dd = some (.xd [("place", pv), ("code", cv)]) ∧
  match kd with
  | 0 => Z.rt cv H
  | 1 => ∀ p, H p = none → Z.rt (.ref p) (upd H p (.tup [cv, pv]))
  | _ => Z.rt (.bl false) H
theorem lk_code {pv cv : V} : List.lookup ("code" : Str) [(("place" : Str), pv), (("code" : Str), cv)] = some cv := by
  have h : (("code" : Str) == ("place" : Str)) = false := by decide +kernel
  simp [List.lookup, h]
theorem lk_place {pv cv : V} : List.lookup ("place" : Str) [(("place" : Str), pv), (("code" : Str), cv)] = some pv := by
  simp [List.lookup]
theorem suite_ok {i kd : Nat} {n : Str} {su : List Stmt} (E : ExcOk J ca X) (hi : X.N[i]? = some n) (hv : Vis X.env.scope n) (h1 : (n == ("__debug__" : Str)) = false) (h2 : (n == ("__classdict__" : Str)) = false) (hs : suiteB n kd su = true) (a : Addr) (oe : Obj) (cls : Value) (d : Option Addr) (pn : List (Addr × Obj)) (hz : Zc cls d oe) (hf : ∃ vs, oe.data = .fields vs) :
    PSs (X.suite a ((a, oe) :: pn)) su (tSu J ca i kd a cls d) := by
  refine L2.PSs.any fun Z σ H ⟨hσ, c, dd, cv, pv, hc, ec, ed, hH, q⟩ => ?_
  obtain ⟨_, _, T, n1, n2, _⟩ := E.cls c hc
  unfold suiteB at hs
  split at hs
  · simp only [Bool.and_eq_true, decide_eq_true_eq] at hs
    obtain ⟨⟨e0, e1⟩, e2⟩ := hs
    subst e0 e1 e2
    exact ⟨_, suite0 T n1 hz hf hi hv h1 h2, _, hσ, rfl, ec, dd, _, cv, ed, hH, lk_code, q⟩
  · simp only [Bool.and_eq_true, decide_eq_true_eq] at hs
    obtain ⟨⟨⟨⟨e0, e1⟩, e2⟩, e3⟩, e4⟩ := hs
    subst e0 e1 e2 e3 e4
    refine ⟨_, suite1 T n1 n2 hz hf hi hv h1 h2, _, hσ, rfl, ec, dd, _, cv, ed, hH, lk_code, _, hσ, rfl, ec, dd, _, pv, ed, hH, lk_place, ?_⟩
    refine ⟨?_, q⟩
    show ([cv, pv] : List V).length ≤ sizeLine
    rw [sizeLine_eq]
    show 2 ≤ 16777216
    decide
  · simp only [decide_eq_true_eq] at hs
    refine ⟨_, suite2, ?_⟩
    match kd, hs, q with
    | kd + 2, _, q => exact q
  · cases hs
/-- every clause's class is caught, every kind is the suite's -/
def hsB (J : Info) (z kd : Nat) (hs : List (Nat × Nat)) : Bool := hs.all fun p => decide (p.2 = kd) && decide (p.1 < J.nc) && J.cat z p.1
theorem handle_in {c : Nat} {code place dd : D} : ∀ {hs : List (Nat × Nat)}, handle c code place hs = some dd → ∃ kd, (c, kd) ∈ hs ∧ dd = hd kd code place
  | [], h => by simp [handle] at h
  | (c', k') :: r, h => by
    simp only [handle] at h
    split at h
    · rename_i e
      subst e
      cases h
      exact ⟨k', List.mem_cons_self, rfl⟩
    · obtain ⟨kd, h1, h2⟩ := handle_in h
      exact ⟨kd, List.mem_cons_of_mem _ h1, h2⟩
theorem get_none {ρ : PV.Env} (i : Nat) : PV.get (ρ.map fun _ => (none : Option Cell)) i = none := by
  unfold PV.get
  rw [List.getElem?_map]
  cases ρ[i]? <;> rfl
theorem st_try {b : Ss} {hs : List (Nat × Nat)} {z kd i : Nat} {zn n : Str} {body : List Stmt} {b₀ : Stmt} {su : List Stmt} {np pos pos' : Pos} (Q : CxS J fs ca k N sc W X) (E : ExcOk J ca X) (hst : X.stack = X.env :: X.outer) (hfr : X.env.frame = some X.env.locals) (hi : N[i]? = some n) (hln : sc.names.lookup n = some .local) (okn : okName n = true)
    (hz : z < J.nc) (ezn : zn = J.cn z) (hg : glB sc zn = true) (okz : okName zn = true) (hsu : suiteB n kd (b₀ :: su) = true) (hh : hsB J z kd hs = true) (ib : ∀ {W' : WX} {X' : Cx}, CxS J fs ca k N sc W' X' → X'.K = X.K → ExcOk J ca X' → X'.stack = X'.env :: X'.outer → X'.env.frame = some X'.env.locals → SSs ca fs k W' io X' b body) :
    SS ca fs k W io X (.try_ i b hs) (.Try body [.ExceptHandler (some (.Name zn np)) (some n) (b₀ :: su) pos'] [] [] pos) := by
  subst ezn
  simp only [okName, Bool.and_eq_true, Bool.not_eq_true'] at okn okz
  have hi' : X.N[i]? = some n := by rw [Q.C.N]; exact hi
  have hl' : X.env.scope.names.lookup n = some .local := by rw [Q.C.sc]; exact hln
  have nm : Names X (J.cn z) (.ref (ca z)) := ⟨gl_of Q.C hg, okz.1.1, .inl (E.cls z hz).1⟩
  refine (ps_try_as (pos := pos) (np := np) (pos' := pos') (tb := fun W' => tStms X.K ca (runF fs k) W' io b) (ts := fun a cls d => tSu J ca i kd a cls d) hst hfr Q.C.nd hi' hl' nm Q.C.takes
    (fun W' pn xe tk own => ib (Q.tr tk own) rfl ⟨E.cls, E.cat⟩ hst hfr) (fun a oe cls d pn hz hf => suite_ok E hi' (.inl hl') okn.1.1 okn.1.2 hsu a oe cls d pn hz hf)).weaken fun Z σ H ⟨ρ, A, rep, q⟩ => ?_
  refine ⟨ρ, A, rep, ?_⟩
  simp only [exec] at q
  rcases e : execs (runF fs k) b ρ with ⟨o, ρ1⟩ | ⟨c, code, place⟩ | _
  · rw [e] at q
    exact q
  · rw [e] at q
    dsimp only at q
    split at q
    · rename_i dd eh
      split at q
      case isFalse => exact q.elim
      rename_i hil
      obtain ⟨kd', m, edd⟩ := handle_in eh
      have hm := List.all_eq_true.mp hh _ m
      simp only [Bool.and_eq_true, decide_eq_true_eq] at hm
      obtain ⟨⟨ek, hc⟩, hcat⟩ := hm
      subst ek
      subst edd
      have hq : OutQ X.K io σ H A Z (.ret (hd kd' code place), ρ.map fun _ => (none : Option Cell)) := q
      intro d H' cv pv keep the hd0 hH dc dp σ' hl
      refine ⟨true, E.cat z c hz hc hcat, fun _ a ha => ?_, fun q => by cases q⟩
      have il : i < σ'.length := by rw [hl]; exact Nat.lt_of_lt_of_le hil rep.len
      refine ⟨by rw [List.getElem?_set_self il], c, d, cv, pv, hc, rfl, rfl, hH, ?_⟩
      have fin : ∀ {v : V} {H2 : Hp}, Same H' H2 → DpR X.K H2 v (hd kd' code place) [] → Z.rt v H2 := fun {v H2} sm dv => by
        refine hq v σ H2 ⟨fun _ => [], []⟩ ⟨fun j c e => (by rw [get_none] at e; cases e), fun i j a h => (by simp at h), fun i a h => (by simp at h), fun a h => (by simp at h), fun a h => (by simp at h), fun _ _ _ => rfl, (by rw [List.length_map]; exact rep.len)⟩ ⟨fun a ⟨j, hj⟩ => (by simp at hj), fun a o e n => sm a o (keep a o e n), fun a e => the a (same_there sm e)⟩ (Fx.refl _ _) ⟨[], dv, .nil, fun a h => by simp at h, fun a h => by simp at h⟩
      rcases kd' with _ | _ | kd
      · exact fin (Same.refl _) dc
      · intro p hp
        have sm : Same H' (upd H' p (.tup [cv, pv])) := same_upd hp
        exact fin sm (.tup (.inl (.inl upd_same)) (.cons (as := []) (dc.keep (Fix.of sm) fun a h => by simp at h) (.one (dp.keep (Fix.of sm) fun a h => by simp at h))))
      · exact fin (Same.refl _) (.bl false)
    · exact q.elim
  · rw [e] at q
    exact q
end
end PV
set_option Elab.async false
set_option linter.all false
set_option maxRecDepth 100000
set_option maxHeartbeats 4000000
/-! PV29: all statements. -/
namespace PV
open PySem PySem.Spec PyProof.Rows L2
def fnB (sc : Scope) : Bool := match sc.kind with
  | .function => true
  | _ => false
def locB (sc : Scope) (y : Str) : Bool := match sc.names.lookup y with
  | some .local => true
  | _ => false
mutual
def mS (J : Info) (N : List Str) (io : List Nat) : S → Scope → Stmt → Bool
  | .asg i e, sc, s => match s with
    | .Assign [y] x _ => (cellN sc y && tgtB (fun _ => true) N sc y i && !io.contains i && mE J N e sc x) || match e, y, x with
      | .comp elt tgt single it cnd own, .Name y py, .ListComp x [⟨t, g, ifs, 0⟩] scope pos => decide (N[i]? = some y) && locB sc y && !io.contains i && fnB sc && (py.line == pos.line) && !(scope.names.any fun (n, k) => n == y && (k == .local || k == .cell)) &&
          blkC N sc scope (namesOf N own) && targetB (fun x => scope.names.lookup x == some .cell) N (relS scope sc) t tgt single && tgt.all (fun i => own.contains i) && pairB single it && mI J N it sc g && mCs J N cnd (relS scope sc) ifs && mE J N elt (relS scope sc) x
      | .comp2 elt tgt single it cnd own tgt1 single1 it1 cnd1, .Name y py, .ListComp x [⟨t, g, ifs, 0⟩, ⟨t1, g1, ifs1, 0⟩] scope pos => decide (N[i]? = some y) && locB sc y && !io.contains i && fnB sc && (py.line == pos.line) && !(scope.names.any fun (n, k) => n == y && (k == .local || k == .cell)) &&
          blkC N sc scope (namesOf N own) && targetB (fun x => scope.names.lookup x == some .cell) N (relS scope sc) t tgt single && tgt.all (fun i => own.contains i) && pairB single it && mI J N it sc g && mCs J N cnd (relS scope sc) ifs && mE J N elt (relS scope sc) x && targetB (fun x => scope.names.lookup x == some .cell) N (relS scope sc) t1 tgt1 single1 && tgt1.all (fun i => own.contains i) && pairB single1 it1 && mI J N it1 (relS scope sc) g1 && mCs J N cnd1 (relS scope sc) ifs1 && !(eff elt || effs cnd || effi it1 || effs cnd1)
      | e, y, x => tgtB (fun _ => true) N sc y i && !io.contains i && plainX x && notLC x && mE J N e sc x
    | _ => false
  | .asgT is e, sc, s => match s with
    | .Assign [y] x _ => targetB (fun _ => true) N sc y is false && is.all (fun i => !io.contains i) && plainX x && notLC x && notTL x && mE J N e sc x
    | _ => false
  | .setv i ix e, sc, s => match s with
    | .Assign [.Subscript (.Name y _) xi _] x _ => nameB N sc i y && plainX xi && mE J N ix sc xi && plainX x && notLC x && mE J N e sc x
    | _ => false
  | .set2 i ix jx e, sc, s => match s with
    | .Assign [.Subscript (.Subscript (.Name y _) xi _) xj _] x _ => nameB N sc i y && plainX xi && mE J N ix sc xi && plainX xj && mE J N jx sc xj && plainX x && notLC x && mE J N e sc x
    | _ => false
  | .app i e, sc, s => match s with
    | .Expr (.Call (.Attribute (.Name y _) g p2) [x] [] p3) _ => decide (g = ("append" : Str)) && nameB N sc i y && lineB p2 p3 && plainX x && mE J N e sc x
    | _ => false
  | .app1 i ix e, sc, s => match s with
    | .Expr (.Call (.Attribute (.Subscript (.Name y _) xi _) g p2) [x] [] p3) _ => decide (g = ("append" : Str)) && nameB N sc i y && plainX xi && mE J N ix sc xi && lineB p2 p3 && plainX x && mE J N e sc x
    | _ => false
  | .ext i e, sc, s => match s with
    | .Expr (.Call (.Attribute (.Name y _) g p2) [x] [] p3) _ => decide (g = ("extend" : Str)) && nameB N sc i y && lineB p2 p3 && plainX x && mE J N e sc x
    | _ => false
  | .ex e, sc, s => match s with
    | .Expr x _ => plainX x && notLC x && mE J N e sc x
    | _ => false
  | .iff c a b, sc, s => match s with
    | .If x xs ys _ => mE J N c sc x && mSs J N io a sc xs && mSs J N io b sc ys
    | _ => false
  | .for tgt single it b, sc, s => match s with
    | .For t x body [] _ => targetB (fun _ => true) N sc t tgt single && tgt.all (fun i => !io.contains i) && pairB single it && mI J N it sc x && mSs J N io b sc body
    | _ => false
  | .whl c b, sc, s => match s with
    | .While x body [] _ => mE J N c sc x && mSs J N io b sc body
    | _ => false
  | .ret e, sc, s => match s with
    | .Return (some x) _ => mE J N e sc x
    | _ => false
  | .retN, _, s => match s with
    | .Return none _ => true
    | _ => false
  | .raise1 c code, sc, s => match s with
    | .Raise (some (.Call (.Name g _) [.Constant (.str m) _ _] [] _)) none _ => decide (c < J.nc) && decide (g = J.cn c) && glB sc g && okName g && decide (m = code)
    | _ => false
  | .raise2 c code e, sc, s => match s with
    | .Raise (some (.Call (.Name g _) [.Constant (.str m) _ _, x] [] _)) none _ => decide (c < J.nc) && decide (g = J.cn c) && glB sc g && okName g && decide (m = code) && plainX x && mE J N e sc x
    | _ => false
  | .try_ i b hs, sc, s => match s with
    | .Try body [.ExceptHandler (some (.Name zn _)) (some n) (b₀ :: su) _] [] [] _ => decide (N[i]? = some n) && locB sc n && okName n && glB sc zn && okName zn && (List.range J.nc).any (fun z => decide (zn = J.cn z) && [0, 1, 2].any (fun kd => suiteB n kd (b₀ :: su) && hsB J z kd hs)) && mSs J N io b sc body
    | _ => false
  | .brk, _, s => match s with
    | .Break _ => true
    | _ => false
  | .cnt, _, s => match s with
    | .Continue _ => true
    | _ => false
  | .pass, _, s => match s with
    | .Pass _ => true
    | _ => false
def mSs (J : Info) (N : List Str) (io : List Nat) : Ss → Scope → List Stmt → Bool
  | .nil, _, l => match l with
    | [] => true
    | _ => false
  | .cons s r, sc, l => match l with
    | x :: xs => mS J N io s sc x && mSs J N io r sc xs
    | _ => false
end
/-- a def's context, or a try's body in it -/
structure CxF (J : Info) (fs : List Fn) (ca : Nat → Addr) (k : Nat) (N : List Str) (sc : Scope) (W : WX) (X : Cx) : Prop where
  Q : CxS J fs ca k N sc W X
  E : ExcOk J ca X
  st : X.stack = X.env :: X.outer
  fr : X.env.frame = some X.env.locals
theorem loc_of {sc : Scope} {y : Str} (h : locB sc y = true) : sc.names.lookup y = some .local := by
  unfold locB at h
  split at h
  · assumption
  · cases h
theorem fn_ofB {sc : Scope} (h : fnB sc = true) : sc.kind = .function := by
  unfold fnB at h
  split at h
  · assumption
  · cases h
mutual
theorem good_S : ∀ (s : S) ⦃J : Info⦄ ⦃fs : List Fn⦄ ⦃ca : Nat → Addr⦄ ⦃k : Nat⦄ ⦃N : List Str⦄ ⦃sc : Scope⦄ ⦃W : WX⦄ ⦃X : Cx⦄ ⦃io : List Nat⦄, CxF J fs ca k N sc W X → ∀ x, mS J N io s sc x = true → SS ca fs k W io X s x
  | .asg i e => by
    intro J fs ca k N sc W X io C x h
    simp only [mS] at h
    split at h <;> try (cases h; done)
    rw [Bool.or_eq_true] at h
    rcases h with h | h
    · simp only [Bool.and_eq_true, Bool.not_eq_true'] at h
      obtain ⟨⟨⟨h1, h2⟩, h3⟩, h4⟩ := h
      exact st_asg C.Q h2 h3 (fun l => swaps_cell (by rw [C.Q.C.sc]; exact h1)) h4
    split at h
    · simp only [Bool.and_eq_true, decide_eq_true_eq, Bool.not_eq_true'] at h
      obtain ⟨⟨⟨⟨⟨⟨⟨⟨⟨⟨⟨⟨h1, h2⟩, h3⟩, h4⟩, h5⟩, h6⟩, h7⟩, h8⟩, h9⟩, h10⟩, h11⟩, h12⟩, h13⟩ := h
      exact st_asgC C.Q h1 (loc_of h2) h3 (fn_ofB h4) h5 h6 h7 h8 h9 h10 h11 h12 h13
    · simp only [Bool.and_eq_true, decide_eq_true_eq, Bool.not_eq_true'] at h
      obtain ⟨⟨⟨⟨⟨⟨⟨⟨⟨⟨⟨⟨⟨⟨⟨⟨⟨⟨h1, h2⟩, h3⟩, h4⟩, h5⟩, h6⟩, h7⟩, h8⟩, h9⟩, h10⟩, h11⟩, h12⟩, h13⟩, h14⟩, h15⟩, h16⟩, h17⟩, h18⟩, h19⟩ := h
      exact st_asgC2 C.Q h1 (loc_of h2) h3 (fn_ofB h4) h5 h6 h7 h8 h9 h10 h11 h12 h13 h14 h15 h16 h17 h18 h19
    · simp only [Bool.and_eq_true, Bool.not_eq_true'] at h
      obtain ⟨⟨⟨⟨h1, h2⟩, h3⟩, h4⟩, h5⟩ := h
      exact st_asg C.Q h1 h2 (fun l => swaps_no h3 h4) h5
  | .asgT is e => by
    intro J fs ca k N sc W X io C x h
    simp only [mS] at h
    split at h <;> try (cases h; done)
    simp only [Bool.and_eq_true] at h
    obtain ⟨⟨⟨⟨⟨h1, h2⟩, h3⟩, h4⟩, h5⟩, h6⟩ := h
    exact st_asgT C.Q h1 h2 h3 h4 h5 h6
  | .setv i ix e => by
    intro J fs ca k N sc W X io C x h
    simp only [mS] at h
    split at h <;> try (cases h; done)
    simp only [Bool.and_eq_true] at h
    obtain ⟨⟨⟨⟨⟨h1, h2⟩, h3⟩, h4⟩, h5⟩, h6⟩ := h
    exact st_setv C.Q h1 h2 h3 h4 h5 h6
  | .set2 i ix jx e => by
    intro J fs ca k N sc W X io C x h
    simp only [mS] at h
    split at h <;> try (cases h; done)
    simp only [Bool.and_eq_true] at h
    obtain ⟨⟨⟨⟨⟨⟨⟨h1, h2⟩, h3⟩, h4⟩, h5⟩, h6⟩, h7⟩, h8⟩ := h
    exact st_set2 C.Q h1 h2 h3 h4 h5 h6 h7 h8
  | .app i e => by
    intro J fs ca k N sc W X io C x h
    simp only [mS] at h
    split at h <;> try (cases h; done)
    simp only [Bool.and_eq_true, decide_eq_true_eq] at h
    obtain ⟨⟨⟨⟨e1, h1⟩, h2⟩, h3⟩, h4⟩ := h
    subst e1
    exact st_app C.Q h1 h2 h3 h4
  | .app1 i ix e => by
    intro J fs ca k N sc W X io C x h
    simp only [mS] at h
    split at h <;> try (cases h; done)
    simp only [Bool.and_eq_true, decide_eq_true_eq] at h
    obtain ⟨⟨⟨⟨⟨⟨e1, h1⟩, h2⟩, h3⟩, h4⟩, h5⟩, h6⟩ := h
    subst e1
    exact st_app1 C.Q h1 h2 h3 h4 h5 h6
  | .ext i e => by
    intro J fs ca k N sc W X io C x h
    simp only [mS] at h
    split at h <;> try (cases h; done)
    simp only [Bool.and_eq_true, decide_eq_true_eq] at h
    obtain ⟨⟨⟨⟨e1, h1⟩, h2⟩, h3⟩, h4⟩ := h
    subst e1
    exact st_ext C.Q h1 h2 h3 h4
  | .ex e => by
    intro J fs ca k N sc W X io C x h
    simp only [mS] at h
    split at h <;> try (cases h; done)
    simp only [Bool.and_eq_true] at h
    obtain ⟨⟨h1, h2⟩, h3⟩ := h
    exact st_ex C.Q h1 h2 h3
  | .iff c a b => by
    intro J fs ca k N sc W X io C x h
    simp only [mS] at h
    split at h <;> try (cases h; done)
    simp only [Bool.and_eq_true] at h
    obtain ⟨⟨h1, h2⟩, h3⟩ := h
    exact st_if C.Q h1 (good_Ss a C _ h2) (good_Ss b C _ h3)
  | .for tgt single it b => by
    intro J fs ca k N sc W X io C x h
    simp only [mS] at h
    split at h <;> try (cases h; done)
    simp only [Bool.and_eq_true] at h
    obtain ⟨⟨⟨⟨h1, h2⟩, h3⟩, h4⟩, h5⟩ := h
    exact st_for C.Q h1 h2 h3 h4 (good_Ss b C _ h5)
  | .whl c b => by
    intro J fs ca k N sc W X io C x h
    simp only [mS] at h
    split at h <;> try (cases h; done)
    simp only [Bool.and_eq_true] at h
    exact st_whl C.Q h.1 (good_Ss b C _ h.2)
  | .ret e => by
    intro J fs ca k N sc W X io C x h
    simp only [mS] at h
    split at h <;> try (cases h; done)
    exact st_ret C.Q h
  | .retN => by
    intro J fs ca k N sc W X io C x h
    simp only [mS] at h
    split at h <;> try (cases h; done)
    exact st_retN
  | .raise1 c code => by
    intro J fs ca k N sc W X io C x h
    simp only [mS] at h
    split at h <;> try (cases h; done)
    simp only [Bool.and_eq_true, decide_eq_true_eq] at h
    obtain ⟨⟨⟨⟨h1, h2⟩, h3⟩, h4⟩, h5⟩ := h
    subst h5
    exact st_raise1 C.Q C.E h1 h2 h3 h4
  | .raise2 c code e => by
    intro J fs ca k N sc W X io C x h
    simp only [mS] at h
    split at h <;> try (cases h; done)
    simp only [Bool.and_eq_true, decide_eq_true_eq] at h
    obtain ⟨⟨⟨⟨⟨⟨h1, h2⟩, h3⟩, h4⟩, h5⟩, h6⟩, h7⟩ := h
    subst h5
    exact st_raise2 C.Q C.E h1 h2 h3 h4 h6 h7
  | .try_ i b hs => by
    intro J fs ca k N sc W X io C x h
    have ib := good_Ss b
    simp only [mS] at h
    split at h <;> try (cases h; done)
    simp only [Bool.and_eq_true, decide_eq_true_eq] at h
    obtain ⟨⟨⟨⟨⟨⟨h1, h2⟩, h3⟩, h4⟩, h5⟩, h6⟩, h7⟩ := h
    obtain ⟨z, hz, h6⟩ := List.any_eq_true.mp h6
    simp only [Bool.and_eq_true, decide_eq_true_eq] at h6
    obtain ⟨ez, h6⟩ := h6
    obtain ⟨kd, _, h6⟩ := List.any_eq_true.mp h6
    simp only [Bool.and_eq_true] at h6
    exact st_try C.Q C.E C.st C.fr h1 (loc_of h2) h3 (List.mem_range.mp hz) ez h4 h5 h6.1 h6.2 fun Q' _ E' s' f' => ib ⟨Q', E', s', f'⟩ _ h7
  | .brk => by
    intro J fs ca k N sc W X io C x h
    simp only [mS] at h
    split at h <;> try (cases h; done)
    exact st_brk
  | .cnt => by
    intro J fs ca k N sc W X io C x h
    simp only [mS] at h
    split at h <;> try (cases h; done)
    exact st_cnt
  | .pass => by
    intro J fs ca k N sc W X io C x h
    simp only [mS] at h
    split at h <;> try (cases h; done)
    exact st_pass
theorem good_Ss : ∀ (s : Ss) ⦃J : Info⦄ ⦃fs : List Fn⦄ ⦃ca : Nat → Addr⦄ ⦃k : Nat⦄ ⦃N : List Str⦄ ⦃sc : Scope⦄ ⦃W : WX⦄ ⦃X : Cx⦄ ⦃io : List Nat⦄, CxF J fs ca k N sc W X → ∀ x, mSs J N io s sc x = true → SSs ca fs k W io X s x
  | .nil => by
    intro J fs ca k N sc W X io C x h
    simp only [mSs] at h
    split at h <;> try (cases h; done)
    exact sts_nil
  | .cons s r => by
    intro J fs ca k N sc W X io C x h
    simp only [mSs] at h
    split at h <;> try (cases h; done)
    simp only [Bool.and_eq_true] at h
    exact sts_cons (good_S s C _ h.1) (good_Ss r C _ h.2)
end
end PV
set_option Elab.async false
set_option linter.all false
set_option maxRecDepth 100000
set_option maxHeartbeats 1000000
/-! PV30: defs keep their promises. -/
namespace PV
open PySem PySem.Spec PyProof.Rows L2
/-- the text of a def is the reading's -/
structure FnD (J : Info) (fs : List Fn) (K : PySem.W.Frag) (mg : Str → Option Value) (f : Nat) (a : Addr) (fd : FuncData) (ps : List Str) : Prop where
  ex : ∃ x qual st N F, fs[f]? = some F ∧ Fun K x qual st a fd ∧ FnScope N ps (defScope st) ∧ mSs J N (J.io f) F.body (defScope st) (defBody st) = true ∧ ps.length = F.params ∧ N.length = F.slots
  mg : mg (J.nm f) = some (.ref a)
  bd : L2.Binds K fd ps []
section
variable {J : Info} {fs : List Fn} {ca : Nat → Addr} {P : Program} {w : World} {K : PySem.W.Frag} {mg : Str → Option Value} {base : Heap}
theorem take_get {ρ : PV.Env} {n i : Nat} : PV.get (ρ.take n) i = if i < n then PV.get ρ i else none := by
  unfold PV.get
  rw [List.getElem?_take]
  by_cases h : i < n <;> simp [h]
theorem Rep.front {H : Hp} {σ : L2.St} {ρ : PV.Env} {A : Own} (rep : Rep K H [] σ ρ A) (n : Nat) : Rep K H [] σ (ρ.take n) A where
  cell := fun i c h => by
    rw [take_get] at h
    split at h
    · exact rep.cell i c h
    · cases h
  disj := rep.disj
  trk := rep.trk
  fdis := rep.fdis
  ftrk := rep.ftrk
  emp := fun i hl h => by
    rw [List.length_take] at hl
    refine rep.emp i (by omega) fun d e => h d ?_
    rw [take_get, if_pos (by omega)]
    exact e
  len := by rw [List.length_take]; have := rep.len; omega
theorem rep_start {H : Hp} {vs : List V} {cs : List Cell} {A : Own} {N : List Str} {m : Nat} (rep : Rep K H [] (vs.map some) (cs.map some) A) (hl : vs.length = cs.length) (hm : cs.length + m = N.length) (hA : ∀ i, cs.length ≤ i → A i = []) :
    Rep K H [] (L2.start N vs) (cs.map some ++ List.replicate m none) A := by
  have hg : ∀ i, PV.get (cs.map some ++ List.replicate m none) i = PV.get (cs.map some) i := fun i => by
    unfold PV.get
    by_cases hi : i < cs.length
    · rw [List.getElem?_append_left (by simpa using hi)]
    · rw [List.getElem?_append_right (by simpa using hi), List.getElem?_eq_none (l := cs.map some) (by simpa using hi), List.getElem?_replicate]
      by_cases hj : i - cs.length < m <;> simp [hj]
  refine ⟨fun i c h => ?_, rep.disj, rep.trk, rep.fdis, rep.ftrk, fun i hl' h => ?_, ?_⟩
  · rw [hg] at h
    obtain ⟨v, e, ok⟩ := rep.cell i c h
    have hi : i < vs.length := by
      have := get_lt h
      rw [List.length_map] at this
      omega
    refine ⟨v, ?_, ok⟩
    unfold L2.start
    rw [List.getElem?_append_left (by simpa using hi)]
    exact e
  · by_cases hi : i < cs.length
    · refine rep.emp i (by simpa using hi) fun d e => h d ?_
      rw [hg]; exact e
    · exact hA i (by omega)
  · unfold L2.start
    rw [List.length_append, List.length_append, List.length_map, List.length_map, List.length_replicate, List.length_replicate]
    omega
/-- all defs, however deep -/
theorem fn_one (nf : ∀ f, f < J.nf → ∃ a fd ps, FnD J fs K mg f a fd ps) (hb : ∀ x ∈ blts, mg x = none) (hgc : ∀ x n, J.gc.lookup x = some n → ∃ t, mg x = some (.int n t))
    (hE : ∀ X : Cx, X.prog = P → X.w = w → X.K = K → X.mg = mg → X.base = base → ExcOk J ca X) : ∀ k f a fd ps, FnD J fs K mg f a fd ps → FnOk P w K mg base (L2.CX P w) (k + 2) a fd ps (spF J fs ca K k f) ∧ mg (J.nm f) = some (.ref a) ∧ PySem.W.keepIn K (.ref a) = true ∧ L2.Binds K fd ps [] := by
  intro k
  induction k with
  | zero =>
    intro f a fd ps D
    obtain ⟨x, qual, st, N, F, _, Fn, _⟩ := D.ex
    refine ⟨⟨fun vs H Q E h => ?_, fun A outer s H args us vs Q E _ _ _ _ h => ?_⟩, D.mg, Fn.kp, D.bd⟩
    · obtain ⟨cs, A, _, _, _, _, h⟩ := h
      exact h.elim
    · obtain ⟨cs, A, _, _, _, _, h⟩ := h
      exact h.elim
  | succ k ih0 =>
    intro f a fd ps D
    have ih : ∀ f, f < J.nf → ∃ a fd ps, FnOk P w K mg base (L2.CX P w) (k + 2) a fd ps (spF J fs ca K k f) ∧ mg (J.nm f) = some (.ref a) ∧ PySem.W.keepIn K (.ref a) = true ∧ L2.Binds K fd ps [] := fun f hf => by
      obtain ⟨a, fd, ps, D⟩ := nf f hf
      exact ⟨a, fd, ps, ih0 f a fd ps D⟩
    obtain ⟨x, qual, st, N, F, hF, Fn, S, hm, hps, hN⟩ := D.ex
    refine ⟨?_, D.mg, Fn.kp, D.bd⟩
    -- the call's reading, opened
    have opn : ∀ {vs : List V} {H : Hp} {Q : VK} {E : XK}, spF J fs ca K (k + 1) f vs H Q E → ∃ (cs : List Cell) (A : Own), Rep K H [] (vs.map some) (cs.map some) A ∧ vs.length = cs.length ∧ (∀ i, cs.length ≤ i → A i = []) ∧ cs.length = F.params ∧
        RS K ca (fun cls d _ H' => E cls d H') (J.io f) (L2.start N vs) H A { nx := fun _ H' => Q .non H', rt := Q } (execs (runF fs k) F.body (cs.map some ++ List.replicate (F.slots - F.params) none)) := fun {vs H Q E} h => by
      obtain ⟨cs, A, rep, hl, nb, hA, h⟩ := h
      simp only [runF, hF] at h
      by_cases hp : cs.length = F.params
      · rw [if_pos hp] at h
        refine ⟨cs, A, rep, hl, hA, hp, ?_⟩
        have hio : ∀ {σ' : L2.St}, Fx (J.io f) (L2.start N vs) σ' → ∀ j ∈ J.io f, ∀ y, vs[j]? = some y → σ'[j]? = some (some y) := fun fx j hj y e => by
          rw [fx.2 j hj]
          unfold L2.start
          have hjl : j < vs.length := (List.getElem?_eq_some_iff.mp e).1
          rw [List.getElem?_append_left (by simpa using hjl), List.getElem?_map, e]
          rfl
        rcases e : execs (runF fs k) F.body (cs.map some ++ List.replicate (F.slots - F.params) none) with ⟨o, ρ'⟩ | ⟨c, kk, p⟩ | _
        · rw [e] at h
          cases o with
          | ret d => exact fun v σ' H' A' r s fx rv => h v H' σ' A' (r.front _) (hio fx) s rv
          | nx => exact fun σ' H' A' r s fx => h .non H' σ' A' (r.front _) (hio fx) s ⟨[], .non, .nil, fun a q => by simp at q, fun a q => by simp at q⟩
          | brk => exact h.elim
          | cnt => exact h.elim
        · rw [e] at h
          exact ExQ.imp (E' := fun a b H' => ∀ σ' : L2.St, σ'.length = (L2.start N vs).length → E a b H') h fun a b H' q σ' _ => q
        · rw [e] at h
          exact h
      · rw [if_neg hp] at h
        exact h.elim
    refine Fn.okX S (fun vs H Q E h => ?_) fun cdv A outer s H vs Q E hr hsp => ?_
    · obtain ⟨cs, A, _, hl, _, hp, _⟩ := opn h
      rw [hl, hp, hps]
    · obtain ⟨cs, A0, rep, hl, hA, hp, q⟩ := opn hsp
      refine ⟨_, good_Ss F.body (X := cxOf (L2.CX P w) P w K mg base N qual (defScope st) a cdv A outer s H E) (ca := ca) (fs := fs) (k := k) (N := N) (sc := defScope st) (J := J) (W := fun cls d _ H' => E cls d H') (io := J.io f)
        ⟨⟨⟨rfl, rfl, rfl, S.nd, hr, hb, hgc, takes_of rfl rfl rfl rfl, ih⟩, passes_of rfl, fun _ => rfl⟩, hE _ rfl rfl rfl rfl rfl, rfl, rfl⟩ _ hm, _, A0, rep_start rep hl (m := F.slots - F.params) ?_ hA, q⟩
      have hpl : ps.length ≤ N.length := by have := congrArg List.length S.pre; rw [List.length_take] at this; omega
      omega
end
end PV
set_option Elab.async false
set_option linter.all false
set_option maxRecDepth 100000
set_option maxHeartbeats 1000000
/-! PV31: the law's own promise. -/
namespace PV
open PySem PySem.Spec PyProof.Rows L2
section
variable {J : Info} {fs : List Fn} {ca : Nat → Addr} {K : PySem.W.Frag}
theorem law_sp {k f : Nat} {ns : List Int} {outs : List (Option Cell)} {H : Hp} {a : Addr} (ho : Only H) (hs : SqL K H a (ns.map V.int)) (hr : runF fs k f [.scr ns] = .ok ((true, .bool true), outs)) : spF J fs ca K k f [.ref a] H (fun v _ => v = .bl true) fun _ _ _ => False := by
  have hx : ExtL K H a (ns.map V.int) := by
    rcases hs with (h | ⟨o, h⟩) | h
    · rcases ho a with e | ⟨o, xs, e⟩
      · rw [e] at h; cases h
      · rw [e] at h; cases h
    · exact .inl ⟨o, h⟩
    · exact .inr h
  refine ⟨[.scr ns], ⟨fun _ => [], []⟩, ⟨fun i c h => ?_, fun i j b h => by simp at h, fun i b h => by simp at h, fun b h => by simp at h, fun b h => by simp at h, fun _ _ _ => rfl, Nat.le_refl _⟩, rfl, rfl, fun _ _ => rfl, ?_⟩
  · cases i with
    | zero =>
      have e : c = .scr ns := by
        have := get_of h
        simp at this
        exact this.symm
      subst e
      exact ⟨.ref a, rfl, a, rfl, hx⟩
    | succ i =>
      have := get_of h
      simp at this
  · rw [hr]
    intro v H' σ' A' _ _ _ ⟨as, d, _⟩
    exact d.bool_inv
end
end PV
set_option Elab.async false
set_option linter.all false
set_option maxRecDepth 100000
set_option maxHeartbeats 1000000
/-! PV32: the errors' __init__. -/
namespace PV
open PySem PySem.Spec PyProof.Rows L2
/-- self.code = code; self.place = place -/
def initB (q1 q2 q3 q4 r1 r2 r3 r4 : Pos) : List Stmt := [.Assign [.Attribute (.Name "self" q1) "code" q2] (.Name "code" q3) q4, .Assign [.Attribute (.Name "self" r1) "place" r2] (.Name "place" r3) r4]
theorem init_ok {P : Program} {w : World} {K : PySem.W.Frag} {mg : Str → Option Value} {base : Heap} {x qual : Str} {pa : Arguments} {sc : Scope} {dvs : List V} {kws : List (Str × V)} {fI : Addr} {fd : FuncData} {q1 q2 q3 q4 r1 r2 r3 r4 : Pos}
    (F : FunD K x qual pa (initB q1 q2 q3 q4 r1 r2 r3 r4) sc dvs kws fI fd) (S : FnScope ["self", "code", "place"] ["self", "code", "place"] sc) (h1 : sc.names.lookup ("self" : Str) = some .local) (h2 : sc.names.lookup ("code" : Str) = some .local) (h3 : sc.names.lookup ("place" : Str) = some .local) :
    FnOk P w K mg base (L2.CX P w) 1 fI fd ["self", "code", "place"] (spI K) := by
  refine F.ok S (fun vs H Q E h => ?_) fun cdv A outer s H vs Q E hr hsp => ?_
  · obtain ⟨a, C, c, p, e, _⟩ := h
    rw [e]; rfl
  · obtain ⟨a, C, c, p, e, T, n1, n2, ea, q⟩ := hsp
    subst e
    refine ⟨_, pss_cons (ps_ost (pe_var (i := 0) rfl (.inl h1)) (pe_var (i := 1) rfl (.inl h2))) (pss_one (ps_ost (pe_var (i := 0) rfl (.inl h1)) (pe_var (i := 2) rfl (.inl h3)))), ?_⟩
    refine ⟨c, rfl, .ref a, rfl, a, C, rfl, T, n1, .inl ⟨ea, fun dx hdx hne => ?_⟩⟩
    refine ⟨p, rfl, .ref a, rfl, a, C, rfl, T, n2, .inr ⟨dx, [("code", c)], upd_same, ?_, ?_, ?_⟩⟩
    · rw [upd_ne hne, upd_same]
    · show 1 ≤ 900
      decide
    · exact q dx hdx hne
end PV
set_option Elab.async false
set_option linter.all false
set_option maxRecDepth 100000
set_option maxHeartbeats 1000000
/-! PV33: a law's end: what is read of the top, and what follows. -/
namespace PV
open PySem PySem.Spec PyProof.Rows L2
/-! ### error classes, read off the top -/
def oexB (K : PySem.W.Frag) (C : Addr) : Bool := match K.lookup C with
  | some ⟨.type "type", _, .cls cd, sl⟩ => (match cd.mro, sl.toList with
    | .ref C' :: bm, [_, _, _, _, some (.builtin n), _] => C' == C && (n == "ValueError.__new__") && !cd.hasDel && cd.hasDict && PySem.HandSPX.refsVE bm
    | _, _ => false)
  | _ => false
theorem oexB_ok {K : PySem.W.Frag} {C : Addr} (q : oexB K C = true) : ∃ nm q N bs bm sn sub ab col dd k0 k1 k2 k3 k5, K.lookup C = some (excClassObj nm q C N bs bm true sn sub ab col dd k0 k1 k2 k3 k5 "ValueError.__new__") ∧ PySem.HandSPX.refsVE bm = true := by
  unfold oexB at q
  split at q
  · rename_i dd cd sl ho
    split at q
    · rename_i C' bm k0 k1 k2 k3 n k5 hm hs
      simp only [Bool.and_eq_true, beq_iff_eq, Bool.not_eq_true'] at q
      obtain ⟨⟨⟨⟨rfl, rfl⟩, hdel⟩, hd⟩, ht⟩ := q
      obtain ⟨nm, bs, mro, ns, qn, hdd, sn, sub, ab, col, del⟩ := cd
      dsimp only at hm hdel hd
      subst hm hdel hd
      have hsl : sl = #[k0, k1, k2, k3, some (.builtin "ValueError.__new__"), k5] := by
        obtain ⟨l⟩ := sl
        simp only at hs
        rw [hs]
      subst hsl
      exact ⟨nm, qn, ns, bs, bm, sn, sub, ab, col, dd, k0, k1, k2, k3, k5, ho, ht⟩
    · cases q
  · cases q
/-- where the errors' maker stands -/
def initAt : Str × Option Str := ("WorkError", some "__init__")
def errB (K : PySem.W.Frag) (x : Str) : Bool :=
  He.eqO (PySem.W.nsIn K mainGlobals x) (some (some (.ref (He.ga K x)))) && oexB K (He.ga K x) && xfB K (He.ga K x) && He.eqO (PySem.W.findIn K (.ref (He.ga K x)) "__setattr__") (some (some (.builtin "object.__setattr__"))) &&
  decide (PySem.W.typeIn K (.ref (He.ga K x)) = some (.type "type")) && PySem.W.keepIn K (.ref (He.ga K x)) && He.eqO (PySem.W.findIn K (.ref (He.ga K x)) "code") (some none) && He.eqO (PySem.W.findIn K (.ref (He.ga K x)) "place") (some none) &&
  He.eqO (PySem.W.findIn K (.ref (He.ga K x)) "__init__") (some (some (.ref (He.fAd K initAt)))) && decide (PySem.W.typeIn K (.ref (He.fAd K initAt)) = some (.type "function"))
structure Err (K : PySem.W.Frag) (mg : Str → Option Value) (x : Str) : Prop where
  m : mg x = some (.ref (He.ga K x))
  o : OexC K (He.ga K x)
  f : XfC K (He.ga K x)
  n1 : PySem.W.findIn K (.ref (He.ga K x)) "code" = some none
  n2 : PySem.W.findIn K (.ref (He.ga K x)) "place" = some none
  i : PySem.W.findIn K (.ref (He.ga K x)) "__init__" = some (some (.ref (He.fAd K initAt)))
  t : PySem.W.typeIn K (.ref (He.fAd K initAt)) = some (.type "function")
theorem errB_ok {K : PySem.W.Frag} {h : Heap} {mg : Str → Option Value} (X : K.In h) (G : h.Ns mainGlobals mg) {x : Str} (e : errB K x = true) : Err K mg x := by
  unfold errB at e
  simp only [Bool.and_eq_true, decide_eq_true_eq] at e
  obtain ⟨⟨⟨⟨⟨⟨⟨⟨⟨a1, a2⟩, a3⟩, a4⟩, a5⟩, a6⟩, a7⟩, a8⟩, a9⟩, a10⟩ := e
  exact ⟨PySem.W.mg_of X G (He.eqO_ok a1), ⟨oexB_ok a2, He.eqO_ok a4, (xfB_ok a3).exC, a5, a6⟩, xfB_ok a3, He.eqO_ok a7, He.eqO_ok a8, He.eqO_ok a9, a10⟩
/-! ### a law's text -/
structure LawT where
  J : Info
  fs : List Fn
  /-- the slots' names -/
  N : Nat → List Str
  /-- which statement of the top each def is -/
  at_ : Nat → Nat
  P : Program
  /-- the class statement of the errors' base -/
  cls0 : Nat
def LawT.st (L : LawT) (f : Nat) : Stmt := L.P.main.body.getD (L.at_ f) (.Pass ⟨0, 0, 0, 0⟩)
def LawT.ps (L : LawT) (f : Nat) : List Str := (defArgs (L.st f)).args.map (·.arg)
def initSt (s : Stmt) : Stmt := match s with
  | .ClassDef _ _ _ (b :: _) _ _ _ _ _ _ _ => b
  | _ => .Pass ⟨0, 0, 0, 0⟩
def LawT.ini (L : LawT) : Stmt := initSt (L.P.main.body.getD L.cls0 (.Pass ⟨0, 0, 0, 0⟩))
def LawT.dfn (L : LawT) (f : Nat) : He.DefD := ⟨(L.J.nm f, none), L.J.nm f, L.J.nm f, defArgs (L.st f), defBody (L.st f), defScope (L.st f), [], []⟩
def LawT.dIni (L : LawT) : He.DefD := ⟨initAt, "__init__", "WorkError.__init__", defArgs L.ini, defBody L.ini, defScope L.ini, [.int 0], []⟩
def LawT.fn (L : LawT) : List He.DefD := (if L.J.nc = 0 then [] else [L.dIni]) ++ (List.range L.J.nf).map L.dfn
def LawT.fa (L : LawT) : List He.Fa := blts.map He.Fa.free ++ L.J.gc.map (fun q => He.Fa.int q.1 q.2) ++ (List.range L.J.nf).map fun f => He.Fa.glo (L.J.nm f)
def LawT.ex (L : LawT) (K : PySem.W.Frag) : Bool := ((List.range L.J.nc).all fun c => errB K (L.J.cn c)) &&
  (List.range L.J.nc).all fun z => (List.range L.J.nc).all fun c => !L.J.cat z c || decide (PySem.W.exmOne K (.ref (He.ga K (L.J.cn c))) (.ref (He.ga K (L.J.cn z))) = some true)
def scopeB (N P : List Str) (sc : Scope) : Bool := decide (sc.kind = .function) && decide (sc.isCoroutine = false) && decide (sc.isGenerator = false) && decide N.Nodup && decide (N.take P.length = P) &&
  (P.all fun x => decide (sc.names.lookup x = some .local) || decide (sc.names.lookup x = some .cell)) && sc.names.all fun y => decide (y.2 ≠ .free)
theorem scopeB_ok {N P : List Str} {sc : Scope} (h : scopeB N P sc = true) : FnScope N P sc := by
  unfold scopeB at h
  simp only [Bool.and_eq_true, decide_eq_true_eq, List.all_eq_true, Bool.or_eq_true] at h
  obtain ⟨⟨⟨⟨⟨⟨h1, h2⟩, h3⟩, h4⟩, h5⟩, h6⟩, h7⟩ := h
  exact ⟨h1, h2, h3, h4, h5, h6, h7⟩
/-- each def's text is the reading's -/
def LawT.ok1 (L : LawT) (f : Nat) : Bool := match L.fs[f]? with
  | some F => scopeB (L.N f) (L.ps f) (defScope (L.st f)) && mSs L.J (L.N f) (L.J.io f) F.body (defScope (L.st f)) (defBody (L.st f)) && decide ((L.ps f).length = F.params) && decide ((L.N f).length = F.slots)
  | none => false
def LawT.okI (L : LawT) : Bool := L.J.nc == 0 || (scopeB ["self", "code", "place"] ["self", "code", "place"] (defScope L.ini) && decide ((defScope L.ini).names.lookup ("self" : Str) = some .local) && decide ((defScope L.ini).names.lookup ("code" : Str) = some .local) && decide ((defScope L.ini).names.lookup ("place" : Str) = some .local))
def LawT.ok (L : LawT) : Bool := ((List.range L.J.nf).all fun f => L.ok1 f) && L.okI
/-! ### the Hook -/
abbrev AlP : Type := He.AlD × Bool
def obsP (fa : List He.Fa) (fn : List He.DefD) (ex : PySem.W.Frag → Bool) (K : PySem.W.Frag) : AlP := (He.obsD fa fn K, ex K)
def obsPG (n : Nat) (fa : List He.Fa) (fn : List He.DefD) (ex : PySem.W.Frag → Bool) (g : Addr → Option Obj) : AlP := obsP fa fn ex (He.frG g (He.asD g n))
structure SaysP (fa : List He.Fa) (fn : List He.DefD) (ex : PySem.W.Frag → Bool) (K : PySem.W.Frag) : Prop where
  d : He.SaysD fa fn K
  x : ex K = true
def hookP (n : Nat) (fa : List He.Fa) (fn : List He.DefD) (ex : PySem.W.Frag → Bool) : PySem.W.Hook where
  α := AlP
  obs := fun s => obsPG n fa fn ex s.heap.get?
  val := fun _ => (He.valD fn, true)
  says := fun _ h => ∃ K : PySem.W.Frag, K.In h ∧ SaysP fa fn ex K
  of := fun _ _ e => ⟨_, He.frG_in, congrArg (fun z : AlP => z.1) e, congrArg (fun z : AlP => z.2) e⟩
  keeps := fun _ _ _ ⟨K, hK, c⟩ k => ⟨K, PySem.W.Frag.In.keeps hK k, c⟩
theorem obsPG_eq {n : Nat} {fa : List He.Fa} {fn : List He.DefD} {ex : PySem.W.Frag → Bool} {g : Addr → Option Obj} {s : Shared} (h : ∀ a, g a = s.heap.get? a) : obsPG n fa fn ex g = (hookP n fa fn ex).obs s := by
  have e : g = s.heap.get? := funext h
  rw [e] <;> rfl
abbrev LawT.hk (L : LawT) : PySem.W.Hook := hookP 5 L.fa L.fn L.ex
def LawT.ob (L : LawT) (s : PySem.W.SharedT) : AlP := obsPG 5 L.fa L.fn L.ex (HandSHeadRun.getT s)
theorem LawT.ob_eq (L : LawT) (s : PySem.W.SharedT) : L.ob s = L.hk.obs s.abs := obsPG_eq (HandSHeadRun.getT_eq s)
/-! ### what follows -/
theorem fun_of {K : PySem.W.Frag} {x qual : Str} {st : Stmt} {a : Addr} {fd : FuncData} (F : FunD K x qual (defArgs st) (defBody st) (defScope st) [] [] a fd) : Fun K x qual st a fd := by
  obtain ⟨oc, od, dV, kV, doc, pm, an, cdv, ct, osl, rfl, lk, hcd, hD, _⟩ := F.ex
  rcases hD with ⟨_, rfl⟩ | ⟨e, _⟩
  · exact ⟨⟨oc, od, kV, doc, pm, an, cdv, ct, osl, rfl, lk, hcd⟩, F.kp⟩
  · exact absurd rfl e
theorem SaysD.mem {fa : List He.Fa} {fn : List He.DefD} {K : PySem.W.Frag} (c : He.SaysD fa fn K) {f : He.Fa} (h : f ∈ fa) : f.ok K = true := by
  obtain ⟨i, hi, e⟩ := List.mem_iff_getElem.mp h
  exact c.fact i (f := f) (by rw [List.getElem?_eq_getElem hi, e])
theorem SaysD.memD {fa : List He.Fa} {fn : List He.DefD} {K : PySem.W.Frag} (c : He.SaysD fa fn K) {d : He.DefD} (h : d ∈ fn) : ∃ fd, FunD K d.name d.qual d.params d.body d.scope (d.dvs K) (d.kws K) (He.fAd K d.at_) fd := by
  obtain ⟨i, hi, e⟩ := List.mem_iff_getElem.mp h
  exact c.def_ i (d := d) (by rw [List.getElem?_eq_getElem hi, e])
/-- how the arguments come to the parameters -/
def LawT.Bind (L : LawT) : Prop := ∀ f, f < L.J.nf → ∀ (kV doc pm : Value) (an : Option Addr) (cdv ct : Value) (us : List Value), us.length = (L.ps f).length →
  bindArgs (PySem.W.fnOf (L.J.nm f) (L.J.nm f) (defArgs (L.st f)) (defBody (L.st f)) (defScope (L.st f)) .none kV doc pm an cdv ct) ⟨us, []⟩ = pure ((L.ps f).zip us)
def LawT.BindI (L : LawT) (j : Nat) : Prop := ∀ (T : Addr) (kV doc pm : Value) (an : Option Addr) (cdv ct : Value) (us its : List Value), us.length = 2 + j → its.length = 1 →
  ∃ k, bindArgs (PySem.W.fnOf "__init__" "WorkError.__init__" (defArgs L.ini) (defBody L.ini) (defScope L.ini) (.ref T) kV doc pm an cdv ct) ⟨us, []⟩ = seqItems? (.ref T) >>= k ∧ k (some its.toArray) = pure ((["self", "code", "place"] : List Str).zip (us ++ its.drop j))
def LawT.IsI (L : LawT) : Prop := ∃ q1 q2 q3 q4 r1 r2 r3 r4, defBody L.ini = initB q1 q2 q3 q4 r1 r2 r3 r4
theorem facts (L : LawT) {P : Program} {w : World} {K : PySem.W.Frag} {h : Heap} {mg : Str → Option Value} {fl : Nat} {a : Addr} (X : K.In h) (G : h.Ns mainGlobals mg) (hl : fl < L.J.nf) (hfa : mg (L.J.nm fl) = some (.ref a)) (hp : L.ps fl = [("script" : Str)])
    (ok : L.ok = true) (hB : L.Bind) (hI : L.J.nc ≠ 0 → L.IsI ∧ L.BindI 0 ∧ L.BindI 1) (c : SaysP L.fa L.fn L.ex K) (k : Nat) :
    ∃ fd : FuncData, (∀ (s : Shared) (u : Value), BindsTo s fd ⟨[u], []⟩ [("script", u)]) ∧ ∀ base : Heap, K.In base → base.Ns mainGlobals mg → FnOk P w K mg base (L2.CX P w) (k + 2) a fd ["script"] (spF L.J L.fs (fun c => He.ga K (L.J.cn c)) K k fl) := by
  unfold LawT.ok at ok
  rw [Bool.and_eq_true, List.all_eq_true] at ok
  obtain ⟨ok1, okI⟩ := ok
  have glo : ∀ f, f < L.J.nf → mg (L.J.nm f) = some (.ref (He.ga K (L.J.nm f))) := fun f hf =>
    He.glo_ok X G (SaysD.mem c.d (List.mem_append_right _ (List.mem_map.mpr ⟨f, List.mem_range.mpr hf, rfl⟩)))
  have fre : ∀ x ∈ blts, mg x = none := fun x hx => He.free_ok X G (SaysD.mem c.d (List.mem_append_left _ (List.mem_append_left _ (List.mem_map.mpr ⟨x, hx, rfl⟩))))
  have hgc : ∀ x n, L.J.gc.lookup x = some n → ∃ t, mg x = some (.int n t) := fun x n h => by
    have hm : (x, n) ∈ L.J.gc := by
      revert h
      generalize L.J.gc = l
      induction l with
      | nil => intro h; cases h
      | cons q l ih =>
        intro h
        rw [List.lookup_cons] at h
        split at h
        · rename_i e
          cases h
          rw [eq_of_beq e]
          exact List.mem_cons_self
        · exact List.mem_cons_of_mem _ (ih h)
    exact He.int_ok X G (SaysD.mem c.d (List.mem_append_left _ (List.mem_append_right _ (List.mem_map.mpr ⟨(x, n), hm, rfl⟩))))
  have df : ∀ f, f < L.J.nf → ∃ fd, Fun K (L.J.nm f) (L.J.nm f) (L.st f) (He.ga K (L.J.nm f)) fd := fun f hf => by
    obtain ⟨fd, F⟩ := SaysD.memD c.d (d := L.dfn f) (List.mem_append_right _ (List.mem_map.mpr ⟨f, List.mem_range.mpr hf, rfl⟩))
    exact ⟨fd, fun_of F⟩
  have nf : ∀ f, f < L.J.nf → ∀ fd, Fun K (L.J.nm f) (L.J.nm f) (L.st f) (He.ga K (L.J.nm f)) fd → FnD L.J L.fs K mg f (He.ga K (L.J.nm f)) fd (L.ps f) := fun f hf fd F => by
    have o := ok1 f (List.mem_range.mpr hf)
    unfold LawT.ok1 at o
    split at o
    · rename_i Fn hFn
      simp only [Bool.and_eq_true, decide_eq_true_eq] at o
      obtain ⟨⟨⟨o1, o2⟩, o3⟩, o4⟩ := o
      exact ⟨⟨_, _, _, L.N f, Fn, hFn, F, scopeB_ok o1, o2, o3, o4⟩, glo f hf, F.binds fun kV doc pm an cdv ct us hl => hB f hf kV doc pm an cdv ct us hl⟩
    · cases o
  have er : ∀ c', c' < L.J.nc → Err K mg (L.J.cn c') := fun c' hc => by
    have := c.x
    unfold LawT.ex at this
    rw [Bool.and_eq_true, List.all_eq_true] at this
    exact errB_ok X G (this.1 c' (List.mem_range.mpr hc))
  have ct : ∀ z c', z < L.J.nc → c' < L.J.nc → L.J.cat z c' = true → PySem.W.exmOne K (.ref (He.ga K (L.J.cn c'))) (.ref (He.ga K (L.J.cn z))) = some true := fun z c' hz hc e => by
    have := c.x
    unfold LawT.ex at this
    rw [Bool.and_eq_true, List.all_eq_true, List.all_eq_true] at this
    have := List.all_eq_true.mp (this.2 z (List.mem_range.mpr hz)) c' (List.mem_range.mpr hc)
    rw [e] at this
    simpa using this
  obtain ⟨fd, F⟩ := df fl hl
  have D := nf fl hl fd F
  have e0 := hfa.symm.trans (glo fl hl)
  cases e0
  refine ⟨fd, fun s u => ?_, fun base hb hg => ?_⟩
  · have hBl := hB fl hl
    obtain ⟨oc, od, kV, doc, pm, an, cdv, ct', osl, e, _⟩ := F.ex
    subst e
    have := hBl kV doc pm an cdv ct' [u] (by rw [hp]; rfl)
    rw [hp] at this
    exact .of_eq this
  · have hE : ∀ Y : Cx, Y.prog = P → Y.w = w → Y.K = K → Y.mg = mg → Y.base = base → ExcOk L.J (fun c => He.ga K (L.J.cn c)) Y := fun Y e1 e2 e3 e4 e5 => by
      subst e1 e2 e3 e4 e5
      refine ⟨fun c' hc => ?_, ct⟩
      have E := er c' hc
      have hn : L.J.nc ≠ 0 := by omega
      obtain ⟨⟨q1, q2, q3, q4, r1, r2, r3, r4, hb'⟩, b0, b1⟩ := hI hn
      unfold LawT.okI at okI
      simp only [Bool.or_eq_true, beq_iff_eq, hn, false_or, Bool.and_eq_true, decide_eq_true_eq] at okI
      obtain ⟨⟨⟨i1, i2⟩, i3⟩, i4⟩ := okI
      obtain ⟨fdI, FI⟩ := SaysD.memD c.d (d := L.dIni) (List.mem_append_left _ (by rw [if_neg hn]; exact List.mem_singleton_self _))
      have FI' : FunD Y.K "__init__" "WorkError.__init__" (defArgs L.ini) (initB q1 q2 q3 q4 r1 r2 r3 r4) (defScope L.ini) [.int 0] [] (He.fAd Y.K initAt) fdI := by
        rw [← hb']; exact FI
      have B0 : ∃ ds, Binds Y.K fdI ["self", "code", "place"] ds ∧ Vals [.int 0] ds := by
        obtain ⟨ds, v, b⟩ := FI'.binds1 (ps := ["self", "code", "place"]) 2 0 (by simp) (by simp) fun T kV doc pm an cdv ct us its h1 h2 => by
          rw [← hb']
          exact b0 T kV doc pm an cdv ct us its h1 h2
        exact ⟨ds, b, v⟩
      have B1 : Binds Y.K fdI ["self", "code", "place"] [] := by
        obtain ⟨ds, v, b⟩ := FI'.binds1 (ps := ["self", "code", "place"]) 3 1 (by simp) (by simp) fun T kV doc pm an cdv ct us its h1 h2 => by
          rw [← hb']
          exact b1 T kV doc pm an cdv ct us its h1 h2
        cases v
        exact b
      obtain ⟨ds, b, v⟩ := B0
      exact ⟨E.m, E.o, E.f, E.n1, E.n2, _, fdI, _, ds, E.i, E.t, init_ok FI' (scopeB_ok i1) i2 i3 i4, b, v, B1⟩
    have nf' : ∀ f, f < L.J.nf → ∃ a fd ps, FnD L.J L.fs K mg f a fd ps := fun f hf => by
      obtain ⟨fd, F⟩ := df f hf
      exact ⟨_, fd, _, nf f hf fd F⟩
    have := (fn_one (w := w) (base := base) (ca := fun c => He.ga K (L.J.cn c)) nf' fre hgc hE k fl _ fd _ D).1
    rwa [hp] at this
end PV
set_option Elab.async false
set_option linter.all false
set_option maxRecDepth 100000
set_option maxHeartbeats 1000000
/-! PV34: the walk's end, from the plain law. -/
namespace PV
open PySem PySem.Spec PyProof.Rows L2
theorem walk_P {l : PySem.W.OpenLaw} {k fl : Nat} {q : Program} {loose : List Str} {XP : (Str → Option Value) → Heap → Prop} {d : DefRec} (L : LawT) (n63 : l.most = some 63) (dd : d.params.defaults = []) (rm : Room (k + 2) callerA) (hl : fl < L.J.nf) (hn : d.name = L.J.nm fl) (hp : L.ps fl = [("script" : Str)])
    (ok : L.ok = true) (hB : L.Bind) (hI : L.J.nc ≠ 0 → L.IsI ∧ L.BindI 0 ∧ L.BindI 1)
    (plain : ∀ ns : List Int, ns.length ≤ 63 → ∃ outs, runF L.fs k fl [.scr ns] = .ok ((true, .bool true), outs)) : PySem.W.WalkO q loose XP L.hk.says l.row.toRowW d [] (fun f vs => PySem.call f vs) :=
  Att.attach_call n63 dd fun w s0 s1 mg mb fa o pm cd doc a vs ns G Y ho hd hcd hmg hobj hints hlen hg => by
    obtain ⟨K, KX, c⟩ := Y
    rw [hn] at hmg
    obtain ⟨fd, hb, hF⟩ := facts L (P := l.prog) (w := w) KX G.T.g hl hmg hp ok hB hI c k
    obtain ⟨outs, hr⟩ := plain ns hlen
    refine law_call KX G.T.g G.T.b G.T.builtins G.T.nolimit hg hobj hints (by rw [sizeLine_eq]; omega) rm hF hb (fun H hO hS => law_sp hO hS hr) fun H e s' z => ?_
    obtain ⟨_, _, _, _, _, _, _, _, _, _, _, _, z⟩ := z
    exact z
end PV
set_option Elab.async false
set_option linter.all false
set_option maxRecDepth 100000
/-! PW0: what must hold so that the reading's run ends well: computed from the tree. -/
namespace PV
open PySem
/-- where simp is not to look: what a tag is of -/
inductive Tag {α : Sort u} (a : α) : Type where
  | mk
/-- .. and what a statement's kind hangs on -/
abbrev Hide {α : Sort u} (_a : α) : Type := Prop
abbrev XE := Nat → D → D → Prop
def WP {α : Type} (x : Res α) (Q : α → Prop) (E : XE) : Prop := match x with
  | .ok a => Q a
  | .exc c k p => E c k p
  | .stuck => False
theorem WP.mono {α : Type} {x : Res α} {Q Q' : α → Prop} {E : XE} (h : WP x Q E) (i : ∀ a, Q a → Q' a) : WP x Q' E := by
  cases x <;> first | exact i _ h | exact h
theorem WP.monoE {α : Type} {x : Res α} {Q Q' : α → Prop} {E E' : XE} (h : WP x Q E) (i : ∀ a, Q a → Q' a) (j : ∀ c k p, E c k p → E' c k p) : WP x Q' E' := by
  cases x <;> first | exact i _ h | exact j _ _ _ h | exact h
theorem WP.bind {α β : Type} {x : Res α} {f : α → Res β} {Q : β → Prop} {E : XE} (h : WP x (fun a => WP (f a) Q E) E) : WP (x >>= f) Q E := by
  cases x <;> exact h
theorem WP.ok {α : Type} {a : α} {Q : α → Prop} {E : XE} (h : Q a) : WP (Res.ok a) Q E := h
theorem WP.ite {α : Type} {c : Prop} [Decidable c] {x : Res α} {Q : α → Prop} {E : XE} (hc : c) (h : WP x Q E) : WP (if c then x else .stuck) Q E := by
  rw [if_pos hc]; exact h
/-- the values' flags, as they count -/
def nrm (r : R) : R := (r.1 || imm r.2, r.2)
def kp (b e : Bool) : Prop := b = true ∨ e = false
def kpv (b e f : Bool) : Prop := b = true ∨ e = false ∨ f = true
theorem keepv_of {r : R} {e f : Bool} (h : kpv (r.1 || imm r.2) e f) : (keeps r e || f) = true := by
  unfold keeps
  rcases h with h | h | h
  · cases h1 : r.1 <;> simp_all
  · simp [h]
  · simp [h]
theorem keeps_of {r : R} {e : Bool} (h : kp (r.1 || imm r.2) e) : keeps r e = true := by
  unfold keeps
  rcases h with h | h
  · cases h1 : r.1 <;> simp_all
  · simp [h]
abbrev EK := Bool → D → Env → Prop
/-! ### by values -/
def gk (c : Option Cell) (K : Bool → D → Prop) : Hide K := match c with
  | some (.scr _) => False
  | some c => K (imm c.d) c.d
  | none => False
def gx (ρ : Env) (i : Nat) (K : EK) : Hide K := match get ρ i with
  | some (.own d) => K true d (if imm d then ρ else ρ.set i none)
  | some (.scr _) => False
  | some c => K (imm c.d) c.d ρ
  | none => False
def w2 (o : O2) (x y : D) (K : D → Prop) : Hide K := match op2 o x y with
  | .ok d => K d
  | _ => False
def w1 (o : O1) (x : D) (K : D → Prop) : Hide K := match op1 o x with
  | .ok d => K d
  | _ => False
def wb (x : D) (A B : Prop) : Prop := match x with
  | .bool true => A
  | .bool false => B
  | _ => False
/-- .. of two ways on -/
def wbS (x : D) (A B : Prop) (_t : Tag (A ∧ B)) : Prop := wb x A B
def wv (x : D) (K : Bool → Prop) : Hide K := match x with
  | .bool b => K b
  | _ => False
def wand (x : D) (t : (Bool → Prop) → Prop) (K : Bool → Prop) : Hide K := match x with
  | .bool true => t K
  | .bool false => K false
  | _ => False
def wor (x : D) (t : (Bool → Prop) → Prop) (K : Bool → Prop) : Hide K := match x with
  | .bool true => K true
  | .bool false => t K
  | _ => False
/-- the same where the second changes things -/
def wandE (x : D) (t : (Bool → Env → Prop) → Prop) (ρ : Env) (K : Bool → Env → Prop) : Hide K := match x with
  | .bool true => t K
  | .bool false => K false ρ
  | _ => False
def worE (x : D) (t : (Bool → Env → Prop) → Prop) (ρ : Env) (K : Bool → Env → Prop) : Hide K := match x with
  | .bool true => K true ρ
  | .bool false => t K
  | _ => False
/-- one value of two, without effects -/
def wite (x : D) (t u : (Bool → D → Prop) → Prop) (K : Bool → D → Prop) (_t : Tag K) : Prop := match x with
  | .bool true => t K
  | .bool false => u K
  | _ => False
def wi (x : D) (K : Int → Prop) : Hide K := match x with
  | .int i => K i
  | _ => False
def wbi (f : Bi) (xs : List D) (K : D → Prop) : Hide K := match bi f xs with
  | .ok d => K d
  | _ => False
def wmt (m : Mt) (x : D) (xs : List D) (K : D → Prop) : Hide K := match mt m x xs with
  | .ok d => K d
  | _ => False
def wsub (x i : D) (K : D → Prop) : Hide K := match sub x i with
  | .ok d => K d
  | _ => False
def wslc (x : D) (l h : Option Int) (K : D → Prop) : Hide K := match slc x l h with
  | .ok d => K d
  | _ => False
def wrev (x : D) (K : D → Prop) : Hide K := match rev x with
  | .ok d => K d
  | _ => False
def wsset (x : D) (K : D → Prop) : Hide K := match ssetD x with
  | .ok d => K d
  | _ => False
def wlist (x : D) (K : List D → Prop) : Hide K := match x with
  | .list l => K l
  | _ => False
def wits (x : D) (K : List D → Prop) : Hide K := match x with
  | .list l => K l
  | .tuple l => K l
  | .str s => K (signsD s)
  | _ => False
def witr (x : D) (K : List D → Prop) : Hide K := match x with
  | .list l => K l
  | .tuple l => K l
  | _ => False
/-- the list that slot i owns -/
def wown (ρ : Env) (i : Nat) (K : List D → Prop) : Hide K := match get ρ i with
  | some (.own (.list ds)) => K ds
  | _ => False
def wscr (ρ : Env) (i : Nat) (K : List Int → Prop) : Hide K := match get ρ i with
  | some (.scr l) => K l
  | _ => False
def wzip (x y : D) (K : List D → Prop) : Hide K := match zipV x y with
  | .ok l => K l
  | _ => False
def wat (ds : List D) (i : Int) (K : D → Prop) : Hide K := match atD ds i with
  | .ok d => K d
  | _ => False
def wset (ds : List D) (i : Int) (d : D) (K : List D → Prop) : Hide K := match setAt ds i d with
  | .ok l => K l
  | _ => False
def allN (xs : List R) : Bool := xs.all fun x => x.1
def Ar.ok : Ar → Bool
  | .ref _ => false
  | _ => true
/-- a call without names handed over -/
def Call (cf : CF) (f : Nat) (cs : List Cell) (Q : D → Prop) (E : XE) : Prop := WP (cf f cs) (fun p => p.1.1 = true ∧ p.2.length = cs.length ∧ Q p.1.2) E
def wcall (cf : CF) (f : Nat) (sp : Bool) (xs : List Ar) (ρ : Env) (K : EK) (E : XE) (_t : Tag K) : Prop := WP (callA cf f sp xs ρ) (fun p => K (p.1.1 || imm p.1.2) p.1.2 p.2) E
def bodyC (cf : CF) (elt : E) (tgt : List Nat) (single : Bool) (cnd : Es) : D → Env → Res (Option R × Env) := fun d σ => do
  let σ1 ← bindT .bor tgt single d σ
  let (c, σ2) ← tests cf cnd σ1
  if c then
    let (r, σ3) ← ev cf elt σ2
    .ok (some r, σ3)
  else .ok (none, σ2)
/-- a comprehension, of its items -/
def wcomp (cf : CF) (elt : E) (tgt : List Nat) (single : Bool) (cnd : Es) (own : List Nat) (fz : List Nat) (ds : List D) (ρ1 : Env) (K : EK) (E : XE) (_t : Tag K) : Prop :=
  own.all (fun i => immAt ρ1 i && decide (i < ρ1.length)) = true ∧
  if eff elt || effs cnd then ds.all imm = true ∧ noBor ρ1 = true ∧ WP (noExc (compL (bodyC cf elt tgt single cnd) own ds (wipe (freezes ρ1 fz) own))) (fun p => lenOk p.1.length = true ∧ p.2.length = ρ1.length ∧ K true (.list p.1) (restore ρ1 p.2 own)) E
  else WP (noExc (compP (bodyC cf elt tgt single cnd) (wipe ρ1 own) ds)) (fun p => lenOk p.2.length = true ∧ K p.1 (.list p.2) ρ1) E

/-- a turn of a comprehension's first clause -/
def body2C (cf : CF) (elt : E) (tgt : List Nat) (single : Bool) (cnd : Es) (tgt1 : List Nat) (single1 : Bool) (it1 : It) (cnd1 : Es) : D → Env → Res (Bool × List D) := fun d σ => do
  let σ1 ← bindT .bor tgt single d σ
  let (c, σ2) ← tests cf cnd σ1
  if c then
    let (ds1, σ3) ← evi cf it1 σ2
    if tgt1.all (fun i => immAt σ3 i && decide (i < σ3.length)) then compP (bodyC cf elt tgt1 single1 cnd1) (wipe σ3 tgt1) ds1 else .stuck
  else .ok (true, [])
/-- a comprehension of two clauses, of its first items -/
def wcomp2 (cf : CF) (elt : E) (tgt : List Nat) (single : Bool) (cnd : Es) (own tgt1 : List Nat) (single1 : Bool) (it1 : It) (cnd1 : Es) (ds : List D) (ρ1 : Env) (K : EK) (E : XE) (_t : Tag K) : Prop :=
  own.all (fun i => immAt ρ1 i && decide (i < ρ1.length)) = true ∧ (eff elt || effs cnd || effi it1 || effs cnd1) = false ∧
  WP (noExc (compP2 (body2C cf elt tgt single cnd tgt1 single1 it1 cnd1) (wipe ρ1 own) ds)) (fun p => lenOk p.2.length = true ∧ K p.1 (.list p.2) ρ1) E

mutual
def we (cf : CF) : E → Env → EK → XE → Prop
  | .var i, ρ, K, _ => gk (get ρ i) fun b d => K b d ρ
  | .int n, ρ, K, _ => K true (.int n) ρ
  | .str s, ρ, K, _ => K true (.str s) ρ
  | .bl b, ρ, K, _ => K true (.bool b) ρ
  | .non, ρ, K, _ => K true .none ρ
  | .op2 o a b, ρ, K, E => we cf a ρ (fun b1 x ρ1 => we cf b ρ1 (fun _ y ρ2 => kp b1 (eff b) ∧ w2 o x y fun d => K (flat d) d ρ2) E) E
  | .op1 o a, ρ, K, E => we cf a ρ (fun _ x ρ1 => w1 o x fun d => K true d ρ1) E
  | .and a b, ρ, K, E => if eff b = true then we cf a ρ (fun _ x ρ1 => wandE x (fun K' => we cf b ρ1 (fun _ y ρ2 => wv y fun q => K' q ρ2) E) ρ1 fun q ρ2 => K true (.bool q) ρ2) E else we cf a ρ (fun _ x ρ1 => wand x (fun K' => we cf b ρ1 (fun _ y ρ2 => ρ2 = ρ1 ∧ wv y K') E) fun q => K true (.bool q) ρ1) E
  | .or a b, ρ, K, E => if eff b = true then we cf a ρ (fun _ x ρ1 => worE x (fun K' => we cf b ρ1 (fun _ y ρ2 => wv y fun q => K' q ρ2) E) ρ1 fun q ρ2 => K true (.bool q) ρ2) E else we cf a ρ (fun _ x ρ1 => wor x (fun K' => we cf b ρ1 (fun _ y ρ2 => ρ2 = ρ1 ∧ wv y K') E) fun q => K true (.bool q) ρ1) E
  | .ite c a b, ρ, K, E => we cf c ρ (fun _ x ρ1 => wite x (fun K' => we cf a ρ1 (fun b d ρ2 => ρ2 = ρ1 ∧ K' b d) E) (fun K' => we cf b ρ1 (fun b d ρ2 => ρ2 = ρ1 ∧ K' b d) E) (fun b d => K b d ρ1) .mk) E
  | .cmp3 o p a b c, ρ, K, E => we cf a ρ (fun b1 x ρ1 => we cf b ρ1 (fun b2 y ρ2 => kp b1 (eff b || eff c) ∧ kp b2 (eff c) ∧ w2 o x y fun d => wand d (fun K' => we cf c ρ2 (fun _ z ρ3 => ρ3 = ρ2 ∧ w2 p y z fun d2 => wv d2 K') E) fun q => K true (.bool q) ρ2) E) E
  | .bi f as, ρ, K, E => wes cf as ρ (fun xs ρ1 => wbi f (xs.map (·.2)) fun d => K (flat d) d ρ1) E
  | .mt m o as, ρ, K, E => we cf o ρ (fun b x ρ1 => wlist x fun _ => wes cf as ρ1 (fun xs ρ2 => kp b (effs as) ∧ wmt m x (xs.map (·.2)) fun d => K (imm d) d ρ2) E) E
  | .sub o i, ρ, K, E => we cf o ρ (fun b x ρ1 => we cf i ρ1 (fun _ y ρ2 => kpv b (eff i) (isFz ρ o) ∧ wsub x y fun d => K (imm d) d ρ2) E) E
  | .slc o lo hi, ρ, K, E => we cf o ρ (fun b x ρ1 => wo cf lo ρ1 (fun l ρ2 => wo cf hi ρ2 (fun h ρ3 => kp b (effo lo || effo hi) ∧ wslc x l h fun d => K (flat d) d ρ3) E) E) E
  | .rev o, ρ, K, E => we cf o ρ (fun _ x ρ1 => wrev x fun d => K (flat d) d ρ1) E
  | .tup es, ρ, K, E => wes cf es ρ (fun xs ρ1 => lenOk xs.length = true ∧ K (allN xs) (.tuple (xs.map (·.2))) ρ1) E
  | .lst es, ρ, K, E => wes cf es ρ (fun xs ρ1 => lenOk xs.length = true ∧ K (allN xs) (.list (xs.map (·.2))) ρ1) E
  | .call f as, ρ, K, E => wa cf as ρ (fun xs ρ1 => wcall cf f (sepE as) xs ρ1 K E .mk) E
  | .ref _, _, _, _ => False
  | .scr _, _, _, _ => False
  | .scrL i, ρ, K, _ => wscr ρ i fun l => lenOk l.length = true ∧ K true (.list (l.map .int)) ρ
  | .pop0 i, ρ, K, _ => wown ρ i fun ds => noBor ρ = true ∧ ∃ d, ds.getLast? = some d ∧ imm d = true ∧ K true d (ρ.set i (some (.own (.list ds.dropLast))))
  | .pop1 i e, ρ, K, E => wown ρ i fun _ => we cf e ρ (fun _ x ρ1 => wown ρ1 i fun ds => wi x fun k => noBor ρ1 = true ∧ smallI k = true ∧ ∃ j d, ixN ds.length k = some j ∧ ds[j]? = some d ∧ imm d = true ∧ K true d (ρ1.set i (some (.own (.list (ds.eraseIdx j)))))) E
  | .comp elt tgt single it cnd own, ρ, K, E => wit cf it ρ (fun ds ρ1 => wcomp cf elt tgt single cnd own (varsi it) ds ρ1 K E .mk) E
  | .rng a b, ρ, K, E => we cf a ρ (fun _ x ρ1 => we cf b ρ1 (fun _ y ρ2 => wi x fun i => wi y fun j => smallI i = true ∧ smallI j = true ∧ lenOk (j - i).toNat = true ∧ K true (.list (rangeD i j)) ρ2) E) E
  | .rng1 b, ρ, K, E => we cf b ρ (fun _ y ρ1 => wi y fun j => smallI j = true ∧ lenOk j.toNat = true ∧ K true (.list (rangeD 0 j)) ρ1) E
  | .isBool e, ρ, K, E => we cf e ρ (fun _ x ρ1 => K true (.bool (isBoolD x)) ρ1) E
  | .isTup e, ρ, K, E => we cf e ρ (fun _ x ρ1 => K true (.bool (isTupD x)) ρ1) E
  | .isInt e, ρ, K, E => we cf e ρ (fun _ x ρ1 => K true (.bool (isIntD x)) ρ1) E
  | .sset e, ρ, K, E => we cf e ρ (fun _ x ρ1 => wsset x fun d => K true d ρ1) E
  | .comp2 elt tgt single it cnd own tgt1 single1 it1 cnd1, ρ, K, E => wit cf it ρ (fun ds ρ1 => wcomp2 cf elt tgt single cnd own tgt1 single1 it1 cnd1 ds ρ1 K E .mk) E
def wes (cf : CF) : Es → Env → (List R → Env → Prop) → XE → Prop
  | .nil, ρ, K, _ => K [] ρ
  | .cons e r, ρ, K, E => we cf e ρ (fun b x ρ1 => wes cf r ρ1 (fun xs ρ2 => kp b (effs r) ∧ K ((b, x) :: xs) ρ2) E) E
def wa (cf : CF) : Es → Env → (List Ar → Env → Prop) → XE → Prop
  | .nil, ρ, K, _ => K [] ρ
  | .cons e r, ρ, K, E => match e with
    | .ref i => (get ρ i).isSome = true ∧ wa cf r ρ (fun xs ρ2 => K (.ref i :: xs) ρ2) E
    | .scr i => (get ρ i).isSome = true ∧ wa cf r ρ (fun xs ρ2 => K (.scr i :: xs) ρ2) E
    | e => we cf e ρ (fun b x ρ1 => wa cf r ρ1 (fun xs ρ2 => kp b (effs r) ∧ K (.val (b, x) :: xs) ρ2) E) E
def wo (cf : CF) : Oe → Env → (Option Int → Env → Prop) → XE → Prop
  | .none, ρ, K, _ => K none ρ
  | .some e, ρ, K, E => we cf e ρ (fun _ x ρ1 => wi x fun i => K (some i) ρ1) E
def wt (cf : CF) : Es → Env → (Bool → Env → Prop) → XE → Prop
  | .nil, ρ, K, _ => K true ρ
  | .cons e r, ρ, K, E => we cf e ρ (fun _ x ρ1 => wand x (fun K' => wt cf r ρ1 (fun q ρ2 => ρ2 = ρ1 ∧ K' q) E) fun q => K q ρ1) E
def wit (cf : CF) : It → Env → (List D → Env → Prop) → XE → Prop
  | .scr i, ρ, K, _ => wscr ρ i fun l => K (l.map .int) ρ
  | .seq e, ρ, K, E => we cf e ρ (fun _ x ρ1 => wits x fun l => K l ρ1) E
  | .r1 a, ρ, K, E => we cf a ρ (fun _ x ρ1 => wi x fun i => smallI i = true ∧ K (rangeD 0 i) ρ1) E
  | .r2 a b, ρ, K, E => we cf a ρ (fun _ x ρ1 => we cf b ρ1 (fun _ y ρ2 => wi x fun i => wi y fun j => smallI i = true ∧ smallI j = true ∧ K (rangeD i j) ρ2) E) E
  | .r3 a b c, ρ, K, E => we cf a ρ (fun _ x ρ1 => we cf b ρ1 (fun _ y ρ2 => we cf c ρ2 (fun _ z ρ3 => wi x fun i => wi y fun j => wi z fun k => Builtin.Range.small i j k = true ∧ k ≠ 0 ∧ k.natAbs < 1000000 ∧ K (rangeC i k (stepsOf i j k)) ρ3) E) E) E
  | .enum e, ρ, K, E => we cf e ρ (fun _ x ρ1 => wits x fun l => K (enumD 0 l) ρ1) E
  | .zip a b, ρ, K, E => we cf a ρ (fun b1 x ρ1 => we cf b ρ1 (fun _ y ρ2 => kp b1 (eff b) ∧ wzip x y fun l => K l ρ2) E) E
  | .rv e, ρ, K, E => we cf e ρ (fun _ x ρ1 => witr x fun l => K l.reverse ρ1) E
end
mutual
def wx (cf : CF) : E → Env → EK → XE → Prop
  | .var i, ρ, K, _ => gx ρ i K
  | .tup es, ρ, K, E => wxs cf es ρ (fun xs ρ1 => lenOk xs.length = true ∧ K true (.tuple (xs.map (·.2))) ρ1) E
  | .lst es, ρ, K, E => wxs cf es ρ (fun xs ρ1 => lenOk xs.length = true ∧ K true (.list (xs.map (·.2))) ρ1) E
  | e, ρ, K, E => we cf e ρ K E
def wxs (cf : CF) : Es → Env → (List R → Env → Prop) → XE → Prop
  | .nil, ρ, K, _ => K [] ρ
  | .cons e r, ρ, K, E => wx cf e ρ (fun b x ρ1 => wxs cf r ρ1 (fun xs ρ2 => b = true ∧ K ((b, x) :: xs) ρ2) E) E
end
end PV
set_option Elab.async false
set_option linter.all false
set_option maxRecDepth 100000
set_option maxHeartbeats 1000000
/-! PW1: .. and that it is enough. -/
namespace PV
open PySem
theorem flat_imm (d : D) : (flat d || imm d) = flat d := by
  cases d <;> simp [flat, imm]
theorem imm_flat {d : D} (h : imm d = true) : flat d = true := by have := flat_imm d; rw [h] at this; simpa using this.symm
theorem allN_imm : ∀ xs : List R, (allN (xs.map nrm) || immAll (xs.map (·.2))) = allN (xs.map nrm)
  | [] => rfl
  | x :: xs => by
    have ih := allN_imm xs
    unfold allN at *
    simp only [List.map_cons, List.all_cons, immAll, nrm] at *
    cases h1 : x.1 <;> cases h2 : imm x.2 <;> simp_all
theorem allN_eq (xs : List R) : (xs.all fun x => x.1 || imm x.2) = allN (xs.map nrm) := by
  unfold allN
  rw [List.all_map]
  rfl
theorem map_nrm (xs : List R) : (xs.map nrm).map (·.2) = xs.map (·.2) := by
  rw [List.map_map]; rfl
def narm : Ar → Ar
  | .val r => .val (nrm r)
  | a => a
theorem hasRef_n : ∀ xs : List Ar, hasRef (xs.map narm) = hasRef xs
  | [] => rfl
  | .val _ :: xs => by simp only [List.map_cons, narm, hasRef]; exact hasRef_n xs
  | .scr _ :: xs => by simp only [List.map_cons, narm, hasRef]; exact hasRef_n xs
  | .ref _ :: xs => rfl
theorem arVals_n : ∀ xs : List Ar, arVals (xs.map narm) = arVals xs
  | [] => rfl
  | .val _ :: xs => by simp only [List.map_cons, narm, nrm, arVals]; rw [arVals_n xs]
  | .scr _ :: xs => by simp only [List.map_cons, narm, arVals]; exact arVals_n xs
  | .ref _ :: xs => by simp only [List.map_cons, narm, arVals]; exact arVals_n xs
theorem arRefs_n : ∀ xs : List Ar, arRefs (xs.map narm) = arRefs xs
  | [] => rfl
  | .val _ :: xs => by simp only [List.map_cons, narm, arRefs]; exact arRefs_n xs
  | .scr _ :: xs => by simp only [List.map_cons, narm, arRefs]; exact arRefs_n xs
  | .ref _ :: xs => by simp only [List.map_cons, narm, arRefs]; rw [arRefs_n xs]
theorem arCells_n (ρ : Env) : ∀ xs : List Ar, arCells ρ (xs.map narm) = arCells ρ xs
  | [] => rfl
  | .val _ :: xs => by simp only [List.map_cons, narm, nrm, arCells]; rw [arCells_n ρ xs]
  | .scr _ :: xs => by simp only [List.map_cons, narm, arCells]; rw [arCells_n ρ xs]
  | .ref _ :: xs => by simp only [List.map_cons, narm, arCells]; rw [arCells_n ρ xs]
theorem arBack_n : ∀ (xs : List Ar) (ρ : Env) (outs : List (Option Cell)), arBack ρ (xs.map narm) outs = arBack ρ xs outs
  | [], _, _ => rfl
  | .val _ :: xs, ρ, outs => by
    cases outs with
    | nil => rfl
    | cons o outs => simp only [List.map_cons, narm, arBack]; exact arBack_n xs _ _
  | .scr _ :: xs, ρ, outs => by
    cases outs with
    | nil => rfl
    | cons o outs => simp only [List.map_cons, narm, arBack]; exact arBack_n xs _ _
  | .ref _ :: xs, ρ, outs => by
    cases outs with
    | nil => rfl
    | cons o outs =>
      cases o with
      | none => rfl
      | some c => cases c <;> first | rfl | (simp only [List.map_cons, narm, arBack]; exact arBack_n xs _ _)
theorem callA_n (cf : CF) (f : Nat) (sp : Bool) (xs : List Ar) (ρ : Env) : callA cf f sp (xs.map narm) ρ = callA cf f sp xs ρ := by
  unfold callA
  rw [hasRef_n, arVals_n, arRefs_n, arCells_n]
  simp only [arBack_n]
theorem op2_noExc {o : O2} {x y : D} {c : Nat} {k p : D} : op2 o x y = .exc c k p → False := by
  intro h
  unfold op2 at h
  split at h <;> first
    | cases h
    | (split at h <;> cases h)
    | (unfold eqD at h; split at h <;> cases h)
    | (unfold inD at h; split at h <;> cases h)
theorem w2_ok {o : O2} {x y : D} {K : D → Prop} {E : XE} (h : w2 o x y K) : WP (noExc (op2 o x y)) K E := by
  unfold w2 at h
  split at h
  · rename_i e; (try rw [e]); exact h
  · exact h.elim
theorem w1_ok {o : O1} {x : D} {K : D → Prop} {E : XE} (h : w1 o x K) : WP (noExc (op1 o x)) K E := by
  unfold w1 at h
  split at h
  · rename_i e; (try rw [e]); exact h
  · exact h.elim
theorem wbi_ok {f : Bi} {xs : List D} {K : D → Prop} {E : XE} (h : wbi f xs K) : WP (noExc (bi f xs)) K E := by
  unfold wbi at h
  split at h
  · rename_i e; (try rw [e]); exact h
  · exact h.elim
theorem wmt_ok {m : Mt} {x : D} {xs : List D} {K : D → Prop} {E : XE} (h : wmt m x xs K) : WP (noExc (mt m x xs)) K E := by
  unfold wmt at h
  split at h
  · rename_i e; (try rw [e]); exact h
  · exact h.elim
theorem wsub_ok {x y : D} {K : D → Prop} {E : XE} (h : wsub x y K) : WP (noExc (sub x y)) K E := by
  unfold wsub at h
  split at h
  · rename_i e; (try rw [e]); exact h
  · exact h.elim
theorem wslc_ok {x : D} {l r : Option Int} {K : D → Prop} {E : XE} (h : wslc x l r K) : WP (noExc (slc x l r)) K E := by
  unfold wslc at h
  split at h
  · rename_i e; (try rw [e]); exact h
  · exact h.elim
theorem wrev_ok {x : D} {K : D → Prop} {E : XE} (h : wrev x K) : WP (noExc (rev x)) K E := by
  unfold wrev at h
  split at h
  · rename_i e; (try rw [e]); exact h
  · exact h.elim
theorem wsset_ok {x : D} {K : D → Prop} {E : XE} (h : wsset x K) : WP (noExc (ssetD x)) K E := by
  unfold wsset at h
  split at h
  · rename_i e; (try rw [e]); exact h
  · exact h.elim
theorem wat_ok {ds : List D} {i : Int} {K : D → Prop} {E : XE} (h : wat ds i K) : WP (atD ds i) K E := by
  unfold wat at h
  split at h
  · rename_i e; (try rw [e]); exact h
  · exact h.elim
theorem wset_ok {ds : List D} {i : Int} {d : D} {K : List D → Prop} {E : XE} (h : wset ds i d K) : WP (setAt ds i d) K E := by
  unfold wset at h
  split at h
  · rename_i e; (try rw [e]); exact h
  · exact h.elim
theorem wi_ok {x : D} {K : Int → Prop} {E : XE} (h : wi x K) : WP (asInt x) K E := by
  cases x <;> first | exact h | exact h.elim
theorem wb_ok {x : D} {A B : Prop} {E : XE} (h : wb x A B) : WP (asBool x) (fun b => if b then A else B) E := by
  cases x <;> first | exact h.elim | (rename_i b; cases b <;> exact h)
theorem wits_ok {x : D} {K : List D → Prop} {E : XE} (h : wits x K) : WP (itemsS x) K E := by
  cases x <;> first | exact h | exact h.elim
theorem witr_ok {x : D} {K : List D → Prop} {E : XE} (h : witr x K) : WP (itemsOf x) K E := by
  cases x <;> first | exact h | exact h.elim
theorem wlist_ok {x : D} {K : List D → Prop} {E : XE} (h : wlist x K) : WP (listOf x) K E := by
  cases x <;> first | exact h | exact h.elim
theorem wzip_ok {x y : D} {K : List D → Prop} {E : XE} (h : wzip x y K) : WP (zipV x y) K E := by
  unfold wzip at h
  split at h
  · rename_i e; (try rw [e]); exact h
  · exact h.elim
theorem wown_ok {ρ : Env} {i : Nat} {K : List D → Prop} {E : XE} (h : wown ρ i K) : WP (ownList ρ i) K E := by
  unfold wown at h
  unfold ownList
  split at h
  · rename_i e; (try rw [e]); exact h
  · exact h.elim
theorem gk_ok {ρ : Env} {i : Nat} {K : EK} {E : XE} (h : gk (get ρ i) fun b d => K b d ρ) : WP (rd ρ i) (fun r => K (r.1 || imm r.2) r.2 ρ) E := by
  unfold gk at h
  unfold rd
  split at h
  · exact h.elim
  · rename_i c hc e
    (try rw [e])
    cases c with
    | scr l => exact (hc l rfl).elim
    | _ => simpa [WP, Bool.or_self] using h
  · exact h.elim
variable {cf : CF}
mutual
theorem we_ok : ∀ (e : E) {ρ : Env} {K : EK} {E : XE}, we cf e ρ K E → WP (ev cf e ρ) (fun p => K (p.1.1 || imm p.1.2) p.1.2 p.2) E
  | .var i, ρ, K, E, h => by
    simp only [we] at h
    simp only [ev]
    exact WP.bind (gk_ok h)
  | .int n, ρ, K, E, h => by simpa only [ev, we, WP, Bool.true_or] using h
  | .str n, ρ, K, E, h => by simpa only [ev, we, WP, Bool.true_or] using h
  | .bl n, ρ, K, E, h => by simpa only [ev, we, WP, Bool.true_or] using h
  | .non, ρ, K, E, h => by simpa only [ev, we, WP, Bool.true_or] using h
  | .op2 o a b, ρ, K, E, h => by
    simp only [we] at h
    simp only [ev]
    refine WP.bind ((we_ok a h).mono fun p h => WP.bind ((we_ok b h).mono fun q h => WP.ite (keeps_of h.1) (WP.bind ((w2_ok h.2).mono fun d h => ?_))))
    exact WP.ok (by rw [flat_imm]; exact h)
  | .op1 o a, ρ, K, E, h => by
    simp only [we] at h
    simp only [ev]
    exact WP.bind ((we_ok a h).mono fun p h => WP.bind ((w1_ok h).mono fun d h => WP.ok h))
  | .and a b, ρ, K, E, h => by
    simp only [we] at h
    simp only [ev]
    split at h
    · refine WP.bind ((we_ok a h).mono fun p h => ?_)
      obtain ⟨⟨f, x⟩, ρ1⟩ := p
      cases x <;> first | exact h.elim | skip
      rename_i q
      cases q with
      | false => exact h
      | true =>
        refine (we_ok b (show we cf b ρ1 _ E from h)).mono fun p h => ?_
        obtain ⟨⟨f2, y⟩, ρ2⟩ := p
        cases y <;> first | exact h.elim | skip
        simp only [imm, Bool.or_true]
        exact h
    · refine WP.bind ((we_ok a h).mono fun p h => ?_)
      obtain ⟨⟨f, x⟩, ρ1⟩ := p
      cases x <;> first | exact h.elim | skip
      rename_i q
      cases q with
      | false => exact h
      | true =>
        refine (we_ok b (show we cf b ρ1 _ E from h)).mono fun p h => ?_
        obtain ⟨⟨f2, y⟩, ρ2⟩ := p
        obtain ⟨e, h⟩ := h
        cases y <;> first | exact h.elim | skip
        simp only [imm, Bool.or_true]
        simp only at e
        (try rw [e])
        exact h
  | .or a b, ρ, K, E, h => by
    simp only [we] at h
    simp only [ev]
    split at h
    · refine WP.bind ((we_ok a h).mono fun p h => ?_)
      obtain ⟨⟨f, x⟩, ρ1⟩ := p
      cases x <;> first | exact h.elim | skip
      rename_i q
      cases q with
      | true => exact h
      | false =>
        refine (we_ok b (show we cf b ρ1 _ E from h)).mono fun p h => ?_
        obtain ⟨⟨f2, y⟩, ρ2⟩ := p
        cases y <;> first | exact h.elim | skip
        simp only [imm, Bool.or_true]
        exact h
    · refine WP.bind ((we_ok a h).mono fun p h => ?_)
      obtain ⟨⟨f, x⟩, ρ1⟩ := p
      cases x <;> first | exact h.elim | skip
      rename_i q
      cases q with
      | true => exact h
      | false =>
        refine (we_ok b (show we cf b ρ1 _ E from h)).mono fun p h => ?_
        obtain ⟨⟨f2, y⟩, ρ2⟩ := p
        obtain ⟨e, h⟩ := h
        cases y <;> first | exact h.elim | skip
        simp only [imm, Bool.or_true]
        simp only at e
        (try rw [e])
        exact h
  | .ite c a b, ρ, K, E, h => by
    simp only [we] at h
    simp only [ev]
    refine WP.bind ((we_ok c h).mono fun p h => ?_)
    obtain ⟨⟨f, x⟩, ρ1⟩ := p
    cases x <;> first | exact h.elim | skip
    rename_i q
    cases q with
    | true =>
      refine (we_ok a (show we cf a ρ1 _ E from h)).mono fun p h => ?_
      rw [h.1]
      exact h.2
    | false =>
      refine (we_ok b (show we cf b ρ1 _ E from h)).mono fun p h => ?_
      rw [h.1]
      exact h.2
  | .cmp3 o p a b c, ρ, K, E, h => by
    simp only [we] at h
    simp only [ev]
    refine WP.bind ((we_ok a h).mono fun p h => WP.bind ((we_ok b h).mono fun q h => ?_))
    obtain ⟨h1, h2, h⟩ := h
    refine WP.ite (by rw [keeps_of h1, keeps_of h2]; rfl) (WP.bind ((w2_ok h).mono fun d h => ?_))
    cases d <;> first | exact h.elim | skip
    rename_i z
    cases z with
    | false => exact h
    | true =>
      show WP (ev cf c q.2 >>= _) _ _
      refine WP.bind ((we_ok c (show we cf c q.2 _ E from h)).mono fun p h => ?_)
      obtain ⟨⟨f3, z⟩, ρ3⟩ := p
      obtain ⟨e, h⟩ := h
      refine WP.bind ((w2_ok h).mono fun d h => ?_)
      cases d <;> first | exact h.elim | skip
      simp only at e
      (try rw [e])
      exact h
  | .bi f as, ρ, K, E, h => by
    simp only [we] at h
    simp only [ev]
    refine WP.bind ((wes_ok as h).mono fun p h => WP.bind ((wbi_ok (by rw [map_nrm] at h; exact h)).mono fun d h => WP.ok (by rw [flat_imm]; exact h)))
  | .mt m o as, ρ, K, E, h => by
    simp only [we] at h
    simp only [ev]
    refine WP.bind ((we_ok o h).mono fun p h => ?_)
    refine WP.bind ((wlist_ok h).mono fun l h => WP.bind ((wes_ok as h).mono fun q h => WP.ite (keeps_of h.1) (WP.bind ((wmt_ok (by have h := h.2; rw [map_nrm] at h; exact h)).mono fun d h => WP.ok (by rw [Bool.or_self]; exact h)))))
  | .sub o i, ρ, K, E, h => by
    simp only [we] at h
    simp only [ev]
    refine WP.bind ((we_ok o h).mono fun p h => WP.bind ((we_ok i h).mono fun q h => WP.ite (keepv_of h.1) (WP.bind ((wsub_ok h.2).mono fun d h => ?_))))
    exact WP.ok (by rw [Bool.or_self]; exact h)
  | .slc o lo hi, ρ, K, E, h => by
    simp only [we] at h
    simp only [ev]
    refine WP.bind ((we_ok o h).mono fun p h => WP.bind ((wo_ok lo h).mono fun q h => WP.bind ((wo_ok hi h).mono fun r h => WP.ite (keeps_of h.1) (WP.bind ((wslc_ok h.2).mono fun d h => ?_)))))
    exact WP.ok (by rw [flat_imm]; exact h)
  | .rev o, ρ, K, E, h => by
    simp only [we] at h
    simp only [ev]
    refine WP.bind ((we_ok o h).mono fun p h => WP.bind ((wrev_ok h).mono fun d h => ?_))
    exact WP.ok (by rw [flat_imm]; exact h)
  | .tup es, ρ, K, E, h => by
    simp only [we] at h
    simp only [ev]
    refine WP.bind ((wes_ok es h).mono fun p h => WP.ite (by simpa using h.1) (WP.ok ?_))
    have h := h.2
    rw [map_nrm] at h
    rw [allN_eq, imm, allN_imm]
    exact h
  | .lst es, ρ, K, E, h => by
    simp only [we] at h
    simp only [ev]
    refine WP.bind ((wes_ok es h).mono fun p h => WP.ite (by simpa using h.1) (WP.ok ?_))
    have h := h.2
    rw [map_nrm] at h
    rw [allN_eq, imm, Bool.or_false]
    exact h
  | .call f as, ρ, K, E, h => by
    simp only [we] at h
    simp only [ev]
    refine WP.bind ((wa_ok as h).mono fun p h => ?_)
    unfold wcall at h
    rwa [callA_n] at h
  | .ref _, ρ, K, E, h => by simp only [we] at h
  | .scr _, ρ, K, E, h => by simp only [we] at h
  | .scrL i, ρ, K, E, h => by
    simp only [we, wscr] at h
    simp only [ev]
    split at h
    · rename_i e
      (try rw [e])
      exact WP.ite h.1 (WP.ok h.2)
    · exact h.elim
  | .pop0 i, ρ, K, E, h => by
    simp only [we] at h
    simp only [ev]
    refine WP.bind ((wown_ok h).mono fun ds h => ?_)
    obtain ⟨h1, d, h2, h3, h4⟩ := h
    unfold lastD
    rw [h2]
    exact WP.ite (by rw [h1, h3]; rfl) (WP.ok h4)
  | .pop1 i e, ρ, K, E, h => by
    simp only [we] at h
    simp only [ev]
    refine WP.bind ((wown_ok h).mono fun ds h => WP.bind ((we_ok e h).mono fun p h => WP.bind ((wown_ok h).mono fun ds h => WP.bind ((wi_ok h).mono fun k h => ?_))))
    obtain ⟨h1, h2, j, d, h3, h4, h5, h6⟩ := h
    unfold ixD
    rw [h3]
    unfold atD
    rw [h3]
    simp only [h4, bind_ok]
    exact WP.ite (by rw [h1, h2, h5]; rfl) (WP.ok h6)
  | .comp elt tgt single it cnd own, ρ, K, E, h => by
    simp only [we] at h
    simp only [ev]
    refine WP.bind ((wit_ok it h).mono fun p h => ?_)
    unfold wcomp at h
    refine WP.ite h.1 ?_
    have h := h.2
    split at h
    · rename_i e
      rw [if_pos e]
      refine WP.ite (by rw [h.1, h.2.1]; rfl) ?_
      refine WP.bind (h.2.2.mono fun q h => WP.ite (by simp [h.1, h.2.1]) (WP.ok ?_))
      exact h.2.2
    · rename_i e
      rw [if_neg e]
      refine WP.bind (h.mono fun q h => WP.ite h.1 (WP.ok ?_))
      simp only [imm, Bool.or_false]
      exact h.2
  | .rng a b, ρ, K, E, h => by
    simp only [we] at h
    simp only [ev]
    refine WP.bind ((we_ok a h).mono fun p h => WP.bind ((we_ok b h).mono fun q h => WP.bind ((wi_ok h).mono fun i h => WP.bind ((wi_ok h).mono fun j h => ?_))))
    exact WP.ite (by simp [h.1, h.2.1, h.2.2.1]) (WP.ok h.2.2.2)
  | .rng1 b, ρ, K, E, h => by
    simp only [we] at h
    simp only [ev]
    refine WP.bind ((we_ok b h).mono fun q h => WP.bind ((wi_ok h).mono fun j h => ?_))
    exact WP.ite (by simp [h.1, h.2.1]) (WP.ok h.2.2)
  | .isBool e, ρ, K, E, h => by
    simp only [we] at h
    simp only [ev]
    exact WP.bind ((we_ok e h).mono fun p h => WP.ok h)
  | .isTup e, ρ, K, E, h => by
    simp only [we] at h
    simp only [ev]
    exact WP.bind ((we_ok e h).mono fun p h => WP.ok h)
  | .isInt e, ρ, K, E, h => by
    simp only [we] at h
    simp only [ev]
    exact WP.bind ((we_ok e h).mono fun p h => WP.ok h)
  | .sset e, ρ, K, E, h => by
    simp only [we] at h
    simp only [ev]
    exact WP.bind ((we_ok e h).mono fun p h => WP.bind ((wsset_ok h).mono fun d h => WP.ok h))
  | .comp2 elt tgt single it cnd own tgt1 single1 it1 cnd1, ρ, K, E, h => by
    simp only [we] at h
    simp only [ev]
    refine WP.bind ((wit_ok it h).mono fun p h => ?_)
    unfold wcomp2 at h
    refine WP.ite h.1 ?_
    rw [if_neg (by rw [h.2.1]; decide)]
    refine WP.bind (h.2.2.mono fun q h => WP.ite h.1 (WP.ok ?_))
    simp only [imm, Bool.or_false]
    exact h.2
theorem wes_ok : ∀ (es : Es) {ρ : Env} {K : List R → Env → Prop} {E : XE}, wes cf es ρ K E → WP (evs cf es ρ) (fun p => K (p.1.map nrm) p.2) E
  | .nil, ρ, K, E, h => by simpa only [evs, wes, WP, List.map_nil] using h
  | .cons e r, ρ, K, E, h => by
    simp only [wes] at h
    simp only [evs]
    exact WP.bind ((we_ok e h).mono fun p h => WP.bind ((wes_ok r h).mono fun q h => WP.ite (keeps_of h.1) (WP.ok h.2)))
theorem wa_ok : ∀ (es : Es) {ρ : Env} {K : List Ar → Env → Prop} {E : XE}, wa cf es ρ K E → WP (eva cf es ρ) (fun p => K (p.1.map narm) p.2) E
  | .nil, ρ, K, E, h => by simpa only [eva, wa, WP, List.map_nil] using h
  | .cons e r, ρ, K, E, h => by
    have gen : (we cf e ρ (fun b x ρ1 => wa cf r ρ1 (fun xs ρ2 => kp b (effs r) ∧ K (.val (b, x) :: xs) ρ2) E) E) → WP (do
      let (x, ρ1) ← ev cf e ρ
      let (xs, ρ2) ← eva cf r ρ1
      if keeps x (effs r) then .ok (.val x :: xs, ρ2) else .stuck : Res (List Ar × Env)) (fun p => K (p.1.map narm) p.2) E := fun h =>
      WP.bind ((we_ok e h).mono fun p h => WP.bind ((wa_ok r h).mono fun q h => WP.ite (keeps_of h.1) (WP.ok h.2)))
    cases e <;> simp only [wa] at h <;> simp only [eva] <;> first
      | exact gen h
      | exact WP.ite h.1 (WP.bind ((wa_ok r h.2).mono fun q h => WP.ok h))
theorem wo_ok : ∀ (o : Oe) {ρ : Env} {K : Option Int → Env → Prop} {E : XE}, wo cf o ρ K E → WP (evo cf o ρ) (fun p => K p.1 p.2) E
  | .none, ρ, K, E, h => by simpa only [evo, wo, WP] using h
  | .some e, ρ, K, E, h => by
    simp only [wo] at h
    simp only [evo]
    exact WP.bind ((we_ok e h).mono fun p h => WP.bind ((wi_ok h).mono fun i h => WP.ok h))
theorem wt_ok : ∀ (es : Es) {ρ : Env} {K : Bool → Env → Prop} {E : XE}, wt cf es ρ K E → WP (tests cf es ρ) (fun p => K p.1 p.2) E
  | .nil, ρ, K, E, h => by simpa only [tests, wt, WP] using h
  | .cons e r, ρ, K, E, h => by
    simp only [wt] at h
    simp only [tests]
    refine WP.bind ((we_ok e h).mono fun p h => ?_)
    obtain ⟨⟨f, x⟩, ρ1⟩ := p
    cases x <;> first | exact h.elim | skip
    rename_i q
    cases q with
    | false => exact h
    | true =>
      refine (wt_ok r (show wt cf r ρ1 _ E from h)).mono fun p h => ?_
      rw [h.1]
      exact h.2
theorem wit_ok : ∀ (it : It) {ρ : Env} {K : List D → Env → Prop} {E : XE}, wit cf it ρ K E → WP (evi cf it ρ) (fun p => K p.1 p.2) E
  | .scr i, ρ, K, E, h => by
    simp only [wit, wscr] at h
    simp only [evi]
    split at h
    · rename_i e; (try rw [e]); exact h
    · exact h.elim
  | .seq e, ρ, K, E, h => by
    simp only [wit] at h
    simp only [evi]
    exact WP.bind ((we_ok e h).mono fun p h => WP.bind ((wits_ok h).mono fun l h => WP.ok h))
  | .r1 a, ρ, K, E, h => by
    simp only [wit] at h
    simp only [evi]
    exact WP.bind ((we_ok a h).mono fun p h => WP.bind ((wi_ok h).mono fun i h => WP.ite h.1 (WP.ok h.2)))
  | .r2 a b, ρ, K, E, h => by
    simp only [wit] at h
    simp only [evi]
    exact WP.bind ((we_ok a h).mono fun p h => WP.bind ((we_ok b h).mono fun q h => WP.bind ((wi_ok h).mono fun i h => WP.bind ((wi_ok h).mono fun j h => WP.ite (by rw [h.1, h.2.1]; rfl) (WP.ok h.2.2)))))
  | .r3 a b c, ρ, K, E, h => by
    simp only [wit] at h
    simp only [evi]
    exact WP.bind ((we_ok a h).mono fun p h => WP.bind ((we_ok b h).mono fun q h => WP.bind ((we_ok c h).mono fun r h => WP.bind ((wi_ok h).mono fun i h => WP.bind ((wi_ok h).mono fun j h => WP.bind ((wi_ok h).mono fun k h =>
      WP.ite (by simp [h.1, h.2.1, h.2.2.1]) (WP.ok h.2.2.2)))))))
  | .enum e, ρ, K, E, h => by
    simp only [wit] at h
    simp only [evi]
    exact WP.bind ((we_ok e h).mono fun p h => WP.bind ((wits_ok h).mono fun l h => WP.ok h))
  | .zip a b, ρ, K, E, h => by
    simp only [wit] at h
    simp only [evi]
    exact WP.bind ((we_ok a h).mono fun p h => WP.bind ((we_ok b h).mono fun q h => WP.ite (keeps_of h.1) (WP.bind ((wzip_ok h.2).mono fun l h => WP.ok h))))
  | .rv e, ρ, K, E, h => by
    simp only [wit] at h
    simp only [evi]
    exact WP.bind ((we_ok e h).mono fun p h => WP.bind ((witr_ok h).mono fun l h => WP.ok h))
end
end PV
set_option Elab.async false
set_option linter.all false
set_option maxRecDepth 100000
set_option maxHeartbeats 1000000
/-! PW2: statements. -/
namespace PV
open PySem
variable {cf : CF}
theorem wx_all : True := trivial
mutual
theorem wx_ok : ∀ (e : E) {ρ : Env} {K : EK} {E : XE}, wx cf e ρ K E → WP (evX cf e ρ) (fun p => K (p.1.1 || imm p.1.2) p.1.2 p.2) E
  | .var i, ρ, K, E, h => by
    simp only [wx, gx] at h
    simp only [evX]
    split at h
    · rename_i d e
      (try rw [e])
      try dsimp only
      by_cases hi : imm d = true
      · rw [if_pos hi] at h ⊢
        exact WP.ok h
      · rw [if_neg hi] at h ⊢
        exact WP.ok h
    · exact h.elim
    · rename_i c n1 n2 e
      (try rw [e])
      cases c with
      | own d => exact (n1 d rfl).elim
      | scr l => exact (n2 l rfl).elim
      | fz d => exact WP.ok (by rw [Bool.or_self]; exact h)
      | bor d => exact WP.ok (by rw [Bool.or_self]; exact h)
    · exact h.elim
  | .tup es, ρ, K, E, h => by
    simp only [wx] at h
    simp only [evX]
    refine WP.bind ((wxs_ok es h).mono fun p h => ?_)
    obtain ⟨h0, h1, h⟩ := h
    refine WP.ite (by simpa using h1) (WP.ok ?_)
    rw [map_nrm] at h
    have : (p.1.all fun x => x.1 || imm x.2) = true := by
      rw [List.all_eq_true]
      exact h0
    rw [this, Bool.true_or]
    exact h
  | .lst es, ρ, K, E, h => by
    simp only [wx] at h
    simp only [evX]
    refine WP.bind ((wxs_ok es h).mono fun p h => ?_)
    obtain ⟨h0, h1, h⟩ := h
    refine WP.ite (by simpa using h1) (WP.ok ?_)
    rw [map_nrm] at h
    have : (p.1.all fun x => x.1 || imm x.2) = true := by
      rw [List.all_eq_true]
      exact h0
    rw [this, Bool.true_or]
    exact h
  | .int n, ρ, K, E, h => we_ok (cf := cf) (.int n) (ρ := ρ) (K := K) (E := E) h
  | .str n, ρ, K, E, h => we_ok (cf := cf) (.str n) (ρ := ρ) (K := K) (E := E) h
  | .bl n, ρ, K, E, h => we_ok (cf := cf) (.bl n) (ρ := ρ) (K := K) (E := E) h
  | .non, ρ, K, E, h => we_ok (cf := cf) .non (ρ := ρ) (K := K) (E := E) h
  | .op2 o a b, ρ, K, E, h => we_ok (cf := cf) (.op2 o a b) (ρ := ρ) (K := K) (E := E) h
  | .op1 o a, ρ, K, E, h => we_ok (cf := cf) (.op1 o a) (ρ := ρ) (K := K) (E := E) h
  | .and a b, ρ, K, E, h => we_ok (cf := cf) (.and a b) (ρ := ρ) (K := K) (E := E) h
  | .or a b, ρ, K, E, h => we_ok (cf := cf) (.or a b) (ρ := ρ) (K := K) (E := E) h
  | .ite c a b, ρ, K, E, h => we_ok (cf := cf) (.ite c a b) (ρ := ρ) (K := K) (E := E) h
  | .cmp3 o p a b c, ρ, K, E, h => we_ok (cf := cf) (.cmp3 o p a b c) (ρ := ρ) (K := K) (E := E) h
  | .bi f as, ρ, K, E, h => we_ok (cf := cf) (.bi f as) (ρ := ρ) (K := K) (E := E) h
  | .mt m o as, ρ, K, E, h => we_ok (cf := cf) (.mt m o as) (ρ := ρ) (K := K) (E := E) h
  | .sub o i, ρ, K, E, h => we_ok (cf := cf) (.sub o i) (ρ := ρ) (K := K) (E := E) h
  | .slc o lo hi, ρ, K, E, h => we_ok (cf := cf) (.slc o lo hi) (ρ := ρ) (K := K) (E := E) h
  | .rev o, ρ, K, E, h => we_ok (cf := cf) (.rev o) (ρ := ρ) (K := K) (E := E) h
  | .call f as, ρ, K, E, h => we_ok (cf := cf) (.call f as) (ρ := ρ) (K := K) (E := E) h
  | .ref i, ρ, K, E, h => we_ok (cf := cf) (.ref i) (ρ := ρ) (K := K) (E := E) h
  | .scr i, ρ, K, E, h => we_ok (cf := cf) (.scr i) (ρ := ρ) (K := K) (E := E) h
  | .scrL i, ρ, K, E, h => we_ok (cf := cf) (.scrL i) (ρ := ρ) (K := K) (E := E) h
  | .pop0 i, ρ, K, E, h => we_ok (cf := cf) (.pop0 i) (ρ := ρ) (K := K) (E := E) h
  | .pop1 i e, ρ, K, E, h => we_ok (cf := cf) (.pop1 i e) (ρ := ρ) (K := K) (E := E) h
  | .comp a b c d e f, ρ, K, E, h => we_ok (cf := cf) (.comp a b c d e f) (ρ := ρ) (K := K) (E := E) h
  | .rng a b, ρ, K, E, h => we_ok (cf := cf) (.rng a b) (ρ := ρ) (K := K) (E := E) h
  | .rng1 b, ρ, K, E, h => we_ok (cf := cf) (.rng1 b) (ρ := ρ) (K := K) (E := E) h
  | .isBool b, ρ, K, E, h => we_ok (cf := cf) (.isBool b) (ρ := ρ) (K := K) (E := E) h
  | .isTup b, ρ, K, E, h => we_ok (cf := cf) (.isTup b) (ρ := ρ) (K := K) (E := E) h
  | .isInt b, ρ, K, E, h => we_ok (cf := cf) (.isInt b) (ρ := ρ) (K := K) (E := E) h
  | .comp2 a b c d e f g i j k, ρ, K, E, h => we_ok (cf := cf) (.comp2 a b c d e f g i j k) (ρ := ρ) (K := K) (E := E) h
  | .sset b, ρ, K, E, h => we_ok (cf := cf) (.sset b) (ρ := ρ) (K := K) (E := E) h
theorem wxs_ok : ∀ (es : Es) {ρ : Env} {K : List R → Env → Prop} {E : XE}, wxs cf es ρ K E → WP (evXs cf es ρ) (fun p => (∀ r ∈ p.1, (r.1 || imm r.2) = true) ∧ K (p.1.map nrm) p.2) E
  | .nil, ρ, K, E, h => by
    simp only [wxs] at h
    simp only [evXs, WP, List.map_nil]
    exact ⟨fun r hr => (nomatch hr), h⟩
  | .cons e r, ρ, K, E, h => by
    simp only [wxs] at h
    simp only [evXs]
    refine WP.bind ((wx_ok e h).mono fun p h => WP.bind ((wxs_ok r h).mono fun q h => ?_))
    obtain ⟨h0, h1, h2⟩ := h
    refine WP.ite (by simpa using h1) (WP.ok ⟨fun z hz => ?_, h2⟩)
    rcases List.mem_cons.mp hz with rfl | hz
    · exact h1
    · exact h0 z hz
end
def wbind (k : D → Cell) (tgt : List Nat) (single : Bool) (d : D) (ρ : Env) (K : Env → Prop) : Prop := match bindT k tgt single d ρ with
  | .ok ρ' => K ρ'
  | _ => False
theorem wbind_ok {k : D → Cell} {tgt : List Nat} {single : Bool} {d : D} {ρ : Env} {K : Env → Prop} {E : XE} (h : wbind k tgt single d ρ K) : WP (bindT k tgt single d ρ) K E := by
  unfold wbind at h
  split at h
  · rename_i e; (try rw [e]); exact h
  · exact h.elim
def loopB (cf : CF) (tgt : List Nat) (single : Bool) (b : Ss) : D → Env → Res (Out × Env) := fun d σ => do
  let σ1 ← bindT .fz tgt single d σ
  execs cf b σ1
def wfor (cf : CF) (tgt : List Nat) (single : Bool) (b : Ss) (ds : List D) (ρ : Env) (K : Out → Env → Prop) (E : XE) (_t : Tag K) : Prop := WP (forL (loopB cf tgt single b) ds ρ) (fun p => K p.1 p.2) E
def wwhl (cf : CF) (c : PV.E) (b : Ss) (ρ : Env) (K : Out → Env → Prop) (E : XE) (_t : Tag K) : Prop := WP (whileL (fun σ => do
      let (x, σ1) ← ev cf c σ
      .ok (← asBool x.2, σ1)) (fun σ => execs cf b σ) fuel ρ) (fun p => K p.1 p.2) E
def wtry (c : Nat) (k p : D) (hs : List (Nat × Nat)) (Q : D → Prop) : Hide Q := match handle c k p hs with
  | some d => Q d
  | none => False
def wnx (o : Out) (A : Prop) (B : Prop) : Prop := match o with
  | .nx => A
  | _ => B
mutual
def ws (cf : CF) : S → Env → (Out → Env → Prop) → XE → Prop
  | .asg i e, ρ, K, E => wx cf e ρ (fun b d ρ1 => noBor ρ1 = true ∧ K .nx (store ρ1 i (b, d) (vars e))) E
  | .asgT is e, ρ, K, E => wx cf e ρ (fun _ d ρ1 => imm d = true ∧ wbind .bor is false d ρ1 fun ρ2 => K .nx ρ2) E
  | .setv i ix e, ρ, K, E => wx cf e ρ (fun b d ρ1 => wown ρ1 i fun _ => we cf ix ρ1 (fun _ k ρ2 => b = true ∧ noBor ρ2 = true ∧ wown ρ2 i fun ds => wi k fun k => wset ds k d fun l => K .nx (ρ2.set i (some (.own (.list l))))) E) E
  | .set2 i ix jx e, ρ, K, E => wx cf e ρ (fun b d ρ1 => wown ρ1 i fun _ => we cf ix ρ1 (fun _ k ρ2 => b = true ∧ noBor ρ2 = true ∧ wown ρ2 i fun ds => wi k fun k1 => wat ds k1 fun z => wlist z fun es =>
      we cf jx (ρ2.set i none) (fun _ l ρ3 => noBor ρ3 = true ∧ i < ρ3.length ∧ wi l fun l => wset es l d fun es' => wset ds k1 (.list es') fun ds' => K .nx (ρ3.set i (some (.own (.list ds'))))) E) E) E
  | .app i e, ρ, K, E => wown ρ i fun _ => wx cf e ρ (fun b d ρ1 => b = true ∧ noBor ρ1 = true ∧ wown ρ1 i fun ds => ds.length < sizeLine ∧ K .nx (ρ1.set i (some (.own (.list (ds ++ [d])))))) E
  | .app1 i ix e, ρ, K, E => wown ρ i fun _ => we cf ix ρ (fun _ k ρ1 => wown ρ1 i fun ds1 => wi k fun k0 => wat ds1 k0 fun z0 => wlist z0 fun _ => we cf e ρ1 (fun b d ρ2 => b = true ∧ noBor ρ2 = true ∧ eff ix = false ∧ eff e = false ∧ wown ρ2 i fun ds => wi k fun k1 => wat ds k1 fun z => wlist z fun es => es.length < sizeLine ∧
      wi k fun k2 => wset ds k2 (.list (es ++ [d])) fun ds' => K .nx (ρ2.set i (some (.own (.list ds'))))) E) E
  | .ext i e, ρ, K, E => wown ρ i fun _ => we cf e ρ (fun _ d ρ1 => wown ρ1 i fun ds => wlist d fun es => immAll es = true ∧ noBor ρ1 = true ∧ lenOk (ds.length + es.length) = true ∧ K .nx (ρ1.set i (some (.own (.list (ds ++ es)))))) E
  | .ex e, ρ, K, E => we cf e ρ (fun _ _ ρ1 => K .nx ρ1) E
  | .iff c a b, ρ, K, E => we cf c ρ (fun _ x ρ1 => wbS x (wss cf a ρ1 K E) (wss cf b ρ1 K E) .mk) E
  | .for tgt single it b, ρ, K, E => wit cf it ρ (fun ds ρ1 => wfor cf tgt single b ds (freezes ρ1 (varsi it)) K E .mk) E
  | .whl c b, ρ, K, E => wwhl cf c b ρ K E .mk
  | .ret e, ρ, K, E => wx cf e ρ (fun b d ρ1 => b = true ∧ K (.ret d) ρ1) E
  | .retN, ρ, K, _ => K (.ret .none) ρ
  | .raise1 c code, _, _, E => E c (.str code) (.int 0)
  | .raise2 c code p, ρ, _, E => we cf p ρ (fun _ d _ => imm d = true ∧ eff p = false ∧ E c (.str code) d) E
  | .try_ i b hs, ρ, K, _ => wss cf b ρ K fun c k p => wtry c k p hs fun d => i < ρ.length ∧ K (.ret d) (ρ.map fun _ => none)
  | .brk, ρ, K, _ => K .brk ρ
  | .cnt, ρ, K, _ => K .cnt ρ
  | .pass, ρ, K, _ => K .nx ρ
def wss (cf : CF) : Ss → Env → (Out → Env → Prop) → XE → Prop
  | .nil, ρ, K, _ => K .nx ρ
  | .cons s r, ρ, K, E => ws cf s ρ (fun o ρ1 => wnx o (wss cf r ρ1 K E) (K o ρ1)) E
end
theorem store_n (ρ : Env) (i : Nat) (r : R) (vs : List Nat) : store ρ i (r.1 || imm r.2, r.2) vs = store ρ i r vs := by
  unfold store
  simp only [Bool.or_assoc, Bool.or_self]
mutual
theorem ws_ok : ∀ (s : S) {ρ : Env} {K : Out → Env → Prop} {E : XE}, ws cf s ρ K E → WP (exec cf s ρ) (fun p => K p.1 p.2) E
  | .asg i e, ρ, K, E, h => by
    simp only [ws] at h
    simp only [exec]
    refine WP.bind ((wx_ok e h).mono fun p h => WP.ite h.1 (WP.ok ?_))
    have h := h.2
    rwa [store_n] at h
  | .asgT is e, ρ, K, E, h => by
    simp only [ws] at h
    simp only [exec]
    exact WP.bind ((wx_ok e h).mono fun p h => WP.ite h.1 (WP.bind ((wbind_ok h.2).mono fun ρ2 h => WP.ok h)))
  | .setv i ix e, ρ, K, E, h => by
    simp only [ws] at h
    simp only [exec]
    refine WP.bind ((wx_ok e h).mono fun p h => WP.bind ((wown_ok h).mono fun _ h => WP.bind ((we_ok ix h).mono fun q h => WP.ite (by rw [h.1, h.2.1]; rfl) (WP.bind ((wown_ok h.2.2).mono fun ds h => WP.bind ((wi_ok h).mono fun k h => WP.bind ((wset_ok h).mono fun l h => WP.ok h)))))))
  | .set2 i ix jx e, ρ, K, E, h => by
    simp only [ws] at h
    simp only [exec]
    refine WP.bind ((wx_ok e h).mono fun p h => WP.bind ((wown_ok h).mono fun _ h => WP.bind ((we_ok ix h).mono fun q h => WP.ite (by rw [h.1, h.2.1]; rfl) (WP.bind ((wown_ok h.2.2).mono fun ds h => WP.bind ((wi_ok h).mono fun k h => WP.bind ((wat_ok h).mono fun z h => WP.bind ((wlist_ok h).mono fun es h => WP.bind ((we_ok jx h).mono fun r h => ?_)))))))))
    obtain ⟨h1, h2, h⟩ := h
    exact WP.ite (by rw [h1, decide_eq_true h2]; rfl) (WP.bind ((wi_ok h).mono fun l h => WP.bind ((wset_ok h).mono fun es' h => WP.bind ((wset_ok h).mono fun ds' h => WP.ok h))))
  | .app i e, ρ, K, E, h => by
    simp only [ws] at h
    simp only [exec]
    refine WP.bind ((wown_ok h).mono fun _ h => WP.bind ((wx_ok e h).mono fun p h => WP.ite (by rw [h.1, h.2.1]; rfl) (WP.bind ((wown_ok h.2.2).mono fun ds h => WP.ite h.1 (WP.ok h.2)))))
  | .app1 i ix e, ρ, K, E, h => by
    simp only [ws] at h
    simp only [exec]
    refine WP.bind ((wown_ok h).mono fun _ h => WP.bind ((we_ok ix h).mono fun p h => WP.bind ((wown_ok h).mono fun ds1 h => WP.bind ((wi_ok h).mono fun k0 h => WP.bind ((wat_ok h).mono fun z0 h => WP.bind ((wlist_ok h).mono fun _ h => WP.bind ((we_ok e h).mono fun q h => ?_)))))))
    obtain ⟨h1, h2, h3, h4, h⟩ := h
    exact WP.ite (by rw [h1, h2, h3, h4]; rfl) (WP.bind ((wown_ok h).mono fun ds h => WP.bind ((wi_ok h).mono fun k h => WP.bind ((wat_ok h).mono fun z h => WP.bind ((wlist_ok h).mono fun es h => WP.ite h.1 (WP.bind ((wi_ok h.2).mono fun k2 h => WP.bind ((wset_ok h).mono fun ds' h => WP.ok h))))))))
  | .ext i e, ρ, K, E, h => by
    simp only [ws] at h
    simp only [exec]
    refine WP.bind ((wown_ok h).mono fun _ h => WP.bind ((we_ok e h).mono fun p h => WP.bind ((wown_ok h).mono fun ds h => WP.bind ((wlist_ok h).mono fun es h => WP.ite (by rw [h.1, h.2.1, h.2.2.1]; rfl) (WP.ok h.2.2.2)))))
  | .ex e, ρ, K, E, h => by
    simp only [ws] at h
    simp only [exec]
    exact WP.bind ((we_ok e h).mono fun p h => WP.ok h)
  | .iff c a b, ρ, K, E, h => by
    simp only [ws] at h
    simp only [exec]
    refine WP.bind ((we_ok c h).mono fun p h => WP.bind ((wb_ok h).mono fun z h => ?_))
    cases z with
    | true => exact wss_ok a h
    | false => exact wss_ok b h
  | .for tgt single it b, ρ, K, E, h => by
    simp only [ws] at h
    simp only [exec]
    exact WP.bind ((wit_ok it h).mono fun p h => h)
  | .whl c b, ρ, K, E, h => by
    simp only [ws] at h
    simp only [exec]
    exact h
  | .ret e, ρ, K, E, h => by
    simp only [ws] at h
    simp only [exec]
    exact WP.bind ((wx_ok e h).mono fun p h => WP.ite h.1 (WP.ok h.2))
  | .retN, ρ, K, E, h => by simpa only [ws, exec, WP] using h
  | .raise1 c code, ρ, K, E, h => by simpa only [ws, exec, WP] using h
  | .raise2 c code p, ρ, K, E, h => by
    simp only [ws] at h
    simp only [exec]
    exact WP.bind ((we_ok p h).mono fun p h => WP.ite (by rw [h.1, h.2.1]; rfl) h.2.2)
  | .try_ i b hs, ρ, K, E, h => by
    simp only [ws] at h
    simp only [exec]
    have h := wss_ok b h
    cases e : execs cf b ρ with
    | ok p => rw [e] at h; exact h
    | exc c k p =>
      rw [e] at h
      try dsimp only
      have h : wtry c k p hs _ := h
      unfold wtry at h
      split at h
      · rename_i d e
        (try rw [e])
        exact WP.ite h.1 (WP.ok h.2)
      · exact h.elim
    | stuck => rw [e] at h; exact h.elim
  | .brk, ρ, K, E, h => by simpa only [ws, exec, WP] using h
  | .cnt, ρ, K, E, h => by simpa only [ws, exec, WP] using h
  | .pass, ρ, K, E, h => by simpa only [ws, exec, WP] using h
theorem wss_ok : ∀ (s : Ss) {ρ : Env} {K : Out → Env → Prop} {E : XE}, wss cf s ρ K E → WP (execs cf s ρ) (fun p => K p.1 p.2) E
  | .nil, ρ, K, E, h => by simpa only [wss, execs, WP] using h
  | .cons s r, ρ, K, E, h => by
    simp only [wss] at h
    simp only [execs]
    refine WP.bind ((ws_ok s h).mono fun p h => ?_)
    obtain ⟨o, ρ1⟩ := p
    cases o <;> first | exact wss_ok r h | exact h
end
end PV
set_option Elab.async false
set_option linter.all false
set_option maxRecDepth 100000
set_option maxHeartbeats 1000000
/-! PW3: typed data; rules by which a run is followed. -/
namespace PV
open PySem
/-! ### where simp may look -/
def gx' (c : Option Cell) (ρ : Env) (i : Nat) (K : EK) : Hide K := match c with
  | some (.own d) => K true d (if imm d then ρ else ρ.set i none)
  | some (.scr _) => False
  | some c => K (imm c.d) c.d ρ
  | none => False
theorem gx_eq {ρ : Env} {i : Nat} {K : EK} : gx ρ i K = gx' (get ρ i) ρ i K := rfl
def wown' (c : Option Cell) (K : List D → Prop) : Hide K := match c with
  | some (.own (.list ds)) => K ds
  | _ => False
theorem wown_eq {ρ : Env} {i : Nat} {K : List D → Prop} : wown ρ i K = wown' (get ρ i) K := rfl
def wscr' (c : Option Cell) (K : List Int → Prop) : Hide K := match c with
  | some (.scr l) => K l
  | _ => False
theorem wscr_eq {ρ : Env} {i : Nat} {K : List Int → Prop} : wscr ρ i K = wscr' (get ρ i) K := rfl
/-! ### tree by tree -/
theorem wa_var {i} {cf : CF} {r : Es} {ρ : Env} {K : List Ar → Env → Prop} {E : XE} : wa cf (.cons (.var i) r) ρ K E = we cf (.var i) ρ (fun b x ρ1 => wa cf r ρ1 (fun xs ρ2 => kp b (effs r) ∧ K (.val (b, x) :: xs) ρ2) E) E := by simp only [wa]
theorem wx_int {n} {cf : CF} {ρ : Env} {K : EK} {E : XE} : wx cf (.int n) ρ K E = we cf (.int n) ρ K E := by simp only [wx]
theorem wa_int {n} {cf : CF} {r : Es} {ρ : Env} {K : List Ar → Env → Prop} {E : XE} : wa cf (.cons (.int n) r) ρ K E = we cf (.int n) ρ (fun b x ρ1 => wa cf r ρ1 (fun xs ρ2 => kp b (effs r) ∧ K (.val (b, x) :: xs) ρ2) E) E := by simp only [wa]
theorem wx_str {s} {cf : CF} {ρ : Env} {K : EK} {E : XE} : wx cf (.str s) ρ K E = we cf (.str s) ρ K E := by simp only [wx]
theorem wa_str {s} {cf : CF} {r : Es} {ρ : Env} {K : List Ar → Env → Prop} {E : XE} : wa cf (.cons (.str s) r) ρ K E = we cf (.str s) ρ (fun b x ρ1 => wa cf r ρ1 (fun xs ρ2 => kp b (effs r) ∧ K (.val (b, x) :: xs) ρ2) E) E := by simp only [wa]
theorem wx_bl {b} {cf : CF} {ρ : Env} {K : EK} {E : XE} : wx cf (.bl b) ρ K E = we cf (.bl b) ρ K E := by simp only [wx]
theorem wa_bl {b} {cf : CF} {r : Es} {ρ : Env} {K : List Ar → Env → Prop} {E : XE} : wa cf (.cons (.bl b) r) ρ K E = we cf (.bl b) ρ (fun b x ρ1 => wa cf r ρ1 (fun xs ρ2 => kp b (effs r) ∧ K (.val (b, x) :: xs) ρ2) E) E := by simp only [wa]
theorem wx_non {cf : CF} {ρ : Env} {K : EK} {E : XE} : wx cf .non ρ K E = we cf .non ρ K E := by simp only [wx]
theorem wa_non {cf : CF} {r : Es} {ρ : Env} {K : List Ar → Env → Prop} {E : XE} : wa cf (.cons .non r) ρ K E = we cf .non ρ (fun b x ρ1 => wa cf r ρ1 (fun xs ρ2 => kp b (effs r) ∧ K (.val (b, x) :: xs) ρ2) E) E := by simp only [wa]
theorem wx_op2 {o a b} {cf : CF} {ρ : Env} {K : EK} {E : XE} : wx cf (.op2 o a b) ρ K E = we cf (.op2 o a b) ρ K E := by simp only [wx]
theorem wa_op2 {o a b} {cf : CF} {r : Es} {ρ : Env} {K : List Ar → Env → Prop} {E : XE} : wa cf (.cons (.op2 o a b) r) ρ K E = we cf (.op2 o a b) ρ (fun b x ρ1 => wa cf r ρ1 (fun xs ρ2 => kp b (effs r) ∧ K (.val (b, x) :: xs) ρ2) E) E := by simp only [wa]
theorem wx_op1 {o a} {cf : CF} {ρ : Env} {K : EK} {E : XE} : wx cf (.op1 o a) ρ K E = we cf (.op1 o a) ρ K E := by simp only [wx]
theorem wa_op1 {o a} {cf : CF} {r : Es} {ρ : Env} {K : List Ar → Env → Prop} {E : XE} : wa cf (.cons (.op1 o a) r) ρ K E = we cf (.op1 o a) ρ (fun b x ρ1 => wa cf r ρ1 (fun xs ρ2 => kp b (effs r) ∧ K (.val (b, x) :: xs) ρ2) E) E := by simp only [wa]
theorem wx_and {a b} {cf : CF} {ρ : Env} {K : EK} {E : XE} : wx cf (.and a b) ρ K E = we cf (.and a b) ρ K E := by simp only [wx]
theorem wa_and {a b} {cf : CF} {r : Es} {ρ : Env} {K : List Ar → Env → Prop} {E : XE} : wa cf (.cons (.and a b) r) ρ K E = we cf (.and a b) ρ (fun b x ρ1 => wa cf r ρ1 (fun xs ρ2 => kp b (effs r) ∧ K (.val (b, x) :: xs) ρ2) E) E := by simp only [wa]
theorem wx_or {a b} {cf : CF} {ρ : Env} {K : EK} {E : XE} : wx cf (.or a b) ρ K E = we cf (.or a b) ρ K E := by simp only [wx]
theorem wa_or {a b} {cf : CF} {r : Es} {ρ : Env} {K : List Ar → Env → Prop} {E : XE} : wa cf (.cons (.or a b) r) ρ K E = we cf (.or a b) ρ (fun b x ρ1 => wa cf r ρ1 (fun xs ρ2 => kp b (effs r) ∧ K (.val (b, x) :: xs) ρ2) E) E := by simp only [wa]
theorem wx_ite {c a b} {cf : CF} {ρ : Env} {K : EK} {E : XE} : wx cf (.ite c a b) ρ K E = we cf (.ite c a b) ρ K E := by simp only [wx]
theorem wa_ite {c a b} {cf : CF} {r : Es} {ρ : Env} {K : List Ar → Env → Prop} {E : XE} : wa cf (.cons (.ite c a b) r) ρ K E = we cf (.ite c a b) ρ (fun b x ρ1 => wa cf r ρ1 (fun xs ρ2 => kp b (effs r) ∧ K (.val (b, x) :: xs) ρ2) E) E := by simp only [wa]
theorem wx_cmp3 {o p a b c} {cf : CF} {ρ : Env} {K : EK} {E : XE} : wx cf (.cmp3 o p a b c) ρ K E = we cf (.cmp3 o p a b c) ρ K E := by simp only [wx]
theorem wa_cmp3 {o p a b c} {cf : CF} {r : Es} {ρ : Env} {K : List Ar → Env → Prop} {E : XE} : wa cf (.cons (.cmp3 o p a b c) r) ρ K E = we cf (.cmp3 o p a b c) ρ (fun b x ρ1 => wa cf r ρ1 (fun xs ρ2 => kp b (effs r) ∧ K (.val (b, x) :: xs) ρ2) E) E := by simp only [wa]
theorem wx_bi {f as} {cf : CF} {ρ : Env} {K : EK} {E : XE} : wx cf (.bi f as) ρ K E = we cf (.bi f as) ρ K E := by simp only [wx]
theorem wa_bi {f as} {cf : CF} {r : Es} {ρ : Env} {K : List Ar → Env → Prop} {E : XE} : wa cf (.cons (.bi f as) r) ρ K E = we cf (.bi f as) ρ (fun b x ρ1 => wa cf r ρ1 (fun xs ρ2 => kp b (effs r) ∧ K (.val (b, x) :: xs) ρ2) E) E := by simp only [wa]
theorem wx_mt {m o as} {cf : CF} {ρ : Env} {K : EK} {E : XE} : wx cf (.mt m o as) ρ K E = we cf (.mt m o as) ρ K E := by simp only [wx]
theorem wa_mt {m o as} {cf : CF} {r : Es} {ρ : Env} {K : List Ar → Env → Prop} {E : XE} : wa cf (.cons (.mt m o as) r) ρ K E = we cf (.mt m o as) ρ (fun b x ρ1 => wa cf r ρ1 (fun xs ρ2 => kp b (effs r) ∧ K (.val (b, x) :: xs) ρ2) E) E := by simp only [wa]
theorem wx_sub {o i} {cf : CF} {ρ : Env} {K : EK} {E : XE} : wx cf (.sub o i) ρ K E = we cf (.sub o i) ρ K E := by simp only [wx]
theorem wa_sub {o i} {cf : CF} {r : Es} {ρ : Env} {K : List Ar → Env → Prop} {E : XE} : wa cf (.cons (.sub o i) r) ρ K E = we cf (.sub o i) ρ (fun b x ρ1 => wa cf r ρ1 (fun xs ρ2 => kp b (effs r) ∧ K (.val (b, x) :: xs) ρ2) E) E := by simp only [wa]
theorem wx_slc {o lo hi} {cf : CF} {ρ : Env} {K : EK} {E : XE} : wx cf (.slc o lo hi) ρ K E = we cf (.slc o lo hi) ρ K E := by simp only [wx]
theorem wa_slc {o lo hi} {cf : CF} {r : Es} {ρ : Env} {K : List Ar → Env → Prop} {E : XE} : wa cf (.cons (.slc o lo hi) r) ρ K E = we cf (.slc o lo hi) ρ (fun b x ρ1 => wa cf r ρ1 (fun xs ρ2 => kp b (effs r) ∧ K (.val (b, x) :: xs) ρ2) E) E := by simp only [wa]
theorem wx_rev {o} {cf : CF} {ρ : Env} {K : EK} {E : XE} : wx cf (.rev o) ρ K E = we cf (.rev o) ρ K E := by simp only [wx]
theorem wa_rev {o} {cf : CF} {r : Es} {ρ : Env} {K : List Ar → Env → Prop} {E : XE} : wa cf (.cons (.rev o) r) ρ K E = we cf (.rev o) ρ (fun b x ρ1 => wa cf r ρ1 (fun xs ρ2 => kp b (effs r) ∧ K (.val (b, x) :: xs) ρ2) E) E := by simp only [wa]
theorem wa_tup {es} {cf : CF} {r : Es} {ρ : Env} {K : List Ar → Env → Prop} {E : XE} : wa cf (.cons (.tup es) r) ρ K E = we cf (.tup es) ρ (fun b x ρ1 => wa cf r ρ1 (fun xs ρ2 => kp b (effs r) ∧ K (.val (b, x) :: xs) ρ2) E) E := by simp only [wa]
theorem wa_lst {es} {cf : CF} {r : Es} {ρ : Env} {K : List Ar → Env → Prop} {E : XE} : wa cf (.cons (.lst es) r) ρ K E = we cf (.lst es) ρ (fun b x ρ1 => wa cf r ρ1 (fun xs ρ2 => kp b (effs r) ∧ K (.val (b, x) :: xs) ρ2) E) E := by simp only [wa]
theorem wx_call {f as} {cf : CF} {ρ : Env} {K : EK} {E : XE} : wx cf (.call f as) ρ K E = we cf (.call f as) ρ K E := by simp only [wx]
theorem wa_call {f as} {cf : CF} {r : Es} {ρ : Env} {K : List Ar → Env → Prop} {E : XE} : wa cf (.cons (.call f as) r) ρ K E = we cf (.call f as) ρ (fun b x ρ1 => wa cf r ρ1 (fun xs ρ2 => kp b (effs r) ∧ K (.val (b, x) :: xs) ρ2) E) E := by simp only [wa]
theorem wx_scrL {i} {cf : CF} {ρ : Env} {K : EK} {E : XE} : wx cf (.scrL i) ρ K E = we cf (.scrL i) ρ K E := by simp only [wx]
theorem wa_scrL {i} {cf : CF} {r : Es} {ρ : Env} {K : List Ar → Env → Prop} {E : XE} : wa cf (.cons (.scrL i) r) ρ K E = we cf (.scrL i) ρ (fun b x ρ1 => wa cf r ρ1 (fun xs ρ2 => kp b (effs r) ∧ K (.val (b, x) :: xs) ρ2) E) E := by simp only [wa]
theorem wx_pop0 {i} {cf : CF} {ρ : Env} {K : EK} {E : XE} : wx cf (.pop0 i) ρ K E = we cf (.pop0 i) ρ K E := by simp only [wx]
theorem wa_pop0 {i} {cf : CF} {r : Es} {ρ : Env} {K : List Ar → Env → Prop} {E : XE} : wa cf (.cons (.pop0 i) r) ρ K E = we cf (.pop0 i) ρ (fun b x ρ1 => wa cf r ρ1 (fun xs ρ2 => kp b (effs r) ∧ K (.val (b, x) :: xs) ρ2) E) E := by simp only [wa]
theorem wx_pop1 {i e} {cf : CF} {ρ : Env} {K : EK} {E : XE} : wx cf (.pop1 i e) ρ K E = we cf (.pop1 i e) ρ K E := by simp only [wx]
theorem wa_pop1 {i e} {cf : CF} {r : Es} {ρ : Env} {K : List Ar → Env → Prop} {E : XE} : wa cf (.cons (.pop1 i e) r) ρ K E = we cf (.pop1 i e) ρ (fun b x ρ1 => wa cf r ρ1 (fun xs ρ2 => kp b (effs r) ∧ K (.val (b, x) :: xs) ρ2) E) E := by simp only [wa]
theorem wx_comp {elt tgt single it cnd own} {cf : CF} {ρ : Env} {K : EK} {E : XE} : wx cf (.comp elt tgt single it cnd own) ρ K E = we cf (.comp elt tgt single it cnd own) ρ K E := by simp only [wx]
theorem wa_comp {elt tgt single it cnd own} {cf : CF} {r : Es} {ρ : Env} {K : List Ar → Env → Prop} {E : XE} : wa cf (.cons (.comp elt tgt single it cnd own) r) ρ K E = we cf (.comp elt tgt single it cnd own) ρ (fun b x ρ1 => wa cf r ρ1 (fun xs ρ2 => kp b (effs r) ∧ K (.val (b, x) :: xs) ρ2) E) E := by simp only [wa]
theorem wx_rng {a b} {cf : CF} {ρ : Env} {K : EK} {E : XE} : wx cf (.rng a b) ρ K E = we cf (.rng a b) ρ K E := by simp only [wx]
theorem wa_rng {a b} {cf : CF} {r : Es} {ρ : Env} {K : List Ar → Env → Prop} {E : XE} : wa cf (.cons (.rng a b) r) ρ K E = we cf (.rng a b) ρ (fun b x ρ1 => wa cf r ρ1 (fun xs ρ2 => kp b (effs r) ∧ K (.val (b, x) :: xs) ρ2) E) E := by simp only [wa]
theorem wx_rng1 {b} {cf : CF} {ρ : Env} {K : EK} {E : XE} : wx cf (.rng1 b) ρ K E = we cf (.rng1 b) ρ K E := by simp only [wx]
theorem wa_rng1 {b} {cf : CF} {r : Es} {ρ : Env} {K : List Ar → Env → Prop} {E : XE} : wa cf (.cons (.rng1 b) r) ρ K E = we cf (.rng1 b) ρ (fun b x ρ1 => wa cf r ρ1 (fun xs ρ2 => kp b (effs r) ∧ K (.val (b, x) :: xs) ρ2) E) E := by simp only [wa]
theorem wx_isBool {e} {cf : CF} {ρ : Env} {K : EK} {E : XE} : wx cf (.isBool e) ρ K E = we cf (.isBool e) ρ K E := by simp only [wx]
theorem wx_isTup {e} {cf : CF} {ρ : Env} {K : EK} {E : XE} : wx cf (.isTup e) ρ K E = we cf (.isTup e) ρ K E := by simp only [wx]
theorem wx_isInt {e} {cf : CF} {ρ : Env} {K : EK} {E : XE} : wx cf (.isInt e) ρ K E = we cf (.isInt e) ρ K E := by simp only [wx]
theorem wx_comp2 {elt tgt single it cnd own tgt1 single1 it1 cnd1} {cf : CF} {ρ : Env} {K : EK} {E : XE} : wx cf (.comp2 elt tgt single it cnd own tgt1 single1 it1 cnd1) ρ K E = we cf (.comp2 elt tgt single it cnd own tgt1 single1 it1 cnd1) ρ K E := by simp only [wx]
theorem wa_comp2 {elt tgt single it cnd own tgt1 single1 it1 cnd1} {cf : CF} {r : Es} {ρ : Env} {K : List Ar → Env → Prop} {E : XE} : wa cf (.cons (.comp2 elt tgt single it cnd own tgt1 single1 it1 cnd1) r) ρ K E = we cf (.comp2 elt tgt single it cnd own tgt1 single1 it1 cnd1) ρ (fun b x ρ1 => wa cf r ρ1 (fun xs ρ2 => kp b (effs r) ∧ K (.val (b, x) :: xs) ρ2) E) E := by simp only [wa]
theorem wx_sset {e} {cf : CF} {ρ : Env} {K : EK} {E : XE} : wx cf (.sset e) ρ K E = we cf (.sset e) ρ K E := by simp only [wx]
theorem wa_isBool {e} {cf : CF} {r : Es} {ρ : Env} {K : List Ar → Env → Prop} {E : XE} : wa cf (.cons (.isBool e) r) ρ K E = we cf (.isBool e) ρ (fun b x ρ1 => wa cf r ρ1 (fun xs ρ2 => kp b (effs r) ∧ K (.val (b, x) :: xs) ρ2) E) E := by simp only [wa]
theorem wa_isTup {e} {cf : CF} {r : Es} {ρ : Env} {K : List Ar → Env → Prop} {E : XE} : wa cf (.cons (.isTup e) r) ρ K E = we cf (.isTup e) ρ (fun b x ρ1 => wa cf r ρ1 (fun xs ρ2 => kp b (effs r) ∧ K (.val (b, x) :: xs) ρ2) E) E := by simp only [wa]
theorem wa_isInt {e} {cf : CF} {r : Es} {ρ : Env} {K : List Ar → Env → Prop} {E : XE} : wa cf (.cons (.isInt e) r) ρ K E = we cf (.isInt e) ρ (fun b x ρ1 => wa cf r ρ1 (fun xs ρ2 => kp b (effs r) ∧ K (.val (b, x) :: xs) ρ2) E) E := by simp only [wa]
theorem wa_sset {e} {cf : CF} {r : Es} {ρ : Env} {K : List Ar → Env → Prop} {E : XE} : wa cf (.cons (.sset e) r) ρ K E = we cf (.sset e) ρ (fun b x ρ1 => wa cf r ρ1 (fun xs ρ2 => kp b (effs r) ∧ K (.val (b, x) :: xs) ρ2) E) E := by simp only [wa]
/-! ### cells -/
theorem get_z {c : Option Cell} {ρ : Env} : get (c :: ρ) 0 = c := by cases c <;> rfl
theorem get_s {c : Option Cell} {ρ : Env} {n : Nat} : get (c :: ρ) (n + 1) = get ρ n := rfl
theorem gk_own {d : D} {K : Bool → D → Prop} : gk (some (.own d)) K = K (imm d) d := rfl
theorem gk_fz {d : D} {K : Bool → D → Prop} : gk (some (.fz d)) K = K (imm d) d := rfl
theorem gk_bor {d : D} {K : Bool → D → Prop} : gk (some (.bor d)) K = K (imm d) d := rfl
theorem gx_own {d : D} {ρ : Env} {i : Nat} {K : EK} : gx' (some (.own d)) ρ i K = K true d (if imm d = true then ρ else ρ.set i none) := rfl
theorem gx_fz {d : D} {ρ : Env} {i : Nat} {K : EK} : gx' (some (.fz d)) ρ i K = K (imm d) d ρ := rfl
theorem gx_bor {d : D} {ρ : Env} {i : Nat} {K : EK} : gx' (some (.bor d)) ρ i K = K (imm d) d ρ := rfl
theorem wscr_s {l : List Int} {K : List Int → Prop} : wscr' (some (.scr l)) K = K l := rfl
theorem noBor_n : noBor [] = true := Eq.trans rfl rfl
theorem noBor_z {ρ : Env} : noBor (none :: ρ) = noBor ρ := Eq.trans rfl rfl
theorem noBor_o {d : D} {ρ : Env} : noBor (some (.own d) :: ρ) = noBor ρ := Eq.trans rfl rfl
theorem noBor_f {d : D} {ρ : Env} : noBor (some (.fz d) :: ρ) = noBor ρ := Eq.trans rfl rfl
theorem noBor_s {l : List Int} {ρ : Env} : noBor (some (.scr l) :: ρ) = noBor ρ := Eq.trans rfl rfl
theorem store_t {ρ : Env} {i : Nat} {d : D} {vs : List Nat} : store ρ i (true, d) vs = ρ.set i (some (.own d)) := rfl
theorem store_q {ρ : Env} {i : Nat} {b : Bool} {d : D} {vs : List Nat} : store ρ i (b, d) vs = bif b || imm d then ρ.set i (some (.own d)) else (freezes ρ vs).set i (some (.fz d)) := by
  unfold store; simp only; cases b || imm d <;> rfl
theorem store_f {ρ : Env} {i : Nat} {d : D} {vs : List Nat} (h : imm d = false) : store ρ i (false, d) vs = (freezes ρ vs).set i (some (.fz d)) := by
  unfold store; rw [h]; rfl
/-- slot i is nobody's to change, cell by cell -/
def frz1 : Option Cell → Option Cell
  | some (.own d) => bif imm d then some (.own d) else some (.fz d)
  | c => c
theorem freeze_eq (ρ : Env) (i : Nat) : freeze ρ i = match ρ[i]? with
    | some c => ρ.set i (frz1 c)
    | none => ρ := by
  unfold freeze get
  split
  · rename_i d e
    split at e
    · rename_i c e2
      subst e
      (try rw [e2])
      by_cases hd : imm d = true
      · rw [if_pos hd]
        simp only [frz1, hd, cond_true]
        obtain ⟨hl, e⟩ := List.getElem?_eq_some_iff.mp e2
        rw [← e, List.set_getElem_self]
      · rw [if_neg hd]
        simp only [Bool.not_eq_true] at hd
        simp only [frz1, hd, cond_false]
    · cases e
  · rename_i n
    split
    · rename_i c e
      have n := n
      rw [e] at n
      have : frz1 c = c := by
        cases c with
        | none => rfl
        | some c => cases c <;> first | rfl | (rename_i d; exact (n d rfl).elim)
      rw [this]
      obtain ⟨hl, e⟩ := List.getElem?_eq_some_iff.mp e
      rw [← e, List.set_getElem_self]
    · rfl
theorem freeze_z {c : Option Cell} {ρ : Env} : freeze (c :: ρ) 0 = frz1 c :: ρ := by rw [freeze_eq]; rfl
theorem freeze_s {c : Option Cell} {ρ : Env} {i : Nat} : freeze (c :: ρ) (i + 1) = c :: freeze ρ i := by
  rw [freeze_eq, freeze_eq]
  simp only [List.getElem?_cons_succ]
  cases ρ[i]? <;> rfl
theorem frz1_o {d : D} : frz1 (some (.own d)) = bif imm d then some (.own d) else some (.fz d) := rfl
theorem frz1_f {d : D} : frz1 (some (.fz d)) = some (.fz d) := rfl
theorem frz1_s {l : List Int} : frz1 (some (.scr l)) = some (.scr l) := rfl
theorem frz1_n : frz1 none = none := rfl
theorem frz1_b {d : D} : frz1 (some (.bor d)) = some (.bor d) := rfl
theorem freezes_n {ρ : Env} : freezes ρ [] = ρ := rfl
theorem freezes_c {ρ : Env} {i : Nat} {l : List Nat} : freezes ρ (i :: l) = freezes (freeze ρ i) l := rfl
/-! ### no lists -/
theorem imm_int {n : Int} : imm (.int n) = true := Eq.trans rfl rfl
theorem imm_bool {n : Bool} : imm (.bool n) = true := Eq.trans rfl rfl
theorem imm_str {n : Str} : imm (.str n) = true := Eq.trans rfl rfl
theorem imm_none : imm .none = true := Eq.trans rfl rfl
theorem imm_list {l : List D} : imm (.list l) = false := Eq.trans rfl rfl
theorem imm_tuple {l : List D} : imm (.tuple l) = immAll l := Eq.trans rfl rfl
theorem immAll_n : immAll [] = true := Eq.trans rfl rfl
theorem immAll_c {x : D} {l : List D} : immAll (x :: l) = (imm x && immAll l) := Eq.trans rfl rfl
theorem flat_int {n : Int} : flat (.int n) = true := Eq.trans rfl rfl
theorem flat_bool {n : Bool} : flat (.bool n) = true := Eq.trans rfl rfl
theorem flat_str {n : Str} : flat (.str n) = true := Eq.trans rfl rfl
theorem flat_none : flat .none = true := Eq.trans rfl rfl
theorem flat_list {l : List D} : flat (.list l) = immAll l := Eq.trans rfl rfl
theorem flat_tuple {l : List D} : flat (.tuple l) = immAll l := Eq.trans rfl rfl
theorem kp_t {e : Bool} : kp true e = True := by simp [kp]
theorem kp_f {b : Bool} : kp b false = True := by simp [kp]
theorem kpv_t {e f : Bool} : kpv true e f = True := by simp [kpv]
theorem kpv_f {b f : Bool} : kpv b false f = True := by simp [kpv]
theorem kpv_fz {b e : Bool} : kpv b e true = True := by simp [kpv]
theorem kpv_n {f : Bool} : kpv false true f = (f = true) := by simp [kpv]
def isfz' : Option Cell → Bool
  | some (.fz _) => true
  | _ => false
theorem isFz_var {ρ : Env} {j : Nat} : isFz ρ (.var j) = isfz' (get ρ j) := by
  unfold isFz isfz'; rfl
theorem isfz_f {d : D} : isfz' (some (.fz d)) = true := Eq.trans rfl rfl
theorem kp_ft : kp false true = False := by simp [kp]
theorem lenOk_of {n : Nat} (h : n ≤ 16777216) : lenOk n = true := by
  unfold lenOk; exact decide_eq_true (Nat.le_trans h (by decide))
/-! ### encoders: f a is without lists; told apart by ==; at most k deep -/
class Enc {α : Type} [DecidableEq α] (f : α → D) (k : outParam Nat) : Prop where
  imm : ∀ a, PV.imm (f a) = true
  eqv : ∀ a b, PyData.eqv (f a) (f b) = decide (a = b)
  dep : ∀ a, (f a).depth ≤ k
def Tp {α : Type} (f : α → D) (l : List α) : D := .tuple (l.map f)
def Ls {α : Type} (f : α → D) (l : List α) : D := .list (l.map f)
/-- pairs -/
theorem imm_Ls {α : Type} {f : α → D} (l : List α) : imm (Ls f l) = false := Eq.trans rfl rfl
def Pr {α β : Type} (f : α → D) (g : β → D) (p : α × β) : D := .tuple [f p.1, g p.2]
theorem beq_dec {α : Type} [BEq α] [LawfulBEq α] [DecidableEq α] (a b : α) : (a == b) = decide (a = b) := by
  cases h : a == b with
  | true => rw [eq_of_beq h]; simp
  | false => exact (decide_eq_false fun e => by rw [e] at h; simp at h).symm
instance : Enc PyData.int 0 := ⟨fun _ => rfl, fun a b => by simp only [PyData.eqv]; rfl, fun _ => by simp [PyData.depth]⟩
instance : Enc PyData.bool 0 := ⟨fun _ => rfl, fun a b => by simp only [PyData.eqv]; cases a <;> cases b <;> rfl, fun _ => by simp [PyData.depth]⟩
instance : Enc PyData.str 0 := ⟨fun _ => rfl, fun a b => by simp only [PyData.eqv]; exact beq_dec a b, fun _ => by simp [PyData.depth]⟩
theorem depthAll_le {n : Nat} : ∀ l : List D, (∀ d ∈ l, d.depth ≤ n) → PyData.depthAll l ≤ n
  | [], _ => by simp [PyData.depthAll]
  | x :: l, h => by
    simp only [PyData.depthAll]
    have h1 := h x List.mem_cons_self
    have h2 := depthAll_le l fun d hd => h d (List.mem_cons_of_mem _ hd)
    omega
section
variable {α : Type} [DecidableEq α] {f : α → D} {k : Nat} [e : Enc f k]
include e
theorem immAll_map (l : List α) : immAll (l.map f) = true := by
  induction l with
  | nil => rfl
  | cons a l ih => rw [List.map_cons, immAll, e.imm, ih]; rfl
theorem imm_Tp (l : List α) : imm (Tp f l) = true := immAll_map l
theorem flat_Tp (l : List α) : flat (Tp f l) = true := immAll_map l
theorem flat_Ls (l : List α) : flat (Ls f l) = true := immAll_map l
theorem imm_enc (a : α) : imm (f a) = true := e.imm a
theorem flat_enc (a : α) : flat (f a) = true := imm_flat (e.imm a)
theorem eqvAll_map : ∀ l m : List α, PyData.eqvAll (l.map f) (m.map f) = decide (l = m)
  | [], [] => by simp [PyData.eqvAll]
  | [], b :: m => by simp [PyData.eqvAll]
  | a :: l, [] => by simp [PyData.eqvAll]
  | a :: l, b :: m => by
    simp only [List.map_cons, PyData.eqvAll, e.eqv, eqvAll_map l m, List.cons.injEq]
    by_cases h1 : a = b <;> by_cases h2 : l = m <;> simp [h1, h2]
theorem eqv_Tp (l m : List α) : PyData.eqv (Tp f l) (Tp f m) = decide (l = m) := by
  unfold Tp; simp only [PyData.eqv]; exact eqvAll_map l m
theorem eqv_Ls (l m : List α) : PyData.eqv (Ls f l) (Ls f m) = decide (l = m) := by
  unfold Ls; simp only [PyData.eqv]; exact eqvAll_map l m
theorem depthAll_map (l : List α) : PyData.depthAll (l.map f) ≤ k := depthAll_le _ fun d hd => by
  obtain ⟨a, _, rfl⟩ := List.mem_map.mp hd
  exact e.dep a
theorem depth_Tp (l : List α) : (Tp f l).depth ≤ k + 1 := by
  unfold Tp
  simp only [PyData.depth]
  have := depthAll_map (f := f) l
  omega
theorem depth_Ls (l : List α) : (Ls f l).depth ≤ k + 1 := by
  unfold Ls
  simp only [PyData.depth]
  have := depthAll_map (f := f) l
  omega
instance : Enc (Tp f) (k + 1) := ⟨imm_Tp, eqv_Tp, depth_Tp⟩
variable {β : Type} [DecidableEq β] {g : β → D} {j : Nat} [e2 : Enc g j]
instance : Enc (Pr f g) (max k j + 1) := ⟨fun p => by simp [Pr, imm, immAll, e.imm, e2.imm], fun p q => by
    obtain ⟨a, b⟩ := p
    obtain ⟨c, d⟩ := q
    simp only [Pr, PyData.eqv, PyData.eqvAll, e.eqv, e2.eqv, Prod.mk.injEq]
    by_cases h1 : a = c <;> by_cases h2 : b = d <;> simp [h1, h2],
  fun p => by
    have h1 := e.dep p.1
    have h2 := e2.dep p.2
    simp only [Pr, PyData.depth, PyData.depthAll]
    omega⟩
/-! ### operators -/
theorem w2_eq {a b : α} {K : D → Prop} (h : k ≤ 60) : w2 .eq (f a) (f b) K = K (.bool (decide (a = b))) := by
  have : eqD (f a) (f b) = .ok (decide (a = b)) := by
    unfold eqD
    rw [if_pos (by have := e.dep a; omega), e.eqv]
  simp only [w2, op2, this, bind_ok]
theorem w2_ne {a b : α} {K : D → Prop} (h : k ≤ 60) : w2 .ne (f a) (f b) K = K (.bool (!decide (a = b))) := by
  have : eqD (f a) (f b) = .ok (decide (a = b)) := by
    unfold eqD
    rw [if_pos (by have := e.dep a; omega), e.eqv]
  simp only [w2, op2, this, bind_ok]
theorem w2_eqL {a b : List α} {K : D → Prop} (h : k ≤ 50) : w2 .eq (Ls f a) (Ls f b) K = K (.bool (decide (a = b))) := by
  have : eqD (Ls f a) (Ls f b) = .ok (decide (a = b)) := by
    unfold eqD
    rw [if_pos (by have := depth_Ls (f := f) a; omega), eqv_Ls]
  simp only [w2, op2, this, bind_ok]
theorem w2_neL {a b : List α} {K : D → Prop} (h : k ≤ 50) : w2 .ne (Ls f a) (Ls f b) K = K (.bool (!decide (a = b))) := by
  have : eqD (Ls f a) (Ls f b) = .ok (decide (a = b)) := by
    unfold eqD
    rw [if_pos (by have := depth_Ls (f := f) a; omega), eqv_Ls]
  simp only [w2, op2, this, bind_ok]
theorem any_eqv (a : α) (l : List α) : ((l.map f).any fun y => PyData.eqv y (f a)) = decide (a ∈ l) := by
  induction l with
  | nil => simp
  | cons b l ih =>
    rw [List.map_cons, List.any_cons, ih, e.eqv]
    by_cases h : b = a
    · simp [h]
    · have h' : ¬ a = b := fun e => h e.symm
      by_cases h2 : a ∈ l <;> simp [h, h', h2]
theorem inD_map (a : α) (l : List α) (h : k ≤ 60) : inD (f a) (l.map f) = .ok (decide (a ∈ l)) := by
  unfold inD
  rw [if_pos (by have := e.dep a; omega), any_eqv]
theorem w2_inT {a : α} {l : List α} {K : D → Prop} (h : k ≤ 60) : w2 .inn (f a) (Tp f l) K = K (.bool (decide (a ∈ l))) := by
  simp only [w2, op2, Tp, inD_map a l h, bind_ok]
theorem w2_ninT {a : α} {l : List α} {K : D → Prop} (h : k ≤ 60) : w2 .nin (f a) (Tp f l) K = K (.bool (!decide (a ∈ l))) := by
  simp only [w2, op2, Tp, inD_map a l h, bind_ok]
theorem w2_inL {a : α} {l : List α} {K : D → Prop} (h : k ≤ 60) : w2 .inn (f a) (Ls f l) K = K (.bool (decide (a ∈ l))) := by
  simp only [w2, op2, Ls, inD_map a l h, bind_ok]
theorem w2_ninL {a : α} {l : List α} {K : D → Prop} (h : k ≤ 60) : w2 .nin (f a) (Ls f l) K = K (.bool (!decide (a ∈ l))) := by
  simp only [w2, op2, Ls, inD_map a l h, bind_ok]
theorem wmt_count {a : α} {l : List α} {K : D → Prop} (h : k ≤ 60) : wmt .count (Ls f l) [f a] K = K (.int (l.countP fun y => decide (y = a))) := by
  have : mt .count (Ls f l) [f a] = .ok (.int (l.countP fun y => decide (y = a))) := by
    unfold mt Ls
    dsimp only
    rw [if_pos (by have := e.dep a; omega), List.countP_map]
    have : ((fun y => PyData.eqv y (f a)) ∘ f) = fun y => decide (y = a) := funext fun y => e.eqv y a
    rw [this]
  simp only [wmt, this]
end
section
variable {α : Type} {f : α → D}
theorem w2_addT {a b : List α} {K : D → Prop} : w2 .add (Tp f a) (Tp f b) K = (a.length + b.length ≤ 16777216 ∧ K (Tp f (a ++ b))) := by
  simp only [w2, op2, Tp, List.length_map, lenOk, List.map_append]
  have : sizeLine = 16777216 := by decide
  rw [this]
  by_cases h : a.length + b.length ≤ 16777216 <;> simp [h]
theorem w2_addL {a b : List α} {K : D → Prop} : w2 .add (Ls f a) (Ls f b) K = (a.length + b.length ≤ 16777216 ∧ K (Ls f (a ++ b))) := by
  simp only [w2, op2, Ls, List.length_map, lenOk, List.map_append]
  have : sizeLine = 16777216 := by decide
  rw [this]
  by_cases h : a.length + b.length ≤ 16777216 <;> simp [h]
/-- an item by Python's index -/
def inR (n : Nat) (i : Int) : Prop := -(n : Int) ≤ i ∧ i < n
def pyg [Inhabited α] (l : List α) (i : Int) : α := if 0 ≤ i then l.getD i.toNat default else l.getD (i + l.length).toNat default
theorem ixN_of {n : Nat} {i : Int} (h : inR n i) : ixN n i = some (if 0 ≤ i then i.toNat else (i + n).toNat) := by
  unfold ixN
  obtain ⟨h1, h2⟩ := h
  by_cases h0 : 0 ≤ i
  · rw [if_pos h0, if_pos h2, if_pos h0]
  · rw [if_neg h0, if_pos h1, if_neg h0]
theorem ixN_not {n : Nat} {i : Int} (h : ¬ inR n i) : ixN n i = none := by
  unfold ixN
  by_cases h0 : 0 ≤ i
  · rw [if_pos h0, if_neg fun h2 => h ⟨by omega, h2⟩]
  · rw [if_neg h0, if_neg fun h1 => h ⟨h1, by omega⟩]
theorem atD_map [Inhabited α] {l : List α} {i : Int} (h : inR l.length i) : atD (l.map f) i = .ok (f (pyg l i)) := by
  unfold atD pyg
  rw [List.length_map, ixN_of h]
  obtain ⟨h1, h2⟩ := h
  dsimp only
  by_cases h0 : 0 ≤ i
  · rw [if_pos h0, if_pos h0, List.getElem?_map, List.getElem?_eq_getElem (by omega), List.getD_eq_getElem?_getD, List.getElem?_eq_getElem (by omega)]
    rfl
  · rw [if_neg h0, if_neg h0, List.getElem?_map, List.getElem?_eq_getElem (by omega), List.getD_eq_getElem?_getD, List.getElem?_eq_getElem (by omega)]
    rfl
theorem atD_not {l : List D} {i : Int} (h : ¬ inR l.length i) : atD l i = .stuck := by
  unfold atD
  rw [ixN_not h]
theorem wat_map [Inhabited α] {l : List α} {i : Int} {K : D → Prop} : wat (l.map f) i K = (inR l.length i ∧ K (f (pyg l i))) := by
  unfold wat
  by_cases h : inR l.length i
  · rw [atD_map h]; simp [h]
  · rw [atD_not (by rwa [List.length_map])]; simp [h]
theorem wsub_T [Inhabited α] {l : List α} {i : Int} {K : D → Prop} : wsub (Tp f l) (.int i) K = (inR l.length i ∧ K (f (pyg l i))) := wat_map
theorem wsub_L [Inhabited α] {l : List α} {i : Int} {K : D → Prop} : wsub (Ls f l) (.int i) K = (inR l.length i ∧ K (f (pyg l i))) := wat_map
theorem cut_map {l : List α} {lo hi : Option Int} : cut (l.map f) lo hi = (cut l lo hi).map f := by
  unfold cut
  rw [List.length_map, List.map_take, List.map_drop]
theorem wslc_T {l : List α} {lo hi : Option Int} {K : D → Prop} : wslc (Tp f l) lo hi K = K (Tp f (cut l lo hi)) := by
  show K (.tuple (cut (l.map f) lo hi)) = _
  rw [cut_map]; rfl
theorem wslc_L {l : List α} {lo hi : Option Int} {K : D → Prop} : wslc (Ls f l) lo hi K = K (Ls f (cut l lo hi)) := by
  show K (.list (cut (l.map f) lo hi)) = _
  rw [cut_map]; rfl
theorem wrev_T {l : List α} {K : D → Prop} : wrev (Tp f l) K = K (Tp f l.reverse) := by
  show K (.tuple (l.map f).reverse) = _
  rw [← List.map_reverse]; rfl
theorem wrev_L {l : List α} {K : D → Prop} : wrev (Ls f l) K = K (Ls f l.reverse) := by
  show K (.list (l.map f).reverse) = _
  rw [← List.map_reverse]; rfl
theorem wits_T {l : List α} {K : List D → Prop} : wits (Tp f l) K = K (l.map f) := rfl
theorem wits_L {l : List α} {K : List D → Prop} : wits (Ls f l) K = K (l.map f) := rfl
theorem witr_T {l : List α} {K : List D → Prop} : witr (Tp f l) K = K (l.map f) := rfl
theorem witr_L {l : List α} {K : List D → Prop} : witr (Ls f l) K = K (l.map f) := rfl
theorem wits_S {s : Str} {K : List D → Prop} : wits (.str s) K = K (signsD s) := rfl
theorem wlist_L {l : List α} {K : List D → Prop} : wlist (Ls f l) K = K (l.map f) := rfl
theorem wlist_l {l : List D} {K : List D → Prop} : wlist (.list l) K = K l := rfl
theorem wits_l {l : List D} {K : List D → Prop} : wits (.list l) K = K l := rfl
theorem wits_t {l : List D} {K : List D → Prop} : wits (.tuple l) K = K l := rfl
theorem wown_L {l : List α} {K : List D → Prop} : wown' (some (.own (Ls f l))) K = K (l.map f) := rfl
theorem wown_l {l : List D} {K : List D → Prop} : wown' (some (.own (.list l))) K = K l := rfl
theorem wset_map {l : List α} {i : Int} {a : α} {K : List D → Prop} : wset (l.map f) i (f a) K = (inR l.length i ∧ K ((l.set (if 0 ≤ i then i.toNat else (i + l.length).toNat) a).map f)) := by
  unfold wset setAt
  rw [List.length_map]
  by_cases h : inR l.length i
  · rw [ixN_of h, List.map_set]; simp [h]
  · rw [ixN_not h]; simp [h]
theorem wbi_lenT {l : List α} {K : D → Prop} : wbi .len [Tp f l] K = K (.int l.length) := by
  show K (.int (l.map f).length) = _
  rw [List.length_map]
theorem wbi_lenL {l : List α} {K : D → Prop} : wbi .len [Ls f l] K = K (.int l.length) := by
  show K (.int (l.map f).length) = _
  rw [List.length_map]
theorem wbi_tupL {l : List α} {K : D → Prop} : wbi .tup [Ls f l] K = K (Tp f l) := rfl
theorem wbi_tupT {l : List α} {K : D → Prop} : wbi .tup [Tp f l] K = K (Tp f l) := rfl
theorem wbi_lstL {l : List α} {K : D → Prop} : wbi .lst [Ls f l] K = K (Ls f l) := rfl
theorem wbi_lstT {l : List α} {K : D → Prop} : wbi .lst [Tp f l] K = K (Ls f l) := rfl
end
theorem intsOf_map (l : List Int) : intsOf (l.map .int) = some l := by
  induction l with
  | nil => rfl
  | cons a l ih => simp only [List.map_cons, intsOf, ih]
theorem boolsOf_map (l : List Bool) : boolsOf (l.map .bool) = some l := by
  induction l with
  | nil => rfl
  | cons a l ih => simp only [List.map_cons, boolsOf, ih]
theorem wbi_sumT {l : List Int} {K : D → Prop} : wbi .sum [Tp .int l] K = K (.int l.sum) := by simp only [wbi, bi, Tp, intsOf_map]
theorem wbi_sumL {l : List Int} {K : D → Prop} : wbi .sum [Ls .int l] K = K (.int l.sum) := by simp only [wbi, bi, Ls, intsOf_map]
theorem wbi_allL {l : List Bool} {K : D → Prop} : wbi .all [Ls .bool l] K = K (.bool (l.all id)) := by simp only [wbi, bi, Ls, boolsOf_map]
theorem wbi_anyL {l : List Bool} {K : D → Prop} : wbi .any [Ls .bool l] K = K (.bool (l.any id)) := by simp only [wbi, bi, Ls, boolsOf_map]
theorem wbi_sorted {α : Type} {f : α → D} {l : List α} {K : D → Prop} : wbi .sorted [Ls f l] K = (sortB (l.map f) = true ∧ K (.list ((l.map f).mergeSort leD))) := by
  simp only [wbi, bi, Ls]
  by_cases h : sortB (l.map f) = true <;> simp [h]
theorem wbi_max2 {a b : Int} {K : D → Prop} : wbi .max2 [.int a, .int b] K = K (.int (if b > a then b else a)) := rfl
theorem wbi_min2 {a b : Int} {K : D → Prop} : wbi .min2 [.int a, .int b] K = K (.int (if b < a then b else a)) := rfl
theorem wbi_abs {a : Int} {K : D → Prop} : wbi .abs [.int a] K = K (.int (if a < 0 then -a else a)) := rfl
theorem wbi_int {a : Int} {K : D → Prop} : wbi .int [.int a] K = K (.int a) := rfl
theorem wbi_intb {a : Bool} {K : D → Prop} : wbi .int [.bool a] K = K (.int (if a = true then 1 else 0)) := rfl
theorem w2_add {a b : Int} {K : D → Prop} : w2 .add (.int a) (.int b) K = K (.int (a + b)) := rfl
theorem w2_sub {a b : Int} {K : D → Prop} : w2 .sub (.int a) (.int b) K = K (.int (a - b)) := rfl
theorem w2_mul {a b : Int} {K : D → Prop} : w2 .mul (.int a) (.int b) K = (mulOk a b = true ∧ K (.int (a * b))) := by
  simp only [w2, op2]
  by_cases h : mulOk a b = true <;> simp [h]
theorem w2_fdiv {a b : Int} {K : D → Prop} : w2 .fdiv (.int a) (.int b) K = (divOk b = true ∧ K (.int (a.fdiv b))) := by
  simp only [w2, op2]
  by_cases h : divOk b = true <;> simp [h]
theorem w2_mod {a b : Int} {K : D → Prop} : w2 .mod (.int a) (.int b) K = (b ≠ 0 ∧ K (.int (a.fmod b))) := by
  simp only [w2, op2]
  by_cases h : b = 0 <;> simp [h]
theorem w2_pow {a b : Int} {K : D → Prop} : w2 .pow (.int a) (.int b) K = ((0 ≤ b ∧ b ≤ 1000000 ∧ a.natAbs < 2 ^ 64) ∧ K (.int (a ^ b.toNat))) := by
  simp only [w2, op2]
  by_cases h : 0 ≤ b ∧ b ≤ 1000000 ∧ a.natAbs < 2 ^ 64 <;> simp [h]
theorem w2_lt {a b : Int} {K : D → Prop} : w2 .lt (.int a) (.int b) K = K (.bool (decide (a < b))) := rfl
theorem w2_le {a b : Int} {K : D → Prop} : w2 .le (.int a) (.int b) K = K (.bool (decide (a ≤ b))) := rfl
theorem w2_gt {a b : Int} {K : D → Prop} : w2 .gt (.int a) (.int b) K = K (.bool (decide (b < a))) := rfl
theorem w2_ge {a b : Int} {K : D → Prop} : w2 .ge (.int a) (.int b) K = K (.bool (decide (b ≤ a))) := rfl
theorem w1_neg {a : Int} {K : D → Prop} : w1 .neg (.int a) K = K (.int (-a)) := rfl
theorem w1_not {a : Bool} {K : D → Prop} : w1 .nt (.bool a) K = K (.bool (!a)) := rfl
theorem wi_i {i : Int} {K : Int → Prop} : wi (.int i) K = K i := rfl
theorem wv_b {b : Bool} {K : Bool → Prop} : wv (.bool b) K = K b := rfl
theorem wb_t {A B : Prop} : wb (.bool true) A B = A := rfl
theorem wb_f {A B : Prop} : wb (.bool false) A B = B := rfl
theorem wb_if {b : Bool} {A B : Prop} (h1 : b = true → A) (h2 : b = false → B) : wb (.bool b) A B := by
  cases b with
  | true => exact h1 rfl
  | false => exact h2 rfl
theorem wand_b {p q : Bool} {K : Bool → Prop} : wand (.bool p) (fun K' => K' q) K = K (p && q) := by cases p <;> rfl
theorem wand_c1 {p : Bool} {C : Prop} {t : (Bool → Prop) → Prop} {K : Bool → Prop} : wand (.bool p) (fun K' => C ∧ t K') K = ((p = true → C) ∧ wand (.bool p) t K) := by cases p <;> simp [wand]
theorem wandE_t {t : (Bool → Env → Prop) → Prop} {ρ : Env} {K : Bool → Env → Prop} : wandE (.bool true) t ρ K = t K := rfl
theorem wandE_f {t : (Bool → Env → Prop) → Prop} {ρ : Env} {K : Bool → Env → Prop} : wandE (.bool false) t ρ K = K false ρ := rfl
theorem worE_t {t : (Bool → Env → Prop) → Prop} {ρ : Env} {K : Bool → Env → Prop} : worE (.bool true) t ρ K = K true ρ := rfl
theorem worE_f {t : (Bool → Env → Prop) → Prop} {ρ : Env} {K : Bool → Env → Prop} : worE (.bool false) t ρ K = t K := rfl
theorem wand_t {t : (Bool → Prop) → Prop} {K : Bool → Prop} : wand (.bool true) t K = t K := rfl
theorem wand_f {t : (Bool → Prop) → Prop} {K : Bool → Prop} : wand (.bool false) t K = K false := rfl
theorem wor_b {p q : Bool} {K : Bool → Prop} : wor (.bool p) (fun K' => K' q) K = K (p || q) := by cases p <;> rfl
theorem wor_c1 {p : Bool} {C : Prop} {t : (Bool → Prop) → Prop} {K : Bool → Prop} : wor (.bool p) (fun K' => C ∧ t K') K = ((p = false → C) ∧ wor (.bool p) t K) := by cases p <;> simp [wor]
theorem wor_t {t : (Bool → Prop) → Prop} {K : Bool → Prop} : wor (.bool true) t K = K true := rfl
theorem wor_f {t : (Bool → Prop) → Prop} {K : Bool → Prop} : wor (.bool false) t K = t K := rfl
theorem wbS_t {A B : Prop} {t : Tag (A ∧ B)} : wbS (.bool true) A B t = A := rfl
theorem wbS_f {A B : Prop} {t : Tag (A ∧ B)} : wbS (.bool false) A B t = B := rfl
theorem wbS_if {b : Bool} {A B : Prop} {t : Tag (A ∧ B)} (h1 : b = true → A) (h2 : b = false → B) : wbS (.bool b) A B t := wb_if h1 h2
theorem wite_t {t u : (Bool → D → Prop) → Prop} {K : Bool → D → Prop} {g : Tag K} : wite (.bool true) t u K g = t K := rfl
theorem wite_f {t u : (Bool → D → Prop) → Prop} {K : Bool → D → Prop} {g : Tag K} : wite (.bool false) t u K g = u K := rfl
theorem wite_c1 {p : Bool} {C : Prop} {t u : (Bool → D → Prop) → Prop} {K : Bool → D → Prop} {g : Tag K} : wite (.bool p) (fun K' => C ∧ t K') u K g = ((p = true → C) ∧ wite (.bool p) t u K g) := by cases p <;> simp [wite]
theorem wite_c2 {p : Bool} {C : Prop} {t u : (Bool → D → Prop) → Prop} {K : Bool → D → Prop} {g : Tag K} : wite (.bool p) t (fun K' => C ∧ u K') K g = ((p = false → C) ∧ wite (.bool p) t u K g) := by cases p <;> simp [wite]
theorem wite_int {p : Bool} {b : Bool} {x y : Int} {K : Bool → D → Prop} {g : Tag K} : wite (.bool p) (fun K' => K' b (.int x)) (fun K' => K' b (.int y)) K g = K b (.int (if p = true then x else y)) := by cases p <;> rfl
theorem wite_bool {p : Bool} {b : Bool} {x y : Bool} {K : Bool → D → Prop} {g : Tag K} : wite (.bool p) (fun K' => K' b (.bool x)) (fun K' => K' b (.bool y)) K g = K b (.bool (if p = true then x else y)) := by cases p <;> rfl
theorem wite_str {p : Bool} {b : Bool} {x y : Str} {K : Bool → D → Prop} {g : Tag K} : wite (.bool p) (fun K' => K' b (.str x)) (fun K' => K' b (.str y)) K g = K b (.str (if p = true then x else y)) := by cases p <;> rfl
theorem wite_T {p : Bool} {b : Bool} {α : Type} {f : α → D} {x y : List α} {K : Bool → D → Prop} {g : Tag K} : wite (.bool p) (fun K' => K' b (Tp f x)) (fun K' => K' b (Tp f y)) K g = K b (Tp f (if p = true then x else y)) := by cases p <;> rfl
theorem wite_L {p : Bool} {b : Bool} {α : Type} {f : α → D} {x y : List α} {K : Bool → D → Prop} {g : Tag K} : wite (.bool p) (fun K' => K' b (Ls f x)) (fun K' => K' b (Ls f y)) K g = K b (Ls f (if p = true then x else y)) := by cases p <;> rfl
theorem wite_if {p : Bool} {t u : (Bool → D → Prop) → Prop} {K : Bool → D → Prop} {g : Tag K} (h1 : p = true → t K) (h2 : p = false → u K) : wite (.bool p) t u K g := by
  cases p with
  | true => exact h1 rfl
  | false => exact h2 rfl
theorem wnx_n {A B : Prop} : wnx .nx A B = A := rfl
theorem wnx_r {d : D} {A B : Prop} : wnx (.ret d) A B = B := rfl
theorem wnx_b {A B : Prop} : wnx .brk A B = B := rfl
theorem wnx_k {A B : Prop} : wnx .cnt A B = B := rfl
/-! ### targets -/
theorem wbind_1 {k : D → Cell} {i : Nat} {d : D} {ρ : Env} {K : Env → Prop} : wbind k [i] true d ρ K = K (ρ.set i (some (cellOf k d))) := rfl
theorem wbind_2 {k : D → Cell} {i j : Nat} {c d : D} {ρ : Env} {K : Env → Prop} : wbind k [i, j] false (.tuple [c, d]) ρ K = K ((ρ.set i (some (cellOf k c))).set j (some (cellOf k d))) := rfl
theorem wbind_3 {k : D → Cell} {i j l : Nat} {c d e : D} {ρ : Env} {K : Env → Prop} : wbind k [i, j, l] false (.tuple [c, d, e]) ρ K = K (((ρ.set i (some (cellOf k c))).set j (some (cellOf k d))).set l (some (cellOf k e))) := rfl
theorem cellOf_q {k : D → Cell} {d : D} : cellOf k d = bif imm d then .own d else k d := by unfold cellOf; cases imm d <;> rfl
theorem cellOf_i {k : D → Cell} {d : D} (h : imm d = true) : cellOf k d = .own d := if_pos h
theorem cellOf_l {k : D → Cell} {d : D} (h : imm d = false) : cellOf k d = k d := if_neg (by rw [h]; decide)
/-! ### calls -/
theorem call_intro {fs : List Fn} {k f : Nat} {F : Fn} {cs : List Cell} {Q : D → Prop} {E : XE} (hF : fs[f]? = some F) (hl : cs.length = F.params)
    (h : wss (runF fs k) F.body (cs.map some ++ List.replicate (F.slots - F.params) none) (fun o ρ => F.params ≤ ρ.length ∧ match o with | .ret d => Q d | .nx => Q .none | _ => False) E) : Call (runF fs (k + 1)) f cs Q E := by
  unfold Call
  simp only [runF, hF]
  rw [if_pos hl]
  refine WP.bind ((wss_ok F.body h).mono fun p h => ?_)
  obtain ⟨o, ρ⟩ := p
  obtain ⟨h1, h2⟩ := h
  cases o <;> first | exact h2.elim | exact ⟨rfl, by rw [List.length_take]; simp only at h1 ⊢; omega, h2⟩
theorem Call.mono {cf : CF} {f : Nat} {cs : List Cell} {Q Q' : D → Prop} {E : XE} (h : Call cf f cs Q E) (i : ∀ d, Q d → Q' d) : Call cf f cs Q' E := WP.mono h fun p h => ⟨h.1, h.2.1, i _ h.2.2⟩
/-- what a call's argument is to the def -/
def arC : R → Cell := fun r => if imm r.2 then .own r.2 else .fz r.2
theorem arCells_v (ρ : Env) : ∀ rs : List R, arCells ρ (rs.map .val) = some (rs.map arC)
  | [] => rfl
  | r :: rs => by simp only [List.map_cons, arCells, arCells_v ρ rs, arC]
theorem arBack_v (ρ : Env) : ∀ (rs : List R) (outs : List (Option Cell)), outs.length = rs.length → arBack ρ (rs.map .val) outs = some ρ
  | [], [], _ => rfl
  | r :: rs, o :: outs, h => by simp only [List.map_cons, arBack]; exact arBack_v ρ rs outs (by simpa using h)
  | [], _ :: _, h => by simp at h
  | _ :: _, [], h => by simp at h
theorem hasRef_v : ∀ rs : List R, hasRef (rs.map .val) = false
  | [] => rfl
  | r :: rs => by simp only [List.map_cons, hasRef]; exact hasRef_v rs
theorem wcall_vals {sp : Bool} {cf : CF} {f : Nat} {rs : List R} {ρ : Env} {K : EK} {E : XE} (h : Call cf f (rs.map arC) (fun d => K true d ρ) E) : wcall cf f sp (rs.map .val) ρ K E .mk := by
  unfold wcall callA
  rw [hasRef_v, arCells_v]
  simp only [Bool.false_and, Bool.false_eq_true, if_false]
  refine WP.bind (WP.mono h fun p h => ?_)
  obtain ⟨h1, h2, h3⟩ := h
  rw [arBack_v _ _ _ (by simpa using h2)]
  refine WP.ok ?_
  rw [h1, Bool.true_or]
  exact h3
theorem wcall_1 {sp : Bool} {cf : CF} {f : Nat} {b1 : Bool} {x1 : D} {ρ : Env} {K : EK} {E : XE} (h : Call cf f [arC (b1, x1)] (fun d => K true d ρ) E) : wcall cf f sp [.val (b1, x1)] ρ K E .mk := wcall_vals (rs := [_]) h
theorem wcall_2 {sp : Bool} {cf : CF} {f : Nat} {b1 b2 : Bool} {x1 x2 : D} {ρ : Env} {K : EK} {E : XE} (h : Call cf f [arC (b1, x1), arC (b2, x2)] (fun d => K true d ρ) E) : wcall cf f sp [.val (b1, x1), .val (b2, x2)] ρ K E .mk := wcall_vals (rs := [_, _]) h
theorem wcall_3 {sp : Bool} {cf : CF} {f : Nat} {b1 b2 b3 : Bool} {x1 x2 x3 : D} {ρ : Env} {K : EK} {E : XE} (h : Call cf f [arC (b1, x1), arC (b2, x2), arC (b3, x3)] (fun d => K true d ρ) E) : wcall cf f sp [.val (b1, x1), .val (b2, x2), .val (b3, x3)] ρ K E .mk := wcall_vals (rs := [_, _, _]) h
theorem arC_q {b : Bool} {d : D} : arC (b, d) = bif imm d then .own d else .fz d := by unfold arC; cases h : imm d <;> simp [h]
theorem arC_i {b : Bool} {d : D} (h : imm d = true) : arC (b, d) = .own d := if_pos h
theorem arC_l {b : Bool} {d : D} (h : imm d = false) : arC (b, d) = .fz d := if_neg (by simp only; rw [h]; decide)
/-- a call that hands over the name i and takes a number -/
def CallR (cf : CF) (f : Nat) (cs : List Cell) (Q : D → D → Prop) (E : XE) : Prop := WP (cf f cs) (fun p => p.1.1 = true ∧ ∃ x' r, p.2 = some (.own x') :: r ∧ r.length + 1 = cs.length ∧ Q p.1.2 x') E
theorem wcall_r {sp : Bool} {cf : CF} {f i : Nat} {b : Bool} {x y : D} {ρ : Env} {K : EK} {E : XE} (hg : get ρ i = some (.own x)) (hn : noBor ρ = true) (hy : imm y = true) (h : CallR cf f [.own x, .own y] (fun d x' => K true d (ρ.set i (some (.own x')))) E) : wcall cf f sp [.ref i, .val (b, y)] ρ K E .mk := by
  unfold wcall callA
  simp only [hasRef, hn, arVals, Bool.true_or, List.all_cons, hy, List.all_nil, arRefs, List.nodup_cons, List.not_mem_nil, not_false_eq_true, List.nodup_nil, and_self, decide_true, Bool.and_self, Bool.not_true, Bool.and_false, Bool.false_eq_true, if_false, arCells, hg, if_true]
  refine WP.bind (WP.mono h fun p h => ?_)
  obtain ⟨h1, x', r, h2, h3, h4⟩ := h
  obtain ⟨⟨f1, d⟩, outs⟩ := p
  simp only at h2
  subst h2
  match r, h3 with
  | [c], _ =>
    refine WP.ok ?_
    simp only at h1
    rw [h1, Bool.true_or]
    exact h4
theorem wcall_r0 {sp : Bool} {cf : CF} {f i : Nat} {x : D} {ρ : Env} {K : EK} {E : XE} (hg : get ρ i = some (.own x)) (hn : noBor ρ = true) (h : CallR cf f [.own x] (fun d x' => K true d (ρ.set i (some (.own x')))) E) : wcall cf f sp [.ref i] ρ K E .mk := by
  unfold wcall callA
  simp only [hasRef, hn, arVals, Bool.true_or, List.all_nil, arRefs, List.nodup_cons, List.not_mem_nil, not_false_eq_true, List.nodup_nil, and_self, decide_true, Bool.and_self, Bool.not_true, Bool.and_false, Bool.false_eq_true, if_false, arCells, hg]
  refine WP.bind (WP.mono h fun p h => ?_)
  obtain ⟨h1, x', r, h2, h3, h4⟩ := h
  obtain ⟨⟨f1, d⟩, outs⟩ := p
  simp only at h2
  subst h2
  match r, h3 with
  | [], _ =>
    refine WP.ok ?_
    simp only at h1
    rw [h1, Bool.true_or]
    exact h4
theorem callR_intro {fs : List Fn} {k f : Nat} {F : Fn} {cs : List Cell} {Q : D → D → Prop} {E : XE} (hF : fs[f]? = some F) (hl : cs.length = F.params) (hp : 0 < F.params)
    (h : wss (runF fs k) F.body (cs.map some ++ List.replicate (F.slots - F.params) none) (fun o ρ => F.params ≤ ρ.length ∧ ∃ x', get ρ 0 = some (.own x') ∧ match o with | .ret d => Q d x' | .nx => Q .none x' | _ => False) E) : CallR (runF fs (k + 1)) f cs Q E := by
  unfold CallR
  simp only [runF, hF]
  rw [if_pos hl]
  refine WP.bind ((wss_ok F.body h).mono fun p h => ?_)
  obtain ⟨o, ρ⟩ := p
  obtain ⟨h1, x', h3, h2⟩ := h
  simp only at h1 h3
  have ht : ∃ r, ρ.take F.params = some (.own x') :: r ∧ r.length + 1 = cs.length := by
    cases ρ with
    | nil => simp at h1; omega
    | cons c ρ =>
      rw [get_z] at h3
      subst h3
      obtain ⟨n, hn⟩ : ∃ n, F.params = n + 1 := ⟨F.params - 1, by omega⟩
      rw [hn]
      refine ⟨ρ.take n, rfl, ?_⟩
      rw [List.length_take]
      simp only [List.length_cons] at h1
      omega
  obtain ⟨r, hr, hr2⟩ := ht
  cases o <;> first | exact h2.elim | exact ⟨rfl, x', r, hr, hr2, h2⟩
/-! ### loops -/
theorem wfor_core {cf : CF} {tgt : List Nat} {single : Bool} {b : Ss} {α : Type} {f : α → D} {l : List α} {ρ : Env} {K : Out → Env → Prop} {E : XE} (I : List α → Env → Prop) (h0 : I [] ρ)
    (h1 : ∀ pre a suf σ, l = pre ++ a :: suf → I pre σ → WP (loopB cf tgt single b (f a) σ) (fun p => match p.1 with
      | .ret d => K (.ret d) p.2
      | .brk => K .nx p.2
      | _ => I (pre ++ [a]) p.2) E) (h2 : ∀ σ, I l σ → K .nx σ) : wfor cf tgt single b (l.map f) ρ K E .mk := by
  unfold wfor
  have key : ∀ (suf pre : List α) (σ : Env), l = pre ++ suf → I pre σ → WP (forL (loopB cf tgt single b) (suf.map f) σ) (fun p => K p.1 p.2) E := by
    intro suf
    induction suf with
    | nil =>
      intro pre σ e hI
      rw [List.append_nil] at e
      subst e
      exact h2 σ hI
    | cons a suf ih =>
      intro pre σ e hI
      simp only [List.map_cons, forL]
      refine WP.bind ((h1 pre a suf σ e hI).mono fun p h => ?_)
      obtain ⟨o, σ2⟩ := p
      have e2 : l = (pre ++ [a]) ++ suf := by rw [e, List.append_assoc]; rfl
      cases o <;> first | exact h | exact ih _ _ e2 h
  exact key l [] ρ rfl h0
theorem loop_ok {cf : CF} {tgt : List Nat} {single : Bool} {b : Ss} {d : D} {σ : Env} {K : Out → Env → Prop} {E : XE} (h : wbind .fz tgt single d σ fun σ1 => wss cf b σ1 K E) : WP (loopB cf tgt single b d σ) (fun p => K p.1 p.2) E := by
  unfold loopB
  exact WP.bind ((wbind_ok h).mono fun σ1 h => wss_ok b h)
/-- what a turn leaves -/
def Turn (J : Env → Prop) (K : Out → Env → Prop) (o : Out) (σ : Env) : Prop := match o with
  | .ret d => K (.ret d) σ
  | .brk => K .nx σ
  | _ => J σ
theorem wfor_inv {cf : CF} {tgt : List Nat} {single : Bool} {b : Ss} {α : Type} {f : α → D} {l : List α} {ρ : Env} {K : Out → Env → Prop} {E : XE} (I : List α → Env → Prop) (h0 : I [] ρ)
    (h1 : ∀ pre a suf σ, l = pre ++ a :: suf → I pre σ → wbind .fz tgt single (f a) σ fun σ1 => wss cf b σ1 (Turn (I (pre ++ [a])) K) E) (h2 : ∀ σ, I l σ → K .nx σ) : wfor cf tgt single b (l.map f) ρ K E .mk :=
  wfor_core I h0 (fun pre a suf σ e hI => (loop_ok (h1 pre a suf σ e hI)).mono fun p h => by
    obtain ⟨o, σ2⟩ := p
    cases o <;> exact h) h2
/-- a fold: the names' state is st s g, g what does not matter -/
theorem wfor_fold {cf : CF} {tgt : List Nat} {single : Bool} {b : Ss} {α β γ : Type} {f : α → D} {l : List α} {ρ : Env} {K : Out → Env → Prop} {E : XE} (st : β → γ → Env) (step : β → α → β) (b0 : β) (g0 : γ) (hρ : ρ = st b0 g0)
    (h1 : ∀ s g a, a ∈ l → wbind .fz tgt single (f a) (st s g) fun σ1 => wss cf b σ1 (fun o σ2 => (o = .nx ∨ o = .cnt) ∧ ∃ g', σ2 = st (step s a) g') E) (h2 : ∀ g, K .nx (st (l.foldl step b0) g)) : wfor cf tgt single b (l.map f) ρ K E .mk := by
  refine wfor_core (I := fun pre σ => ∃ g, σ = st (pre.foldl step b0) g) ⟨g0, hρ⟩ (fun pre a suf σ e hI => ?_) (fun σ hI => ?_)
  · obtain ⟨g, rfl⟩ := hI
    refine (loop_ok (h1 (pre.foldl step b0) g a (by rw [e]; simp))).mono fun p h => ?_
    obtain ⟨o, σ2⟩ := p
    obtain ⟨ho, g', h⟩ := h
    simp only at ho h
    have : ∃ g, σ2 = st ((pre ++ [a]).foldl step b0) g := ⟨g', by rw [h, List.foldl_append]; rfl⟩
    rcases ho with rfl | rfl <;> exact this
  · obtain ⟨g, rfl⟩ := hI
    exact h2 g
/-- a while: at most n turns are left -/
theorem wwhl_inv {cf : CF} {c : PV.E} {b : Ss} {ρ : Env} {K : Out → Env → Prop} {E : XE} (I : Nat → Env → Prop) (n : Nat) (hn : n < 1000000) (h0 : I n ρ)
    (h1 : ∀ n σ, I n σ → we cf c σ (fun _ x σ1 => wb x (wss cf b σ1 (Turn (fun σ2 => ∃ m, m < n ∧ I m σ2) K) E) (K .nx σ1)) E) : wwhl cf c b ρ K E .mk := by
  unfold wwhl
  have key : ∀ (f n : Nat) (σ : Env), n < f → I n σ → WP (whileL (fun σ => do
      let (x, σ1) ← ev cf c σ
      .ok (← asBool x.2, σ1)) (fun σ => execs cf b σ) f σ) (fun p => K p.1 p.2) E := by
    intro f
    induction f with
    | zero => intro n σ h; omega
    | succ f ih =>
      intro n σ hf hI
      simp only [whileL]
      refine WP.bind (WP.bind ((we_ok c (h1 n σ hI)).mono fun p h => ?_))
      refine WP.bind ((wb_ok h).mono fun z h => WP.ok ?_)
      cases z with
      | false => exact h
      | true =>
        refine WP.bind ((wss_ok b h).mono fun p h => ?_)
        obtain ⟨o, σ2⟩ := p
        cases o with
        | ret d => exact h
        | brk => exact h
        | nx =>
          obtain ⟨m, hm, h⟩ := h
          exact ih m σ2 (by omega) h
        | cnt =>
          obtain ⟨m, hm, h⟩ := h
          exact ih m σ2 (by omega) h
  exact key fuel n ρ (by unfold fuel; omega) h0
/-! ### comprehensions -/
/-- one that changes nothing: of the items that c lets through, g -/
theorem wcomp_map {cf : CF} {elt : PV.E} {tgt : List Nat} {single : Bool} {cnd : Es} {own fz : List Nat} {α β : Type} {f : α → D} {l : List α} {ρ : Env} {K : EK} {E : XE} (e : β → D) (c : α → Bool) (g : α → β) (fl : Bool)
    (h1 : ∀ a, a ∈ l → wbind .bor tgt single (f a) (wipe ρ own) fun σ => wt cf cnd σ (fun q σ' => q = c a ∧ (c a = true → we cf elt σ' (fun b d _ => d = e (g a) ∧ (fl = true → b = true)) fun _ _ _ => False)) fun _ _ _ => False)
    (h2 : own.all (fun i => immAt ρ i && decide (i < ρ.length)) = true) (h3 : (eff elt || effs cnd) = false) (h4 : ((l.filter c).map g).length ≤ 16777216)
    (hK : ∀ b, (fl = true → b = true) → K b (Ls e ((l.filter c).map g)) ρ) : wcomp cf elt tgt single cnd own fz (l.map f) ρ K E .mk := by
  unfold wcomp
  refine ⟨h2, ?_⟩
  rw [if_neg (by rw [h3]; decide)]
  have key : ∀ l : List α, (∀ a, a ∈ l → wbind .bor tgt single (f a) (wipe ρ own) fun σ => wt cf cnd σ (fun q σ' => q = c a ∧ (c a = true → we cf elt σ' (fun b d _ => d = e (g a) ∧ (fl = true → b = true)) fun _ _ _ => False)) fun _ _ _ => False) →
      WP (compP (bodyC cf elt tgt single cnd) (wipe ρ own) (l.map f)) (fun p => (fl = true → p.1 = true) ∧ p.2 = ((l.filter c).map g).map e) (fun _ _ _ => False) := by
    intro l
    induction l with
    | nil => intro _; exact ⟨fun _ => rfl, rfl⟩
    | cons a l ih =>
      intro h
      simp only [List.map_cons, compP]
      refine WP.bind ?_
      have ha := h a List.mem_cons_self
      have : WP (bodyC cf elt tgt single cnd (f a) (wipe ρ own)) (fun p => match p.1 with
        | none => c a = false
        | some r => c a = true ∧ r.2 = e (g a) ∧ (fl = true → (r.1 || imm r.2) = true)) (fun _ _ _ => False) := by
        unfold bodyC
        refine WP.bind ((wbind_ok ha).mono fun σ h => WP.bind ((wt_ok cnd h).mono fun p h => ?_))
        obtain ⟨q, σ'⟩ := p
        obtain ⟨hq, h⟩ := h
        simp only at hq
        cases q with
        | false => exact hq.symm
        | true =>
          refine WP.bind ((we_ok elt (h hq.symm)).mono fun p h => WP.ok ?_)
          exact ⟨hq.symm, h.1, h.2⟩
      refine this.mono fun p h' => WP.bind ((ih fun a ha => h a (List.mem_cons_of_mem _ ha)).mono fun q hq => ?_)
      obtain ⟨o, σ'⟩ := p
      obtain ⟨k, ds⟩ := q
      obtain ⟨hk, hd⟩ := hq
      simp only at hk hd
      cases o with
      | none =>
        simp only at h'
        refine WP.ok ⟨hk, ?_⟩
        rw [hd, List.filter_cons_of_neg (by rw [h']; decide)]
      | some r =>
        obtain ⟨hc, hr, hb⟩ := h'
        refine WP.ok ⟨fun z => by rw [hk z]; simpa using hb z, ?_⟩
        rw [hd, List.filter_cons_of_pos hc, List.map_cons, List.map_cons, ← hr]
  have := key l h1
  have ne : WP (noExc (compP (bodyC cf elt tgt single cnd) (wipe ρ own) (l.map f))) (fun p => (fl = true → p.1 = true) ∧ p.2 = ((l.filter c).map g).map e) E := by
    cases q : compP (bodyC cf elt tgt single cnd) (wipe ρ own) (l.map f) with
    | ok p => rw [q] at this; exact this
    | exc _ _ _ => rw [q] at this; exact this.elim
    | stuck => rw [q] at this; exact this.elim
  refine ne.mono fun p h => ⟨?_, ?_⟩
  · rw [h.2, List.length_map]; exact lenOk_of h4
  · rw [h.2]; exact hK _ h.1
/-- one of two clauses -/
theorem wcomp2_map {cf : CF} {elt : PV.E} {tgt tgt1 : List Nat} {single single1 : Bool} {it1 : PV.It} {cnd cnd1 : Es} {own : List Nat} {α β : Type} {f : α → D} {l : List α} {ρ : Env} {K : EK} {E : XE} (e : β → D) (c : α → Bool) (g : α → List β) (fl : Bool)
    (h1 : ∀ a, a ∈ l → wbind .bor tgt single (f a) (wipe ρ own) fun σ => wt cf cnd σ (fun q σ' => q = c a ∧ (c a = true → wit cf it1 σ' (fun ds1 σ3 => wcomp cf elt tgt1 single1 cnd1 tgt1 [] ds1 σ3 (fun b d _ => d = Ls e (g a) ∧ (fl = true → b = true)) (fun _ _ _ => False) .mk) fun _ _ _ => False)) fun _ _ _ => False)
    (h2 : own.all (fun i => immAt ρ i && decide (i < ρ.length)) = true) (h3 : (eff elt || effs cnd || effi it1 || effs cnd1) = false) (h4 : ((l.filter c).flatMap g).length ≤ 16777216)
    (hK : ∀ b, (fl = true → b = true) → K b (Ls e ((l.filter c).flatMap g)) ρ) : wcomp2 cf elt tgt single cnd own tgt1 single1 it1 cnd1 (l.map f) ρ K E .mk := by
  unfold wcomp2
  refine ⟨h2, h3, ?_⟩
  have hp : (eff elt || effs cnd1) = false := by
    simp only [Bool.or_eq_false_iff] at h3 ⊢
    exact ⟨h3.1.1.1, h3.2⟩
  have key : ∀ l : List α, (∀ a, a ∈ l → wbind .bor tgt single (f a) (wipe ρ own) fun σ => wt cf cnd σ (fun q σ' => q = c a ∧ (c a = true → wit cf it1 σ' (fun ds1 σ3 => wcomp cf elt tgt1 single1 cnd1 tgt1 [] ds1 σ3 (fun b d _ => d = Ls e (g a) ∧ (fl = true → b = true)) (fun _ _ _ => False) .mk) fun _ _ _ => False)) fun _ _ _ => False) →
      WP (compP2 (body2C cf elt tgt single cnd tgt1 single1 it1 cnd1) (wipe ρ own) (l.map f)) (fun p => (fl = true → p.1 = true) ∧ p.2 = ((l.filter c).flatMap g).map e) (fun _ _ _ => False) := by
    intro l
    induction l with
    | nil => intro _; exact ⟨fun _ => rfl, rfl⟩
    | cons a l ih =>
      intro h
      simp only [List.map_cons, compP2]
      refine WP.bind ?_
      have ha := h a List.mem_cons_self
      have : WP (body2C cf elt tgt single cnd tgt1 single1 it1 cnd1 (f a) (wipe ρ own)) (fun p => (fl = true → p.1 = true) ∧ p.2 = (if c a = true then g a else []).map e) (fun _ _ _ => False) := by
        unfold body2C
        refine WP.bind ((wbind_ok ha).mono fun σ h => WP.bind ((wt_ok cnd h).mono fun p h => ?_))
        obtain ⟨q, σ'⟩ := p
        obtain ⟨hq, h⟩ := h
        simp only at hq
        cases q with
        | false => rw [if_neg (by rw [← hq]; decide)]; exact ⟨fun _ => rfl, rfl⟩
        | true =>
          rw [if_pos hq.symm]
          refine WP.bind ((wit_ok it1 (h hq.symm)).mono fun p h => ?_)
          obtain ⟨ds1, σ3⟩ := p
          unfold wcomp at h
          obtain ⟨h5, h6⟩ := h
          rw [if_neg (by rw [hp]; decide)] at h6
          refine WP.ite h5 ?_
          cases q : compP (bodyC cf elt tgt1 single1 cnd1) (wipe σ3 tgt1) ds1 with
          | ok p =>
            rw [q] at h6
            obtain ⟨_, h7, h8⟩ := h6
            exact ⟨h8, by injection h7⟩
          | exc _ _ _ => rw [q] at h6; exact h6.elim
          | stuck => rw [q] at h6; exact h6.elim
      refine this.mono fun p h' => WP.bind ((ih fun a ha => h a (List.mem_cons_of_mem _ ha)).mono fun q hq => WP.ok ?_)
      refine ⟨fun z => by rw [h'.1 z, hq.1 z]; rfl, ?_⟩
      show p.2 ++ q.2 = _
      rw [h'.2, hq.2, ← List.map_append]
      cases hc : c a with
      | true => rw [List.filter_cons_of_pos hc, if_pos rfl, List.flatMap_cons]
      | false => rw [List.filter_cons_of_neg (by rw [hc]; decide), if_neg (by decide), List.nil_append]
  have := key l h1
  have ne : WP (noExc (compP2 (body2C cf elt tgt single cnd tgt1 single1 it1 cnd1) (wipe ρ own) (l.map f))) (fun p => (fl = true → p.1 = true) ∧ p.2 = ((l.filter c).flatMap g).map e) E := by
    cases q : compP2 (body2C cf elt tgt single cnd tgt1 single1 it1 cnd1) (wipe ρ own) (l.map f) with
    | ok p => rw [q] at this; exact this
    | exc _ _ _ => rw [q] at this; exact this.elim
    | stuck => rw [q] at this; exact this.elim
  refine ne.mono fun p h => ⟨?_, ?_⟩
  · rw [h.2, List.length_map]; exact lenOk_of h4
  · rw [h.2]; exact hK _ h.1
end PV
set_option Elab.async false
set_option linter.all false
set_option maxRecDepth 100000
set_option maxHeartbeats 1000000
/-! PW4: ranges, sums, lists. -/
namespace PV
open PySem
def nbc : Option Cell → Bool
  | some (.bor _) => false
  | _ => true
/-- a cell that does not matter -/
structure NB where
  c : Option Cell
  h : nbc c = true
theorem noBor_nb {c : NB} {ρ : Env} : noBor (c.c :: ρ) = noBor ρ := by
  obtain ⟨c, h⟩ := c
  cases c with
  | none => rfl
  | some c => cases c <;> first | rfl | cases h
def immc : Option Cell → Bool
  | some c => imm c.d
  | none => true
/-- .. and holds no list -/
structure NI where
  c : Option Cell
  h : nbc c = true
  i : immc c = true
theorem noBor_ni {c : NI} {ρ : Env} : noBor (c.c :: ρ) = noBor ρ := noBor_nb (c := ⟨c.c, c.h⟩)
theorem immAt_q {ρ : Env} {i : Nat} : immAt ρ i = immc (get ρ i) := by
  unfold immAt immc; rfl
theorem immc_ni {c : NI} : immc c.c = true := c.i
theorem immc_o {d : D} : immc (some (.own d)) = imm d := Eq.trans rfl rfl
theorem immc_f {d : D} : immc (some (.fz d)) = imm d := Eq.trans rfl rfl
theorem immc_b {d : D} : immc (some (.bor d)) = imm d := Eq.trans rfl rfl
theorem immc_n : immc none = true := Eq.trans rfl rfl
theorem Turn_n {J : Env → Prop} {K : Out → Env → Prop} {σ : Env} : Turn J K .nx σ = J σ := rfl
theorem Turn_k {J : Env → Prop} {K : Out → Env → Prop} {σ : Env} : Turn J K .cnt σ = J σ := rfl
theorem Turn_b {J : Env → Prop} {K : Out → Env → Prop} {σ : Env} : Turn J K .brk σ = K .nx σ := rfl
theorem Turn_r {J : Env → Prop} {K : Out → Env → Prop} {σ : Env} {d : D} : Turn J K (.ret d) σ = K (.ret d) σ := rfl
def rng (lo hi : Int) : List Int := (List.range (hi - lo).toNat).map fun k => lo + (k : Nat)
theorem rangeD_q {lo hi : Int} : rangeD lo hi = (rng lo hi).map PyData.int := by
  unfold rangeD rng
  rw [List.map_map]; rfl
theorem list_rangeD {lo hi : Int} : PyData.list (rangeD lo hi) = Ls .int (rng lo hi) := by rw [rangeD_q]; rfl
theorem list_map_q {α : Type} {f : α → D} {l : List α} : PyData.list (l.map f) = Ls f l := rfl
theorem tuple_map_q {α : Type} {f : α → D} {l : List α} : PyData.tuple (l.map f) = Tp f l := rfl
theorem map_snoc {α : Type} {f : α → D} {l : List α} {x : α} : l.map f ++ [f x] = (l ++ [x]).map f := by rw [List.map_append]; rfl
theorem map_app_q {α : Type} {f : α → D} {l m : List α} : l.map f ++ m.map f = (l ++ m).map f := List.map_append.symm
theorem lst1 {x : Int} : PyData.list [.int x] = Ls .int [x] := rfl
theorem map_rev_q {α : Type} {f : α → D} {l : List α} : (l.map f).reverse = l.reverse.map f := List.map_reverse.symm
theorem wipe_n {ρ : Env} : wipe ρ [] = ρ := rfl
theorem wipe_c {ρ : Env} {i : Nat} {r : List Nat} : wipe ρ (i :: r) = (wipe ρ r).set i none := rfl
theorem restore_n {ρ0 ρ : Env} : restore ρ0 ρ [] = ρ := rfl
theorem restore_c {ρ0 ρ : Env} {i : Nat} {r : List Nat} : restore ρ0 ρ (i :: r) = (restore ρ0 ρ r).set i (get ρ0 i) := rfl
theorem tup1 {x : Int} : PyData.tuple [.int x] = Tp .int [x] := rfl
theorem tup2 {x y : Int} : PyData.tuple [.int x, .int y] = Tp .int [x, y] := rfl
theorem tup0 {α : Type} {f : α → D} : PyData.tuple [] = Tp f [] := rfl
theorem lst0 {α : Type} {f : α → D} : PyData.list [] = Ls f [] := rfl
/-- the items with their places -/
def enl {α : Type} : Nat → List α → List (Int × α)
  | _, [] => []
  | k, a :: r => ((k : Int), a) :: enl (k + 1) r
theorem enumD_q {α : Type} {f : α → D} : ∀ {l : List α} {k : Nat}, enumD k (l.map f) = (enl k l).map (Pr PyData.int f)
  | [], _ => rfl
  | a :: r, k => by rw [List.map_cons, enumD, enumD_q, enl]; rfl
theorem enl_len {α : Type} : ∀ (l : List α) (k : Nat), (enl k l).length = l.length
  | [], _ => rfl
  | a :: r, k => by rw [enl, List.length_cons, enl_len r]; rfl
theorem enl_get {α : Type} : ∀ {l : List α} {k i : Nat}, (enl k l)[i]? = (l[i]?).map fun a => (((k + i : Nat) : Int), a)
  | [], _, _ => by simp [enl]
  | a :: r, k, 0 => by simp [enl]
  | a :: r, k, i + 1 => by
    rw [enl, List.getElem?_cons_succ, List.getElem?_cons_succ, enl_get]
    have : k + 1 + i = k + (i + 1) := by omega
    rw [this]
theorem mem_enl {α : Type} {l : List α} {p : Int × α} (h : p ∈ enl 0 l) : 0 ≤ p.1 ∧ p.1 < l.length ∧ l[p.1.toNat]? = some p.2 ∧ p.2 ∈ l := by
  obtain ⟨i, hi⟩ := List.mem_iff_getElem?.mp h
  rw [enl_get] at hi
  obtain ⟨a, ha, e⟩ := Option.map_eq_some_iff.mp hi
  subst e
  have := (List.getElem?_eq_some_iff.mp ha).1
  refine ⟨by simp, by simp; omega, ?_, List.mem_of_getElem? ha⟩
  simp only [Nat.zero_add, Int.toNat_natCast]
  exact ha
theorem enl_at {α : Type} {l : List α} {p : Int × α} {pre suf : List (Int × α)} (h : enl 0 l = pre ++ p :: suf) : p.1 = pre.length ∧ l[pre.length]? = some p.2 ∧ pre = enl 0 (l.take pre.length) := by
  have g : (enl 0 l)[pre.length]? = some p := by rw [h, List.getElem?_append_right (Nat.le_refl _), Nat.sub_self]; rfl
  rw [enl_get] at g
  obtain ⟨a, ha, e⟩ := Option.map_eq_some_iff.mp g
  subst e
  refine ⟨by simp, ha, ?_⟩
  have tk : ∀ (l : List α) (k n : Nat), enl k (l.take n) = (enl k l).take n := by
    intro l
    induction l with
    | nil => intro k n; simp [enl]
    | cons b l ih =>
      intro k n
      cases n with
      | zero => rfl
      | succ n => rw [List.take_succ_cons, enl, enl, List.take_succ_cons, ih]
  rw [tk, h, List.take_left' rfl]
theorem wbind_pr {k : D → Cell} {i j : Nat} {α β : Type} {f : α → D} {g : β → D} {p : α × β} {ρ : Env} {K : Env → Prop} : wbind k [i, j] false (Pr f g p) ρ K = K ((ρ.set i (some (cellOf k (f p.1)))).set j (some (cellOf k (g p.2)))) := rfl
theorem wsub_pr0 {α β : Type} {f : α → D} {g : β → D} {p : α × β} {K : D → Prop} : wsub (Pr f g p) (.int 0) K = K (f p.1) := by
  have : sub (Pr f g p) (.int 0) = .ok (f p.1) := by
    simp only [sub, Pr, atD, ixN, List.length_cons]
    rw [if_pos (by omega), if_pos (by omega)]
    rfl
  simp only [wsub, this]
theorem wsub_pr1 {α β : Type} {f : α → D} {g : β → D} {p : α × β} {K : D → Prop} : wsub (Pr f g p) (.int 1) K = K (g p.2) := by
  have : sub (Pr f g p) (.int 1) = .ok (g p.2) := by
    simp only [sub, Pr, atD, ixN, List.length_cons]
    rw [if_pos (by omega), if_pos (by omega)]
    rfl
  simp only [wsub, this]
theorem imm_Pr {α β : Type} [DecidableEq α] [DecidableEq β] {f : α → D} {g : β → D} {k j : Nat} [Enc f k] [Enc g j] (p : α × β) : imm (Pr f g p) = true := imm_enc p
theorem flat_Pr {α β : Type} [DecidableEq α] [DecidableEq β] {f : α → D} {g : β → D} {k j : Nat} [Enc f k] [Enc g j] (p : α × β) : flat (Pr f g p) = true := flat_enc p
theorem wtry_n {c : Nat} {k p : D} {Q : D → Prop} : wtry c k p [] Q = False := rfl
theorem wtry_c {c c' j : Nat} {k p : D} {r : List (Nat × Nat)} {Q : D → Prop} : wtry c k p ((c', j) :: r) Q = if c' = c then Q (hd j k p) else wtry c k p r Q := by
  unfold wtry
  simp only [handle]
  by_cases h : c' = c <;> simp [h]
theorem hd_0 {k p : D} : hd 0 k p = k := rfl
theorem hd_1 {k p : D} : hd 1 k p = .tuple [k, p] := rfl
theorem hd_2 {k p : D} : hd 2 k p = .bool false := rfl
theorem wor_i {p : Bool} (q : Bool) {t : (Bool → Prop) → Prop} {K : Bool → Prop} (h : p = false → ∀ K', K' q → t K') (hK : K (p || q)) : wor (.bool p) t K := by
  cases p with
  | true => exact hK
  | false => exact h rfl _ hK
theorem wand_i {p : Bool} (q : Bool) {t : (Bool → Prop) → Prop} {K : Bool → Prop} (h : p = true → ∀ K', K' q → t K') (hK : K (p && q)) : wand (.bool p) t K := by
  cases p with
  | true => exact h rfl _ hK
  | false => exact hK
theorem sizeLine_q : sizeLine = 16777216 := by decide
theorem rng_len {lo hi : Int} : (rng lo hi).length = (hi - lo).toNat := by simp [rng]
theorem mem_rng {lo hi a : Int} : a ∈ rng lo hi ↔ lo ≤ a ∧ a < hi := by
  unfold rng
  simp only [List.mem_map, List.mem_range]
  constructor
  · rintro ⟨k, h, rfl⟩; omega
  · rintro ⟨h1, h2⟩; exact ⟨(a - lo).toNat, by omega, by omega⟩
theorem rng_get {lo hi : Int} {i : Nat} (h : i < (hi - lo).toNat) : (rng lo hi)[i]? = some (lo + i) := by
  unfold rng
  rw [List.getElem?_map, List.getElem?_range h]; rfl
theorem rng_at {lo hi a : Int} {pre suf : List Int} (h : rng lo hi = pre ++ a :: suf) : a = lo + pre.length ∧ a < hi := by
  have hl : (pre ++ a :: suf).length = (hi - lo).toNat := by rw [← h, rng_len]
  simp only [List.length_append, List.length_cons] at hl
  have g := rng_get (lo := lo) (hi := hi) (i := pre.length) (by omega)
  rw [h, List.getElem?_append_right (Nat.le_refl _), Nat.sub_self] at g
  simp only [List.getElem?_cons_zero, Option.some.injEq] at g
  omega
theorem rng_snoc {lo hi : Int} (h : lo ≤ hi) : rng lo (hi + 1) = rng lo hi ++ [hi] := by
  unfold rng
  have : (hi + 1 - lo).toNat = (hi - lo).toNat + 1 := by omega
  rw [this, List.range_succ, List.map_append]
  congr 1
  simp only [List.map_cons, List.map_nil, List.cons.injEq, and_true]
  omega
theorem rng_nil {lo hi : Int} (h : hi ≤ lo) : rng lo hi = [] := by
  unfold rng
  have : (hi - lo).toNat = 0 := by omega
  rw [this]; rfl
theorem foldl_snoc {α β : Type} (g : α → β) : ∀ (l : List α) (z : List β), l.foldl (fun acc a => acc ++ [g a]) z = z ++ l.map g
  | [], z => by simp
  | a :: l, z => by rw [List.foldl_cons, foldl_snoc g l, List.append_assoc]; rfl
theorem foldl_app {α β : Type} (g : α → List β) : ∀ (l : List α) (z : List β), l.foldl (fun acc a => acc ++ g a) z = z ++ l.flatMap g
  | [], z => by simp
  | a :: l, z => by rw [List.foldl_cons, foldl_app g l, List.append_assoc]; simp
/-- a fold, the items behind it known -/
theorem wfor_fold' {cf : CF} {tgt : List Nat} {single : Bool} {b : Ss} {α β γ : Type} {f : α → D} {l : List α} {ρ : Env} {K : Out → Env → Prop} {E : XE} {t : Tag K} (st : β → γ → Env) (step : β → α → β) (b0 : β) (g0 : γ) (hρ : ρ = st b0 g0)
    (h1 : ∀ pre a suf g, l = pre ++ a :: suf → wbind .fz tgt single (f a) (st (pre.foldl step b0) g) fun σ1 => wss cf b σ1 (fun o σ2 => (o = .nx ∨ o = .cnt) ∧ ∃ g', σ2 = st (step (pre.foldl step b0) a) g') E) (h2 : ∀ g, K .nx (st (l.foldl step b0) g)) : wfor cf tgt single b (l.map f) ρ K E t := by
  refine wfor_core (I := fun pre σ => ∃ g, σ = st (pre.foldl step b0) g) ⟨g0, hρ⟩ (fun pre a suf σ e hI => ?_) (fun σ hI => ?_)
  · obtain ⟨g, rfl⟩ := hI
    refine (loop_ok (h1 pre a suf g e)).mono fun p h => ?_
    obtain ⟨o, σ2⟩ := p
    obtain ⟨ho, g', h⟩ := h
    simp only at ho h
    have : ∃ g, σ2 = st ((pre ++ [a]).foldl step b0) g := ⟨g', by rw [h, List.foldl_append]; rfl⟩
    rcases ho with rfl | rfl <;> exact this
  · obtain ⟨g, rfl⟩ := hI
    exact h2 g
/-- a list that is built, item by item -/
theorem wfor_map {cf : CF} {tgt : List Nat} {single : Bool} {b : Ss} {α β γ : Type} {f : α → D} {l : List α} {ρ : Env} {K : Out → Env → Prop} {E : XE} {t : Tag K} (st : List β → γ → Env) (h : α → β) (b0 : List β) (g0 : γ) (hρ : ρ = st b0 g0)
    (h1 : ∀ pre a suf g, l = pre ++ a :: suf → wbind .fz tgt single (f a) (st (b0 ++ pre.map h) g) fun σ1 => wss cf b σ1 (fun o σ2 => (o = .nx ∨ o = .cnt) ∧ ∃ g', σ2 = st (b0 ++ pre.map h ++ [h a]) g') E) (h2 : ∀ g, K .nx (st (b0 ++ l.map h) g)) : wfor cf tgt single b (l.map f) ρ K E t := by
  refine wfor_core (I := fun pre σ => ∃ g, σ = st (b0 ++ pre.map h) g) ⟨g0, by rw [List.map_nil, List.append_nil]; exact hρ⟩ (fun pre a suf σ e hI => ?_) (fun σ hI => ?_)
  · obtain ⟨g, rfl⟩ := hI
    refine (loop_ok (h1 pre a suf g e)).mono fun p hh => ?_
    obtain ⟨o, σ2⟩ := p
    obtain ⟨ho, g', hh⟩ := hh
    simp only at ho hh
    have : ∃ g, σ2 = st (b0 ++ (pre ++ [a]).map h) g := ⟨g', by rw [hh, List.map_append, List.append_assoc]; rfl⟩
    rcases ho with rfl | rfl <;> exact this
  · obtain ⟨g, rfl⟩ := hI
    exact h2 g
theorem pre_len {α : Type} {l pre suf : List α} {a : α} (h : l = pre ++ a :: suf) : pre.length < l.length := by
  rw [h, List.length_append, List.length_cons]; omega
theorem pre_mem {α : Type} {l pre suf : List α} {a : α} (h : l = pre ++ a :: suf) : a ∈ l := by rw [h]; simp
theorem smallI_of {i : Int} (h : -4611686018427387904 ≤ i ∧ i < 4611686018427387904) : smallI i = true := by
  unfold smallI; exact decide_eq_true h
theorem filter_t {α : Type} (l : List α) : l.filter (fun _ => true) = l := List.filter_eq_self.mpr fun _ _ => rfl
/-- a comprehension without a test -/
theorem wcomp_map1 {cf : CF} {elt : PV.E} {tgt : List Nat} {single : Bool} {own fz : List Nat} {α β : Type} {f : α → D} {l : List α} {ρ : Env} {K : EK} {E : XE} {t : Tag K} (e : β → D) (g : α → β) (fl : Bool)
    (h1 : ∀ a, a ∈ l → wbind .bor tgt single (f a) (wipe ρ own) fun σ => we cf elt σ (fun b d _ => d = e (g a) ∧ (fl = true → b = true)) fun _ _ _ => False)
    (h2 : own.all (fun i => immAt ρ i && decide (i < ρ.length)) = true) (h3 : eff elt = false) (h4 : l.length ≤ 16777216)
    (hK : ∀ b, (fl = true → b = true) → K b (Ls e (l.map g)) ρ) : wcomp cf elt tgt single .nil own fz (l.map f) ρ K E t := by
  refine wcomp_map e (fun _ => true) g fl (fun a ha => ?_) h2 (by rw [h3]; rfl) (by rw [filter_t, List.length_map]; exact h4) fun b hb => by rw [filter_t]; exact hK b hb
  have h := h1 a ha
  unfold wbind at h ⊢
  split at h
  · simp only [wt]; exact ⟨trivial, fun _ => h⟩
  · exact h.elim
end PV
namespace PV
theorem vz {a : Prop} : (True ∧ a) = a := true_and a
end PV
open PV in
local macro_rules | `(tactic| exists $es,*) => `(tactic| try simp -dsimp only [↓we.eq_1, ↓we.eq_2, ↓we.eq_3, ↓we.eq_4, ↓we.eq_5, ↓we.eq_6, ↓we.eq_7, ↓we.eq_8, ↓we.eq_9, ↓we.eq_10, ↓we.eq_11, ↓we.eq_12, ↓we.eq_13, ↓we.eq_14, ↓we.eq_15, ↓we.eq_16, ↓we.eq_17, ↓we.eq_18, ↓we.eq_19, ↓we.eq_20, ↓we.eq_21, ↓we.eq_22, ↓we.eq_23, ↓we.eq_24, ↓we.eq_25, ↓we.eq_26, ↓we.eq_27, ↓we.eq_28, ↓we.eq_29, ↓we.eq_30, ↓we.eq_31, ↓we.eq_32, ↓wes.eq_1, ↓wes.eq_2, ↓wa.eq_1, ↓wa.eq_2, ↓wa.eq_3, ↓wo.eq_1, ↓wo.eq_2, ↓wt.eq_1, ↓wt.eq_2, ↓wit.eq_1, ↓wit.eq_2, ↓wit.eq_3, ↓wit.eq_4, ↓wit.eq_5, ↓wit.eq_6, ↓wit.eq_7, ↓wit.eq_8, ↓wx.eq_1, ↓wx.eq_2, ↓wx.eq_3, ↓wxs.eq_1, ↓wxs.eq_2, ↓ws.eq_1, ↓ws.eq_2, ↓ws.eq_3, ↓ws.eq_4, ↓ws.eq_5, ↓ws.eq_6, ↓ws.eq_7, ↓ws.eq_8, ↓ws.eq_9, ↓ws.eq_10, ↓ws.eq_11, ↓ws.eq_12, ↓ws.eq_13, ↓ws.eq_14, ↓ws.eq_15, ↓ws.eq_16, ↓ws.eq_17, ↓ws.eq_18, ↓ws.eq_19, ↓wss.eq_1, ↓wss.eq_2, ↓wa_var, ↓wx_int, ↓wa_int, ↓wx_str, ↓wa_str, ↓wx_bl, ↓wa_bl, ↓wx_non, ↓wa_non, ↓wx_op2, ↓wa_op2, ↓wx_op1, ↓wa_op1, ↓wx_and, ↓wa_and, ↓wx_or, ↓wa_or, ↓wx_ite, ↓wa_ite, ↓wx_cmp3, ↓wa_cmp3, ↓wx_bi, ↓wa_bi, ↓wx_mt, ↓wa_mt, ↓wx_sub, ↓wa_sub, ↓wx_slc, ↓wa_slc, ↓wx_rev, ↓wa_rev, ↓wa_tup, ↓wa_lst, ↓wx_call, ↓wa_call, ↓wx_scrL, ↓wa_scrL, ↓wx_pop0, ↓wa_pop0, ↓wx_pop1, ↓wa_pop1, ↓wx_comp, ↓wa_comp, ↓wx_rng, ↓wa_rng, ↓wx_rng1, ↓wa_rng1, ↓wx_isBool, ↓wa_isBool, ↓wx_isTup, ↓wa_isTup, ↓wx_isInt, ↓wa_isInt, ↓wx_sset, ↓wx_comp2, ↓wa_comp2, ↓wa_sset, ↓gx_eq, ↓wown_eq, ↓wscr_eq, get_z, get_s, ↓gk_own, ↓gk_fz, ↓gk_bor, ↓gx_own, ↓gx_fz, ↓gx_bor, ↓wscr_s, noBor_n, noBor_z, noBor_o, noBor_f, noBor_s, freeze_z, freeze_s, frz1_o, frz1_f, frz1_s, frz1_n, frz1_b, freezes_n, freezes_c, imm_int, imm_bool, imm_str, imm_none, imm_list, imm_tuple, immAll_n, immAll_c, flat_int, flat_bool, flat_str, flat_none, flat_list, flat_tuple, kp_t, kp_f, kp_ft, ↓kpv_t, ↓kpv_f, kpv_fz, kpv_n, isFz_var, isfz_f, imm_Tp, flat_Tp, imm_Ls, flat_Ls, immAll_map, ↓w2_eq, ↓w2_ne, ↓w2_eqL, ↓w2_neL, ↓w2_inT, ↓w2_ninT, ↓w2_inL, ↓w2_ninL, ↓wmt_count, ↓w2_addT, ↓w2_addL, ↓wsub_T, ↓wsub_L, ↓wslc_T, ↓wslc_L, ↓wrev_T, ↓wrev_L, ↓wits_T, ↓wits_L, ↓wlist_L, ↓wlist_l, ↓wits_l, ↓wits_t, ↓wown_L, ↓wown_l, ↓wset_map, ↓wat_map, ↓wbi_lenT, ↓wbi_lenL, ↓wbi_tupL, ↓wbi_tupT, ↓wbi_lstL, ↓wbi_lstT, ↓wbi_sumT, ↓wbi_sumL, ↓wbi_allL, ↓wbi_anyL, ↓wbi_max2, ↓wbi_min2, ↓wbi_abs, ↓wbi_int, ↓wbi_intb, ↓w2_add, ↓w2_sub, ↓w2_mul, ↓w2_fdiv, ↓w2_mod, ↓w2_pow, ↓w2_lt, ↓w2_le, ↓w2_gt, ↓w2_ge, ↓w1_neg, ↓w1_not, ↓wi_i, ↓wv_b, ↓wb_t, ↓wb_f, ↓wand_b, ↓wand_c1, ↓wand_t, ↓wandE_t, ↓wandE_f, ↓worE_t, ↓worE_f, ↓wand_f, ↓wor_b, ↓wor_c1, ↓wor_t, ↓wor_f, ↓wnx_n, ↓wnx_r, ↓wnx_b, ↓wnx_k, ↓wbind_1, ↓wbind_2, ↓wbind_3, List.set_cons_zero, List.set_cons_succ, List.map_cons, List.map_nil, List.length_cons, List.length_nil, List.cons_append, List.nil_append, Bool.or_true, Bool.true_or, Bool.or_false, Bool.false_or, Bool.and_true, Bool.true_and, Bool.and_false, Bool.false_and, Bool.not_true, Bool.not_false, if_true, if_false, true_and, and_true, eff, effs, effo, effi, vars, varss, varso, varsi, List.replicate_succ, List.replicate_zero, Nat.reduceSub, Nat.reduceAdd, Nat.reduceLeDiff, Nat.reduceLT, ↓wbS_t, ↓wbS_f, ↓wite_t, ↓wite_f, ↓wite_c1, ↓wite_c2, ↓wite_int, ↓wite_bool, ↓wite_str, ↓wite_T, ↓wite_L, cellOf_q, arC_q, store_q, cond_true, cond_false, rangeD_q, list_rangeD, list_map_q, tuple_map_q, noBor_nb, ↓Turn_n, ↓Turn_k, ↓Turn_b, ↓Turn_r, map_snoc, sizeLine_q, List.length_map, decide_eq_true_eq, decide_eq_false_iff_not, Bool.and_eq_true, Bool.or_eq_true, Bool.not_eq_true', Bool.not_eq_false', map_rev_q, wipe_n, wipe_c, Bool.false_eq_true, ↓wtry_n, ↓wtry_c, hd_0, hd_1, hd_2, decide_true, decide_false, Nat.reduceEqDiff, reduceCtorEq, Option.isSome_some, noBor_ni, immAt_q, immc_ni, immc_o, immc_f, immc_b, immc_n, List.all_cons, List.all_nil, ↓witr_T, ↓witr_L, ↓wits_S, ↓wbi_sorted, map_app_q, enumD_q, ↓wbind_pr, ↓wsub_pr0, ↓wsub_pr1, imm_Pr, flat_Pr, restore_n, restore_c, Nat.max_self, $[$es:term],*])
set_option Elab.async false
set_option linter.all false
set_option exponentiation.threshold 5000
set_option maxRecDepth 100000
set_option maxHeartbeats 1000000
/-! PW5: the laws' draws. -/
namespace PV
open PySem
def takeF (m q : Int) : Fn := ⟨2, 4, (.cons (.iff (.and (.op2 .eq (.sub (.var 0) (.int 2)) (.int 0)) (.op2 .lt (.sub (.var 0) (.int 1)) (.bi .len (.cons (.sub (.var 0) (.int 0)) .nil)))) (.cons (.setv 0 (.int 2) (.bi .abs (.cons (.bi .int (.cons (.sub (.sub (.var 0) (.int 0)) (.sub (.var 0) (.int 1))) .nil)) .nil))) (.cons (.setv 0 (.int 1) (.op2 .add (.sub (.var 0) (.int 1)) (.int 1))) (.cons (.iff (.op2 .lt (.sub (.var 0) (.int 2)) (.op2 .pow (.int 10) (.int 18))) (.cons (.asg 2 (.bi .int (.cons (.sub (.var 0) (.int 2)) .nil))) (.cons (.setv 0 (.int 2) (.int 0)) (.cons (.ret (.op2 .mod (.var 2) (.var 1))) .nil))) .nil) .nil))) .nil) (.cons (.iff (.op2 .gt (.sub (.var 0) (.int 2)) (.int 0)) (.cons (.asg 3 (.op2 .mod (.bi .int (.cons (.sub (.var 0) (.int 2)) .nil)) (.var 1))) (.cons (.setv 0 (.int 2) (.op2 .fdiv (.bi .int (.cons (.sub (.var 0) (.int 2)) .nil)) (.var 1))) (.cons (.ret (.var 3)) .nil))) .nil) (.cons (.setv 0 (.int 3) (.op2 .mod (.bi .int (.cons (.op2 .add (.op2 .mul (.sub (.var 0) (.int 3)) (.int m)) (.int 13)) .nil)) (.int q))) (.cons (.ret (.op2 .mod (.bi .int (.cons (.op2 .fdiv (.sub (.var 0) (.int 3)) (.int 7)) .nil)) (.var 1))) .nil))))⟩
def beginF (s m a c q : Int) : Fn := ⟨1, 3, (.cons (.asg 1 (.int s)) (.cons (.for [2] true (.scr 0) (.cons (.asg 1 (.op2 .mod (.op2 .add (.op2 .add (.op2 .mul (.var 1) (.int m)) (.op2 .mod (.bi .int (.cons (.var 2) .nil)) (.int a))) (.int c)) (.int q))) .nil)) (.cons (.ret (.lst (.cons (.scrL 0) (.cons (.int 0) (.cons (.int 0) (.cons (.var 1) .nil)))))) .nil)))⟩
/-- the draws' state -/
def Dr (d : D) : Prop := ∃ (l : List Int) (a r s : Int), d = .list [Ls .int l, .int a, .int r, .int s] ∧ 0 ≤ a ∧ 0 ≤ r ∧ 0 ≤ s
theorem wsub_lit0 {d : D} {l : List D} {K : D → Prop} : wsub (.list (d :: l)) (.int 0) K = K d := by
  have : sub (.list (d :: l)) (.int 0) = .ok d := by
    simp only [sub, atD, ixN, List.length_cons]
    rw [if_pos (by omega), if_pos (by omega)]
    rfl
  simp only [wsub, this]
theorem wsub_lit1 {c d : D} {l : List D} {K : D → Prop} : wsub (.list (c :: d :: l)) (.int 1) K = K d := by
  have : sub (.list (c :: d :: l)) (.int 1) = .ok d := by
    simp only [sub, atD, ixN, List.length_cons]
    rw [if_pos (by omega), if_pos (by omega)]
    rfl
  simp only [wsub, this]
theorem wsub_lit2 {b c d : D} {l : List D} {K : D → Prop} : wsub (.list (b :: c :: d :: l)) (.int 2) K = K d := by
  have : sub (.list (b :: c :: d :: l)) (.int 2) = .ok d := by
    simp only [sub, atD, ixN, List.length_cons]
    rw [if_pos (by omega), if_pos (by omega)]
    rfl
  simp only [wsub, this]
theorem wsub_lit3 {a b c d : D} {l : List D} {K : D → Prop} : wsub (.list (a :: b :: c :: d :: l)) (.int 3) K = K d := by
  have : sub (.list (a :: b :: c :: d :: l)) (.int 3) = .ok d := by
    simp only [sub, atD, ixN, List.length_cons]
    rw [if_pos (by omega), if_pos (by omega)]
    rfl
  simp only [wsub, this]
theorem wset_1 {a b c d x : D} {K : List D → Prop} : wset [a, b, c, d] 1 x K = K [a, x, c, d] := rfl
theorem wset_2 {a b c d x : D} {K : List D → Prop} : wset [a, b, c, d] 2 x K = K [a, b, x, d] := rfl
theorem wset_3 {a b c d x : D} {K : List D → Prop} : wset [a, b, c, d] 3 x K = K [a, b, c, x] := rfl
theorem ite_abs (i : Int) : 0 ≤ (if i < 0 then -i else i) := by split <;> omega
theorem fmod_nn {a b : Int} (h : 0 < b) : 0 ≤ a.fmod b := Int.fmod_nonneg_of_pos a h
theorem fmod_ltt {a b : Int} (h : 0 < b) : a.fmod b < b := Int.fmod_lt_of_pos a h
theorem mulOk_r {a b : Int} (h : -(2 ^ 64) < b ∧ b < 2 ^ 64) : mulOk a b = true := by
  unfold mulOk; rw [decide_eq_true h]; simp
theorem mulOk_l {a b : Int} (h : -(2 ^ 64) < a ∧ a < 2 ^ 64) : mulOk a b = true := by
  unfold mulOk; rw [decide_eq_true h]; simp
theorem divOk_of {b : Int} (h : 0 < b) (h2 : b < 1073741824) : divOk b = true := by
  unfold divOk
  have : b ≠ 0 ∧ b.natAbs < 1073741824 := ⟨by omega, by omega⟩
  rw [decide_eq_true this]; rfl
theorem fdiv_nn {a b : Int} (ha : 0 ≤ a) (hb : 0 ≤ b) : 0 ≤ a.fdiv b := Int.fdiv_nonneg ha hb
theorem take_okD {fs : List Fn} {k f : Nat} {mm q : Int} (hF : fs[f]? = some (takeF mm q)) (hm : 0 < mm ∧ mm < 1000000) (hq : 0 < q ∧ q < 1000000000000) {x : D} {n : Int} (hx : Dr x) (h0 : 0 < n) (hd : divOk n = true) {Q : D → D → Prop} {E : XE}
    (h : ∀ r x', 0 ≤ r → r < n → Dr x' → Q (.int r) x') : CallR (runF fs (k + 1)) f [.own x, .own (.int n)] Q E := by
  obtain ⟨l, a, r, s, rfl, ha, hr, hs⟩ := hx
  refine callR_intro hF rfl (by decide : 0 < 2) ?_
  unfold takeF
  have hn : n ≠ 0 := by omega
  have hq0 : q ≠ 0 := by omega
  have h7 : divOk 7 = true := by decide
  have hmul : ∀ s : Int, mulOk s mm = true := fun s => mulOk_r ⟨by omega, by omega⟩
  have p64 : Int.natAbs 10 < 2 ^ 64 := by decide
  have seed : ∀ s : Int, 0 ≤ (s * mm + 13).fmod q := fun s => fmod_nn hq.1
  have nn : ∀ i : Int, 0 ≤ i.fmod n := fun i => fmod_nn h0
  have lt : ∀ i : Int, i.fmod n < n := fun i => fmod_ltt h0
  have dv : ∀ i : Int, 0 ≤ i → 0 ≤ i.fdiv n := fun i hi => fdiv_nn hi (by omega)
  exists wsub_lit0, wsub_lit1, wsub_lit2, wsub_lit3, wset_1, wset_2, wset_3
  -- the number behind the first test
  have fin : ∀ (a r s : Int), 0 ≤ a → 0 ≤ r → 0 ≤ s → ∀ {C : Option Cell}, wss (runF fs k) (Ss.cons (.iff (.op2 .gt (.sub (.var 0) (.int 2)) (.int 0)) (.cons (.asg 3 (.op2 .mod (.bi .int (.cons (.sub (.var 0) (.int 2)) .nil)) (.var 1))) (.cons (.setv 0 (.int 2) (.op2 .fdiv (.bi .int (.cons (.sub (.var 0) (.int 2)) .nil)) (.var 1))) (.cons (.ret (.var 3)) .nil))) .nil) (.cons (.setv 0 (.int 3) (.op2 .mod (.bi .int (.cons (.op2 .add (.op2 .mul (.sub (.var 0) (.int 3)) (.int mm)) (.int 13)) .nil)) (.int q))) (.cons (.ret (.op2 .mod (.bi .int (.cons (.op2 .fdiv (.sub (.var 0) (.int 3)) (.int 7)) .nil)) (.var 1))) .nil)))
      [some (.own (.list [Ls .int l, .int a, .int r, .int s])), some (.own (.int n)), none, none] (fun o ρ => 2 ≤ ρ.length ∧ ∃ x', get ρ 0 = some (.own x') ∧ match o with | .ret d => Q d x' | .nx => Q .none x' | _ => False) E := by
    intro a r s ha hr hs C
    exists wsub_lit0, wsub_lit1, wsub_lit2, wsub_lit3, wset_1, wset_2, wset_3
    refine wbS_if (fun hr0 => ?_) (fun hr0 => ?_) <;> (try simp only [decide_eq_true_eq, decide_eq_false_iff_not, Bool.or_eq_true, Bool.and_eq_true, Bool.or_eq_false_iff, Bool.and_eq_false_iff, Bool.not_eq_true', Bool.not_eq_false', Bool.not_eq_true, Bool.not_eq_false, Int.not_lt, Int.not_le, Bool.false_eq_true, Bool.true_eq_false, id] at hr0)
    · exists wsub_lit0, wsub_lit1, wsub_lit2, wsub_lit3, wset_1, wset_2, wset_3
      exact ⟨hn, hd, _, rfl, h _ _ (nn _) (lt _) ⟨l, a, _, s, rfl, ha, dv _ hr, hs⟩⟩
    · exists wsub_lit0, wsub_lit1, wsub_lit2, wsub_lit3, wset_1, wset_2, wset_3
      exact ⟨hmul _, hq0, h7, hn, _, rfl, h _ _ (nn _) (lt _) ⟨l, a, r, _, rfl, ha, hr, seed _⟩⟩
  refine wbS_if (fun hc => ?_) (fun hc => ?_) <;> (try simp only [decide_eq_true_eq, decide_eq_false_iff_not, Bool.or_eq_true, Bool.and_eq_true, Bool.or_eq_false_iff, Bool.and_eq_false_iff, Bool.not_eq_true', Bool.not_eq_false', Bool.not_eq_true, Bool.not_eq_false, Int.not_lt, Int.not_le, Bool.false_eq_true, Bool.true_eq_false, id] at hc)
  · exists wsub_lit0, wsub_lit1, wsub_lit2, wsub_lit3, wset_1, wset_2, wset_3
    have ab := ite_abs (pyg l a)
    refine ⟨⟨by omega, hc.2⟩, ⟨by decide, by decide, by decide⟩, ?_⟩
    refine wbS_if (fun hs1 => ?_) (fun hs1 => ?_) <;> (try simp only [decide_eq_true_eq, decide_eq_false_iff_not, Bool.or_eq_true, Bool.and_eq_true, Bool.or_eq_false_iff, Bool.and_eq_false_iff, Bool.not_eq_true', Bool.not_eq_false', Bool.not_eq_true, Bool.not_eq_false, Int.not_lt, Int.not_le, Bool.false_eq_true, Bool.true_eq_false, id] at hs1)
    · exists wsub_lit0, wsub_lit1, wsub_lit2, wsub_lit3, wset_1, wset_2, wset_3
      exact ⟨hn, _, rfl, h _ _ (nn _) (lt _) ⟨l, a + 1, 0, s, rfl, by omega, by omega, hs⟩⟩
    · simp only [↓wss.eq_1, ↓wnx_n]
      exact fin _ _ _ (by omega) ab hs (C := none)
  · simp only [↓wss.eq_1, ↓wnx_n]
    exact fin a r s ha hr hs (C := none)
theorem take_ok {fs : List Fn} {k f : Nat} {mm q : Int} (hF : fs[f]? = some (takeF mm q)) (hm : 0 < mm ∧ mm < 1000000) (hq : 0 < q ∧ q < 1000000000000) {x : D} {n : Int} (hx : Dr x) (h0 : 0 < n) (h1 : n < 1073741824) {Q : D → D → Prop} {E : XE}
    (h : ∀ r x', 0 ≤ r → r < n → Dr x' → Q (.int r) x') : CallR (runF fs (k + 1)) f [.own x, .own (.int n)] Q E := take_okD hF hm hq hx h0 (divOk_of h0 h1) h
theorem begin_ok {fs : List Fn} {k f : Nat} {s0 m a c q : Int} (hF : fs[f]? = some (beginF s0 m a c q)) (h0 : 0 ≤ s0) (hm : 0 < m ∧ m < 1000000) (ha : 0 < a) (hq : 0 < q) {ns : List Int} (hn : ns.length ≤ 63) {Q : D → Prop} {E : XE}
    (h : ∀ d, Dr d → Q d) : Call (runF fs (k + 1)) f [.scr ns] Q E := by
  refine call_intro hF rfl ?_
  unfold beginF
  exists vz
  refine wfor_inv (f := PyData.int) (I := fun pre σ => ∃ s c, 0 ≤ s ∧ σ = [some (.scr ns), some (.own (.int s)), c]) ⟨s0, none, h0, rfl⟩ ?_ ?_
  · rintro pre x suf σ _ ⟨s, c, hs, rfl⟩
    exists vz

    refine ⟨mulOk_r ⟨by omega, by omega⟩, by omega, by omega, ?_⟩
    exact ⟨_, _, fmod_nn hq, rfl⟩
  · rintro σ ⟨s, c, hs, rfl⟩
    exists vz
    exact ⟨lenOk_of (by omega), lenOk_of (by decide), h _ ⟨ns, 0, 0, s, rfl, by omega, by omega, hs⟩⟩
/-- a name handed over for a draw -/
theorem wcall_take {sp : Bool} {fs : List Fn} {k f : Nat} {mm q : Int} (hF : fs[f]? = some (takeF mm q)) (hm : 0 < mm ∧ mm < 1000000) (hq : 0 < q ∧ q < 1000000000000) {i : Nat} {b : Bool} {x : D} {n : Int} {ρ : Env} {K : EK} {E : XE} {t : Tag K} (hx : Dr x) (hg : get ρ i = some (.own x)) (hb : noBor ρ = true) (h0 : 0 < n) (h1 : n < 1073741824)
    (h : ∀ r x', 0 ≤ r → r < n → Dr x' → K true (.int r) (ρ.set i (some (.own x')))) : wcall (runF fs (k + 1)) f sp [.ref i, .val (b, .int n)] ρ K E t :=
  wcall_r hg hb rfl (take_ok hF hm hq hx h0 h1 h)
theorem wcall_takeD {sp : Bool} {fs : List Fn} {k f : Nat} {mm q : Int} (hF : fs[f]? = some (takeF mm q)) (hm : 0 < mm ∧ mm < 1000000) (hq : 0 < q ∧ q < 1000000000000) {i : Nat} {b : Bool} {x : D} {n : Int} {ρ : Env} {K : EK} {E : XE} {t : Tag K} (hx : Dr x) (hg : get ρ i = some (.own x)) (hb : noBor ρ = true) (h0 : 0 < n) (h1 : divOk n = true)
    (h : ∀ r x', 0 ≤ r → r < n → Dr x' → K true (.int r) (ρ.set i (some (.own x')))) : wcall (runF fs (k + 1)) f sp [.ref i, .val (b, .int n)] ρ K E t :=
  wcall_r hg hb rfl (take_okD hF hm hq hx h0 h1 h)
theorem divOk_big {b : Int} (h : 0 < b) (h2 : b < 1267650600228229401496703205376) : divOk b = true := by
  unfold divOk
  have : 0 < b ∧ b < 2 ^ 9000 := ⟨h, Int.lt_trans h2 (by decide +kernel)⟩
  rw [decide_eq_true this, Bool.or_true]
theorem wcall_begin {sp : Bool} {fs : List Fn} {k f : Nat} {s0 m a c q : Int} (hF : fs[f]? = some (beginF s0 m a c q)) (h0 : 0 ≤ s0) (hm : 0 < m ∧ m < 1000000) (ha : 0 < a) (hq : 0 < q) {ns : List Int} (hn : ns.length ≤ 63) {i : Nat} {ρ : Env} {K : EK} {E : XE} {t : Tag K} (hg : get ρ i = some (.scr ns))
    (h : ∀ d, Dr d → K true d ρ) : wcall (runF fs (k + 1)) f sp [.scr i] ρ K E t := by
  have hc : Call (runF fs (k + 1)) f [.scr ns] (fun d => K true d ρ) E := begin_ok hF h0 hm ha hq hn h
  unfold wcall callA
  simp only [hasRef, Bool.false_and, Bool.false_eq_true, if_false, arCells, hg]
  refine WP.bind (WP.mono hc fun p h => ?_)
  obtain ⟨h1, h2, h3⟩ := h
  obtain ⟨⟨f1, d⟩, outs⟩ := p
  match outs, h2 with
  | [c], _ =>
    refine WP.ok ?_
    simp only at h1
    rw [h1, Bool.true_or]
    exact h3
/-- a call that hands over the name i, and values -/
theorem wcall_rs {sp : Bool} {cf : CF} {f i : Nat} {x : D} {rs : List R} {ρ : Env} {K : EK} {E : XE} {t : Tag K} (hg : get ρ i = some (.own x)) (hn : noBor ρ = true) (hy : rs.all (fun r => imm r.2) = true)
    (h : CallR cf f (.own x :: rs.map arC) (fun d x' => K true d (ρ.set i (some (.own x')))) E) : wcall cf f sp (.ref i :: rs.map .val) ρ K E t := by
  have v1 : ∀ rs : List R, arVals (rs.map .val) = rs.map (·.2) := by
    intro rs
    induction rs with
    | nil => rfl
    | cons r rs ih => simp only [List.map_cons, arVals, ih]
  have v2 : ∀ rs : List R, arRefs (rs.map .val) = [] := by
    intro rs
    induction rs with
    | nil => rfl
    | cons r rs ih => simp only [List.map_cons, arRefs, ih]
  have hy' : (rs.map (·.2)).all imm = true := by rw [List.all_map]; exact hy
  unfold wcall callA
  simp only [hasRef, hn, arVals, v1, hy', Bool.true_or, arRefs, v2, List.nodup_cons, List.not_mem_nil, not_false_eq_true, List.nodup_nil, and_self, decide_true, Bool.and_self, Bool.not_true, Bool.and_false, Bool.false_eq_true, if_false, arCells, hg, arCells_v]
  refine WP.bind (WP.mono h fun p h => ?_)
  obtain ⟨h1, x', r, h2, h3, h4⟩ := h
  obtain ⟨⟨f1, d⟩, outs⟩ := p
  simp only at h2
  subst h2
  simp only [arBack]
  rw [arBack_v _ _ _ (by simp at h3; exact h3)]
  refine WP.ok ?_
  simp only at h1
  rw [h1, Bool.true_or]
  exact h4
theorem wcall_rsS {sp : Bool} {cf : CF} {f i : Nat} {x : D} {rs : List R} {ρ : Env} {K : EK} {E : XE} {t : Tag K} (hg : get ρ i = some (.own x)) (hn : noBor ρ = true) (hs : sp = true)
    (h : CallR cf f (.own x :: rs.map arC) (fun d x' => K true d (ρ.set i (some (.own x')))) E) : wcall cf f sp (.ref i :: rs.map .val) ρ K E t := by
  have v1 : ∀ rs : List R, arVals (rs.map .val) = rs.map (·.2) := by
    intro rs
    induction rs with
    | nil => rfl
    | cons r rs ih => simp only [List.map_cons, arVals, ih]
  have v2 : ∀ rs : List R, arRefs (rs.map .val) = [] := by
    intro rs
    induction rs with
    | nil => rfl
    | cons r rs ih => simp only [List.map_cons, arRefs, ih]
  unfold wcall callA
  simp only [hasRef, hn, arVals, v1, hs, Bool.or_true, arRefs, v2, List.nodup_cons, List.not_mem_nil, not_false_eq_true, List.nodup_nil, and_self, decide_true, Bool.and_self, Bool.not_true, Bool.and_false, Bool.false_eq_true, if_false, arCells, hg, arCells_v]
  refine WP.bind (WP.mono h fun p h => ?_)
  obtain ⟨h1, x', r, h2, h3, h4⟩ := h
  obtain ⟨⟨f1, d⟩, outs⟩ := p
  simp only at h2
  subst h2
  simp only [arBack]
  rw [arBack_v _ _ _ (by simp at h3; exact h3)]
  refine WP.ok ?_
  simp only at h1
  rw [h1, Bool.true_or]
  exact h4
/-- .. and takes what may be a list -/
theorem wcall_rL {sp : Bool} {cf : CF} {f i : Nat} {b : Bool} {x y : D} {ρ : Env} {K : EK} {E : XE} {t : Tag K} (hg : get ρ i = some (.own x)) (hn : noBor ρ = true) (hs : sp = true) (h : CallR cf f [.own x, arC (b, y)] (fun d x' => K true d (ρ.set i (some (.own x')))) E) : wcall cf f sp [.ref i, .val (b, y)] ρ K E t :=
  wcall_rsS (rs := [(b, y)]) hg hn hs h
theorem wcall_r3 {sp : Bool} {cf : CF} {f i : Nat} {b1 b2 : Bool} {x y z : D} {ρ : Env} {K : EK} {E : XE} {t : Tag K} (hg : get ρ i = some (.own x)) (hn : noBor ρ = true) (hy : imm y = true) (hz : imm z = true)
    (h : CallR cf f [.own x, .own y, .own z] (fun d x' => K true d (ρ.set i (some (.own x')))) E) : wcall cf f sp [.ref i, .val (b1, y), .val (b2, z)] ρ K E t := by
  refine wcall_rs (rs := [(b1, y), (b2, z)]) hg hn (by simp [hy, hz]) ?_
  simp only [List.map_cons, List.map_nil, arC, hy, hz, if_true]
  exact h
def E0 : XE := fun _ _ _ => False
/-- a comprehension whose turns change things: J what is done, the items made, the names -/
theorem wcomp_eff {cf : CF} {elt : PV.E} {tgt : List Nat} {single : Bool} {cnd : Es} {own fz : List Nat} {α : Type} {f : α → D} {l : List α} {ρ : Env} {K : EK} {E : XE} {t : Tag K} (J : List α → List D → Env → Prop)
    (he : (eff elt || effs cnd) = true) (h2 : own.all (fun i => immAt ρ i && decide (i < ρ.length)) = true) (hi : (l.map f).all imm = true) (hn : noBor ρ = true) (h0 : J [] [] (wipe (freezes ρ fz) own))
    (h1 : ∀ pre a suf out σ, l = pre ++ a :: suf → J pre out σ → wbind .bor tgt single (f a) σ fun σ1 => wt cf cnd σ1 (fun c σ2 => if c = true then we cf elt σ2 (fun b d σ3 => b = true ∧ noBor (wipe σ3 own) = true ∧ J (pre ++ [a]) (out ++ [d]) (wipe σ3 own)) E0
      else noBor (wipe σ2 own) = true ∧ J (pre ++ [a]) out (wipe σ2 own)) E0)
    (hK : ∀ out σ, J l out σ → lenOk out.length = true ∧ σ.length = ρ.length ∧ K true (.list out) (restore ρ σ own)) : wcomp cf elt tgt single cnd own fz (l.map f) ρ K E t := by
  unfold wcomp
  refine ⟨h2, ?_⟩
  rw [if_pos he]
  refine ⟨hi, hn, ?_⟩
  have key : ∀ (suf pre : List α) (out : List D) (σ : Env), l = pre ++ suf → J pre out σ → WP (compL (bodyC cf elt tgt single cnd) own (suf.map f) σ) (fun p => J l (out ++ p.1) p.2) E0 := by
    intro suf
    induction suf with
    | nil =>
      intro pre out σ e h
      rw [List.append_nil] at e
      subst e
      simp only [List.map_nil, compL]
      exact WP.ok (by rw [List.append_nil]; exact h)
    | cons a suf ih =>
      intro pre out σ e h
      have e2 : l = (pre ++ [a]) ++ suf := by rw [e, List.append_assoc]; rfl
      simp only [List.map_cons, compL]
      have hb : WP (bodyC cf elt tgt single cnd (f a) σ) (fun p => noBor (wipe p.2 own) = true ∧ match p.1 with
          | none => J (pre ++ [a]) out (wipe p.2 own)
          | some r => (r.1 || imm r.2) = true ∧ J (pre ++ [a]) (out ++ [r.2]) (wipe p.2 own)) E0 := by
        unfold bodyC
        refine WP.bind ((wbind_ok (h1 pre a suf out σ e h)).mono fun σ1 h => WP.bind ((wt_ok cnd h).mono fun p h => ?_))
        obtain ⟨c, σ2⟩ := p
        cases c with
        | false => exact WP.ok h
        | true =>
          refine WP.bind ((we_ok elt h).mono fun p h => WP.ok ?_)
          exact ⟨h.2.1, h.1, h.2.2⟩
      refine WP.bind (hb.mono fun p hp => ?_)
      obtain ⟨o, σ3⟩ := p
      obtain ⟨hn3, hp⟩ := hp
      refine WP.ite hn3 ?_
      cases o with
      | none => exact WP.bind ((ih (pre ++ [a]) out _ e2 hp).mono fun q hq => WP.ok hq)
      | some r =>
        refine WP.bind ((ih (pre ++ [a]) (out ++ [r.2]) _ e2 hp.2).mono fun q hq => ?_)
        refine WP.ite hp.1 (WP.ok ?_)
        simp only
        rw [List.append_assoc] at hq
        exact hq
  have := key l [] [] _ rfl h0
  have ne : WP (noExc (compL (bodyC cf elt tgt single cnd) own (l.map f) (wipe (freezes ρ fz) own))) (fun p => J l p.1 p.2) E := by
    cases q : compL (bodyC cf elt tgt single cnd) own (l.map f) (wipe (freezes ρ fz) own) with
    | ok p => rw [q] at this; exact this
    | exc _ _ _ => rw [q] at this; exact this.elim
    | stuck => rw [q] at this; exact this.elim
  exact ne.mono fun p h => hK _ _ h
end PV
set_option Elab.async false
set_option linter.all false
namespace PV
open PySem
/-- the plain law from its call -/
theorem of_call {cf : CF} {f : Nat} {cs : List Cell} (h : Call cf f cs (fun d => d = .bool true) fun _ _ _ => False) : ∃ outs, cf f cs = .ok ((true, .bool true), outs) := by
  unfold Call at h
  cases e : cf f cs with
  | ok p =>
    rw [e] at h
    obtain ⟨h1, _, h2⟩ := h
    obtain ⟨⟨b, d⟩, outs⟩ := p
    simp only at h1 h2
    subst h1 h2
    exact ⟨outs, rfl⟩
  | exc _ _ _ => rw [e] at h; exact h.elim
  | stuck => rw [e] at h; exact h.elim
/-! ### sorted, rows of ints -/
theorem leD_T (a b : List Int) : leD (Tp .int a) (Tp .int b) = decide (a ≤ b) := by
  have h : PySem.W.dataLt (Tp .int b) (Tp .int a) = decide (b < a) := PySem.W.dataLt_ints b a
  unfold leD
  rw [h]
  by_cases q : b < a
  · have : ¬ a ≤ b := fun z => absurd q (List.not_lt.mpr z)
    simp [q, this]
  · have : a ≤ b := List.not_lt.mp q
    simp [q, this]
theorem mergeSort_rows (l m : List (List Int)) (hp : m.Perm l) (hs : m.Pairwise (· ≤ ·)) : l.mergeSort (fun a b => decide (a ≤ b)) = m := by
  refine List.Perm.eq_of_pairwise (le := fun a b : List Int => a ≤ b) (fun a b _ _ h1 h2 => List.le_antisymm h1 h2) ?_ hs ((List.mergeSort_perm _ _).trans hp.symm)
  have := List.pairwise_mergeSort (le := fun a b : List Int => decide (a ≤ b)) (fun a b c h1 h2 => decide_eq_true (List.le_trans (of_decide_eq_true h1) (of_decide_eq_true h2))) (fun a b => by
    rcases List.le_total a b with h | h <;> simp [h]) l
  exact this.imp fun h => of_decide_eq_true h
theorem sorted_T (l m : List (List Int)) (hp : m.Perm l) (hs : m.Pairwise (· ≤ ·)) : (l.map (Tp PyData.int)).mergeSort leD = m.map (Tp .int) := by
  rw [← List.map_mergeSort (r := fun a b => decide (a ≤ b)) fun a _ b _ => (leD_T a b).symm, mergeSort_rows l m hp hs]
theorem alike_T (a b : List Int) : PySem.W.alike (Tp .int a) (Tp .int b) = true := PySem.W.alike_ints a b
theorem sortB_T (l : List (List Int)) (hl : l.length ≤ 16777216) (h : l.length ≤ 1 ∨ ∀ w ∈ l, w ≠ []) : sortB (l.map (Tp PyData.int)) = true := by
  unfold sortB
  have h1 : immAll (l.map (Tp PyData.int)) = true := immAll_map l
  have h2 : alikeAll2 (l.map (Tp PyData.int)) = true := by
    unfold alikeAll2
    rw [List.all_eq_true]
    intro x hx
    rw [List.all_eq_true]
    intro y hy
    obtain ⟨a, _, rfl⟩ := List.mem_map.mp hx
    obtain ⟨b, _, rfl⟩ := List.mem_map.mp hy
    exact alike_T a b
  have h3 : PyData.depthAll (l.map (Tp PyData.int)) ≤ 50 := Nat.le_trans (depthAll_map l) (by decide)
  have h4 : lenOk (l.map (Tp PyData.int)).length = true := lenOk_of (by rw [List.length_map]; exact hl)
  rw [h1, h2, decide_eq_true h3, h4]
  simp only [Bool.true_and, Bool.or_eq_true, decide_eq_true_eq, List.length_map]
  rcases h with h | h
  · exact .inl (.inl h)
  · refine .inl (.inr ?_)
    rw [List.all_eq_true]
    intro x hx
    obtain ⟨a, ha, rfl⟩ := List.mem_map.mp hx
    have := h a ha
    cases a with
    | nil => exact absurd rfl this
    | cons a r => rfl
end PV
set_option Elab.async false
set_option linter.all false
set_option maxRecDepth 100000
/-! PW7: texts, as lists of code points. -/
namespace PV
open PySem
def Sx (l : List Nat) : D := .str ⟨l.toArray⟩
instance : Enc Sx 0 := ⟨fun _ => rfl, fun a b => by
  simp only [Sx, PyData.eqv]
  rw [beq_dec]
  exact decide_eq_decide.mpr ⟨fun h => by injection h with h; exact congrArg Array.toList h, fun h => by rw [h]⟩, fun _ => by simp [Sx, PyData.depth]⟩
/-- one sign -/
def Sg (c : Nat) : D := .str ⟨#[c]⟩
instance : Enc Sg 0 := ⟨fun _ => rfl, fun a b => by
  simp only [Sg, PyData.eqv]
  rw [beq_dec]
  exact decide_eq_decide.mpr ⟨fun h => by injection h with h; exact List.head_eq_of_cons_eq (congrArg Array.toList h), fun h => by rw [h]⟩, fun _ => by simp [Sg, PyData.depth]⟩
theorem imm_Sx {l : List Nat} : imm (Sx l) = true := Eq.trans rfl rfl
theorem imm_Sg {l : Nat} : imm (Sg l) = true := Eq.trans rfl rfl
theorem flat_Sx {l : List Nat} : flat (Sx l) = true := Eq.trans rfl rfl
theorem flat_Sg {l : Nat} : flat (Sg l) = true := Eq.trans rfl rfl
theorem len_S (l : List Nat) : (⟨l.toArray⟩ : Str).length = l.length := List.size_toArray
theorem lenOk_q {n : Nat} : lenOk n = decide (n ≤ 16777216) := by
  have : sizeLine = 16777216 := by decide
  unfold lenOk
  rw [this]
theorem w2_addS {a b : List Nat} {K : D → Prop} : w2 .add (Sx a) (Sx b) K = (a.length + b.length ≤ 16777216 ∧ K (Sx (a ++ b))) := by
  simp only [w2, op2, Sx, len_S, lenOk_q]
  have e : (⟨a.toArray⟩ ++ ⟨b.toArray⟩ : Str) = ⟨(a ++ b).toArray⟩ := congrArg Str.mk (List.append_toArray a b)
  by_cases h : a.length + b.length ≤ 16777216 <;> simp [h, e]
theorem w2_addSg {a : List Nat} {b : Nat} {K : D → Prop} : w2 .add (Sx a) (Sg b) K = (a.length + 1 ≤ 16777216 ∧ K (Sx (a ++ [b]))) := w2_addS (b := [b])
theorem wbi_lenS {a : List Nat} {K : D → Prop} : wbi .len [Sx a] K = (a.length ≤ 16777216 ∧ K (.int a.length)) := by
  simp only [wbi, bi, Sx, len_S, lenOk_q]
  by_cases h : a.length ≤ 16777216 <;> simp [h]
theorem wits_Sx {a : List Nat} {K : List D → Prop} : wits (Sx a) K = K (a.map Sg) := rfl
theorem wslc_S {a : List Nat} {lo hi : Option Int} {K : D → Prop} : wslc (Sx a) lo hi K = (a.length ≤ 16777216 ∧ K (Sx (cut a lo hi))) := by
  simp only [wslc, slc, Sx, len_S, lenOk_q]
  by_cases h : a.length ≤ 16777216 <;> simp [h]
theorem sub_S {a : List Nat} {i : Int} (h : a.length ≤ 16777216) (h2 : inR a.length i) : sub (Sx a) (.int i) = .ok (Sg (pyg a i)) := by
  have e : (ixN a.length i).bind (fun j => a[j]?) = some (pyg a i) := by
    rw [ixN_of h2]
    obtain ⟨q1, q2⟩ := h2
    have e : ∀ j : Nat, j < a.length → a[j]? = some (a.getD j default) := fun j hj => by
      rw [List.getD_eq_getElem?_getD, List.getElem?_eq_getElem hj]; rfl
    unfold pyg
    by_cases h0 : 0 ≤ i
    · rw [if_pos h0, if_pos h0]; exact e _ (by omega)
    · rw [if_neg h0, if_neg h0]; exact e _ (by omega)
  show (if lenOk (⟨a.toArray⟩ : Str).length then (match (ixN a.length i).bind fun j => a[j]? with | some c => Res.ok (PyData.str ⟨#[c]⟩) | none => .stuck) else .stuck) = _
  rw [e, len_S, lenOk_q, if_pos (by simpa using h)]
  rfl
theorem sub_S1 {a : List Nat} {i : Int} (h : ¬ (a.length ≤ 16777216 ∧ inR a.length i)) : sub (Sx a) (.int i) = .stuck := by
  show (if lenOk (⟨a.toArray⟩ : Str).length then (match (ixN a.length i).bind fun j => a[j]? with | some c => Res.ok (PyData.str ⟨#[c]⟩) | none => .stuck) else .stuck) = _
  rw [len_S, lenOk_q]
  by_cases h1 : a.length ≤ 16777216
  · rw [ixN_not fun q => h ⟨h1, q⟩]
    exact ite_self _
  · rw [if_neg (by simpa using h1)]
theorem wsub_S {a : List Nat} {i : Int} {K : D → Prop} : wsub (Sx a) (.int i) K = (a.length ≤ 16777216 ∧ inR a.length i ∧ K (Sg (pyg a i))) := by
  unfold wsub
  by_cases h : a.length ≤ 16777216 ∧ inR a.length i
  · rw [sub_S h.1 h.2]; simp [h]
  · rw [sub_S1 h]
    simp only [eq_iff_iff, false_iff]
    exact fun q => h ⟨q.1, q.2.1⟩
theorem w2_inS {a : List Nat} {c : Nat} {K : D → Prop} : w2 .inn (Sg c) (Sx a) K = K (.bool (decide (c ∈ a))) := by
  have := StrLaws.found_one ⟨a.toArray⟩ c
  show K (.bool (!(Builtin.Str.occurrences _ _ 0 _ 1).isEmpty)) = _
  rw [this]
theorem w2_ninS {a : List Nat} {c : Nat} {K : D → Prop} : w2 .nin (Sg c) (Sx a) K = K (.bool (!decide (c ∈ a))) := by
  have := StrLaws.found_one ⟨a.toArray⟩ c
  show K (.bool (!(!(Builtin.Str.occurrences _ _ 0 _ 1).isEmpty))) = _
  rw [this]
theorem w2_ltS {a b : List Nat} {K : D → Prop} : w2 .lt (Sx a) (Sx b) K = K (.bool (decide (a < b))) := by
  have e : PySem.W.dataLt (Sx a) (Sx b) = decide (a < b) := PySem.W.dataLt_str _ _
  have e2 : ltOk (Sx a) (Sx b) = true := by
    simp [ltOk, Sx, PyData.depth, PySem.W.alike]
  simp only [w2, op2, Sx] at e e2 ⊢
  rw [e2, e]
  rfl
theorem w2_isN0 {K : D → Prop} : w2 .isN .none .none K = K (.bool true) := rfl
theorem w2_isNi {i : Int} {K : D → Prop} : w2 .isN (.int i) .none K = K (.bool false) := rfl
theorem w2_isNs {x : Str} {K : D → Prop} : w2 .isN (.str x) .none K = K (.bool false) := rfl
theorem w2_isNS {l : List Nat} {K : D → Prop} : w2 .isN (Sx l) .none K = K (.bool false) := rfl
theorem w2_isNt {l : List D} {K : D → Prop} : w2 .isN (.tuple l) .none K = K (.bool false) := rfl
theorem w2_isNl {l : List D} {K : D → Prop} : w2 .isN (.list l) .none K = K (.bool false) := rfl
theorem w2_isNT {α : Type} {f : α → D} {l : List α} {K : D → Prop} : w2 .isN (Tp f l) .none K = K (.bool false) := rfl
theorem w2_isNL {α : Type} {f : α → D} {l : List α} {K : D → Prop} : w2 .isN (Ls f l) .none K = K (.bool false) := rfl
theorem w2_ntN0 {K : D → Prop} : w2 .ntN .none .none K = K (.bool false) := rfl
theorem w2_ntNi {i : Int} {K : D → Prop} : w2 .ntN (.int i) .none K = K (.bool true) := rfl
theorem w2_ntNs {x : Str} {K : D → Prop} : w2 .ntN (.str x) .none K = K (.bool true) := rfl
theorem w2_ntNS {l : List Nat} {K : D → Prop} : w2 .ntN (Sx l) .none K = K (.bool true) := rfl
theorem w2_ntNt {l : List D} {K : D → Prop} : w2 .ntN (.tuple l) .none K = K (.bool true) := rfl
theorem w2_ntNl {l : List D} {K : D → Prop} : w2 .ntN (.list l) .none K = K (.bool true) := rfl
theorem w2_ntNT {α : Type} {f : α → D} {l : List α} {K : D → Prop} : w2 .ntN (Tp f l) .none K = K (.bool true) := rfl
theorem w2_ntNL {α : Type} {f : α → D} {l : List α} {K : D → Prop} : w2 .ntN (Ls f l) .none K = K (.bool true) := rfl
end PV
set_option Elab.async false
set_option linter.all false
set_option maxRecDepth 100000
/-! PW8: lists and tuples times a number; more. -/
namespace PV
open PySem
theorem flat_rep {α : Type} (a : α) : ∀ n : Nat, (List.replicate n [a]).flatten = List.replicate n a
  | 0 => rfl
  | n + 1 => by rw [List.replicate_succ, List.flatten_cons, flat_rep a n]; rfl
theorem map_flat_rep {α : Type} (f : α → D) (l : List α) (n : Nat) : (List.replicate n (l.map f)).flatten = ((List.replicate n l).flatten).map f := by
  rw [List.map_flatten, List.map_replicate]
theorem w2_repL {α : Type} {f : α → D} {l : List α} {n : Int} {K : D → Prop} : w2 .mul (Ls f l) (.int n) K = (l.length * n.toNat ≤ 16777216 ∧ -9223372036854775808 ≤ n ∧ n < 9223372036854775808 ∧ K (Ls f (List.replicate n.toNat l).flatten)) := by
  simp only [w2, op2, Ls, List.length_map, lenOk_q, map_flat_rep]
  by_cases h : l.length * n.toNat ≤ 16777216 <;> by_cases h2 : -9223372036854775808 ≤ n ∧ n < 9223372036854775808 <;> simp [h, h2] <;> omega
theorem w2_rep1 {x n : Int} {K : D → Prop} : w2 .mul (PyData.list [.int x]) (.int n) K = (n.toNat ≤ 16777216 ∧ -9223372036854775808 ≤ n ∧ n < 9223372036854775808 ∧ K (Ls .int (List.replicate n.toNat x))) := by
  show w2 .mul (Ls .int [x]) (.int n) K = _
  rw [w2_repL, flat_rep]
  simp
theorem w2_repT {α : Type} {f : α → D} {l : List α} {n : Int} {K : D → Prop} : w2 .mul (Tp f l) (.int n) K = (l.length ≤ 1000 ∧ -9223372036854775808 ≤ n ∧ n ≤ 1000 ∧ K (Tp f (List.replicate n.toNat l).flatten)) := by
  simp only [w2, op2, Tp, List.length_map, map_flat_rep]
  by_cases h : l.length ≤ 1000 ∧ -9223372036854775808 ≤ n ∧ n ≤ 1000 <;> simp [h] <;> omega
theorem w2_repT1 {x n : Int} {K : D → Prop} : w2 .mul (PyData.tuple [.int x]) (.int n) K = (-9223372036854775808 ≤ n ∧ n ≤ 1000 ∧ K (Tp .int (List.replicate n.toNat x))) := by
  show w2 .mul (Tp .int [x]) (.int n) K = _
  rw [w2_repT, flat_rep]
  simp
end PV
set_option Elab.async false
set_option linter.all false
set_option maxRecDepth 100000
/-! PW9: a law's body in parts; pairs. -/
namespace PV
open PySem
/-- what is left of a body behind n statements -/
def tailS : Nat → Ss → Ss
  | 0, s => s
  | n + 1, .cons _ r => tailS n r
  | _ + 1, .nil => .nil
/-- a law's end -/
def LP (o : Out) (ρ : Env) : Prop := 1 ≤ ρ.length ∧ match o with
  | .ret d => d = .bool true
  | .nx => PyData.none = .bool true
  | _ => False
theorem LP_r {d : D} {ρ : Env} : LP (.ret d) ρ = (1 ≤ ρ.length ∧ d = .bool true) := rfl
theorem prI {x y : Int} : PyData.tuple [.int x, .int y] = Pr PyData.int PyData.int (x, y) := rfl
theorem prT {α β : Type} {f : α → D} {g : β → D} {a : List α} {b : List β} : PyData.tuple [Tp f a, Tp g b] = Pr (Tp f) (Tp g) (a, b) := rfl
theorem all_imm {α : Type} [DecidableEq α] {f : α → D} {k : Nat} [Enc f k] (l : List α) : (l.map f).all imm = true := by
  rw [List.all_eq_true]
  intro d hd
  obtain ⟨a, _, rfl⟩ := List.mem_map.mp hd
  exact imm_enc a


theorem any_map {α : Type} (p : α → Bool) (l : List α) : ((l.map p).any id) = l.any p := by rw [List.any_map]; rfl
theorem all_map {α : Type} (p : α → Bool) (l : List α) : ((l.map p).all id) = l.all p := by rw [List.all_map]; rfl
end PV
set_option maxRecDepth 100000
namespace K45
open PySem PV
-- const LISTED 3000
-- io 14 [0]
-- io 13 [0]
/-- check_box: a, b, c, side -/
def c0 : Fn := ⟨3, 4, (.cons (.iff (.bi .any (.cons (.comp (.op1 .nt (.cmp3 .le .le (.int 0) (.var 3) (.int 8))) [3] true (.seq (.tup (.cons (.var 0) (.cons (.var 1) (.cons (.var 2) .nil))))) .nil [3]) .nil)) (.cons (.raise1 1 "box") .nil) .nil) .nil)⟩
def n0 : List Str := ["a", "b", "c", "side"]
/-- check_plane: table, c, r, row, k, value -/
def c1 : Fn := ⟨2, 6, (.cons (.ex (.call 0 (.cons (.bi .len (.cons (.var 0) .nil)) (.cons (.ite (.op2 .gt (.bi .len (.cons (.var 0) .nil)) (.int 0)) (.bi .len (.cons (.sub (.var 0) (.int 0)) .nil)) (.int 0)) (.cons (.var 1) .nil))))) (.cons (.for [2, 3] false (.enum (.var 0)) (.cons (.iff (.op2 .ne (.bi .len (.cons (.var 3) .nil)) (.bi .len (.cons (.sub (.var 0) (.int 0)) .nil))) (.cons (.raise2 1 "rows" (.var 2)) .nil) .nil) (.cons (.for [4, 5] false (.enum (.var 3)) (.cons (.iff (.or (.op1 .nt (.cmp3 .le .le (.int 0) (.var 5) (.var 1))) (.or (.and (.op2 .gt (.var 4) (.int 0)) (.op2 .lt (.sub (.var 3) (.op2 .sub (.var 4) (.int 1))) (.var 5))) (.and (.op2 .gt (.var 2) (.int 0)) (.op2 .lt (.sub (.sub (.var 0) (.op2 .sub (.var 2) (.int 1))) (.var 4)) (.var 5))))) (.cons (.raise2 1 "order" (.var 2)) .nil) .nil) .nil)) .nil))) .nil))⟩
def n1 : List Str := ["table", "c", "r", "row", "k", "value"]
/-- macmahon: a, b, c, above, below, i, j -/
def c2 : Fn := ⟨3, 7, (.cons (.ex (.call 0 (.cons (.var 0) (.cons (.var 1) (.cons (.var 2) .nil))))) (.cons (.asg 3 (.int 1)) (.cons (.asg 4 (.int 1)) (.cons (.for [5] true (.r2 (.int 1) (.op2 .add (.var 0) (.int 1))) (.cons (.for [6] true (.r2 (.int 1) (.op2 .add (.var 1) (.int 1))) (.cons (.asg 3 (.op2 .mul (.var 3) (.op2 .sub (.op2 .add (.op2 .add (.var 5) (.var 6)) (.var 2)) (.int 1)))) (.cons (.asg 4 (.op2 .mul (.var 4) (.op2 .sub (.op2 .add (.var 5) (.var 6)) (.int 1)))) .nil))) .nil)) (.cons (.ret (.op2 .fdiv (.var 3) (.var 4))) .nil)))))⟩
def n2 : List Str := ["a", "b", "c", "above", "below", "i", "j"]
/-- rows_below: row, c, told, k, one, v -/
def c3 : Fn := ⟨2, 6, (.cons (.asg 2 (.lst (.cons (.tup .nil) .nil))) (.cons (.for [3] true (.r1 (.bi .len (.cons (.var 0) .nil))) (.cons (.asg 2 (.comp2 (.op2 .add (.var 4) (.tup (.cons (.var 5) .nil))) [4] true (.seq (.var 2)) .nil [4, 5] [5] true (.r1 (.op2 .add (.bi .min1 (.cons (.op2 .add (.lst (.cons (.sub (.var 0) (.var 3)) (.cons (.var 1) .nil))) (.bi .lst (.cons (.slc (.var 4) (.some (.op1 .neg (.int 1))) .none) .nil))) .nil)) (.int 1))) .nil)) .nil)) (.cons (.ret (.var 2)) .nil)))⟩
def n3 : List Str := ["row", "c", "told", "k", "one", "v"]
/-- planes: a, b, c, rows, r, later, table, above, row -/
def c4 : Fn := ⟨3, 9, (.cons (.iff (.op2 .gt (.call 2 (.cons (.var 0) (.cons (.var 1) (.cons (.var 2) .nil)))) (.int 3000)) (.cons (.raise1 1 "large") .nil) .nil) (.cons (.asg 3 (.lst (.cons (.tup .nil) .nil))) (.cons (.for [4] true (.r1 (.var 0)) (.cons (.asg 5 (.lst .nil)) (.cons (.for [6] true (.seq (.var 3)) (.cons (.asg 7 (.ite (.op2 .gt (.bi .len (.cons (.var 6) .nil)) (.int 0)) (.sub (.var 6) (.op1 .neg (.int 1))) (.op2 .mul (.tup (.cons (.var 2) .nil)) (.var 1)))) (.cons (.ext 5 (.comp (.op2 .add (.var 6) (.tup (.cons (.var 8) .nil))) [8] true (.seq (.call 3 (.cons (.var 7) (.cons (.var 2) .nil)))) .nil [8])) .nil))) (.cons (.asg 3 (.var 5)) .nil)))) (.cons (.ret (.bi .tup (.cons (.bi .sorted (.cons (.var 3) .nil)) .nil))) .nil))))⟩
def n4 : List Str := ["a", "b", "c", "rows", "r", "later", "table", "above", "row"]
/-- counts_by_sum: a, b, c, told, table, size, row -/
def c5 : Fn := ⟨3, 7, (.cons (.asg 3 (.op2 .mul (.lst (.cons (.int 0) .nil)) (.op2 .add (.op2 .mul (.op2 .mul (.var 0) (.var 1)) (.var 2)) (.int 1)))) (.cons (.for [4] true (.seq (.call 4 (.cons (.var 0) (.cons (.var 1) (.cons (.var 2) .nil))))) (.cons (.asg 5 (.bi .sum (.cons (.comp (.bi .sum (.cons (.var 6) .nil)) [6] true (.seq (.var 4)) .nil [6]) .nil))) (.cons (.setv 3 (.var 5) (.op2 .add (.sub (.var 3) (.var 5)) (.int 1))) .nil))) (.cons (.ret (.bi .tup (.cons (.var 3) .nil))) .nil)))⟩
def n5 : List Str := ["a", "b", "c", "told", "table", "size", "row"]
/-- q_macmahon: a, b, c, told, i, j -/
def c6 : Fn := ⟨3, 6, (.cons (.ex (.call 0 (.cons (.var 0) (.cons (.var 1) (.cons (.var 2) .nil))))) (.cons (.iff (.op2 .gt (.op2 .mul (.op2 .mul (.var 0) (.var 1)) (.var 2)) (.int 60)) (.cons (.raise1 1 "large") .nil) .nil) (.cons (.asg 3 (.lst (.cons (.int 1) .nil))) (.cons (.for [4] true (.r2 (.int 1) (.op2 .add (.var 0) (.int 1))) (.cons (.for [5] true (.r2 (.int 1) (.op2 .add (.var 1) (.int 1))) (.cons (.asg 3 (.call 7 (.cons (.var 3) (.cons (.op2 .sub (.op2 .add (.op2 .add (.var 4) (.var 5)) (.var 2)) (.int 1)) .nil)))) .nil)) .nil)) (.cons (.for [4] true (.r2 (.int 1) (.op2 .add (.var 0) (.int 1))) (.cons (.for [5] true (.r2 (.int 1) (.op2 .add (.var 1) (.int 1))) (.cons (.asg 3 (.call 8 (.cons (.var 3) (.cons (.op2 .sub (.op2 .add (.var 4) (.var 5)) (.int 1)) .nil)))) .nil)) .nil)) (.cons (.ret (.bi .tup (.cons (.var 3) .nil))) .nil))))))⟩
def n6 : List Str := ["a", "b", "c", "told", "i", "j"]
/-- _times: row, k, told, at -/
def c7 : Fn := ⟨2, 4, (.cons (.asg 2 (.op2 .add (.bi .lst (.cons (.var 0) .nil)) (.op2 .mul (.lst (.cons (.int 0) .nil)) (.var 1)))) (.cons (.for [3] true (.r1 (.bi .len (.cons (.var 0) .nil))) (.cons (.setv 2 (.op2 .add (.var 3) (.var 1)) (.op2 .sub (.sub (.var 2) (.op2 .add (.var 3) (.var 1))) (.sub (.var 0) (.var 3)))) .nil)) (.cons (.ret (.var 2)) .nil)))⟩
def n7 : List Str := ["row", "k", "told", "at"]
/-- _divided: row, k, told, at -/
def c8 : Fn := ⟨2, 4, (.cons (.asg 2 (.lst .nil)) (.cons (.for [3] true (.r1 (.op2 .sub (.bi .len (.cons (.var 0) .nil)) (.var 1))) (.cons (.app 2 (.op2 .add (.sub (.var 0) (.var 3)) (.ite (.op2 .ge (.var 3) (.var 1)) (.sub (.var 2) (.op2 .sub (.var 3) (.var 1))) (.int 0)))) .nil)) (.cons (.ret (.var 2)) .nil)))⟩
def n8 : List Str := ["row", "k", "told", "at"]
/-- complement: table, c, row, value -/
def c9 : Fn := ⟨2, 4, (.cons (.ex (.call 1 (.cons (.var 0) (.cons (.var 1) .nil)))) (.cons (.ret (.bi .tup (.cons (.comp (.bi .tup (.cons (.comp (.op2 .sub (.var 1) (.var 3)) [3] true (.rv (.var 2)) .nil [3]) .nil)) [2] true (.rv (.var 0)) .nil [2]) .nil))) .nil))⟩
def n9 : List Str := ["table", "c", "row", "value"]
/-- turned: table, c, width, told, height, k, row -/
def c10 : Fn := ⟨2, 7, (.cons (.ex (.call 1 (.cons (.var 0) (.cons (.var 1) .nil)))) (.cons (.asg 2 (.ite (.op2 .gt (.bi .len (.cons (.var 0) .nil)) (.int 0)) (.bi .len (.cons (.sub (.var 0) (.int 0)) .nil)) (.int 0))) (.cons (.asg 3 (.lst .nil)) (.cons (.for [4] true (.r2 (.int 1) (.op2 .add (.var 1) (.int 1))) (.cons (.app 3 (.bi .tup (.cons (.comp (.bi .len (.cons (.comp (.var 6) [6] true (.seq (.var 0)) (.cons (.op2 .ge (.sub (.var 6) (.var 5)) (.var 4)) .nil) [6]) .nil)) [5] true (.r1 (.var 2)) .nil [5]) .nil))) .nil)) (.cons (.ret (.bi .tup (.cons (.var 3) .nil))) .nil)))))⟩
def n10 : List Str := ["table", "c", "width", "told", "height", "k", "row"]
/-- symmetric_count: a, c, above, below, i, j -/
def c11 : Fn := ⟨2, 6, (.cons (.ex (.call 0 (.cons (.var 0) (.cons (.var 0) (.cons (.var 1) .nil))))) (.cons (.asg 2 (.int 1)) (.cons (.asg 3 (.int 1)) (.cons (.for [4] true (.r2 (.int 1) (.op2 .add (.var 0) (.int 1))) (.cons (.asg 2 (.op2 .mul (.var 2) (.op2 .sub (.op2 .add (.op2 .mul (.int 2) (.var 4)) (.var 1)) (.int 1)))) (.cons (.asg 3 (.op2 .mul (.var 3) (.op2 .sub (.op2 .mul (.int 2) (.var 4)) (.int 1)))) (.cons (.for [5] true (.r2 (.op2 .add (.var 4) (.int 1)) (.op2 .add (.var 0) (.int 1))) (.cons (.asg 2 (.op2 .mul (.var 2) (.op2 .sub (.op2 .add (.op2 .add (.var 4) (.var 5)) (.var 1)) (.int 1)))) (.cons (.asg 3 (.op2 .mul (.var 3) (.op2 .sub (.op2 .add (.var 4) (.var 5)) (.int 1)))) .nil))) .nil)))) (.cons (.ret (.op2 .fdiv (.var 2) (.var 3))) .nil)))))⟩
def n11 : List Str := ["a", "c", "above", "below", "i", "j"]
/-- _law_begin: script, seed, cell -/
def c12 : Fn := ⟨1, 3, (.cons (.asg 1 (.int 3)) (.cons (.for [2] true (.scr 0) (.cons (.asg 1 (.op2 .mod (.op2 .add (.op2 .add (.op2 .mul (.var 1) (.int 48271)) (.op2 .mod (.bi .int (.cons (.var 2) .nil)) (.int 2147483629))) (.int 5)) (.int 2147483647))) .nil)) (.cons (.ret (.lst (.cons (.scrL 0) (.cons (.int 0) (.cons (.int 0) (.cons (.var 1) .nil)))))) .nil)))⟩
def n12 : List Str := ["script", "seed", "cell"]
/-- _law_take: d, many, small, digit -/
def c13 : Fn := ⟨2, 4, (.cons (.iff (.and (.op2 .eq (.sub (.var 0) (.int 2)) (.int 0)) (.op2 .lt (.sub (.var 0) (.int 1)) (.bi .len (.cons (.sub (.var 0) (.int 0)) .nil)))) (.cons (.setv 0 (.int 2) (.bi .abs (.cons (.bi .int (.cons (.sub (.sub (.var 0) (.int 0)) (.sub (.var 0) (.int 1))) .nil)) .nil))) (.cons (.setv 0 (.int 1) (.op2 .add (.sub (.var 0) (.int 1)) (.int 1))) (.cons (.iff (.op2 .lt (.sub (.var 0) (.int 2)) (.op2 .pow (.int 10) (.int 18))) (.cons (.asg 2 (.bi .int (.cons (.sub (.var 0) (.int 2)) .nil))) (.cons (.setv 0 (.int 2) (.int 0)) (.cons (.ret (.op2 .mod (.var 2) (.var 1))) .nil))) .nil) .nil))) .nil) (.cons (.iff (.op2 .gt (.sub (.var 0) (.int 2)) (.int 0)) (.cons (.asg 3 (.op2 .mod (.bi .int (.cons (.sub (.var 0) (.int 2)) .nil)) (.var 1))) (.cons (.setv 0 (.int 2) (.op2 .fdiv (.bi .int (.cons (.sub (.var 0) (.int 2)) .nil)) (.var 1))) (.cons (.ret (.var 3)) .nil))) .nil) (.cons (.setv 0 (.int 3) (.op2 .mod (.bi .int (.cons (.op2 .add (.op2 .mul (.sub (.var 0) (.int 3)) (.int 69621)) (.int 13)) .nil)) (.int 2147483647))) (.cons (.ret (.op2 .mod (.bi .int (.cons (.op2 .fdiv (.sub (.var 0) (.int 3)) (.int 7)) .nil)) (.var 1))) .nil))))⟩
def n13 : List Str := ["d", "many", "small", "digit"]
/-- _law_pick: d, menu -/
def c14 : Fn := ⟨2, 2, (.cons (.ret (.sub (.var 1) (.call 13 (.cons (.ref 0) (.cons (.bi .len (.cons (.var 1) .nil)) .nil))))) .nil)⟩
def n14 : List Str := ["d", "menu"]
/-- _law_told: word, a, b, c, e -/
def c15 : Fn := ⟨4, 5, (.cons (.try_ 4 (.cons (.iff (.op2 .eq (.var 0) (.str "list")) (.cons (.ret (.call 4 (.cons (.var 1) (.cons (.var 2) (.cons (.var 3) .nil))))) .nil) .nil) (.cons (.iff (.op2 .eq (.var 0) (.str "check")) (.cons (.ret (.call 1 (.cons (.var 1) (.cons (.var 2) .nil)))) .nil) .nil) (.cons (.ret (.ite (.op2 .eq (.var 0) (.str "count")) (.call 2 (.cons (.var 1) (.cons (.var 2) (.cons (.var 3) .nil)))) (.call 6 (.cons (.var 1) (.cons (.var 2) (.cons (.var 3) .nil)))))) .nil))) [(1, 1)]) .nil)⟩
def n15 : List Str := ["word", "a", "b", "c", "e"]
/-- _law_error: table, c, wide, r, k, value -/
def c16 : Fn := ⟨2, 6, (.cons (.asg 2 (.ite (.op2 .gt (.bi .len (.cons (.var 0) .nil)) (.int 0)) (.bi .len (.cons (.sub (.var 0) (.int 0)) .nil)) (.int 0))) (.cons (.iff (.or (.op2 .gt (.bi .len (.cons (.var 0) .nil)) (.int 8)) (.or (.op2 .gt (.var 2) (.int 8)) (.op1 .nt (.cmp3 .le .le (.int 0) (.var 1) (.int 8))))) (.cons (.ret (.tup (.cons (.str "box") (.cons (.int 0) .nil)))) .nil) .nil) (.cons (.for [3] true (.r1 (.bi .len (.cons (.var 0) .nil))) (.cons (.iff (.op2 .ne (.bi .len (.cons (.sub (.var 0) (.var 3)) .nil)) (.var 2)) (.cons (.ret (.tup (.cons (.str "rows") (.cons (.var 3) .nil)))) .nil) .nil) (.cons (.for [4] true (.r1 (.var 2)) (.cons (.asg 5 (.sub (.sub (.var 0) (.var 3)) (.var 4))) (.cons (.iff (.or (.op2 .lt (.var 5) (.int 0)) (.or (.op2 .gt (.var 5) (.var 1)) (.or (.and (.op2 .gt (.var 4) (.int 0)) (.op2 .lt (.sub (.sub (.var 0) (.var 3)) (.op2 .sub (.var 4) (.int 1))) (.var 5))) (.and (.op2 .gt (.var 3) (.int 0)) (.op2 .lt (.sub (.sub (.var 0) (.op2 .sub (.var 3) (.int 1))) (.var 4)) (.var 5)))))) (.cons (.ret (.tup (.cons (.str "order") (.cons (.var 3) .nil)))) .nil) .nil) .nil))) .nil))) (.cons (.ret .non) .nil))))⟩
def n16 : List Str := ["table", "c", "wide", "r", "k", "value"]
/-- _law_planes: a, b, c, rows, cell, more, row, top, value, r -/
def c17 : Fn := ⟨3, 10, (.cons (.asg 3 (.lst (.cons (.tup .nil) .nil))) (.cons (.for [4] true (.r1 (.op2 .mul (.var 0) (.var 1))) (.cons (.asg 5 (.lst .nil)) (.cons (.for [6] true (.seq (.var 3)) (.cons (.asg 7 (.var 2)) (.cons (.iff (.op2 .gt (.op2 .mod (.var 4) (.var 1)) (.int 0)) (.cons (.asg 7 (.bi .min2 (.cons (.var 7) (.cons (.sub (.var 6) (.op2 .sub (.var 4) (.int 1))) .nil)))) .nil) .nil) (.cons (.iff (.op2 .ge (.var 4) (.var 1)) (.cons (.asg 7 (.bi .min2 (.cons (.var 7) (.cons (.sub (.var 6) (.op2 .sub (.var 4) (.var 1))) .nil)))) .nil) .nil) (.cons (.ext 5 (.comp (.op2 .add (.var 6) (.tup (.cons (.var 8) .nil))) [8] true (.r1 (.op2 .add (.var 7) (.int 1))) .nil [8])) .nil))))) (.cons (.asg 3 (.var 5)) .nil)))) (.cons (.ret (.comp (.bi .tup (.cons (.comp (.slc (.var 6) (.some (.op2 .mul (.var 9) (.var 1))) (.some (.op2 .add (.op2 .mul (.var 9) (.var 1)) (.var 1)))) [9] true (.r1 (.var 0)) .nil [9]) .nil)) [6] true (.seq (.var 3)) .nil [6])) .nil)))⟩
def n17 : List Str := ["a", "b", "c", "rows", "cell", "more", "row", "top", "value", "r"]
/-- law: script, d, a, b, c, number, rows, sums, due, table, other, up, bent, r, poly, row, k, value, h, x -/
def c18 : Fn := ⟨1, 20, (.cons (.asg 1 (.call 12 (.cons (.scr 0) .nil))) (.cons (.asg 2 (.call 13 (.cons (.ref 1) (.cons (.int 9) .nil)))) (.cons (.asg 3 (.call 13 (.cons (.ref 1) (.cons (.int 9) .nil)))) (.cons (.asg 4 (.call 13 (.cons (.ref 1) (.cons (.int 9) .nil)))) (.cons (.asg 5 (.call 15 (.cons (.str "count") (.cons (.var 2) (.cons (.var 3) (.cons (.var 4) .nil)))))) (.cons (.iff (.or (.op2 .ne (.var 5) (.call 15 (.cons (.str "count") (.cons (.var 3) (.cons (.var 4) (.cons (.var 2) .nil)))))) (.or (.op2 .ne (.var 5) (.call 15 (.cons (.str "count") (.cons (.var 4) (.cons (.var 3) (.cons (.var 2) .nil)))))) (.op2 .lt (.var 5) (.int 1)))) (.cons (.ret (.bl false)) .nil) .nil) (.cons (.iff (.and (.op2 .lt (.var 5) (.int 400)) (.and (.op2 .gt (.var 3) (.int 0)) (.op2 .gt (.var 2) (.int 0)))) (.cons (.asg 6 (.call 17 (.cons (.var 2) (.cons (.var 3) (.cons (.var 4) .nil))))) (.cons (.iff (.or (.op2 .ne (.bi .len (.cons (.var 6) .nil)) (.var 5)) (.op2 .ne (.call 15 (.cons (.str "list") (.cons (.var 2) (.cons (.var 3) (.cons (.var 4) .nil))))) (.bi .tup (.cons (.bi .sorted (.cons (.var 6) .nil)) .nil)))) (.cons (.ret (.bl false)) .nil) .nil) (.cons (.asg 7 (.comp (.bi .sum (.cons (.comp (.bi .sum (.cons (.var 15) .nil)) [15] true (.seq (.var 9)) .nil [15]) .nil)) [9] true (.seq (.var 6)) .nil [9])) (.cons (.asg 8 (.bi .tup (.cons (.comp (.mt .count (.var 7) (.cons (.var 16) .nil)) [16] true (.r1 (.op2 .add (.op2 .mul (.op2 .mul (.var 2) (.var 3)) (.var 4)) (.int 1))) .nil [16]) .nil))) (.cons (.iff (.op2 .ne (.call 5 (.cons (.var 2) (.cons (.var 3) (.cons (.var 4) .nil)))) (.var 8)) (.cons (.ret (.bl false)) .nil) .nil) (.cons (.iff (.and (.op2 .le (.op2 .mul (.op2 .mul (.var 2) (.var 3)) (.var 4)) (.int 60)) (.op2 .ne (.call 15 (.cons (.str "poly") (.cons (.var 2) (.cons (.var 3) (.cons (.var 4) .nil))))) (.var 8))) (.cons (.ret (.bl false)) .nil) .nil) (.cons (.asg 9 (.call 14 (.cons (.ref 1) (.cons (.var 6) .nil)))) (.cons (.asg 10 (.bi .tup (.cons (.comp (.bi .tup (.cons (.comp (.op2 .sub (.var 4) (.var 17)) [17] true (.seq (.rev (.var 15))) .nil [17]) .nil)) [15] true (.seq (.rev (.var 9))) .nil [15]) .nil))) (.cons (.iff (.or (.op2 .ne (.call 9 (.cons (.var 9) (.cons (.var 4) .nil))) (.var 10)) (.op2 .ne (.call 9 (.cons (.var 10) (.cons (.var 4) .nil))) (.var 9))) (.cons (.ret (.bl false)) .nil) .nil) (.cons (.asg 11 (.call 10 (.cons (.var 9) (.cons (.var 4) .nil)))) (.cons (.iff (.op2 .ne (.var 11) (.bi .tup (.cons (.comp (.bi .tup (.cons (.comp (.bi .len (.cons (.comp (.var 15) [15] true (.seq (.var 9)) (.cons (.op2 .gt (.sub (.var 15) (.var 16)) (.var 18)) .nil) [15]) .nil)) [16] true (.r1 (.var 3)) .nil [16]) .nil)) [18] true (.r1 (.var 4)) .nil [18]) .nil))) (.cons (.ret (.bl false)) .nil) .nil) (.cons (.iff (.and (.op2 .gt (.var 4) (.int 0)) (.or (.op2 .ntN (.call 16 (.cons (.var 11) (.cons (.var 2) .nil))) .non) (.op2 .ne (.call 10 (.cons (.var 11) (.cons (.var 2) .nil))) (.var 9)))) (.cons (.ret (.bl false)) .nil) .nil) (.cons (.iff (.and (.op2 .eq (.var 2) (.var 3)) (.op2 .ne (.call 11 (.cons (.var 2) (.cons (.var 4) .nil))) (.bi .len (.cons (.comp (.var 19) [19] true (.seq (.var 6)) (.cons (.bi .all (.cons (.comp (.bi .all (.cons (.comp (.op2 .eq (.sub (.sub (.var 19) (.var 13)) (.var 16)) (.sub (.sub (.var 19) (.var 16)) (.var 13))) [16] true (.r1 (.var 2)) .nil [16]) .nil)) [13] true (.r1 (.var 2)) .nil [13]) .nil)) .nil) [19]) .nil)))) (.cons (.ret (.bl false)) .nil) .nil) (.cons (.asg 12 (.comp (.bi .lst (.cons (.var 15) .nil)) [15] true (.seq (.var 9)) .nil [15])) (.cons (.asg 13 (.call 13 (.cons (.ref 1) (.cons (.var 2) .nil)))) (.cons (.iff (.op2 .eq (.call 13 (.cons (.ref 1) (.cons (.int 3) .nil))) (.int 0)) (.cons (.app1 12 (.var 13) (.int 0)) .nil) (.cons (.set2 12 (.var 13) (.call 13 (.cons (.ref 1) (.cons (.var 3) .nil))) (.op2 .sub (.call 13 (.cons (.ref 1) (.cons (.int 11) .nil))) (.int 1))) .nil)) (.cons (.asg 12 (.bi .tup (.cons (.comp (.bi .tup (.cons (.var 15) .nil)) [15] true (.seq (.var 12)) .nil [15]) .nil))) (.cons (.iff (.op2 .ne (.call 15 (.cons (.str "check") (.cons (.var 12) (.cons (.var 4) (.cons (.int 0) .nil))))) (.call 16 (.cons (.var 12) (.cons (.var 4) .nil)))) (.cons (.ret (.bl false)) .nil) .nil) .nil)))))))))))))))))) (.cons (.iff (.and (.op2 .gt (.var 5) (.int 3000)) (.op2 .ne (.call 15 (.cons (.str "list") (.cons (.var 2) (.cons (.var 3) (.cons (.var 4) .nil))))) (.tup (.cons (.str "large") (.cons (.int 0) .nil))))) (.cons (.ret (.bl false)) .nil) .nil) .nil)) (.cons (.iff (.op2 .le (.op2 .mul (.op2 .mul (.var 2) (.var 3)) (.var 4)) (.int 60)) (.cons (.asg 14 (.call 15 (.cons (.str "poly") (.cons (.var 2) (.cons (.var 3) (.cons (.var 4) .nil)))))) (.cons (.iff (.or (.op2 .ne (.bi .sum (.cons (.var 14) .nil)) (.var 5)) (.or (.op2 .ne (.var 14) (.rev (.var 14))) (.op2 .ne (.bi .len (.cons (.var 14) .nil)) (.op2 .add (.op2 .mul (.op2 .mul (.var 2) (.var 3)) (.var 4)) (.int 1))))) (.cons (.ret (.bl false)) .nil) .nil) .nil)) (.cons (.iff (.op2 .ne (.call 15 (.cons (.str "poly") (.cons (.var 2) (.cons (.var 3) (.cons (.var 4) .nil))))) (.tup (.cons (.str "large") (.cons (.int 0) .nil)))) (.cons (.ret (.bl false)) .nil) .nil) .nil)) (.cons (.ret (.and (.op2 .eq (.call 15 (.cons (.str "count") (.cons (.int 9) (.cons (.int 1) (.cons (.int 1) .nil))))) (.tup (.cons (.str "box") (.cons (.int 0) .nil)))) (.op2 .eq (.call 15 (.cons (.str "count") (.cons (.int 1) (.cons (.int 1) (.cons (.op2 .sub (.int 0) (.int 1)) .nil))))) (.tup (.cons (.str "box") (.cons (.int 0) .nil)))))) .nil)))))))))⟩
def n18 : List Str := ["script", "d", "a", "b", "c", "number", "rows", "sums", "due", "table", "other", "up", "bent", "r", "poly", "row", "k", "value", "h", "x"]
def fs : List Fn := [c0, c1, c2, c3, c4, c5, c6, c7, c8, c9, c10, c11, c12, c13, c14, c15, c16, c17, c18]
-- law 18
end K45
set_option Elab.async false
set_option linter.all false
set_option maxRecDepth 100000
set_option maxHeartbeats 4000000
set_option exponentiation.threshold 2000000
namespace K45
open PySem PV
/-! the plain functions, and what the kernel finds of them -/
def macA (a b : Nat) (c : Int) : Int := (List.range a).foldl (fun x (i : Nat) => (List.range b).foldl (fun x (j : Nat) => x * (((1 + (i : Int)) + (1 + (j : Int))) + c - 1)) x) 1
def macB (a b : Nat) : Int := (List.range a).foldl (fun x (i : Nat) => (List.range b).foldl (fun x (j : Nat) => x * ((1 + (i : Int)) + (1 + (j : Int)) - 1)) x) 1
def mac (a b c : Nat) : Int := (macA a b c).fdiv (macB a b)
/-- 0 .. n put ahead of a row -/
def exN (row : List Nat) : Nat → List (List Nat) → List (List Nat)
  | 0, acc => (0 :: row) :: acc
  | n + 1, acc => exN row n (((n + 1) :: row) :: acc)
def topN (b c cell : Nat) (row : List Nat) : Nat :=
  let t := bif Nat.blt 0 (cell % b) then (match row with | [] => c | x :: _ => bif Nat.blt x c then x else c) else c
  bif Nat.ble b cell then (bif Nat.blt (row.getD (b - 1) 0) t then row.getD (b - 1) 0 else t) else t
def stN (b c cell : Nat) : List (List Nat) → List (List Nat)
  | [] => []
  | r :: rs => exN r (topN b c cell r) (stN b c cell rs)
def lpN (b c : Nat) : Nat → Nat → List (List Nat) → List (List Nat)
  | 0, _, l => l
  | n + 1, cell, l => lpN b c n (cell + 1) (stN b c cell l)
def all3 (p : Nat → Nat → Nat → Bool) : Bool := (List.range 9).all fun a => (List.range 9).all fun b => (List.range 9).all fun c => p a b c
theorem all3_of {p : Nat → Nat → Nat → Bool} (h : all3 p = true) {a b c : Nat} (ha : a < 9) (hb : b < 9) (hc : c < 9) : p a b c = true := by
  unfold all3 at h
  have h1 := List.all_eq_true.mp h a (List.mem_range.mpr ha)
  have h2 := List.all_eq_true.mp h1 b (List.mem_range.mpr hb)
  exact List.all_eq_true.mp h2 c (List.mem_range.mpr hc)
theorem chk1_ok : all3 (fun a b c => decide (mac a b c = mac b c a) && decide (mac a b c = mac c b a) && decide (1 ≤ mac a b c)) = true := by decide +kernel
theorem chkB_ok : all3 (fun a b _ => decide (0 < macB a b) && decide (macB a b < 2 ^ 400)) = true := by decide +kernel
theorem chk2_ok : all3 (fun a b c => Nat.beq a 0 || Nat.beq b 0 || !decide (mac a b c < 400) || decide (((lpN b c (a * b) 0 [[]]).length : Int) = mac a b c)) = true := by decide +kernel
def ksL (a b c : Nat) : List Nat := (List.range a).flatMap fun i => (List.range b).map fun j => i + j + c + 1
def XP (k : Nat) : Nat := 2 ^ (160 * k)
def prN : List Nat → Nat
  | [] => 1
  | k :: l => (XP k - 1) * prN l
def digs : Nat → Nat → List Nat
  | 0, _ => []
  | n + 1, v => v % XP 1 :: digs n (v / XP 1)
def vlN : List Nat → Nat
  | [] => 0
  | x :: l => x + XP 1 * vlN l
def Qn (a b c : Nat) : List Nat := digs (a * b * c + 1) (prN (ksL a b c) / prN (ksL a b 0))
def chkQ (a b c : Nat) : Bool := Nat.beq (vlN (Qn a b c) * prN (ksL a b 0)) (prN (ksL a b c)) && (Qn a b c).all (fun x => Nat.ble x (2 ^ 62)) && decide ((((Qn a b c).sum : Nat) : Int) = mac a b c) && decide (Qn a b c = (Qn a b c).reverse) && Nat.beq ((ksL a b c).sum) (a * b * c + (ksL a b 0).sum)
theorem chk5_ok : all3 (fun a b c => !Nat.ble (a * b * c) 60 || chkQ a b c) = true := by decide +kernel
def cnts (l : List Nat) (n : Nat) : List Nat := (List.range (n + 1)).map fun k => (l.filter (Nat.beq k)).length
theorem chk3_ok : all3 (fun a b c => Nat.beq a 0 || Nat.beq b 0 || !(decide (mac a b c < 400) && Nat.ble (a * b * c) 60) || decide (cnts ((lpN b c (a * b) 0 [[]]).map List.sum) (a * b * c) = Qn a b c)) = true := by decide +kernel
def symA (a : Nat) (c : Int) : Int := (List.range a).foldl (fun x (i : Nat) => (List.range (a - 1 - i)).foldl (fun x (j : Nat) => x * (((1 + (i : Int)) + ((1 + (i : Int)) + 1 + (j : Int))) + c - 1)) (x * (2 * (1 + (i : Int)) + c - 1))) 1
def symB (a : Nat) : Int := (List.range a).foldl (fun x (i : Nat) => (List.range (a - 1 - i)).foldl (fun x (j : Nat) => x * ((1 + (i : Int)) + ((1 + (i : Int)) + 1 + (j : Int)) - 1)) (x * (2 * (1 + (i : Int)) - 1))) 1
def symN (a : Nat) (g : List Nat) : Bool := (List.range a).all fun r => (List.range a).all fun k => Nat.beq (g.getD (a * a - 1 - (r * a + k)) 0) (g.getD (a * a - 1 - (k * a + r)) 0)
theorem chk4_ok : ((List.range 9).all fun a => (List.range 9).all fun c => Nat.beq a 0 || !decide (mac a a c < 400) || (decide ((symA a c).fdiv (symB a) = (((lpN a c (a * a) 0 [[]]).filter (symN a)).length : Int)) && decide (0 < symB a) && decide (symB a < 2 ^ 400))) = true := by decide +kernel
end K45
set_option Elab.async false
set_option linter.all false
set_option maxRecDepth 100000
set_option maxHeartbeats 4000000
namespace K45
open PySem PV
/-! the lists of fillings -/
theorem exN_q (row : List Nat) : ∀ (n : Nat) (acc : List (List Nat)), exN row n acc = ((List.range (n + 1)).map fun j => j :: row) ++ acc
  | 0, acc => rfl
  | n + 1, acc => by rw [exN, exN_q row n, List.range_succ (n := n + 1), List.map_append, List.append_assoc]; rfl
theorem stN_q (b c cell : Nat) : ∀ L : List (List Nat), stN b c cell L = L.flatMap fun g => (List.range (topN b c cell g + 1)).map fun j => j :: g
  | [] => rfl
  | g :: L => by rw [stN, exN_q, stN_q b c cell L, List.flatMap_cons]
theorem lpN_add (b c m : Nat) : ∀ (n cell : Nat) (L : List (List Nat)), lpN b c (n + m) cell L = lpN b c m (cell + n) (lpN b c n cell L)
  | 0, cell, L => by rw [Nat.zero_add]; rfl
  | n + 1, cell, L => by rw [show n + 1 + m = (n + m) + 1 by omega, lpN, lpN_add b c m n, lpN, show cell + 1 + n = cell + (n + 1) by omega]
theorem lpN_snoc (b c n cell : Nat) (L : List (List Nat)) : lpN b c (n + 1) cell L = stN b c (cell + n) (lpN b c n cell L) := by
  rw [lpN_add]; rfl
theorem lpN_flat (b c : Nat) : ∀ (n cell : Nat) (L : List (List Nat)), lpN b c n cell L = L.flatMap fun g => lpN b c n cell [g]
  | 0, cell, L => by
    simp only [lpN]
    induction L with
    | nil => rfl
    | cons g L ih => rw [List.flatMap_cons, ← ih]; rfl
  | n + 1, cell, L => by
    rw [lpN, lpN_flat b c n, stN_q, List.flatMap_assoc]
    congr 1
    funext g
    rw [lpN, lpN_flat b c n (cell + 1) (stN b c cell [g]), stN_q, List.flatMap_singleton]
theorem stN_len (b c cell : Nat) : ∀ L : List (List Nat), L.length ≤ (stN b c cell L).length
  | [] => Nat.le_refl _
  | g :: L => by
    have := stN_len b c cell L
    rw [stN, exN_q, List.length_append, List.length_map, List.length_range, List.length_cons]; omega
theorem lpN_len (b c : Nat) : ∀ (n cell : Nat) (L : List (List Nat)), L.length ≤ (lpN b c n cell L).length
  | 0, _, _ => Nat.le_refl _
  | n + 1, cell, L => Nat.le_trans (stN_len b c cell L) (lpN_len b c n (cell + 1) _)
theorem lpN_mono (b c : Nat) {n m cell : Nat} (L : List (List Nat)) (h : n ≤ m) : (lpN b c n cell L).length ≤ (lpN b c m cell L).length := by
  obtain ⟨d, rfl⟩ : ∃ d, m = n + d := ⟨m - n, by omega⟩
  rw [lpN_add]
  exact lpN_len b c d _ _
theorem flat_le {α β : Type} {l : List α} {f : α → List β} {x : α} (h : x ∈ l) : (f x).length ≤ (l.flatMap f).length := by
  induction l with
  | nil => cases h
  | cons y l ih =>
    rw [List.flatMap_cons, List.length_append]
    rcases List.mem_cons.mp h with rfl | h
    · omega
    · have := ih h; omega
def ent (g : List Nat) (i : Nat) : Nat := g.getD i 0
theorem ent_0 (x : Nat) (g : List Nat) : ent (x :: g) 0 = x := rfl
theorem ent_s (x : Nat) (g : List Nat) (i : Nat) : ent (x :: g) (i + 1) = ent g i := by simp [ent]
theorem topN_q (b c cell : Nat) (g : List Nat) : topN b c cell g = (let t := if 0 < cell % b ∧ g ≠ [] then min (ent g 0) c else c; if b ≤ cell then min (ent g (b - 1)) t else t) := by
  have bl : ∀ x y : Nat, Nat.blt x y = decide (x < y) := fun x y => by
    by_cases h : x < y
    · rw [decide_eq_true h]; exact Nat.ble_eq_true_of_le h
    · rw [decide_eq_false h]
      cases e : Nat.blt x y with
      | false => rfl
      | true => exact absurd (Nat.le_of_ble_eq_true e) h
  have be : ∀ x y : Nat, Nat.ble x y = decide (x ≤ y) := fun x y => by
    by_cases h : x ≤ y
    · rw [decide_eq_true h]; exact Nat.ble_eq_true_of_le h
    · rw [decide_eq_false h]
      cases e : Nat.ble x y with
      | false => rfl
      | true => exact absurd (Nat.le_of_ble_eq_true e) h
  have mn : ∀ x y : Nat, (bif decide (x < y) then x else y) = min x y := fun x y => by
    by_cases h : x < y
    · rw [decide_eq_true h, Nat.min_eq_left (Nat.le_of_lt h)]; rfl
    · rw [decide_eq_false h, Nat.min_eq_right (Nat.le_of_not_lt h)]; rfl
  have fin : ∀ t t' : Nat, t = t' → (bif decide (b ≤ cell) then (bif decide (g.getD (b - 1) 0 < t) then g.getD (b - 1) 0 else t) else t) = if b ≤ cell then min (g.getD (b - 1) 0) t' else t' := fun t t' e => by
    subst e
    rw [mn]
    by_cases h : b ≤ cell
    · rw [decide_eq_true h, if_pos h]; rfl
    · rw [decide_eq_false h, if_neg h]; rfl
  unfold topN ent
  simp only [bl, be]
  refine fin _ _ ?_
  cases g with
  | nil => cases decide (0 < cell % b) <;> simp
  | cons x g =>
    simp only [mn]
    by_cases h : 0 < cell % b
    · rw [decide_eq_true h, if_pos ⟨h, by simp⟩]; rfl
    · rw [decide_eq_false h, if_neg fun q => h q.1]; rfl
theorem topN_le (b c cell : Nat) (g : List Nat) : topN b c cell g ≤ c ∧ (0 < cell % b → g ≠ [] → topN b c cell g ≤ ent g 0) ∧ (b ≤ cell → topN b c cell g ≤ ent g (b - 1)) := by
  rw [topN_q]
  simp only
  by_cases h1 : 0 < cell % b ∧ g ≠ []
  · rw [if_pos h1]
    split <;> omega
  · rw [if_neg h1]
    refine ⟨by split <;> omega, fun h2 h3 => absurd ⟨h2, h3⟩ h1, fun h => by rw [if_pos h]; omega⟩
def Inv (b c : Nat) (g : List Nat) : Prop := ∀ i, i < g.length → ent g i ≤ c ∧ (0 < (g.length - 1 - i) % b → ent g i ≤ ent g (i + 1)) ∧ (b ≤ g.length - 1 - i → ent g i ≤ ent g (i + b))
theorem Inv.cons {b c : Nat} {g : List Nat} (hb : 0 < b) (h : Inv b c g) {j : Nat} (hj : j ≤ topN b c g.length g) : Inv b c (j :: g) := by
  obtain ⟨t1, t2, t3⟩ := topN_le b c g.length g
  intro i hi
  cases i with
  | zero =>
    rw [ent_0, List.length_cons, show g.length + 1 - 1 - 0 = g.length by omega]
    refine ⟨by omega, fun q => ?_, fun q => ?_⟩
    · rw [ent_s]
      have : g ≠ [] := fun e => by rw [e] at q; simp at q
      have := t2 q this
      omega
    · have := t3 q
      rw [show 0 + b = (b - 1) + 1 by omega, ent_s]; omega
  | succ i =>
    rw [List.length_cons] at hi ⊢
    obtain ⟨q1, q2, q3⟩ := h i (by omega)
    rw [ent_s, show g.length + 1 - 1 - (i + 1) = g.length - 1 - i by omega]
    refine ⟨q1, fun q => ?_, fun q => ?_⟩
    · rw [ent_s]; exact q2 q
    · rw [show i + 1 + b = (i + b) + 1 by omega, ent_s]; exact q3 q
theorem lpN_inv {b c : Nat} (hb : 0 < b) : ∀ (n cell : Nat) (L : List (List Nat)), (∀ f ∈ L, f.length = cell ∧ Inv b c f) → ∀ g ∈ lpN b c n cell L, g.length = cell + n ∧ Inv b c g
  | 0, cell, L, h, g, hg => h g hg
  | n + 1, cell, L, h, g, hg => by
    rw [lpN] at hg
    have := lpN_inv hb n (cell + 1) (stN b c cell L) (fun f hf => by
      rw [stN_q] at hf
      obtain ⟨g', hg', hf⟩ := List.mem_flatMap.mp hf
      obtain ⟨j, hj, rfl⟩ := List.mem_map.mp hf
      obtain ⟨h1, h2⟩ := h g' hg'
      rw [List.mem_range] at hj
      exact ⟨by rw [List.length_cons, h1], h2.cons hb (by rw [h1]; omega)⟩) g hg
    exact ⟨by rw [this.1]; omega, this.2⟩
theorem Inv.nil (b c : Nat) : Inv b c [] := fun i hi => absurd hi (by simp)
theorem lp_inv {b c n : Nat} (hb : 0 < b) {g : List Nat} (hg : g ∈ lpN b c n 0 [[]]) : g.length = n ∧ Inv b c g := by
  have := lpN_inv hb n 0 [[]] (fun f hf => by rw [List.mem_singleton.mp hf]; exact ⟨rfl, Inv.nil b c⟩) g hg
  rwa [Nat.zero_add] at this
/-! tables -/
structure T (a b : Nat) (c : Int) (f : Nat → Nat → Int) : Prop where
  lo : ∀ r k, r < a → k < b → 0 ≤ f r k
  hi : ∀ r k, r < a → k < b → f r k ≤ c
  row : ∀ r k, r < a → k + 1 < b → f r (k + 1) ≤ f r k
  col : ∀ r k, r + 1 < a → k < b → f (r + 1) k ≤ f r k
def tb (a b : Nat) (f : Nat → Nat → Int) : List (List Int) := (List.range a).map fun r => (List.range b).map fun k => f r k
def fe (a b : Nat) (g : List Nat) (r k : Nat) : Int := ((ent g (a * b - 1 - (r * b + k)) : Nat) : Int)
theorem cell_lt {a b r k : Nat} (hr : r < a) (hk : k < b) : r * b + k < a * b := by
  have : (r + 1) * b ≤ a * b := Nat.mul_le_mul_right b hr
  rw [Nat.add_mul, Nat.one_mul] at this
  omega
theorem fe_T {a b c : Nat} {g : List Nat} (hl : g.length = a * b) (h : Inv b c g) : T a b c (fe a b g) := by
  have idx : ∀ r k, r < a → k < b → a * b - 1 - (r * b + k) < g.length ∧ g.length - 1 - (a * b - 1 - (r * b + k)) = r * b + k := fun r k hr hk => by
    have := cell_lt hr hk
    omega
  refine ⟨fun r k _ _ => Int.natCast_nonneg _, fun r k hr hk => ?_, fun r k hr hk => ?_, fun r k hr hk => ?_⟩
  · obtain ⟨i1, i2⟩ := idx r k hr hk
    have := (h _ i1).1
    unfold fe; omega
  · obtain ⟨i1, i2⟩ := idx r (k + 1) hr hk
    have := (h _ i1).2.1
    rw [i2] at this
    have hm : (r * b + (k + 1)) % b = k + 1 := by rw [Nat.add_comm, Nat.add_mul_mod_self_right, Nat.mod_eq_of_lt hk]
    have := this (by omega)
    have hc := cell_lt hr hk
    rw [show a * b - 1 - (r * b + (k + 1)) + 1 = a * b - 1 - (r * b + k) by omega] at this
    unfold fe; omega
  · obtain ⟨i1, i2⟩ := idx (r + 1) k hr hk
    have := (h _ i1).2.2
    rw [i2] at this
    have hc := cell_lt hr hk
    rw [Nat.add_mul, Nat.one_mul] at this hc
    have := this (by omega)
    unfold fe
    rw [Nat.add_mul, Nat.one_mul]
    rw [show a * b - 1 - (r * b + b + k) + b = a * b - 1 - (r * b + k) by omega] at this
    omega
end K45
set_option Elab.async false
set_option linter.all false
set_option maxRecDepth 100000
set_option maxHeartbeats 1000000
set_option exponentiation.threshold 2000000
namespace K45
open PySem PV
def inB (a b c : Int) : Prop := (0 ≤ a ∧ a ≤ 8) ∧ (0 ≤ b ∧ b ≤ 8) ∧ 0 ≤ c ∧ c ≤ 8
theorem box_ok (k : Nat) (a b c : Int) {Q : D → Prop} {E : XE} (q1 : inB a b c → Q .none) (q2 : ¬ inB a b c → E 1 (.str "box") (.int 0)) : Call (runF fs (k+1)) 0 [.own (.int a), .own (.int b), .own (.int c)] Q E := by
  refine call_intro rfl rfl ?_
  unfold c0
  exists imm_Sx, imm_Sg, flat_Sx, flat_Sg, wbi_lenS, wits_Sx, w2_inS, w2_ninS, w2_addS, w2_addSg, wslc_S, wsub_S, w2_ltS, w2_isN0, w2_isNi, w2_isNs, w2_isNS, w2_isNt, w2_isNl, w2_isNT, w2_isNL, w2_ntN0, w2_ntNi, w2_ntNs, w2_ntNS, w2_ntNt, w2_ntNl, w2_ntNT, w2_ntNL, w2_repL, w2_rep1, w2_repT, w2_repT1
  (repeat ((with_reducible refine And.intro ?_ ?_); focus (intros; first | (simp only [List.length_append, List.length_cons, List.length_nil]; omega) | ((with_reducible refine lenOk_of ?_); first | decide | omega) | ((with_reducible refine mulOk_l ?_); first | decide | omega) | ((with_reducible refine mulOk_r ?_); first | decide | omega) | ((with_reducible refine smallI_of ?_); omega) | ((with_reducible refine divOk_of ?_ ?_) <;> first | decide | omega) | exact And.intro (by omega) (by omega) | omega | (unfold kp; exact Or.inl rfl) | with_reducible rfl | with_reducible exact trivial)))
  rw [show [PyData.int a, PyData.int b, PyData.int c] = List.map PyData.int [a, b, c] from rfl]
  refine wcomp_map1 (f := PyData.int) PyData.bool (fun x => !(decide (0 ≤ x) && decide (x ≤ 8))) true (fun x hx => ?_) (by (try exists imm_Sx, imm_Sg, flat_Sx, flat_Sg, wbi_lenS, wits_Sx, w2_inS, w2_ninS, w2_addS, w2_addSg, wslc_S, wsub_S, w2_ltS, w2_isN0, w2_isNi, w2_isNs, w2_isNS, w2_isNt, w2_isNl, w2_isNT, w2_isNL, w2_ntN0, w2_ntNi, w2_ntNs, w2_ntNS, w2_ntNt, w2_ntNl, w2_ntNT, w2_ntNL, w2_repL, w2_rep1, w2_repT, w2_repT1)) rfl (show 3 ≤ 16777216 by decide) fun b' hb => ?_
  · (try exists imm_Sx, imm_Sg, flat_Sx, flat_Sg, wbi_lenS, wits_Sx, w2_inS, w2_ninS, w2_addS, w2_addSg, wslc_S, wsub_S, w2_ltS, w2_isN0, w2_isNi, w2_isNs, w2_isNS, w2_isNt, w2_isNl, w2_isNT, w2_isNL, w2_ntN0, w2_ntNi, w2_ntNs, w2_ntNS, w2_ntNt, w2_ntNl, w2_ntNT, w2_ntNL, w2_repL, w2_rep1, w2_repT, w2_repT1)
    exact fun _ => trivial
  obtain rfl := hb rfl
  (try exists imm_Sx, imm_Sg, flat_Sx, flat_Sg, wbi_lenS, wits_Sx, w2_inS, w2_ninS, w2_addS, w2_addSg, wslc_S, wsub_S, w2_ltS, w2_isN0, w2_isNi, w2_isNs, w2_isNS, w2_isNt, w2_isNl, w2_isNT, w2_isNL, w2_ntN0, w2_ntNi, w2_ntNs, w2_ntNS, w2_ntNt, w2_ntNl, w2_ntNT, w2_ntNL, w2_repL, w2_rep1, w2_repT, w2_repT1)
  have e : ([!(decide (0 ≤ a) && decide (a ≤ 8)), !(decide (0 ≤ b) && decide (b ≤ 8)), !(decide (0 ≤ c) && decide (c ≤ 8))].any id) = false ↔ inB a b c := by
    unfold inB
    simp only [List.any_cons, List.any_nil, id]
    by_cases h1 : 0 ≤ a <;> by_cases h2 : a ≤ 8 <;> by_cases h3 : 0 ≤ b <;> by_cases h4 : b ≤ 8 <;> by_cases h5 : 0 ≤ c <;> by_cases h6 : c ≤ 8 <;> simp [h1, h2, h3, h4, h5, h6]
  generalize ([!(decide (0 ≤ a) && decide (a ≤ 8)), !(decide (0 ≤ b) && decide (b ≤ 8)), !(decide (0 ≤ c) && decide (c ≤ 8))].any id) = r at *
  cases r with
  | true =>
    (try exists imm_Sx, imm_Sg, flat_Sx, flat_Sg, wbi_lenS, wits_Sx, w2_inS, w2_ninS, w2_addS, w2_addSg, wslc_S, wsub_S, w2_ltS, w2_isN0, w2_isNi, w2_isNs, w2_isNS, w2_isNt, w2_isNl, w2_isNT, w2_isNL, w2_ntN0, w2_ntNi, w2_ntNs, w2_ntNS, w2_ntNt, w2_ntNl, w2_ntNT, w2_ntNL, w2_repL, w2_rep1, w2_repT, w2_repT1)
    exact q2 fun h => by have := e.mpr h; cases this
  | false =>
    (try exists imm_Sx, imm_Sg, flat_Sx, flat_Sg, wbi_lenS, wits_Sx, w2_inS, w2_ninS, w2_addS, w2_addSg, wslc_S, wsub_S, w2_ltS, w2_isN0, w2_isNi, w2_isNs, w2_isNS, w2_isNt, w2_isNl, w2_isNT, w2_isNL, w2_ntN0, w2_ntNi, w2_ntNs, w2_ntNS, w2_ntNt, w2_ntNl, w2_ntNT, w2_ntNL, w2_repL, w2_rep1, w2_repT, w2_repT1)
    exact q1 (e.mp rfl)
theorem divOk_400 {b : Int} (h : 0 < b) (h2 : b < 2 ^ 400) : divOk b = true := by
  unfold divOk
  have : 0 < b ∧ b < 2 ^ 9000 := ⟨h, Int.lt_trans h2 (by decide +kernel)⟩
  rw [decide_eq_true this, Bool.or_true]
theorem foldl_rng {α : Type} (lo hi : Int) (f : α → Int → α) (z : α) : (rng lo hi).foldl f z = (List.range (hi - lo).toNat).foldl (fun x i => f x (lo + (i : Nat))) z := by
  unfold rng
  rw [List.foldl_map]
theorem mac_ok (k : Nat) (a b c : Nat) (ha : a < 9) (hb : b < 9) (hc : c < 9) {Q : D → Prop} {E : XE} (q : Q (.int (mac a b c))) : Call (runF fs (k+2)) 2 [.own (.int a), .own (.int b), .own (.int c)] Q E := by
  refine call_intro rfl rfl ?_
  unfold c2
  exists imm_Sx, imm_Sg, flat_Sx, flat_Sg, wbi_lenS, wits_Sx, w2_inS, w2_ninS, w2_addS, w2_addSg, wslc_S, wsub_S, w2_ltS, w2_isN0, w2_isNi, w2_isNs, w2_isNS, w2_isNt, w2_isNl, w2_isNT, w2_isNL, w2_ntN0, w2_ntNi, w2_ntNs, w2_ntNS, w2_ntNt, w2_ntNl, w2_ntNT, w2_ntNL, w2_repL, w2_rep1, w2_repT, w2_repT1
  refine wcall_3 ?_
  exists imm_Sx, imm_Sg, flat_Sx, flat_Sg, wbi_lenS, wits_Sx, w2_inS, w2_ninS, w2_addS, w2_addSg, wslc_S, wsub_S, w2_ltS, w2_isN0, w2_isNi, w2_isNs, w2_isNS, w2_isNt, w2_isNl, w2_isNT, w2_isNL, w2_ntN0, w2_ntNi, w2_ntNs, w2_ntNS, w2_ntNt, w2_ntNl, w2_ntNT, w2_ntNL, w2_repL, w2_rep1, w2_repT, w2_repT1
  refine box_ok _ _ _ _ (fun _ => ?_) (fun h => absurd (by unfold inB; omega) h)
  (try exists imm_Sx, imm_Sg, flat_Sx, flat_Sg, wbi_lenS, wits_Sx, w2_inS, w2_ninS, w2_addS, w2_addSg, wslc_S, wsub_S, w2_ltS, w2_isN0, w2_isNi, w2_isNs, w2_isNS, w2_isNt, w2_isNl, w2_isNT, w2_isNL, w2_ntN0, w2_ntNi, w2_ntNs, w2_ntNS, w2_ntNt, w2_ntNl, w2_ntNT, w2_ntNL, w2_repL, w2_rep1, w2_repT, w2_repT1)
  (repeat ((with_reducible refine And.intro ?_ ?_); focus (intros; first | (simp only [List.length_append, List.length_cons, List.length_nil]; omega) | ((with_reducible refine lenOk_of ?_); first | decide | omega) | ((with_reducible refine mulOk_l ?_); first | decide | omega) | ((with_reducible refine mulOk_r ?_); first | decide | omega) | ((with_reducible refine smallI_of ?_); omega) | ((with_reducible refine divOk_of ?_ ?_) <;> first | decide | omega) | exact And.intro (by omega) (by omega) | omega | (unfold kp; exact Or.inl rfl) | with_reducible rfl | with_reducible exact trivial)))
  refine wfor_inv (f := PyData.int) (I := fun pre σ => ∃ (c5 c6 : NI), σ = [some (.own (.int a)), some (.own (.int b)), some (.own (.int c)), some (.own (.int (pre.foldl (fun x i => (rng 1 ((b : Int) + 1)).foldl (fun x j => x * (i + j + c - 1)) x) 1))), some (.own (.int (pre.foldl (fun x i => (rng 1 ((b : Int) + 1)).foldl (fun x j => x * (i + j - 1)) x) 1))), c5.c, c6.c])
    ⟨⟨_, rfl, rfl⟩, ⟨_, rfl, rfl⟩, rfl⟩ ?_ ?_
  · rintro pre i suf σ hp ⟨c5, c6, rfl⟩
    have hi := mem_rng.mp (pre_mem hp)
    exists imm_Sx, imm_Sg, flat_Sx, flat_Sg, wbi_lenS, wits_Sx, w2_inS, w2_ninS, w2_addS, w2_addSg, wslc_S, wsub_S, w2_ltS, w2_isN0, w2_isNi, w2_isNs, w2_isNS, w2_isNt, w2_isNl, w2_isNT, w2_isNL, w2_ntN0, w2_ntNi, w2_ntNs, w2_ntNS, w2_ntNt, w2_ntNl, w2_ntNT, w2_ntNL, w2_repL, w2_rep1, w2_repT, w2_repT1
    (repeat ((with_reducible refine And.intro ?_ ?_); focus (intros; first | (simp only [List.length_append, List.length_cons, List.length_nil]; omega) | ((with_reducible refine lenOk_of ?_); first | decide | omega) | ((with_reducible refine mulOk_l ?_); first | decide | omega) | ((with_reducible refine mulOk_r ?_); first | decide | omega) | ((with_reducible refine smallI_of ?_); omega) | ((with_reducible refine divOk_of ?_ ?_) <;> first | decide | omega) | exact And.intro (by omega) (by omega) | omega | (unfold kp; exact Or.inl rfl) | with_reducible rfl | with_reducible exact trivial)))
    refine wfor_inv (f := PyData.int) (I := fun pre' σ => ∃ (c6 : NI), σ = [some (.own (.int a)), some (.own (.int b)), some (.own (.int c)), some (.own (.int (pre'.foldl (fun x j => x * (i + j + c - 1)) (pre.foldl (fun x i => (rng 1 ((b : Int) + 1)).foldl (fun x j => x * (i + j + c - 1)) x) 1)))), some (.own (.int (pre'.foldl (fun x j => x * (i + j - 1)) (pre.foldl (fun x i => (rng 1 ((b : Int) + 1)).foldl (fun x j => x * (i + j - 1)) x) 1)))), some (.own (.int i)), c6.c])
      ⟨c6, rfl⟩ ?_ ?_
    · rintro pre' j suf' σ hp' ⟨c6, rfl⟩
      have hj := mem_rng.mp (pre_mem hp')
      exists imm_Sx, imm_Sg, flat_Sx, flat_Sg, wbi_lenS, wits_Sx, w2_inS, w2_ninS, w2_addS, w2_addSg, wslc_S, wsub_S, w2_ltS, w2_isN0, w2_isNi, w2_isNs, w2_isNS, w2_isNt, w2_isNl, w2_isNT, w2_isNL, w2_ntN0, w2_ntNi, w2_ntNs, w2_ntNS, w2_ntNt, w2_ntNl, w2_ntNT, w2_ntNL, w2_repL, w2_rep1, w2_repT, w2_repT1
      (repeat ((with_reducible refine And.intro ?_ ?_); focus (intros; first | (simp only [List.length_append, List.length_cons, List.length_nil]; omega) | ((with_reducible refine lenOk_of ?_); first | decide | omega) | ((with_reducible refine mulOk_l ?_); first | decide | omega) | ((with_reducible refine mulOk_r ?_); first | decide | omega) | ((with_reducible refine smallI_of ?_); omega) | ((with_reducible refine divOk_of ?_ ?_) <;> first | decide | omega) | exact And.intro (by omega) (by omega) | omega | (unfold kp; exact Or.inl rfl) | with_reducible rfl | with_reducible exact trivial)))
      refine ⟨⟨some (.own (.int j)), rfl, rfl⟩, ?_⟩
      rw [List.foldl_append, List.foldl_append]; rfl
    · rintro σ ⟨c6, rfl⟩
      refine ⟨⟨some (.own (.int i)), rfl, rfl⟩, c6, ?_⟩
      rw [List.foldl_append, List.foldl_append]; rfl
  · rintro σ ⟨c5, c6, rfl⟩
    have eA : (rng 1 ((a : Int) + 1)).foldl (fun (x i : Int) => (rng 1 ((b : Int) + 1)).foldl (fun (x j : Int) => x * (i + j + c - 1)) x) 1 = macA a b c := by
      simp only [foldl_rng, show ((a : Int) + 1 - 1).toNat = a by omega, show ((b : Int) + 1 - 1).toNat = b by omega]
      rfl
    have eB : (rng 1 ((a : Int) + 1)).foldl (fun (x i : Int) => (rng 1 ((b : Int) + 1)).foldl (fun (x j : Int) => x * (i + j - 1)) x) 1 = macB a b := by
      simp only [foldl_rng, show ((a : Int) + 1 - 1).toNat = a by omega, show ((b : Int) + 1 - 1).toNat = b by omega]
      rfl
    have hB := all3_of chkB_ok ha hb hc
    simp only [Bool.and_eq_true, decide_eq_true_eq] at hB
    rw [eA, eB]
    exists imm_Sx, imm_Sg, flat_Sx, flat_Sg, wbi_lenS, wits_Sx, w2_inS, w2_ninS, w2_addS, w2_addSg, wslc_S, wsub_S, w2_ltS, w2_isN0, w2_isNi, w2_isNs, w2_isNS, w2_isNt, w2_isNl, w2_isNT, w2_isNL, w2_ntN0, w2_ntNi, w2_ntNs, w2_ntNS, w2_ntNt, w2_ntNl, w2_ntNT, w2_ntNL, w2_repL, w2_rep1, w2_repT, w2_repT1
    exact ⟨divOk_400 hB.1 hB.2, q⟩
def symc (a c : Nat) : Int := (symA a c).fdiv (symB a)
theorem symc_ok (k : Nat) (a c : Nat) (ha : a < 9) (hc : c < 9) (hB : 0 < symB a ∧ symB a < 2 ^ 400) {Q : D → Prop} {E : XE} (q : Q (.int (symc a c))) : Call (runF fs (k+2)) 11 [.own (.int a), .own (.int c)] Q E := by
  refine call_intro rfl rfl ?_
  unfold c11
  exists imm_Sx, imm_Sg, flat_Sx, flat_Sg, wbi_lenS, wits_Sx, w2_inS, w2_ninS, w2_addS, w2_addSg, wslc_S, wsub_S, w2_ltS, w2_isN0, w2_isNi, w2_isNs, w2_isNS, w2_isNt, w2_isNl, w2_isNT, w2_isNL, w2_ntN0, w2_ntNi, w2_ntNs, w2_ntNS, w2_ntNt, w2_ntNl, w2_ntNT, w2_ntNL, w2_repL, w2_rep1, w2_repT, w2_repT1
  refine wcall_3 ?_
  exists imm_Sx, imm_Sg, flat_Sx, flat_Sg, wbi_lenS, wits_Sx, w2_inS, w2_ninS, w2_addS, w2_addSg, wslc_S, wsub_S, w2_ltS, w2_isN0, w2_isNi, w2_isNs, w2_isNS, w2_isNt, w2_isNl, w2_isNT, w2_isNL, w2_ntN0, w2_ntNi, w2_ntNs, w2_ntNS, w2_ntNt, w2_ntNl, w2_ntNT, w2_ntNL, w2_repL, w2_rep1, w2_repT, w2_repT1
  refine box_ok _ _ _ _ (fun _ => ?_) (fun h => absurd (by unfold inB; omega) h)
  (try exists imm_Sx, imm_Sg, flat_Sx, flat_Sg, wbi_lenS, wits_Sx, w2_inS, w2_ninS, w2_addS, w2_addSg, wslc_S, wsub_S, w2_ltS, w2_isN0, w2_isNi, w2_isNs, w2_isNS, w2_isNt, w2_isNl, w2_isNT, w2_isNL, w2_ntN0, w2_ntNi, w2_ntNs, w2_ntNS, w2_ntNt, w2_ntNl, w2_ntNT, w2_ntNL, w2_repL, w2_rep1, w2_repT, w2_repT1)
  (repeat ((with_reducible refine And.intro ?_ ?_); focus (intros; first | (simp only [List.length_append, List.length_cons, List.length_nil]; omega) | ((with_reducible refine lenOk_of ?_); first | decide | omega) | ((with_reducible refine mulOk_l ?_); first | decide | omega) | ((with_reducible refine mulOk_r ?_); first | decide | omega) | ((with_reducible refine smallI_of ?_); omega) | ((with_reducible refine divOk_of ?_ ?_) <;> first | decide | omega) | exact And.intro (by omega) (by omega) | omega | (unfold kp; exact Or.inl rfl) | with_reducible rfl | with_reducible exact trivial)))
  refine wfor_inv (f := PyData.int) (I := fun pre σ => ∃ (c4 c5 : NI), σ = [some (.own (.int a)), some (.own (.int c)), some (.own (.int (pre.foldl (fun x i => (rng (i + 1) ((a : Int) + 1)).foldl (fun x j => x * (i + j + c - 1)) (x * (2 * i + c - 1))) 1))), some (.own (.int (pre.foldl (fun x i => (rng (i + 1) ((a : Int) + 1)).foldl (fun x j => x * (i + j - 1)) (x * (2 * i - 1))) 1))), c4.c, c5.c])
    ⟨⟨_, rfl, rfl⟩, ⟨_, rfl, rfl⟩, rfl⟩ ?_ ?_
  · rintro pre i suf σ hp ⟨c4, c5, rfl⟩
    have hi := mem_rng.mp (pre_mem hp)
    exists imm_Sx, imm_Sg, flat_Sx, flat_Sg, wbi_lenS, wits_Sx, w2_inS, w2_ninS, w2_addS, w2_addSg, wslc_S, wsub_S, w2_ltS, w2_isN0, w2_isNi, w2_isNs, w2_isNS, w2_isNt, w2_isNl, w2_isNT, w2_isNL, w2_ntN0, w2_ntNi, w2_ntNs, w2_ntNS, w2_ntNt, w2_ntNl, w2_ntNT, w2_ntNL, w2_repL, w2_rep1, w2_repT, w2_repT1
    (repeat ((with_reducible refine And.intro ?_ ?_); focus (intros; first | (simp only [List.length_append, List.length_cons, List.length_nil]; omega) | ((with_reducible refine lenOk_of ?_); first | decide | omega) | ((with_reducible refine mulOk_l ?_); first | decide | omega) | ((with_reducible refine mulOk_r ?_); first | decide | omega) | ((with_reducible refine smallI_of ?_); omega) | ((with_reducible refine divOk_of ?_ ?_) <;> first | decide | omega) | exact And.intro (by omega) (by omega) | omega | (unfold kp; exact Or.inl rfl) | with_reducible rfl | with_reducible exact trivial)))
    refine wfor_inv (f := PyData.int) (I := fun pre' σ => ∃ (c5 : NI), σ = [some (.own (.int a)), some (.own (.int c)), some (.own (.int (pre'.foldl (fun x j => x * (i + j + c - 1)) ((pre.foldl (fun x i => (rng (i + 1) ((a : Int) + 1)).foldl (fun x j => x * (i + j + c - 1)) (x * (2 * i + c - 1))) 1) * (2 * i + c - 1))))), some (.own (.int (pre'.foldl (fun x j => x * (i + j - 1)) ((pre.foldl (fun x i => (rng (i + 1) ((a : Int) + 1)).foldl (fun x j => x * (i + j - 1)) (x * (2 * i - 1))) 1) * (2 * i - 1))))), some (.own (.int i)), c5.c])
      ⟨c5, rfl⟩ ?_ ?_
    · rintro pre' j suf' σ hp' ⟨c5, rfl⟩
      have hj := mem_rng.mp (pre_mem hp')
      exists imm_Sx, imm_Sg, flat_Sx, flat_Sg, wbi_lenS, wits_Sx, w2_inS, w2_ninS, w2_addS, w2_addSg, wslc_S, wsub_S, w2_ltS, w2_isN0, w2_isNi, w2_isNs, w2_isNS, w2_isNt, w2_isNl, w2_isNT, w2_isNL, w2_ntN0, w2_ntNi, w2_ntNs, w2_ntNS, w2_ntNt, w2_ntNl, w2_ntNT, w2_ntNL, w2_repL, w2_rep1, w2_repT, w2_repT1
      (repeat ((with_reducible refine And.intro ?_ ?_); focus (intros; first | (simp only [List.length_append, List.length_cons, List.length_nil]; omega) | ((with_reducible refine lenOk_of ?_); first | decide | omega) | ((with_reducible refine mulOk_l ?_); first | decide | omega) | ((with_reducible refine mulOk_r ?_); first | decide | omega) | ((with_reducible refine smallI_of ?_); omega) | ((with_reducible refine divOk_of ?_ ?_) <;> first | decide | omega) | exact And.intro (by omega) (by omega) | omega | (unfold kp; exact Or.inl rfl) | with_reducible rfl | with_reducible exact trivial)))
      refine ⟨⟨some (.own (.int j)), rfl, rfl⟩, ?_⟩
      rw [List.foldl_append, List.foldl_append]; rfl
    · rintro σ ⟨c5, rfl⟩
      refine ⟨⟨some (.own (.int i)), rfl, rfl⟩, c5, ?_⟩
      rw [List.foldl_append, List.foldl_append]; rfl
  · rintro σ ⟨c4, c5, rfl⟩
    have eq : ∀ i : Nat, ((a : Int) + 1 - (1 + (i : Int) + 1)).toNat = a - 1 - i := fun i => by omega
    have eA : (rng 1 ((a : Int) + 1)).foldl (fun x i => (rng (i + 1) ((a : Int) + 1)).foldl (fun x j => x * (i + j + c - 1)) (x * (2 * i + c - 1))) 1 = symA a c := by
      simp only [foldl_rng, show ((a : Int) + 1 - 1).toNat = a by omega, eq]
      rfl
    have eB : (rng 1 ((a : Int) + 1)).foldl (fun x i => (rng (i + 1) ((a : Int) + 1)).foldl (fun x j => x * (i + j - 1)) (x * (2 * i - 1))) 1 = symB a := by
      simp only [foldl_rng, show ((a : Int) + 1 - 1).toNat = a by omega, eq]
      rfl
    rw [eA, eB]
    exists imm_Sx, imm_Sg, flat_Sx, flat_Sg, wbi_lenS, wits_Sx, w2_inS, w2_ninS, w2_addS, w2_addSg, wslc_S, wsub_S, w2_ltS, w2_isN0, w2_isNi, w2_isNs, w2_isNS, w2_isNt, w2_isNl, w2_isNT, w2_isNL, w2_ntN0, w2_ntNi, w2_ntNs, w2_ntNS, w2_ntNt, w2_ntNl, w2_ntNT, w2_ntNL, w2_repL, w2_rep1, w2_repT, w2_repT1
    exact ⟨divOk_400 hB.1 hB.2, q⟩
end K45
set_option Elab.async false
set_option linter.all false
set_option maxRecDepth 100000
set_option maxHeartbeats 4000000
set_option exponentiation.threshold 2000000
namespace K45
open PySem PV
/-! polynomials as lists -/
def gz (p : List Int) (i : Nat) : Int := p.getD i 0
def tmL (p : List Int) (k : Nat) : List Int := (List.range (p.length + k)).map fun i => gz p i - if k ≤ i then gz p (i - k) else 0
def dvL (p : List Int) (k : Nat) : Nat → List Int
  | 0 => []
  | n + 1 => dvL p k n ++ [gz p n + if k ≤ n then gz (dvL p k n) (n - k) else 0]
def dv (p : List Int) (k : Nat) : List Int := dvL p k (p.length - k)
def poly (a b c : Nat) : List Int := (ksL a b 0).foldl dv ((ksL a b c).foldl tmL [1])
theorem gz_out {p : List Int} {i : Nat} (h : p.length ≤ i) : gz p i = 0 := by
  unfold gz; rw [List.getD_eq_getElem?_getD, List.getElem?_eq_none h]; rfl
theorem gz_in {p : List Int} {i : Nat} (h : i < p.length) : gz p i = p[i] := by
  unfold gz; rw [List.getD_eq_getElem?_getD, List.getElem?_eq_getElem h]; rfl
theorem gz_map (n : Nat) (f : Nat → Int) (i : Nat) : gz ((List.range n).map f) i = if i < n then f i else 0 := by
  by_cases h : i < n
  · rw [if_pos h, gz_in (by simpa using h)]; simp
  · rw [if_neg h, gz_out (by simpa using h)]
theorem gz_ext {p q : List Int} (hl : p.length = q.length) (h : ∀ i, i < p.length → gz p i = gz q i) : p = q := by
  apply List.ext_getElem hl
  intro i h1 h2
  have := h i h1
  rwa [gz_in h1, gz_in h2] at this
theorem gz_self (p : List Int) : p = (List.range p.length).map (gz p) := gz_ext (by simp) fun i hi => by rw [gz_map, if_pos hi]
theorem tmL_len (p : List Int) (k : Nat) : (tmL p k).length = p.length + k := by simp [tmL]
theorem gz_tm (p : List Int) (k i : Nat) : gz (tmL p k) i = gz p i - if k ≤ i then gz p (i - k) else 0 := by
  unfold tmL
  rw [gz_map]
  split
  · rfl
  · rw [gz_out (by omega)]
    split
    · rw [gz_out (by omega)]; rfl
    · rfl
theorem dvL_len (p : List Int) (k : Nat) : ∀ n, (dvL p k n).length = n
  | 0 => rfl
  | n + 1 => by rw [dvL, List.length_append, dvL_len p k n]; rfl
theorem dv_len (p : List Int) (k : Nat) : (dv p k).length = p.length - k := dvL_len _ _ _
/-- divided after times -/
theorem dv_tm (w : List Int) {k : Nat} (hk : 0 < k) : dv (tmL w k) k = w := by
  have key : ∀ n, n ≤ w.length → dvL (tmL w k) k n = w.take n := by
    intro n
    induction n with
    | zero => intro _; simp [dvL]
    | succ n ih =>
      intro hn
      rw [dvL, ih (by omega), gz_tm, List.take_succ, List.getElem?_eq_getElem (by omega), Option.toList]
      congr 2
      rw [gz_in (by omega)]
      by_cases h : k ≤ n
      · rw [if_pos h, if_pos h, gz_in (p := w.take n) (by rw [List.length_take]; omega), List.getElem_take, gz_in (by omega)]; omega
      · rw [if_neg h, if_neg h]; omega
  unfold dv
  rw [tmL_len, Nat.add_sub_cancel, key _ (Nat.le_refl _), List.take_length]
def tmD (Q : List Int) (ds : List Nat) : List Int := ds.foldr (fun k p => tmL p k) Q
theorem dv_tmD (Q : List Int) : ∀ ds : List Nat, (∀ k ∈ ds, 0 < k) → ds.foldl dv (tmD Q ds) = Q
  | [], _ => rfl
  | k :: ds, h => by
    show ds.foldl dv (dv (tmL (tmD Q ds) k) k) = Q
    rw [dv_tm _ (h k List.mem_cons_self)]
    exact dv_tmD Q ds fun x hx => h x (List.mem_cons_of_mem _ hx)
/-! values at X -/
abbrev X : Int := 1461501637330902918203684832716283019655932542976
def vs : Nat → (Nat → Int) → Int
  | 0, _ => 0
  | n + 1, f => vs n f + f n * X ^ n
theorem vs_0 : ∀ (n : Nat) (f : Nat → Int), vs (n + 1) f = f 0 + X * vs n fun i => f (i + 1)
  | 0, f => by simp [vs]
  | n + 1, f => by
    rw [vs, vs_0 n f, vs]
    rw [Int.mul_add, Int.pow_succ]
    have : f (n + 1) * (X ^ n * X) = X * (f (n + 1) * X ^ n) := by
      rw [Int.mul_comm (X ^ n) X, ← Int.mul_assoc, Int.mul_comm (f (n + 1)) X, Int.mul_assoc]
    omega
theorem vs_congr : ∀ (n : Nat) {f h : Nat → Int}, (∀ i, i < n → f i = h i) → vs n f = vs n h
  | 0, _, _, _ => rfl
  | n + 1, f, h, e => by rw [vs, vs, vs_congr n fun i hi => e i (by omega), e n (by omega)]
theorem vs_sub : ∀ (n : Nat) (f h : Nat → Int), vs n (fun i => f i - h i) = vs n f - vs n h
  | 0, _, _ => rfl
  | n + 1, f, h => by
    rw [vs, vs, vs, vs_sub n, Int.sub_mul]; omega
theorem vs_more (f : Nat → Int) (n : Nat) (h : ∀ i, n ≤ i → f i = 0) : ∀ k, vs (n + k) f = vs n f
  | 0 => rfl
  | k + 1 => by rw [← Nat.add_assoc, vs, vs_more f n h k, h _ (by omega)]; omega
theorem vs_shift (f : Nat → Int) (k : Nat) : ∀ n, vs (n + k) (fun i => if k ≤ i then f (i - k) else 0) = X ^ k * vs n f
  | 0 => by
    rw [Nat.zero_add]
    have : ∀ m, m ≤ k → vs m (fun i => if k ≤ i then f (i - k) else 0) = 0 := by
      intro m
      induction m with
      | zero => intro _; rfl
      | succ m ih => intro hm; rw [vs, ih (by omega), if_neg (by omega)]; omega
    rw [this k (Nat.le_refl _)]; simp [vs]
  | n + 1 => by
    rw [show n + 1 + k = (n + k) + 1 by omega, vs, vs_shift f k n, vs, if_pos (by omega), Nat.add_sub_cancel, Int.mul_add, Int.pow_add]
    have : f n * (X ^ n * X ^ k) = X ^ k * (f n * X ^ n) := by
      rw [Int.mul_comm (X ^ n) (X ^ k), ← Int.mul_assoc, Int.mul_comm (f n) (X ^ k), Int.mul_assoc]
    omega
def val (p : List Int) : Int := vs p.length (gz p)
theorem val_tm (p : List Int) (k : Nat) : val (tmL p k) = val p * (1 - X ^ k) := by
  unfold val
  rw [tmL_len, vs_congr _ fun i _ => gz_tm p k i, vs_sub, vs_more (gz p) p.length fun i hi => gz_out hi, vs_shift, Int.mul_sub, Int.mul_one, Int.mul_comm (X ^ k)]
theorem vs_inj : ∀ (n : Nat) {f h : Nat → Int}, (∀ i, (f i).natAbs ≤ 2 ^ 158) → (∀ i, (h i).natAbs ≤ 2 ^ 158) → vs n f = vs n h → ∀ i, i < n → f i = h i
  | 0, _, _, _, _, _, i, hi => absurd hi (by omega)
  | n + 1, f, h, b1, b2, e, i, hi => by
    rw [vs_0, vs_0] at e
    have p1 := b1 0
    have p2 := b2 0
    have e2 : f 0 = h 0 ∧ vs n (fun i => f (i + 1)) = vs n fun i => h (i + 1) := by
      generalize vs n (fun i => f (i + 1)) = u at *
      generalize vs n (fun i => h (i + 1)) = v at *
      generalize f 0 = x at *
      generalize h 0 = y at *
      unfold X at e
      have : (2 : Nat) ^ 158 = 365375409332725729550921208179070754913983135744 := by decide +kernel
      rw [this] at p1 p2
      omega
    cases i with
    | zero => exact e2.1
    | succ i => exact vs_inj n (fun i => b1 (i + 1)) (fun i => b2 (i + 1)) e2.2 i (by omega)
theorem val_inj {p q : List Int} (hl : p.length = q.length) (h1 : ∀ i, (gz p i).natAbs ≤ 2 ^ 158) (h2 : ∀ i, (gz q i).natAbs ≤ 2 ^ 158) (h : val p = val q) : p = q := by
  unfold val at h
  rw [← hl] at h
  exact gz_ext hl fun i hi => vs_inj _ h1 h2 h i hi
/-! bounds -/
def bd (B : Nat) (p : List Int) : Prop := ∀ i, (gz p i).natAbs ≤ B
theorem bd_tm {B : Nat} {p : List Int} (h : bd B p) (k : Nat) : bd (B * 2) (tmL p k) := fun i => by
  rw [gz_tm]
  have := h i
  have := h (i - k)
  split <;> omega
theorem bd_foldl : ∀ (ks : List Nat) {B : Nat} {p : List Int}, bd B p → bd (B * 2 ^ ks.length) (ks.foldl tmL p)
  | [], B, p, h => by simpa using h
  | k :: ks, B, p, h => by
    have := bd_foldl ks (bd_tm h k)
    rw [List.length_cons, Nat.pow_succ, Nat.mul_comm (2 ^ ks.length) 2, ← Nat.mul_assoc]
    exact this
theorem bd_tmD : ∀ (ks : List Nat) {B : Nat} {p : List Int}, bd B p → bd (B * 2 ^ ks.length) (tmD p ks)
  | [], B, p, h => by simpa [tmD] using h
  | k :: ks, B, p, h => by
    have := bd_tm (bd_tmD ks h) k
    rw [List.length_cons, Nat.pow_succ, ← Nat.mul_assoc]
    exact this
theorem bd_mono {B C : Nat} {p : List Int} (h : bd B p) (hc : B ≤ C) : bd C p := fun i => Nat.le_trans (h i) hc
/-! products -/
def pr : List Nat → Int
  | [] => 1
  | k :: l => (1 - X ^ k) * pr l
theorem val_foldl : ∀ (ks : List Nat) (p : List Int), val (ks.foldl tmL p) = val p * pr ks
  | [], p => by simp [pr]
  | k :: ks, p => by rw [List.foldl_cons, val_foldl ks, val_tm, pr, Int.mul_assoc]
theorem val_tmD (Q : List Int) : ∀ ds : List Nat, val (tmD Q ds) = val Q * pr ds
  | [] => by simp [tmD, pr]
  | k :: ds => by
    show val (tmL (tmD Q ds) k) = _
    rw [val_tm, val_tmD Q ds, pr, Int.mul_assoc, Int.mul_comm (pr ds)]
def sg : Nat → Int
  | 0 => 1
  | n + 1 => - sg n
theorem XP_q (k : Nat) : ((XP k : Nat) : Int) = X ^ k := by
  unfold XP
  rw [Nat.pow_mul]
  have : ((2 ^ 160 : Nat) : Int) = X := by decide +kernel
  rw [← this, Int.natCast_pow]
theorem XP_pos (k : Nat) : 0 < XP k := Nat.two_pow_pos _
theorem pr_q : ∀ l : List Nat, pr l = sg l.length * ((prN l : Nat) : Int)
  | [] => rfl
  | k :: l => by
    have := XP_pos k
    rw [pr, prN, pr_q l, List.length_cons, sg, Int.natCast_mul, Int.natCast_sub this, XP_q]
    generalize X ^ k = y
    generalize sg l.length = s
    generalize ((prN l : Nat) : Int) = z
    rw [show ((1 : Nat) : Int) = 1 from rfl, Int.neg_mul, ← Int.mul_assoc s, ← Int.mul_assoc (1 - y), Int.mul_comm s (y - 1), ← Int.neg_mul, ← Int.neg_mul, Int.neg_sub]
theorem vlN_q : ∀ l : List Nat, ((vlN l : Nat) : Int) = val (l.map fun x : Nat => (x : Int))
  | [] => rfl
  | x :: l => by
    rw [vlN, Int.natCast_add, Int.natCast_mul, vlN_q l, XP_q]
    unfold val
    rw [List.map_cons, List.length_cons, vs_0, Int.pow_one, List.length_map]
    rfl
theorem len_foldl : ∀ (ks : List Nat) (p : List Int), (ks.foldl tmL p).length = p.length + ks.sum
  | [], p => rfl
  | k :: ks, p => by rw [List.foldl_cons, len_foldl ks, tmL_len, List.sum_cons]; omega
theorem len_tmD (Q : List Int) : ∀ ds : List Nat, (tmD Q ds).length = Q.length + ds.sum
  | [] => rfl
  | k :: ds => by
    show (tmL (tmD Q ds) k).length = _
    rw [tmL_len, len_tmD Q ds, List.sum_cons]; omega
theorem digs_len : ∀ (n v : Nat), (digs n v).length = n
  | 0, _ => rfl
  | n + 1, v => by rw [digs, List.length_cons, digs_len n]
theorem ksL_len (a b c : Nat) : (ksL a b c).length = a * b := by
  unfold ksL
  induction a with
  | zero => simp
  | succ a ih => rw [List.range_succ, List.flatMap_append, List.length_append, ih, List.flatMap_singleton, List.length_map, List.length_range, Nat.add_mul]; omega
theorem beq_of {a b : Nat} (h : Nat.beq a b = true) : a = b := Nat.eq_of_beq_eq_true h
structure PQ (a b c : Nat) : Prop where
  eq : poly a b c = (Qn a b c).map fun x : Nat => (x : Int)
  sum : (poly a b c).sum = mac a b c
  rev : poly a b c = (poly a b c).reverse
  len : (poly a b c).length = a * b * c + 1
theorem sum_cast : ∀ l : List Nat, (l.map fun x : Nat => (x : Int)).sum = ((l.sum : Nat) : Int)
  | [] => rfl
  | x :: l => by rw [List.map_cons, List.sum_cons, List.sum_cons, sum_cast l, Int.natCast_add]
theorem poly_q {a b c : Nat} (ha : a < 9) (hb : b < 9) (hc : c < 9) (h : a * b * c ≤ 60) : PQ a b c := by
  have hk := all3_of chk5_ok ha hb hc
  rw [show Nat.ble (a * b * c) 60 = true from Nat.ble_eq_true_of_le h, Bool.not_true, Bool.false_or] at hk
  unfold chkQ at hk
  simp only [Bool.and_eq_true, decide_eq_true_eq] at hk
  obtain ⟨⟨⟨⟨h1, h2⟩, h3⟩, h4⟩, h5⟩ := hk
  have h1 := beq_of h1
  have h5 := beq_of h5
  have hab : a * b ≤ 64 := Nat.mul_le_mul (show a ≤ 8 by omega) (show b ≤ 8 by omega)
  have hq : bd (2 ^ 62) ((Qn a b c).map fun x : Nat => (x : Int)) := fun i => by
    by_cases q : i < (Qn a b c).length
    · rw [gz_in (by rw [List.length_map]; exact q), List.getElem_map]
      have := Nat.le_of_ble_eq_true (List.all_eq_true.mp h2 _ (List.getElem_mem q))
      omega
    · rw [gz_out (by rw [List.length_map]; omega)]; exact Nat.zero_le _
  have e : (ksL a b c).foldl tmL [1] = tmD ((Qn a b c).map fun x : Nat => (x : Int)) (ksL a b 0) := by
    refine val_inj ?_ ?_ ?_ ?_
    · rw [len_foldl, len_tmD, List.length_map, h5]
      unfold Qn
      rw [digs_len]; simp only [List.length_singleton]; omega
    · have b1 : bd 1 [1] := fun i => by
        cases i with
        | zero => decide
        | succ i => rw [gz_out (by simp)]; decide
      refine bd_mono (bd_foldl (ksL a b c) b1) ?_
      rw [Nat.one_mul, ksL_len]
      exact Nat.pow_le_pow_right (by decide) (by omega)
    · refine bd_mono (bd_tmD (ksL a b 0) hq) ?_
      rw [ksL_len, ← Nat.pow_add]
      exact Nat.pow_le_pow_right (by decide) (by omega)
    · rw [val_foldl, val_tmD, pr_q, pr_q, ← vlN_q, ksL_len, ksL_len, ← h1]
      have : val [1] = 1 := by decide +kernel
      rw [this, Int.one_mul, Int.natCast_mul]
      rw [← Int.mul_assoc, ← Int.mul_assoc, Int.mul_comm (sg (a * b))]
  have e2 : poly a b c = (Qn a b c).map fun x : Nat => (x : Int) := by
    unfold poly
    rw [e]
    refine dv_tmD _ _ fun k hk => ?_
    unfold ksL at hk
    obtain ⟨i, _, hk⟩ := List.mem_flatMap.mp hk
    obtain ⟨j, _, rfl⟩ := List.mem_map.mp hk
    omega
  refine ⟨e2, ?_, ?_, ?_⟩
  · rw [e2, sum_cast, h3]
  · rw [e2, ← List.map_reverse, ← h4]
  · rw [e2, List.length_map]; unfold Qn; rw [digs_len]
end K45
set_option Elab.async false
set_option linter.all false
set_option maxRecDepth 100000
set_option maxHeartbeats 1000000
namespace K45
open PySem PV
theorem pyg_gz {p : List Int} {i : Int} (h : 0 ≤ i) : pyg p i = gz p i.toNat := by
  unfold pyg gz; rw [if_pos h]; rfl
theorem rep_z (p : List Int) (k : Nat) : p ++ List.replicate k 0 = (List.range (p.length + k)).map (gz p) := by
  refine gz_ext (by simp) fun i hi => ?_
  rw [gz_map]
  rw [List.length_append, List.length_replicate] at hi
  rw [if_pos hi, gz_in (by rw [List.length_append, List.length_replicate]; exact hi)]
  by_cases h : i < p.length
  · rw [List.getElem_append_left h, gz_in h]
  · rw [List.getElem_append_right (by omega), List.getElem_replicate, gz_out (by omega)]
theorem set_map (n : Nat) (f : Nat → Int) (m : Nat) (v : Int) : ((List.range n).map f).set m v = (List.range n).map fun i => if i = m then v else f i := by
  refine gz_ext (by simp) fun i hi => ?_
  rw [List.length_set, List.length_map, List.length_range] at hi
  rw [gz_map, if_pos hi, gz_in (by simpa using hi), List.getElem_set]
  by_cases h : m = i
  · rw [if_pos h, if_pos h.symm]
  · rw [if_neg h, if_neg fun q => h q.symm, List.getElem_map, List.getElem_range]
/-- after n turns -/
def tmn (p : List Int) (k n : Nat) : List Int := (List.range (p.length + k)).map fun i => gz p i - if k ≤ i ∧ i < k + n then gz p (i - k) else 0
theorem tmn_s (p : List Int) (k n : Nat) (hn : n < p.length) : (tmn p k n).set (n + k) (gz (tmn p k n) (n + k) - gz p n) = tmn p k (n + 1) := by
  unfold tmn
  rw [set_map]
  refine List.map_congr_left fun i hi => ?_
  rw [List.mem_range] at hi
  by_cases h : i = n + k
  · rw [if_pos h, gz_map, if_pos (by omega), if_neg (by omega), h, if_pos ⟨by omega, by omega⟩, Nat.add_sub_cancel]; omega
  · rw [if_neg h]
    by_cases h2 : k ≤ i ∧ i < k + n
    · rw [if_pos h2, if_pos ⟨h2.1, by omega⟩]
    · rw [if_neg h2, if_neg fun q => h2 ⟨q.1, by omega⟩]
theorem tmn_all (p : List Int) (k : Nat) : tmn p k p.length = tmL p k := by
  unfold tmn tmL
  refine List.map_congr_left fun i hi => ?_
  rw [List.mem_range] at hi
  by_cases h : k ≤ i
  · rw [if_pos h, if_pos ⟨h, by omega⟩]
  · rw [if_neg h, if_neg fun q => h q.1]
theorem tmn_0 (p : List Int) (k : Nat) : p ++ List.replicate k 0 = tmn p k 0 := by
  rw [rep_z]
  unfold tmn
  refine List.map_congr_left fun i hi => ?_
  rw [if_neg (by omega)]; omega
theorem tmn_len (p : List Int) (k n : Nat) : (tmn p k n).length = p.length + k := by simp [tmn]
theorem times_ok (m : Nat) (p : List Int) (k : Nat) (hp : p.length ≤ 100000) (hk : k ≤ 100) {Q : D → Prop} {E : XE} (q : Q (Ls .int (tmL p k))) : Call (runF fs (m+1)) 7 [.fz (Ls .int p), .own (.int k)] Q E := by
  refine call_intro rfl rfl ?_
  unfold c7
  exists imm_Sx, imm_Sg, flat_Sx, flat_Sg, wbi_lenS, wits_Sx, w2_inS, w2_ninS, w2_addS, w2_addSg, wslc_S, wsub_S, w2_ltS, w2_isN0, w2_isNi, w2_isNs, w2_isNS, w2_isNt, w2_isNl, w2_isNT, w2_isNL, w2_ntN0, w2_ntNi, w2_ntNs, w2_ntNS, w2_ntNt, w2_ntNl, w2_ntNT, w2_ntNL, w2_repL, w2_rep1, w2_repT, w2_repT1
  (repeat ((with_reducible refine And.intro ?_ ?_); focus (intros; first | (simp only [List.length_append, List.length_cons, List.length_nil]; omega) | ((with_reducible refine lenOk_of ?_); first | decide | omega) | ((with_reducible refine mulOk_l ?_); first | decide | omega) | ((with_reducible refine mulOk_r ?_); first | decide | omega) | ((with_reducible refine smallI_of ?_); omega) | ((with_reducible refine divOk_of ?_ ?_) <;> first | decide | omega) | exact And.intro (by omega) (by omega) | omega | (unfold kp; exact Or.inl rfl) | with_reducible rfl | with_reducible exact trivial)))
  refine ⟨by rw [List.length_replicate]; omega, ?_⟩
  rw [show (k : Int).toNat = k from Int.toNat_natCast k, tmn_0]
  refine ⟨smallI_of (by omega), ?_⟩
  refine wfor_inv (f := PyData.int) (I := fun pre σ => ∃ (c3 : NI), σ = [some (.fz (Ls .int p)), some (.own (.int k)), some (.own (Ls .int (tmn p k pre.length))), c3.c])
    ⟨⟨none, rfl, rfl⟩, rfl⟩ ?_ ?_
  · rintro pre r suf σ hpp ⟨c3, rfl⟩
    obtain ⟨g1, g2⟩ := rng_at hpp
    have er : r = (pre.length : Int) := by omega
    subst er
    have hl := tmn_len p k pre.length
    exists imm_Sx, imm_Sg, flat_Sx, flat_Sg, wbi_lenS, wits_Sx, w2_inS, w2_ninS, w2_addS, w2_addSg, wslc_S, wsub_S, w2_ltS, w2_isN0, w2_isNi, w2_isNs, w2_isNS, w2_isNt, w2_isNl, w2_isNT, w2_isNL, w2_ntN0, w2_ntNi, w2_ntNs, w2_ntNS, w2_ntNt, w2_ntNl, w2_ntNT, w2_ntNL, w2_repL, w2_rep1, w2_repT, w2_repT1
    refine ⟨⟨by omega, by omega⟩, ⟨by omega, by omega⟩, ⟨by omega, by omega⟩, ?_⟩
    refine ⟨⟨some (.own (.int pre.length)), rfl, rfl⟩, ?_⟩
    rw [if_pos (by omega), pyg_gz (by omega), pyg_gz (by omega), Int.toNat_natCast, show ((pre.length : Int) + (k : Int)).toNat = pre.length + k by omega, tmn_s p k _ (by omega), List.length_append, List.length_singleton]
  · rintro σ ⟨c3, rfl⟩
    rw [rng_len, show ((p.length : Int) - 0).toNat = p.length by omega, tmn_all]
    exists imm_Sx, imm_Sg, flat_Sx, flat_Sg, wbi_lenS, wits_Sx, w2_inS, w2_ninS, w2_addS, w2_addSg, wslc_S, wsub_S, w2_ltS, w2_isN0, w2_isNi, w2_isNs, w2_isNS, w2_isNt, w2_isNl, w2_isNT, w2_isNL, w2_ntN0, w2_ntNi, w2_ntNs, w2_ntNS, w2_ntNt, w2_ntNl, w2_ntNT, w2_ntNL, w2_repL, w2_rep1, w2_repT, w2_repT1
    exact q
theorem divided_ok (m : Nat) (p : List Int) (k : Nat) (hp : p.length ≤ 100000) (hk : k ≤ 100) (h1 : 0 < k) {Q : D → Prop} {E : XE} (q : Q (Ls .int (dv p k))) : Call (runF fs (m+1)) 8 [.fz (Ls .int p), .own (.int k)] Q E := by
  refine call_intro rfl rfl ?_
  unfold c8
  exists imm_Sx, imm_Sg, flat_Sx, flat_Sg, wbi_lenS, wits_Sx, w2_inS, w2_ninS, w2_addS, w2_addSg, wslc_S, wsub_S, w2_ltS, w2_isN0, w2_isNi, w2_isNs, w2_isNS, w2_isNt, w2_isNl, w2_isNT, w2_isNL, w2_ntN0, w2_ntNi, w2_ntNs, w2_ntNS, w2_ntNt, w2_ntNl, w2_ntNT, w2_ntNL, w2_repL, w2_rep1, w2_repT, w2_repT1, lst0 (f := PyData.int)
  (repeat ((with_reducible refine And.intro ?_ ?_); focus (intros; first | (simp only [List.length_append, List.length_cons, List.length_nil]; omega) | ((with_reducible refine lenOk_of ?_); first | decide | omega) | ((with_reducible refine mulOk_l ?_); first | decide | omega) | ((with_reducible refine mulOk_r ?_); first | decide | omega) | ((with_reducible refine smallI_of ?_); omega) | ((with_reducible refine divOk_of ?_ ?_) <;> first | decide | omega) | exact And.intro (by omega) (by omega) | omega | (unfold kp; exact Or.inl rfl) | with_reducible rfl | with_reducible exact trivial)))
  refine wfor_inv (f := PyData.int) (I := fun pre σ => ∃ (c3 : NI), σ = [some (.fz (Ls .int p)), some (.own (.int k)), some (.own (Ls .int (dvL p k pre.length))), c3.c])
    ⟨⟨none, rfl, rfl⟩, rfl⟩ ?_ ?_
  · rintro pre r suf σ hpp ⟨c3, rfl⟩
    obtain ⟨g1, g2⟩ := rng_at hpp
    have er : r = (pre.length : Int) := by omega
    subst er
    have hl := dvL_len p k pre.length
    exists imm_Sx, imm_Sg, flat_Sx, flat_Sg, wbi_lenS, wits_Sx, w2_inS, w2_ninS, w2_addS, w2_addSg, wslc_S, wsub_S, w2_ltS, w2_isN0, w2_isNi, w2_isNs, w2_isNS, w2_isNt, w2_isNl, w2_isNT, w2_isNL, w2_ntN0, w2_ntNi, w2_ntNs, w2_ntNS, w2_ntNt, w2_ntNl, w2_ntNT, w2_ntNL, w2_repL, w2_rep1, w2_repT, w2_repT1
    refine ⟨⟨by omega, by omega⟩, fun z => ⟨by omega, by omega⟩, by omega, ⟨some (.own (.int pre.length)), rfl, rfl⟩, ?_⟩
    have e : (if (k : Int) ≤ (pre.length : Int) then pyg (dvL p k pre.length) ((pre.length : Int) - k) else 0) = if k ≤ pre.length then gz (dvL p k pre.length) (pre.length - k) else 0 := by
      by_cases h : k ≤ pre.length
      · rw [if_pos h, if_pos (by omega), pyg_gz (by omega), show ((pre.length : Int) - k).toNat = pre.length - k by omega]
      · rw [if_neg h, if_neg (by omega)]
    rw [List.length_append, List.length_singleton, dvL, ← e, pyg_gz (by omega), Int.toNat_natCast]
  · rintro σ ⟨c3, rfl⟩
    rw [rng_len, show ((p.length : Int) - (k : Int) - 0).toNat = p.length - k by omega]
    exists imm_Sx, imm_Sg, flat_Sx, flat_Sg, wbi_lenS, wits_Sx, w2_inS, w2_ninS, w2_addS, w2_addSg, wslc_S, wsub_S, w2_ltS, w2_isN0, w2_isNi, w2_isNs, w2_isNS, w2_isNt, w2_isNl, w2_isNT, w2_isNL, w2_ntN0, w2_ntNi, w2_ntNs, w2_ntNS, w2_ntNt, w2_ntNl, w2_ntNT, w2_ntNL, w2_repL, w2_rep1, w2_repT, w2_repT1
    exact q
theorem ks_foldl (a b c : Nat) (f : List Int → Nat → List Int) (z : List Int) : (ksL a b c).foldl f z = (List.range a).foldl (fun p i => (List.range b).foldl (fun p j => f p (i + j + c + 1)) p) z := by
  unfold ksL
  rw [List.foldl_flatMap]
  congr 1
  funext p i
  rw [List.foldl_map]
def GT (c i : Int) (p : List Int) (j : Int) : List Int := tmL p (i + j + c - 1).toNat
def GD (i : Int) (p : List Int) (j : Int) : List Int := dv p (i + j - 1).toNat
def FT (b : Nat) (c : Int) (p : List Int) (i : Int) : List Int := (rng 1 ((b : Int) + 1)).foldl (GT c i) p
def FD (b : Nat) (p : List Int) (i : Int) : List Int := (rng 1 ((b : Int) + 1)).foldl (GD i) p
theorem FT_all (a b c : Nat) : (rng 1 ((a : Int) + 1)).foldl (FT b c) [1] = (ksL a b c).foldl tmL [1] := by
  rw [ks_foldl, foldl_rng, show ((a : Int) + 1 - 1).toNat = a by omega]
  congr 1
  funext p i
  unfold FT
  rw [foldl_rng, show ((b : Int) + 1 - 1).toNat = b by omega]
  congr 1
  funext p j
  unfold GT
  rw [show (1 + (i : Int) + (1 + (j : Int)) + (c : Int) - 1).toNat = i + j + c + 1 by omega]
theorem FD_all (a b : Nat) (w : List Int) : (rng 1 ((a : Int) + 1)).foldl (FD b) w = (ksL a b 0).foldl dv w := by
  rw [ks_foldl, foldl_rng, show ((a : Int) + 1 - 1).toNat = a by omega]
  congr 1
  funext p i
  unfold FD
  rw [foldl_rng, show ((b : Int) + 1 - 1).toNat = b by omega]
  congr 1
  funext p j
  unfold GD
  rw [show (1 + (i : Int) + (1 + (j : Int)) - 1).toNat = i + j + 0 + 1 by omega]
theorem qmac_ok (m : Nat) (a b c : Nat) (ha : a < 9) (hb : b < 9) (hc : c < 9) {Q : D → Prop} {E : XE} (q1 : a * b * c ≤ 60 → Q (Tp .int (poly a b c))) (q2 : 60 < a * b * c → E 1 (.str "large") (.int 0)) : Call (runF fs (m+2)) 6 [.own (.int a), .own (.int b), .own (.int c)] Q E := by
  refine call_intro rfl rfl ?_
  unfold c6
  exists imm_Sx, imm_Sg, flat_Sx, flat_Sg, wbi_lenS, wits_Sx, w2_inS, w2_ninS, w2_addS, w2_addSg, wslc_S, wsub_S, w2_ltS, w2_isN0, w2_isNi, w2_isNs, w2_isNS, w2_isNt, w2_isNl, w2_isNT, w2_isNL, w2_ntN0, w2_ntNi, w2_ntNs, w2_ntNS, w2_ntNt, w2_ntNl, w2_ntNT, w2_ntNL, w2_repL, w2_rep1, w2_repT, w2_repT1
  refine wcall_3 ?_
  exists imm_Sx, imm_Sg, flat_Sx, flat_Sg, wbi_lenS, wits_Sx, w2_inS, w2_ninS, w2_addS, w2_addSg, wslc_S, wsub_S, w2_ltS, w2_isN0, w2_isNi, w2_isNs, w2_isNS, w2_isNt, w2_isNl, w2_isNT, w2_isNL, w2_ntN0, w2_ntNi, w2_ntNs, w2_ntNS, w2_ntNt, w2_ntNl, w2_ntNT, w2_ntNL, w2_repL, w2_rep1, w2_repT, w2_repT1
  refine box_ok _ _ _ _ (fun _ => ?_) (fun h => absurd (by unfold inB; omega) h)
  (try exists imm_Sx, imm_Sg, flat_Sx, flat_Sg, wbi_lenS, wits_Sx, w2_inS, w2_ninS, w2_addS, w2_addSg, wslc_S, wsub_S, w2_ltS, w2_isN0, w2_isNi, w2_isNs, w2_isNS, w2_isNt, w2_isNl, w2_isNT, w2_isNL, w2_ntN0, w2_ntNi, w2_ntNs, w2_ntNS, w2_ntNt, w2_ntNl, w2_ntNT, w2_ntNL, w2_repL, w2_rep1, w2_repT, w2_repT1)
  have eab : (a : Int) * (b : Int) * (c : Int) = ((a * b * c : Nat) : Int) := by rw [Int.natCast_mul, Int.natCast_mul]
  refine ⟨mulOk_l ⟨by omega, by omega⟩, mulOk_r ⟨by omega, by omega⟩, ?_⟩
  rw [eab]
  refine wbS_if (fun h60 => ?_) (fun h60 => ?_) <;> (try simp only [decide_eq_true_eq, decide_eq_false_iff_not, Bool.or_eq_true, Bool.and_eq_true, Bool.or_eq_false_iff, Bool.and_eq_false_iff, Bool.not_eq_true', Bool.not_eq_false', Bool.not_eq_true, Bool.not_eq_false, Int.not_lt, Int.not_le, Bool.false_eq_true, Bool.true_eq_false, id] at h60)
  · (try exists imm_Sx, imm_Sg, flat_Sx, flat_Sg, wbi_lenS, wits_Sx, w2_inS, w2_ninS, w2_addS, w2_addSg, wslc_S, wsub_S, w2_ltS, w2_isN0, w2_isNi, w2_isNs, w2_isNS, w2_isNt, w2_isNl, w2_isNT, w2_isNL, w2_ntN0, w2_ntNi, w2_ntNs, w2_ntNS, w2_ntNt, w2_ntNl, w2_ntNT, w2_ntNL, w2_repL, w2_rep1, w2_repT, w2_repT1)
    exact q2 (by omega)
  · (try exists imm_Sx, imm_Sg, flat_Sx, flat_Sg, wbi_lenS, wits_Sx, w2_inS, w2_ninS, w2_addS, w2_addSg, wslc_S, wsub_S, w2_ltS, w2_isN0, w2_isNi, w2_isNs, w2_isNS, w2_isNt, w2_isNl, w2_isNT, w2_isNL, w2_ntN0, w2_ntNi, w2_ntNs, w2_ntNS, w2_ntNt, w2_ntNl, w2_ntNT, w2_ntNL, w2_repL, w2_rep1, w2_repT, w2_repT1, lst1)
    (repeat ((with_reducible refine And.intro ?_ ?_); focus (intros; first | (simp only [List.length_append, List.length_cons, List.length_nil]; omega) | ((with_reducible refine lenOk_of ?_); first | decide | omega) | ((with_reducible refine mulOk_l ?_); first | decide | omega) | ((with_reducible refine mulOk_r ?_); first | decide | omega) | ((with_reducible refine smallI_of ?_); omega) | ((with_reducible refine divOk_of ?_ ?_) <;> first | decide | omega) | exact And.intro (by omega) (by omega) | omega | (unfold kp; exact Or.inl rfl) | with_reducible rfl | with_reducible exact trivial)))
    refine wfor_inv (f := PyData.int) (I := fun pre σ => ∃ (c4 c5 : NI), (pre.foldl (FT b c) [1]).length ≤ 1 + 200 * pre.length ∧ σ = [some (.own (.int a)), some (.own (.int b)), some (.own (.int c)), some (.own (Ls .int (pre.foldl (FT b c) [1]))), c4.c, c5.c])
      ⟨⟨none, rfl, rfl⟩, ⟨none, rfl, rfl⟩, by simp, rfl⟩ ?_ ?_
    · rintro pre i suf σ hp ⟨c4, c5, hpl, rfl⟩
      have hi := mem_rng.mp (pre_mem hp)
      have hpn := pre_len hp
      rw [rng_len] at hpn
      exists imm_Sx, imm_Sg, flat_Sx, flat_Sg, wbi_lenS, wits_Sx, w2_inS, w2_ninS, w2_addS, w2_addSg, wslc_S, wsub_S, w2_ltS, w2_isN0, w2_isNi, w2_isNs, w2_isNS, w2_isNt, w2_isNl, w2_isNT, w2_isNL, w2_ntN0, w2_ntNi, w2_ntNs, w2_ntNS, w2_ntNt, w2_ntNl, w2_ntNT, w2_ntNL, w2_repL, w2_rep1, w2_repT, w2_repT1
      (repeat ((with_reducible refine And.intro ?_ ?_); focus (intros; first | (simp only [List.length_append, List.length_cons, List.length_nil]; omega) | ((with_reducible refine lenOk_of ?_); first | decide | omega) | ((with_reducible refine mulOk_l ?_); first | decide | omega) | ((with_reducible refine mulOk_r ?_); first | decide | omega) | ((with_reducible refine smallI_of ?_); omega) | ((with_reducible refine divOk_of ?_ ?_) <;> first | decide | omega) | exact And.intro (by omega) (by omega) | omega | (unfold kp; exact Or.inl rfl) | with_reducible rfl | with_reducible exact trivial)))
      generalize hz : pre.foldl (FT b c) [1] = z at *
      refine wfor_inv (f := PyData.int) (I := fun pre' σ => ∃ (c5 : NI), (pre'.foldl (GT c i) z).length ≤ z.length + 25 * pre'.length ∧ σ = [some (.own (.int a)), some (.own (.int b)), some (.own (.int c)), some (.own (Ls .int (pre'.foldl (GT c i) z))), some (.own (.int i)), c5.c]) ⟨c5, by simp, rfl⟩ ?_ ?_
      · rintro pre' j suf' σ hp' ⟨c5, hpl', rfl⟩
        have hj := mem_rng.mp (pre_mem hp')
        have hpn' := pre_len hp'
        rw [rng_len] at hpn'
        exists imm_Sx, imm_Sg, flat_Sx, flat_Sg, wbi_lenS, wits_Sx, w2_inS, w2_ninS, w2_addS, w2_addSg, wslc_S, wsub_S, w2_ltS, w2_isN0, w2_isNi, w2_isNs, w2_isNS, w2_isNt, w2_isNl, w2_isNT, w2_isNL, w2_ntN0, w2_ntNi, w2_ntNs, w2_ntNS, w2_ntNt, w2_ntNl, w2_ntNT, w2_ntNL, w2_repL, w2_rep1, w2_repT, w2_repT1
        refine wcall_2 ?_
        exists imm_Sx, imm_Sg, flat_Sx, flat_Sg, wbi_lenS, wits_Sx, w2_inS, w2_ninS, w2_addS, w2_addSg, wslc_S, wsub_S, w2_ltS, w2_isN0, w2_isNi, w2_isNs, w2_isNS, w2_isNt, w2_isNl, w2_isNT, w2_isNL, w2_ntN0, w2_ntNi, w2_ntNs, w2_ntNS, w2_ntNt, w2_ntNl, w2_ntNT, w2_ntNL, w2_repL, w2_rep1, w2_repT, w2_repT1
        have et : (i + j + (c : Int) - 1) = (((i + j + (c : Int) - 1).toNat : Nat) : Int) := by omega
        rw [et]
        refine times_ok _ _ _ (by omega) (by omega) ?_
        (try exists imm_Sx, imm_Sg, flat_Sx, flat_Sg, wbi_lenS, wits_Sx, w2_inS, w2_ninS, w2_addS, w2_addSg, wslc_S, wsub_S, w2_ltS, w2_isN0, w2_isNi, w2_isNs, w2_isNS, w2_isNt, w2_isNl, w2_isNT, w2_isNL, w2_ntN0, w2_ntNi, w2_ntNs, w2_ntNS, w2_ntNt, w2_ntNl, w2_ntNT, w2_ntNL, w2_repL, w2_rep1, w2_repT, w2_repT1)
        refine ⟨⟨some (.own (.int j)), rfl, rfl⟩, ?_, ?_⟩
        · rw [List.foldl_append, List.foldl_cons, List.foldl_nil, GT, tmL_len, List.length_append, List.length_singleton]; omega
        · rw [List.foldl_append]; rfl
      · rintro σ ⟨c5, hpl', rfl⟩
        rw [rng_len] at hpl'
        refine ⟨⟨some (.own (.int i)), rfl, rfl⟩, c5, ?_, ?_⟩
        · rw [List.foldl_append, hz, List.length_append, List.length_singleton]
          exact Nat.le_trans hpl' (by omega)
        · rw [List.foldl_append, hz]; rfl
    · rintro σ ⟨c4, c5, hpl, rfl⟩
      rw [rng_len] at hpl
      have e1 := FT_all a b c
      rw [e1] at hpl ⊢
      generalize hw : (ksL a b c).foldl tmL [1] = w at *
      exists imm_Sx, imm_Sg, flat_Sx, flat_Sg, wbi_lenS, wits_Sx, w2_inS, w2_ninS, w2_addS, w2_addSg, wslc_S, wsub_S, w2_ltS, w2_isN0, w2_isNi, w2_isNs, w2_isNS, w2_isNt, w2_isNl, w2_isNT, w2_isNL, w2_ntN0, w2_ntNi, w2_ntNs, w2_ntNS, w2_ntNt, w2_ntNl, w2_ntNT, w2_ntNL, w2_repL, w2_rep1, w2_repT, w2_repT1
      (repeat ((with_reducible refine And.intro ?_ ?_); focus (intros; first | (simp only [List.length_append, List.length_cons, List.length_nil]; omega) | ((with_reducible refine lenOk_of ?_); first | decide | omega) | ((with_reducible refine mulOk_l ?_); first | decide | omega) | ((with_reducible refine mulOk_r ?_); first | decide | omega) | ((with_reducible refine smallI_of ?_); omega) | ((with_reducible refine divOk_of ?_ ?_) <;> first | decide | omega) | exact And.intro (by omega) (by omega) | omega | (unfold kp; exact Or.inl rfl) | with_reducible rfl | with_reducible exact trivial)))
      refine wfor_inv (f := PyData.int) (I := fun pre σ => ∃ (c4 c5 : NI), (pre.foldl (FD b) w).length ≤ w.length ∧ σ = [some (.own (.int a)), some (.own (.int b)), some (.own (.int c)), some (.own (Ls .int (pre.foldl (FD b) w))), c4.c, c5.c])
        ⟨c4, c5, by simp, rfl⟩ ?_ ?_
      · rintro pre i suf σ hp ⟨c4, c5, hpl2, rfl⟩
        have hi := mem_rng.mp (pre_mem hp)
        exists imm_Sx, imm_Sg, flat_Sx, flat_Sg, wbi_lenS, wits_Sx, w2_inS, w2_ninS, w2_addS, w2_addSg, wslc_S, wsub_S, w2_ltS, w2_isN0, w2_isNi, w2_isNs, w2_isNS, w2_isNt, w2_isNl, w2_isNT, w2_isNL, w2_ntN0, w2_ntNi, w2_ntNs, w2_ntNS, w2_ntNt, w2_ntNl, w2_ntNT, w2_ntNL, w2_repL, w2_rep1, w2_repT, w2_repT1
        (repeat ((with_reducible refine And.intro ?_ ?_); focus (intros; first | (simp only [List.length_append, List.length_cons, List.length_nil]; omega) | ((with_reducible refine lenOk_of ?_); first | decide | omega) | ((with_reducible refine mulOk_l ?_); first | decide | omega) | ((with_reducible refine mulOk_r ?_); first | decide | omega) | ((with_reducible refine smallI_of ?_); omega) | ((with_reducible refine divOk_of ?_ ?_) <;> first | decide | omega) | exact And.intro (by omega) (by omega) | omega | (unfold kp; exact Or.inl rfl) | with_reducible rfl | with_reducible exact trivial)))
        generalize hz : pre.foldl (FD b) w = z at *
        refine wfor_inv (f := PyData.int) (I := fun pre' σ => ∃ (c5 : NI), (pre'.foldl (GD i) z).length ≤ z.length ∧ σ = [some (.own (.int a)), some (.own (.int b)), some (.own (.int c)), some (.own (Ls .int (pre'.foldl (GD i) z))), some (.own (.int i)), c5.c]) ⟨c5, by simp, rfl⟩ ?_ ?_
        · rintro pre' j suf' σ hp' ⟨c5, hpl', rfl⟩
          have hj := mem_rng.mp (pre_mem hp')
          exists imm_Sx, imm_Sg, flat_Sx, flat_Sg, wbi_lenS, wits_Sx, w2_inS, w2_ninS, w2_addS, w2_addSg, wslc_S, wsub_S, w2_ltS, w2_isN0, w2_isNi, w2_isNs, w2_isNS, w2_isNt, w2_isNl, w2_isNT, w2_isNL, w2_ntN0, w2_ntNi, w2_ntNs, w2_ntNS, w2_ntNt, w2_ntNl, w2_ntNT, w2_ntNL, w2_repL, w2_rep1, w2_repT, w2_repT1
          refine wcall_2 ?_
          exists imm_Sx, imm_Sg, flat_Sx, flat_Sg, wbi_lenS, wits_Sx, w2_inS, w2_ninS, w2_addS, w2_addSg, wslc_S, wsub_S, w2_ltS, w2_isN0, w2_isNi, w2_isNs, w2_isNS, w2_isNt, w2_isNl, w2_isNT, w2_isNL, w2_ntN0, w2_ntNi, w2_ntNs, w2_ntNS, w2_ntNt, w2_ntNl, w2_ntNT, w2_ntNL, w2_repL, w2_rep1, w2_repT, w2_repT1
          have et : (i + j - 1) = (((i + j - 1).toNat : Nat) : Int) := by omega
          rw [et]
          refine divided_ok _ _ _ (by omega) (by omega) (by omega) ?_
          (try exists imm_Sx, imm_Sg, flat_Sx, flat_Sg, wbi_lenS, wits_Sx, w2_inS, w2_ninS, w2_addS, w2_addSg, wslc_S, wsub_S, w2_ltS, w2_isN0, w2_isNi, w2_isNs, w2_isNS, w2_isNt, w2_isNl, w2_isNT, w2_isNL, w2_ntN0, w2_ntNi, w2_ntNs, w2_ntNS, w2_ntNt, w2_ntNl, w2_ntNT, w2_ntNL, w2_repL, w2_rep1, w2_repT, w2_repT1)
          refine ⟨⟨some (.own (.int j)), rfl, rfl⟩, ?_, ?_⟩
          · rw [List.foldl_append, List.foldl_cons, List.foldl_nil, GD, dv_len]; omega
          · rw [List.foldl_append]; rfl
        · rintro σ ⟨c5, hpl', rfl⟩
          refine ⟨⟨some (.own (.int i)), rfl, rfl⟩, c5, ?_, ?_⟩
          · rw [List.foldl_append, hz]
            exact Nat.le_trans hpl' hpl2
          · rw [List.foldl_append, hz]; rfl
      · rintro σ ⟨c4, c5, hpl2, rfl⟩
        have e2 : (rng 1 ((a : Int) + 1)).foldl (FD b) w = poly a b c := by
          unfold poly
          rw [FD_all, hw]
        rw [e2]
        exists imm_Sx, imm_Sg, flat_Sx, flat_Sg, wbi_lenS, wits_Sx, w2_inS, w2_ninS, w2_addS, w2_addSg, wslc_S, wsub_S, w2_ltS, w2_isN0, w2_isNi, w2_isNs, w2_isNS, w2_isNt, w2_isNl, w2_isNT, w2_isNL, w2_ntN0, w2_ntNi, w2_ntNs, w2_ntNS, w2_ntNt, w2_ntNl, w2_ntNT, w2_ntNL, w2_repL, w2_rep1, w2_repT, w2_repT1
        exact q1 (by omega)
end K45
set_option Elab.async false
set_option linter.all false
set_option maxRecDepth 100000
set_option maxHeartbeats 1000000
namespace K45
open PySem PV
def cv (g : List Nat) : List Int := g.reverse.map fun n : Nat => (n : Int)
theorem cv_len (g : List Nat) : (cv g).length = g.length := by simp [cv]
theorem cv_cons (j : Nat) (g : List Nat) : cv (j :: g) = cv g ++ [(j : Int)] := by simp [cv]
theorem gz_cv (g : List Nat) {i : Nat} (h : i < g.length) : gz (cv g) i = (ent g (g.length - 1 - i) : Nat) := by
  rw [gz_in (by rw [cv_len]; exact h)]
  unfold cv ent
  rw [List.getElem_map, List.getElem_reverse, List.getD_eq_getElem?_getD, List.getElem?_eq_getElem (by omega)]; rfl
theorem cut2 {α : Type} (l : List α) (lo hi : Nat) (h : lo ≤ hi) (h2 : hi ≤ l.length) : cut l (some (lo : Int)) (some (hi : Int)) = (l.take hi).drop lo := by
  simp only [cut, sIx]
  rw [if_neg (by omega), if_neg (by omega), Int.toNat_natCast, Int.toNat_natCast, Nat.min_eq_left h2, Nat.min_eq_left (by omega), List.drop_take]
theorem fmod_nat (a b : Nat) : (a : Int).fmod (b : Int) = ((a % b : Nat) : Int) := by
  rw [Int.fmod_eq_emod_of_nonneg _ (Int.natCast_nonneg b), Int.natCast_emod]
theorem topI (b c : Nat) (hb : 0 < b) (g : List Nat) (t : Int) (ht : t = if 0 < g.length % b then (if (ent g 0 : Int) < (c : Int) then (ent g 0 : Int) else c) else c) : (if b ≤ g.length then (if (ent g (b - 1) : Int) < t then (ent g (b - 1) : Int) else t) else t) = ((topN b c g.length g : Nat) : Int) := by
  have hne : 0 < g.length % b → g ≠ [] := fun h e => by rw [e] at h; simp at h
  rw [topN_q]
  simp only
  by_cases h1 : 0 < g.length % b
  · rw [if_pos h1] at ht
    by_cases h2 : b ≤ g.length
    · rw [if_pos h2, if_pos h2, if_pos (show 0 < g.length % b ∧ g ≠ [] from ⟨h1, hne h1⟩)]
      split at ht <;> split <;> omega
    · rw [if_neg h2, if_neg h2, if_pos (show 0 < g.length % b ∧ g ≠ [] from ⟨h1, hne h1⟩)]
      split at ht <;> omega
  · rw [if_neg h1] at ht
    by_cases h2 : b ≤ g.length
    · rw [if_pos h2, if_pos h2, if_neg (show ¬ (0 < g.length % b ∧ g ≠ []) from fun q => h1 q.1)]
      split <;> omega
    · rw [if_neg h2, if_neg h2, if_neg (show ¬ (0 < g.length % b ∧ g ≠ []) from fun q => h1 q.1), ht]
theorem lpN_le {a b c : Nat} (h : (lpN b c (a * b) 0 [[]]).length ≤ 400) {n : Nat} (hn : n ≤ a * b) : (lpN b c n 0 [[]]).length ≤ 400 := Nat.le_trans (lpN_mono b c [[]] hn) h
theorem cut_tb {a b : Nat} {g : List Nat} (hg : g.length = a * b) : (rng 0 (a : Int)).map (fun r => cut (cv g) (some (r * (b : Int))) (some (r * (b : Int) + b))) = tb a b (fe a b g) := by
  unfold rng tb
  rw [List.map_map, show ((a : Int) - 0).toNat = a by omega]
  refine List.map_congr_left fun r hr => ?_
  rw [List.mem_range] at hr
  have hc : (r + 1) * b ≤ a * b := Nat.mul_le_mul_right b hr
  rw [Nat.add_mul, Nat.one_mul] at hc
  simp only [Function.comp, Int.zero_add]
  rw [show ((r : Int) * (b : Int)) = ((r * b : Nat) : Int) by rw [Int.natCast_mul], show (((r * b : Nat) : Int) + (b : Int)) = ((r * b + b : Nat) : Int) by rw [Int.natCast_add], cut2 _ _ _ (by omega) (by rw [cv_len]; omega)]
  refine gz_ext (by rw [List.length_drop, List.length_take, cv_len, List.length_map, List.length_range]; omega) fun k hk => ?_
  rw [List.length_drop, List.length_take, cv_len] at hk
  rw [gz_map, if_pos (by omega), gz_in (by rw [List.length_drop, List.length_take, cv_len]; omega), List.getElem_drop, List.getElem_take, ← gz_in, gz_cv g (by omega), hg]
  rfl
theorem lst_t0 : PyData.list [PyData.tuple []] = Ls (fun g : List Nat => Tp PyData.int (cv g)) [[]] := by simp [Ls, Tp, cv]
theorem ex_q (g : List Nat) (t : Nat) : (rng 0 ((t : Int) + 1)).map (fun v => cv g ++ [v]) = (exN g t []).map cv := by
  rw [exN_q, List.append_nil, List.map_map]
  unfold rng
  rw [List.map_map, show ((t : Int) + 1 - 0).toNat = t + 1 by omega]
  refine List.map_congr_left fun j _ => ?_
  simp only [Function.comp, Int.zero_add, cv_cons]
theorem lplanes_ok (k : Nat) (x y z : Int) (a b c : Nat) (hx : x = a) (hy : y = b) (hz : z = c) (ha : a < 9) (hb : b < 9) (hc : c < 9) (hb0 : 0 < b) (hlen : (lpN b c (a * b) 0 [[]]).length ≤ 400) {Q : D → Prop} {E : XE} (q : Q (Ls (fun g => Tp (Tp .int) (tb a b (fe a b g))) (lpN b c (a * b) 0 [[]]))) : Call (runF fs (k+1)) 17 [.own (.int x), .own (.int y), .own (.int z)] Q E := by
  have hab : a * b ≤ 64 := Nat.mul_le_mul (show a ≤ 8 by omega) (show b ≤ 8 by omega)
  have eab : (a : Int) * (b : Int) = ((a * b : Nat) : Int) := by rw [Int.natCast_mul]
  refine call_intro rfl rfl ?_
  subst hx hy hz
  unfold c17
  exists imm_Sx, imm_Sg, flat_Sx, flat_Sg, wbi_lenS, wits_Sx, w2_inS, w2_ninS, w2_addS, w2_addSg, wslc_S, wsub_S, w2_ltS, w2_isN0, w2_isNi, w2_isNs, w2_isNS, w2_isNt, w2_isNl, w2_isNT, w2_isNL, w2_ntN0, w2_ntNi, w2_ntNs, w2_ntNS, w2_ntNt, w2_ntNl, w2_ntNT, w2_ntNL, w2_repL, w2_rep1, w2_repT, w2_repT1, eab
  (repeat ((with_reducible refine And.intro ?_ ?_); focus (intros; first | (simp only [List.length_append, List.length_cons, List.length_nil]; omega) | ((with_reducible refine lenOk_of ?_); first | decide | omega) | ((with_reducible refine mulOk_l ?_); first | decide | omega) | ((with_reducible refine mulOk_r ?_); first | decide | omega) | ((with_reducible refine smallI_of ?_); omega) | ((with_reducible refine divOk_of ?_ ?_) <;> first | decide | omega) | exact And.intro (by omega) (by omega) | omega | (unfold kp; exact Or.inl rfl) | with_reducible rfl | with_reducible exact trivial)))
  rw [lst_t0]
  refine wfor_inv (f := PyData.int) (I := fun pre σ => ∃ (c4 c6 c7 : NI), σ = [some (.own (.int a)), some (.own (.int b)), some (.own (.int c)), some (.own (Ls (fun g => Tp .int (cv g)) (lpN b c pre.length 0 [[]]))), c4.c, none, c6.c, c7.c, none, none])
    ⟨⟨none, rfl, rfl⟩, ⟨none, rfl, rfl⟩, ⟨none, rfl, rfl⟩, rfl⟩ ?_ ?_
  · rintro pre r suf σ hp ⟨c4, c6, c7, rfl⟩
    obtain ⟨g1, g2⟩ := rng_at hp
    have er : r = (pre.length : Int) := by omega
    subst er
    generalize hn : pre.length = n at *
    exists imm_Sx, imm_Sg, flat_Sx, flat_Sg, wbi_lenS, wits_Sx, w2_inS, w2_ninS, w2_addS, w2_addSg, wslc_S, wsub_S, w2_ltS, w2_isN0, w2_isNi, w2_isNs, w2_isNS, w2_isNt, w2_isNl, w2_isNT, w2_isNL, w2_ntN0, w2_ntNi, w2_ntNs, w2_ntNS, w2_ntNt, w2_ntNl, w2_ntNT, w2_ntNL, w2_repL, w2_rep1, w2_repT, w2_repT1, lst0 (f := fun g : List Nat => Tp PyData.int (cv g))
    (repeat ((with_reducible refine And.intro ?_ ?_); focus (intros; first | (simp only [List.length_append, List.length_cons, List.length_nil]; omega) | ((with_reducible refine lenOk_of ?_); first | decide | omega) | ((with_reducible refine mulOk_l ?_); first | decide | omega) | ((with_reducible refine mulOk_r ?_); first | decide | omega) | ((with_reducible refine smallI_of ?_); omega) | ((with_reducible refine divOk_of ?_ ?_) <;> first | decide | omega) | exact And.intro (by omega) (by omega) | omega | (unfold kp; exact Or.inl rfl) | with_reducible rfl | with_reducible exact trivial)))
    have hle := lpN_le hlen (show n + 1 ≤ a * b by omega)
    rw [lpN_snoc, Nat.zero_add] at hle
    refine wfor_inv (f := fun g => Tp PyData.int (cv g)) (I := fun pre' σ => ∃ (c6 c7 : NI), σ = [some (.own (.int a)), some (.own (.int b)), some (.own (.int c)), some (.fz (Ls (fun g => Tp .int (cv g)) (lpN b c n 0 [[]]))), some (.own (.int n)), some (.own (Ls (fun g => Tp .int (cv g)) (stN b c n pre'))), c6.c, c7.c, none, none])
      ⟨c6, c7, rfl⟩ ?_ ?_
    · rintro pre' g suf' σ hp' ⟨c6, c7, rfl⟩
      obtain ⟨hgl, hgi⟩ := lp_inv hb0 (pre_mem hp')
      have hsl : (stN b c n pre').length + (topN b c n g + 1) ≤ 400 := by
        rw [hp', stN_q, List.flatMap_append, List.length_append, ← stN_q, ← stN_q, stN, exN_q, List.length_append, List.length_map, List.length_range] at hle
        omega
      have htc := (topN_le b c n g).1
      have p1 : 0 < n % b → pyg (cv g) ((n : Int) - 1) = (ent g 0 : Nat) := fun q => by
        have : 0 < n := Nat.pos_of_ne_zero fun e => by rw [e] at q; simp at q
        rw [pyg_gz (by omega), gz_cv g (by omega), hgl, show n - 1 - ((n : Int) - 1).toNat = 0 by omega]
      have p2 : b ≤ n → pyg (cv g) ((n : Int) - (b : Int)) = (ent g (b - 1) : Nat) := fun q => by
        rw [pyg_gz (by omega), gz_cv g (by omega), hgl, show n - 1 - ((n : Int) - (b : Int)).toNat = b - 1 by omega]
      exists imm_Sx, imm_Sg, flat_Sx, flat_Sg, wbi_lenS, wits_Sx, w2_inS, w2_ninS, w2_addS, w2_addSg, wslc_S, wsub_S, w2_ltS, w2_isN0, w2_isNi, w2_isNs, w2_isNS, w2_isNt, w2_isNl, w2_isNT, w2_isNL, w2_ntN0, w2_ntNi, w2_ntNs, w2_ntNS, w2_ntNt, w2_ntNl, w2_ntNT, w2_ntNL, w2_repL, w2_rep1, w2_repT, w2_repT1
      refine ⟨by omega, ?_⟩
      rw [fmod_nat]
      have hcl := cv_len g
      have el : (exN g (topN b c n g) []).length = topN b c n g + 1 := by rw [exN_q]; simp
      have eL : PyData.list (List.map (fun g => Tp PyData.int (cv g)) (stN b c n pre') ++ List.map (Tp PyData.int) (List.map cv (exN g (topN b c n g) []))) = Ls (fun g => Tp PyData.int (cv g)) (stN b c n pre' ++ exN g (topN b c n g) []) := by
        unfold Ls
        rw [List.map_map, List.map_append]; rfl
      have eS : stN b c n (pre' ++ [g]) = stN b c n pre' ++ exN g (topN b c n g) [] := by
        rw [stN_q b c n (pre' ++ [g]), List.flatMap_append, ← stN_q, ← stN_q, stN, stN]
      rw [eS]
      refine wbS_if (fun h1 => ?_) (fun h1 => ?_) <;> (try simp only [decide_eq_true_eq, decide_eq_false_iff_not, Bool.or_eq_true, Bool.and_eq_true, Bool.or_eq_false_iff, Bool.and_eq_false_iff, Bool.not_eq_true', Bool.not_eq_false', Bool.not_eq_true, Bool.not_eq_false, Int.not_lt, Int.not_le, Bool.false_eq_true, Bool.true_eq_false, id] at h1)
      · have q1 : 0 < n % b := by omega
        have hn0 : 0 < n := Nat.pos_of_ne_zero fun e => by rw [e] at q1; simp at q1
        (try exists imm_Sx, imm_Sg, flat_Sx, flat_Sg, wbi_lenS, wits_Sx, w2_inS, w2_ninS, w2_addS, w2_addSg, wslc_S, wsub_S, w2_ltS, w2_isN0, w2_isNi, w2_isNs, w2_isNS, w2_isNt, w2_isNl, w2_isNT, w2_isNL, w2_ntN0, w2_ntNi, w2_ntNs, w2_ntNS, w2_ntNt, w2_ntNl, w2_ntNT, w2_ntNL, w2_repL, w2_rep1, w2_repT, w2_repT1)
        refine ⟨⟨by omega, by rw [cv_len]; omega⟩, ?_⟩
        refine wbS_if (fun h2 => ?_) (fun h2 => ?_) <;> (try simp only [decide_eq_true_eq, decide_eq_false_iff_not, Bool.or_eq_true, Bool.and_eq_true, Bool.or_eq_false_iff, Bool.and_eq_false_iff, Bool.not_eq_true', Bool.not_eq_false', Bool.not_eq_true, Bool.not_eq_false, Int.not_lt, Int.not_le, Bool.false_eq_true, Bool.true_eq_false, id] at h2)
        · have q2 : b ≤ n := by omega
          (try exists imm_Sx, imm_Sg, flat_Sx, flat_Sg, wbi_lenS, wits_Sx, w2_inS, w2_ninS, w2_addS, w2_addSg, wslc_S, wsub_S, w2_ltS, w2_isN0, w2_isNi, w2_isNs, w2_isNS, w2_isNt, w2_isNl, w2_isNT, w2_isNL, w2_ntN0, w2_ntNi, w2_ntNs, w2_ntNS, w2_ntNt, w2_ntNl, w2_ntNT, w2_ntNL, w2_repL, w2_rep1, w2_repT, w2_repT1)
          refine ⟨⟨by omega, by rw [cv_len]; omega⟩, ?_⟩
          have ht := topI b c hb0 g _ rfl
          rw [hgl] at ht
          simp only [if_pos q1, if_pos q2] at ht
          rw [p1 q1]
          rw [p2 q2]
          rw [ht]
          refine ⟨smallI_of (by omega), ?_⟩
          refine wcomp_map1 (f := PyData.int) (Tp .int) (fun v => cv g ++ [v]) true (fun v hv => ?_) (by (try exists imm_Sx, imm_Sg, flat_Sx, flat_Sg, wbi_lenS, wits_Sx, w2_inS, w2_ninS, w2_addS, w2_addSg, wslc_S, wsub_S, w2_ltS, w2_isN0, w2_isNi, w2_isNs, w2_isNS, w2_isNt, w2_isNl, w2_isNT, w2_isNL, w2_ntN0, w2_ntNi, w2_ntNs, w2_ntNS, w2_ntNt, w2_ntNl, w2_ntNT, w2_ntNL, w2_repL, w2_rep1, w2_repT, w2_repT1)) rfl (by rw [rng_len]; omega) fun b' hb' => ?_
          · (try exists imm_Sx, imm_Sg, flat_Sx, flat_Sg, wbi_lenS, wits_Sx, w2_inS, w2_ninS, w2_addS, w2_addSg, wslc_S, wsub_S, w2_ltS, w2_isN0, w2_isNi, w2_isNs, w2_isNS, w2_isNt, w2_isNl, w2_isNT, w2_isNL, w2_ntN0, w2_ntNi, w2_ntNs, w2_ntNS, w2_ntNt, w2_ntNl, w2_ntNT, w2_ntNL, w2_repL, w2_rep1, w2_repT, w2_repT1, tup1)
            exact ⟨lenOk_of (by decide), by omega, fun _ => trivial⟩
          obtain rfl := hb' rfl
          rw [ex_q]
          (try exists imm_Sx, imm_Sg, flat_Sx, flat_Sg, wbi_lenS, wits_Sx, w2_inS, w2_ninS, w2_addS, w2_addSg, wslc_S, wsub_S, w2_ltS, w2_isN0, w2_isNi, w2_isNs, w2_isNS, w2_isNt, w2_isNl, w2_isNT, w2_isNL, w2_ntN0, w2_ntNi, w2_ntNs, w2_ntNS, w2_ntNt, w2_ntNl, w2_ntNT, w2_ntNL, w2_repL, w2_rep1, w2_repT, w2_repT1)
          rw [eL]
          exact ⟨lenOk_of (by omega), ⟨some (.own (Tp .int (cv g))), rfl, imm_Tp _⟩, ⟨some (.own (.int (topN b c n g : Nat))), rfl, rfl⟩, rfl⟩
        · have q2 : ¬ b ≤ n := by omega
          (try exists imm_Sx, imm_Sg, flat_Sx, flat_Sg, wbi_lenS, wits_Sx, w2_inS, w2_ninS, w2_addS, w2_addSg, wslc_S, wsub_S, w2_ltS, w2_isN0, w2_isNi, w2_isNs, w2_isNS, w2_isNt, w2_isNl, w2_isNT, w2_isNL, w2_ntN0, w2_ntNi, w2_ntNs, w2_ntNS, w2_ntNt, w2_ntNl, w2_ntNT, w2_ntNL, w2_repL, w2_rep1, w2_repT, w2_repT1)
          have ht := topI b c hb0 g _ rfl
          rw [hgl] at ht
          simp only [if_pos q1, if_neg q2] at ht
          rw [p1 q1]
          rw [ht]
          refine ⟨smallI_of (by omega), ?_⟩
          refine wcomp_map1 (f := PyData.int) (Tp .int) (fun v => cv g ++ [v]) true (fun v hv => ?_) (by (try exists imm_Sx, imm_Sg, flat_Sx, flat_Sg, wbi_lenS, wits_Sx, w2_inS, w2_ninS, w2_addS, w2_addSg, wslc_S, wsub_S, w2_ltS, w2_isN0, w2_isNi, w2_isNs, w2_isNS, w2_isNt, w2_isNl, w2_isNT, w2_isNL, w2_ntN0, w2_ntNi, w2_ntNs, w2_ntNS, w2_ntNt, w2_ntNl, w2_ntNT, w2_ntNL, w2_repL, w2_rep1, w2_repT, w2_repT1)) rfl (by rw [rng_len]; omega) fun b' hb' => ?_
          · (try exists imm_Sx, imm_Sg, flat_Sx, flat_Sg, wbi_lenS, wits_Sx, w2_inS, w2_ninS, w2_addS, w2_addSg, wslc_S, wsub_S, w2_ltS, w2_isN0, w2_isNi, w2_isNs, w2_isNS, w2_isNt, w2_isNl, w2_isNT, w2_isNL, w2_ntN0, w2_ntNi, w2_ntNs, w2_ntNS, w2_ntNt, w2_ntNl, w2_ntNT, w2_ntNL, w2_repL, w2_rep1, w2_repT, w2_repT1, tup1)
            exact ⟨lenOk_of (by decide), by omega, fun _ => trivial⟩
          obtain rfl := hb' rfl
          rw [ex_q]
          (try exists imm_Sx, imm_Sg, flat_Sx, flat_Sg, wbi_lenS, wits_Sx, w2_inS, w2_ninS, w2_addS, w2_addSg, wslc_S, wsub_S, w2_ltS, w2_isN0, w2_isNi, w2_isNs, w2_isNS, w2_isNt, w2_isNl, w2_isNT, w2_isNL, w2_ntN0, w2_ntNi, w2_ntNs, w2_ntNS, w2_ntNt, w2_ntNl, w2_ntNT, w2_ntNL, w2_repL, w2_rep1, w2_repT, w2_repT1)
          rw [eL]
          exact ⟨lenOk_of (by omega), ⟨some (.own (Tp .int (cv g))), rfl, imm_Tp _⟩, ⟨some (.own (.int (topN b c n g : Nat))), rfl, rfl⟩, rfl⟩
      · have q1 : ¬ 0 < n % b := by omega
        (try exists imm_Sx, imm_Sg, flat_Sx, flat_Sg, wbi_lenS, wits_Sx, w2_inS, w2_ninS, w2_addS, w2_addSg, wslc_S, wsub_S, w2_ltS, w2_isN0, w2_isNi, w2_isNs, w2_isNS, w2_isNt, w2_isNl, w2_isNT, w2_isNL, w2_ntN0, w2_ntNi, w2_ntNs, w2_ntNS, w2_ntNt, w2_ntNl, w2_ntNT, w2_ntNL, w2_repL, w2_rep1, w2_repT, w2_repT1)
        refine wbS_if (fun h2 => ?_) (fun h2 => ?_) <;> (try simp only [decide_eq_true_eq, decide_eq_false_iff_not, Bool.or_eq_true, Bool.and_eq_true, Bool.or_eq_false_iff, Bool.and_eq_false_iff, Bool.not_eq_true', Bool.not_eq_false', Bool.not_eq_true, Bool.not_eq_false, Int.not_lt, Int.not_le, Bool.false_eq_true, Bool.true_eq_false, id] at h2)
        · have q2 : b ≤ n := by omega
          (try exists imm_Sx, imm_Sg, flat_Sx, flat_Sg, wbi_lenS, wits_Sx, w2_inS, w2_ninS, w2_addS, w2_addSg, wslc_S, wsub_S, w2_ltS, w2_isN0, w2_isNi, w2_isNs, w2_isNS, w2_isNt, w2_isNl, w2_isNT, w2_isNL, w2_ntN0, w2_ntNi, w2_ntNs, w2_ntNS, w2_ntNt, w2_ntNl, w2_ntNT, w2_ntNL, w2_repL, w2_rep1, w2_repT, w2_repT1)
          refine ⟨⟨by omega, by rw [cv_len]; omega⟩, ?_⟩
          have ht := topI b c hb0 g _ rfl
          rw [hgl] at ht
          simp only [if_neg q1, if_pos q2] at ht
          rw [p2 q2]
          rw [ht]
          refine ⟨smallI_of (by omega), ?_⟩
          refine wcomp_map1 (f := PyData.int) (Tp .int) (fun v => cv g ++ [v]) true (fun v hv => ?_) (by (try exists imm_Sx, imm_Sg, flat_Sx, flat_Sg, wbi_lenS, wits_Sx, w2_inS, w2_ninS, w2_addS, w2_addSg, wslc_S, wsub_S, w2_ltS, w2_isN0, w2_isNi, w2_isNs, w2_isNS, w2_isNt, w2_isNl, w2_isNT, w2_isNL, w2_ntN0, w2_ntNi, w2_ntNs, w2_ntNS, w2_ntNt, w2_ntNl, w2_ntNT, w2_ntNL, w2_repL, w2_rep1, w2_repT, w2_repT1)) rfl (by rw [rng_len]; omega) fun b' hb' => ?_
          · (try exists imm_Sx, imm_Sg, flat_Sx, flat_Sg, wbi_lenS, wits_Sx, w2_inS, w2_ninS, w2_addS, w2_addSg, wslc_S, wsub_S, w2_ltS, w2_isN0, w2_isNi, w2_isNs, w2_isNS, w2_isNt, w2_isNl, w2_isNT, w2_isNL, w2_ntN0, w2_ntNi, w2_ntNs, w2_ntNS, w2_ntNt, w2_ntNl, w2_ntNT, w2_ntNL, w2_repL, w2_rep1, w2_repT, w2_repT1, tup1)
            exact ⟨lenOk_of (by decide), by omega, fun _ => trivial⟩
          obtain rfl := hb' rfl
          rw [ex_q]
          (try exists imm_Sx, imm_Sg, flat_Sx, flat_Sg, wbi_lenS, wits_Sx, w2_inS, w2_ninS, w2_addS, w2_addSg, wslc_S, wsub_S, w2_ltS, w2_isN0, w2_isNi, w2_isNs, w2_isNS, w2_isNt, w2_isNl, w2_isNT, w2_isNL, w2_ntN0, w2_ntNi, w2_ntNs, w2_ntNS, w2_ntNt, w2_ntNl, w2_ntNT, w2_ntNL, w2_repL, w2_rep1, w2_repT, w2_repT1)
          rw [eL]
          exact ⟨lenOk_of (by omega), ⟨some (.own (Tp .int (cv g))), rfl, imm_Tp _⟩, ⟨some (.own (.int (topN b c n g : Nat))), rfl, rfl⟩, rfl⟩
        · have q2 : ¬ b ≤ n := by omega
          (try exists imm_Sx, imm_Sg, flat_Sx, flat_Sg, wbi_lenS, wits_Sx, w2_inS, w2_ninS, w2_addS, w2_addSg, wslc_S, wsub_S, w2_ltS, w2_isN0, w2_isNi, w2_isNs, w2_isNS, w2_isNt, w2_isNl, w2_isNT, w2_isNL, w2_ntN0, w2_ntNi, w2_ntNs, w2_ntNS, w2_ntNt, w2_ntNl, w2_ntNT, w2_ntNL, w2_repL, w2_rep1, w2_repT, w2_repT1)
          have ht := topI b c hb0 g _ rfl
          rw [hgl] at ht
          simp only [if_neg q1, if_neg q2] at ht
          rw [ht]
          refine ⟨smallI_of (by omega), ?_⟩
          refine wcomp_map1 (f := PyData.int) (Tp .int) (fun v => cv g ++ [v]) true (fun v hv => ?_) (by (try exists imm_Sx, imm_Sg, flat_Sx, flat_Sg, wbi_lenS, wits_Sx, w2_inS, w2_ninS, w2_addS, w2_addSg, wslc_S, wsub_S, w2_ltS, w2_isN0, w2_isNi, w2_isNs, w2_isNS, w2_isNt, w2_isNl, w2_isNT, w2_isNL, w2_ntN0, w2_ntNi, w2_ntNs, w2_ntNS, w2_ntNt, w2_ntNl, w2_ntNT, w2_ntNL, w2_repL, w2_rep1, w2_repT, w2_repT1)) rfl (by rw [rng_len]; omega) fun b' hb' => ?_
          · (try exists imm_Sx, imm_Sg, flat_Sx, flat_Sg, wbi_lenS, wits_Sx, w2_inS, w2_ninS, w2_addS, w2_addSg, wslc_S, wsub_S, w2_ltS, w2_isN0, w2_isNi, w2_isNs, w2_isNS, w2_isNt, w2_isNl, w2_isNT, w2_isNL, w2_ntN0, w2_ntNi, w2_ntNs, w2_ntNS, w2_ntNt, w2_ntNl, w2_ntNT, w2_ntNL, w2_repL, w2_rep1, w2_repT, w2_repT1, tup1)
            exact ⟨lenOk_of (by decide), by omega, fun _ => trivial⟩
          obtain rfl := hb' rfl
          rw [ex_q]
          (try exists imm_Sx, imm_Sg, flat_Sx, flat_Sg, wbi_lenS, wits_Sx, w2_inS, w2_ninS, w2_addS, w2_addSg, wslc_S, wsub_S, w2_ltS, w2_isN0, w2_isNi, w2_isNs, w2_isNS, w2_isNt, w2_isNl, w2_isNT, w2_isNL, w2_ntN0, w2_ntNi, w2_ntNs, w2_ntNS, w2_ntNt, w2_ntNl, w2_ntNT, w2_ntNL, w2_repL, w2_rep1, w2_repT, w2_repT1)
          rw [eL]
          exact ⟨lenOk_of (by omega), ⟨some (.own (Tp .int (cv g))), rfl, imm_Tp _⟩, ⟨some (.own (.int (topN b c n g : Nat))), rfl, rfl⟩, rfl⟩
    · rintro σ ⟨c6, c7, rfl⟩
      (try exists imm_Sx, imm_Sg, flat_Sx, flat_Sg, wbi_lenS, wits_Sx, w2_inS, w2_ninS, w2_addS, w2_addSg, wslc_S, wsub_S, w2_ltS, w2_isN0, w2_isNi, w2_isNs, w2_isNS, w2_isNt, w2_isNl, w2_isNT, w2_isNL, w2_ntN0, w2_ntNi, w2_ntNs, w2_ntNS, w2_ntNt, w2_ntNl, w2_ntNT, w2_ntNL, w2_repL, w2_rep1, w2_repT, w2_repT1)
      refine ⟨⟨some (.own (.int n)), rfl, rfl⟩, c6, c7, ?_⟩
      rw [List.length_append, hn, List.length_singleton, lpN_snoc, Nat.zero_add]
  · rintro σ ⟨c4, c6, c7, rfl⟩
    rw [rng_len, show (((a * b : Nat) : Int) - 0).toNat = a * b by omega]
    exists imm_Sx, imm_Sg, flat_Sx, flat_Sg, wbi_lenS, wits_Sx, w2_inS, w2_ninS, w2_addS, w2_addSg, wslc_S, wsub_S, w2_ltS, w2_isN0, w2_isNi, w2_isNs, w2_isNS, w2_isNt, w2_isNl, w2_isNT, w2_isNL, w2_ntN0, w2_ntNi, w2_ntNs, w2_ntNS, w2_ntNt, w2_ntNl, w2_ntNT, w2_ntNL, w2_repL, w2_rep1, w2_repT, w2_repT1
    refine wcomp_map1 (f := fun g => Tp PyData.int (cv g)) (Tp (Tp .int)) (fun g => tb a b (fe a b g)) true (fun g hg => ?_) (by (try exists imm_Sx, imm_Sg, flat_Sx, flat_Sg, wbi_lenS, wits_Sx, w2_inS, w2_ninS, w2_addS, w2_addSg, wslc_S, wsub_S, w2_ltS, w2_isN0, w2_isNi, w2_isNs, w2_isNS, w2_isNt, w2_isNl, w2_isNT, w2_isNL, w2_ntN0, w2_ntNi, w2_ntNs, w2_ntNS, w2_ntNt, w2_ntNl, w2_ntNT, w2_ntNL, w2_repL, w2_rep1, w2_repT, w2_repT1)) rfl (by omega) fun b' hb' => ?_
    · obtain ⟨hgl, hgi⟩ := lp_inv hb0 hg
      (try exists imm_Sx, imm_Sg, flat_Sx, flat_Sg, wbi_lenS, wits_Sx, w2_inS, w2_ninS, w2_addS, w2_addSg, wslc_S, wsub_S, w2_ltS, w2_isN0, w2_isNi, w2_isNs, w2_isNS, w2_isNt, w2_isNl, w2_isNT, w2_isNL, w2_ntN0, w2_ntNi, w2_ntNs, w2_ntNS, w2_ntNt, w2_ntNl, w2_ntNT, w2_ntNL, w2_repL, w2_rep1, w2_repT, w2_repT1)
      refine ⟨smallI_of (by omega), ?_⟩
      refine wcomp_map1 (f := PyData.int) (Tp .int) (fun r => cut (cv g) (some (r * (b : Int))) (some (r * (b : Int) + b))) true (fun r hr => ?_) (by (try exists imm_Sx, imm_Sg, flat_Sx, flat_Sg, wbi_lenS, wits_Sx, w2_inS, w2_ninS, w2_addS, w2_addSg, wslc_S, wsub_S, w2_ltS, w2_isN0, w2_isNi, w2_isNs, w2_isNS, w2_isNt, w2_isNl, w2_isNT, w2_isNL, w2_ntN0, w2_ntNi, w2_ntNs, w2_ntNS, w2_ntNt, w2_ntNl, w2_ntNT, w2_ntNL, w2_repL, w2_rep1, w2_repT, w2_repT1)) rfl (by rw [rng_len]; omega) fun b' hb' => ?_
      · rw [mem_rng] at hr
        (try exists imm_Sx, imm_Sg, flat_Sx, flat_Sg, wbi_lenS, wits_Sx, w2_inS, w2_ninS, w2_addS, w2_addSg, wslc_S, wsub_S, w2_ltS, w2_isN0, w2_isNi, w2_isNs, w2_isNS, w2_isNt, w2_isNl, w2_isNT, w2_isNL, w2_ntN0, w2_ntNi, w2_ntNs, w2_ntNS, w2_ntNt, w2_ntNl, w2_ntNT, w2_ntNL, w2_repL, w2_rep1, w2_repT, w2_repT1)
        (repeat ((with_reducible refine And.intro ?_ ?_); focus (intros; first | (simp only [List.length_append, List.length_cons, List.length_nil]; omega) | ((with_reducible refine lenOk_of ?_); first | decide | omega) | ((with_reducible refine mulOk_l ?_); first | decide | omega) | ((with_reducible refine mulOk_r ?_); first | decide | omega) | ((with_reducible refine smallI_of ?_); omega) | ((with_reducible refine divOk_of ?_ ?_) <;> first | decide | omega) | exact And.intro (by omega) (by omega) | omega | (unfold kp; exact Or.inl rfl) | with_reducible rfl | with_reducible exact trivial)))
        exact fun _ => trivial
      obtain rfl := hb' rfl
      rw [cut_tb hgl]
      (try exists imm_Sx, imm_Sg, flat_Sx, flat_Sg, wbi_lenS, wits_Sx, w2_inS, w2_ninS, w2_addS, w2_addSg, wslc_S, wsub_S, w2_ltS, w2_isN0, w2_isNi, w2_isNs, w2_isNS, w2_isNt, w2_isNl, w2_isNT, w2_isNL, w2_ntN0, w2_ntNi, w2_ntNs, w2_ntNS, w2_ntNt, w2_ntNl, w2_ntNT, w2_ntNL, w2_repL, w2_rep1, w2_repT, w2_repT1)
      exact fun _ => trivial
    obtain rfl := hb' rfl
    have e : Ls (Tp (Tp PyData.int)) ((lpN b c (a * b) 0 [[]]).map fun g => tb a b (fe a b g)) = Ls (fun g => Tp (Tp .int) (tb a b (fe a b g))) (lpN b c (a * b) 0 [[]]) := by
      unfold Ls; rw [List.map_map]; rfl
    rw [e]
    (try exists imm_Sx, imm_Sg, flat_Sx, flat_Sg, wbi_lenS, wits_Sx, w2_inS, w2_ninS, w2_addS, w2_addSg, wslc_S, wsub_S, w2_ltS, w2_isN0, w2_isNi, w2_isNs, w2_isNS, w2_isNt, w2_isNl, w2_isNT, w2_isNL, w2_ntN0, w2_ntNi, w2_ntNs, w2_ntNS, w2_ntNt, w2_ntNl, w2_ntNT, w2_ntNL, w2_repL, w2_rep1, w2_repT, w2_repT1)
    exact q
end K45
set_option Elab.async false
set_option linter.all false
set_option maxRecDepth 100000
set_option maxHeartbeats 1000000
namespace K45
open PySem PV
theorem lpN_drop {b c : Nat} : ∀ (n cell : Nat) (L : List (List Nat)), ∀ g ∈ lpN b c n cell L, g.drop n ∈ L
  | 0, _, _, g, h => h
  | n + 1, cell, L, g, h => by
    rw [lpN] at h
    have := lpN_drop n (cell + 1) _ g h
    rw [stN_q] at this
    obtain ⟨f, hf, hm⟩ := List.mem_flatMap.mp this
    obtain ⟨j, _, e⟩ := List.mem_map.mp hm
    have e2 : g.drop (n + 1) = f := by
      rw [show g.drop (n + 1) = (g.drop n).drop 1 by rw [List.drop_drop], ← e]; rfl
    rw [e2]; exact hf
theorem ent_drop (g : List Nat) (n i : Nat) : ent (g.drop n) i = ent g (n + i) := by
  unfold ent
  rw [List.getD_eq_getElem?_getD, List.getElem?_drop, List.getD_eq_getElem?_getD]
theorem min1_q {x : Int} {l : List Int} {K : D → Prop} : wbi .min1 [Ls .int (x :: l)] K = K (.int (l.foldl (fun a y => if y < a then y else a) x)) := by
  have h1 : ∀ l : List Int, immAll (l.map PyData.int) = true := fun l => immAll_map l
  have h2 : ∀ l : List Int, alikeAll2 (l.map PyData.int) = true := fun l => by
    unfold alikeAll2
    rw [List.all_eq_true]
    intro x hx
    rw [List.all_eq_true]
    intro y hy
    obtain ⟨a, _, rfl⟩ := List.mem_map.mp hx
    obtain ⟨b, _, rfl⟩ := List.mem_map.mp hy
    rfl
  have h3 : ∀ l : List Int, PyData.depthAll (l.map PyData.int) ≤ 60 := fun l => Nat.le_trans (depthAll_map l) (by decide)
  have h4 : ∀ l : List Int, (l.map PyData.int).all (fun y => match y with | .none => false | _ => true) = true := fun l => by
    rw [List.all_eq_true]
    intro x hx
    obtain ⟨a, _, rfl⟩ := List.mem_map.mp hx
    rfl
  have key : ∀ (l : List Int) (x : Int), minD (.int x) (l.map PyData.int) = .int (l.foldl (fun a y => if y < a then y else a) x) := by
    intro l
    induction l with
    | nil => intro x; rfl
    | cons y l ih =>
      intro x
      have e : PySem.W.dataLt (.int y) (.int x) = decide (y < x) := PySem.W.dataLt_int y x
      unfold minD at ih ⊢
      rw [List.map_cons, List.foldl_cons, List.foldl_cons]
      show List.foldl _ (if PySem.W.dataLt (.int y) (.int x) then _ else _) _ = _
      rw [e]
      by_cases h : y < x
      · rw [decide_eq_true h, if_pos rfl, if_pos h]; exact ih y
      · rw [decide_eq_false h, if_neg Bool.false_ne_true, if_neg h]; exact ih x
  have : bi .min1 [Ls .int (x :: l)] = .ok (.int (l.foldl (fun a y => if y < a then y else a) x)) := by
    show min1 ((x :: l).map PyData.int) = _
    rw [List.map_cons]
    unfold min1
    have g1 := h1 (x :: l)
    have g2 := h2 (x :: l)
    have g3 := h3 (x :: l)
    have g4 := h4 (x :: l)
    rw [List.map_cons] at g1 g2 g3 g4
    show (if (immAll (PyData.int x :: List.map PyData.int l) && alikeAll2 (PyData.int x :: List.map PyData.int l) && decide (PyData.depthAll (PyData.int x :: List.map PyData.int l) ≤ 60) && (PyData.int x :: List.map PyData.int l).all (fun y => match y with | .none => false | _ => true)) = true then Res.ok (minD (.int x) (l.map .int)) else .stuck) = _
    rw [g1, g2, g4, decide_eq_true g3, key]
    rfl
  simp only [wbi, this]
/-- what rows_below shows -/
def EN (k : Nat) (g : List Nat) : D := Tp .int (cv (g.take k))
theorem lst_e0 (f : List Nat) : PyData.list [PyData.tuple []] = Ls (EN 0) [f] := by simp [Ls, Tp, EN, cv]
theorem cut_last {l : List Int} : cut l (some (-1)) none = if l = [] then [] else [gz l (l.length - 1)] := by
  simp only [cut, sIx]
  rw [if_pos (by decide)]
  by_cases h : l = []
  · rw [if_pos h, h]; rfl
  · rw [if_neg h]
    have hl : 0 < l.length := List.length_pos_iff.mpr h
    rw [show (-1 + (l.length : Int)).toNat = l.length - 1 by omega, show l.length - (l.length - 1) = 1 by omega, gz_in (by omega)]
    rw [List.drop_eq_getElem_cons (by omega), show l.length - 1 + 1 = l.length by omega, List.drop_length]; rfl
theorem min3 {x c : Int} {l : List Int} : ([c] ++ l).foldl (fun a y => if y < a then y else a) x = l.foldl (fun a y => if y < a then y else a) (if c < x then c else x) := rfl
theorem lpN_lens {b c : Nat} : ∀ (n cell : Nat) (L : List (List Nat)), (∀ f ∈ L, f.length = cell) → ∀ g ∈ lpN b c n cell L, g.length = cell + n
  | 0, _, _, h, g, hg => h g hg
  | n + 1, cell, L, h, g, hg => by
    rw [lpN] at hg
    have := lpN_lens n (cell + 1) (stN b c cell L) (fun f hf => by
      rw [stN_q] at hf
      obtain ⟨g', hg', hf⟩ := List.mem_flatMap.mp hf
      obtain ⟨j, hj, rfl⟩ := List.mem_map.mp hf
      rw [List.length_cons, h g' hg']) g hg
    omega
theorem rb_top {ab : List Int} {b c n : Nat} {f g : List Nat} (hb0 : 0 < b) (hnb : n < b) (hf0 : f.length % b = 0) (h0 : f = [] → ∀ j, j < b → gz ab j = c) (h1 : f ≠ [] → ∀ j, j < b → gz ab j = (ent f (b - 1 - j) : Nat)) (hgl : g.length = f.length + n) (hgd : g.drop n = f) :
    ((c : Int) :: cut (cv (g.take n)) (some (-1)) none).foldl (fun a y => if y < a then y else a) (gz ab n) = ((topN b c (f.length + n) g : Nat) : Int) := by
  have hm : (f.length + n) % b = n := by rw [Nat.add_mod, hf0, Nat.zero_add, Nat.mod_mod, Nat.mod_eq_of_lt hnb]
  have hk : cut (cv (g.take n)) (some (-1)) none = if 0 < n then [((ent g 0 : Nat) : Int)] else [] := by
    rw [cut_last]
    by_cases h : 0 < n
    · have hl : (cv (g.take n)).length = n := by rw [cv_len, List.length_take]; omega
      have hne : cv (g.take n) ≠ [] := fun e => by rw [e] at hl; simp at hl; omega
      rw [if_neg hne, if_pos h, hl, gz_cv _ (by rw [List.length_take]; omega), List.length_take, Nat.min_eq_left (by omega), show n - 1 - (n - 1) = 0 by omega]
      have : ent (g.take n) 0 = ent g 0 := by
        unfold ent
        rw [List.getD_eq_getElem?_getD, List.getD_eq_getElem?_getD, List.getElem?_take_of_lt h]
      rw [this]
    · have : n = 0 := by omega
      subst this
      rw [List.take_zero, if_pos (show cv [] = [] from rfl), if_neg (show ¬ 0 < 0 by omega)]
  rw [hk, topN_q, hm]
  simp only
  by_cases hf : f = []
  · have hx := h0 hf n hnb
    have hfl : f.length = 0 := by rw [hf]; rfl
    rw [if_neg (show ¬ b ≤ f.length + n by omega), hx]
    by_cases h : 0 < n
    · rw [if_pos h, if_pos (show 0 < n ∧ g ≠ [] from ⟨h, fun e => by rw [e] at hgl; simp at hgl; omega⟩)]
      simp only [List.foldl_cons, List.foldl_nil]
      rw [if_neg (Int.lt_irrefl _)]
      split <;> omega
    · rw [if_neg h, if_neg (show ¬ (0 < n ∧ g ≠ []) from fun q => h q.1)]
      simp only [List.foldl_cons, List.foldl_nil]
      rw [if_neg (Int.lt_irrefl _)]
  · have hx := h1 hf n hnb
    have hfl : b ≤ f.length := by
      have : 0 < f.length := List.length_pos_iff.mpr hf
      exact Nat.le_of_not_lt fun z => by rw [Nat.mod_eq_of_lt z] at hf0; omega
    have he : ent f (b - 1 - n) = ent g (b - 1) := by
      rw [← hgd, ent_drop, show n + (b - 1 - n) = b - 1 by omega]
    rw [if_pos (show b ≤ f.length + n by omega), hx, he]
    by_cases h : 0 < n
    · rw [if_pos h, if_pos (show 0 < n ∧ g ≠ [] from ⟨h, fun e => by rw [e] at hgl; simp at hgl; omega⟩)]
      simp only [List.foldl_cons, List.foldl_nil]
      by_cases z : (c : Int) < (ent g (b - 1) : Nat)
      · rw [if_pos z]; split <;> omega
      · rw [if_neg z]; split <;> omega
    · rw [if_neg h, if_neg (show ¬ (0 < n ∧ g ≠ []) from fun q => h q.1)]
      simp only [List.foldl_cons, List.foldl_nil]
      split <;> omega
theorem en_q (g : List Nat) (n t : Nat) (hn : n ≤ g.length) : Ls (Tp .int) ((rng 0 ((t : Int) + 1)).map fun v => cv (g.take n) ++ [v]) = Ls (EN (n + 1)) ((List.range (t + 1)).map fun j => j :: g) := by
  unfold Ls rng EN
  rw [List.map_map, List.map_map, List.map_map, show ((t : Int) + 1 - 0).toNat = t + 1 by omega]
  congr 1
  refine List.map_congr_left fun j _ => ?_
  simp only [Function.comp, Int.zero_add, List.take_succ_cons, cv_cons]
theorem rbelow_ok (k : Nat) (ab : List Int) (b c : Nat) (f : List Nat) (hc : c < 9) (hb : b < 9) (hb0 : 0 < b) (hab : ab.length = b) (hf0 : f.length % b = 0) (hfl : f.length ≤ 64) (h0 : f = [] → ∀ j, j < b → gz ab j = c) (h1 : f ≠ [] → ∀ j, j < b → gz ab j = (ent f (b - 1 - j) : Nat)) (hle : (lpN b c b f.length [f]).length ≤ 400) {Q : D → Prop} {E : XE} (q : Q (Ls (EN b) (lpN b c b f.length [f]))) : Call (runF fs (k+1)) 3 [.own (Tp .int ab), .own (.int c)] Q E := by
  obtain ⟨y, hy⟩ : ∃ y : Int, y = c := ⟨_, rfl⟩
  rw [← hy]
  refine call_intro rfl rfl ?_
  unfold c3
  exists imm_Sx, imm_Sg, flat_Sx, flat_Sg, wbi_lenS, wits_Sx, w2_inS, w2_ninS, w2_addS, w2_addSg, wslc_S, wsub_S, w2_ltS, w2_isN0, w2_isNi, w2_isNs, w2_isNS, w2_isNt, w2_isNl, w2_isNT, w2_isNL, w2_ntN0, w2_ntNi, w2_ntNs, w2_ntNS, w2_ntNt, w2_ntNl, w2_ntNT, w2_ntNL, w2_repL, w2_rep1, w2_repT, w2_repT1
  (repeat ((with_reducible refine And.intro ?_ ?_); focus (intros; first | (simp only [List.length_append, List.length_cons, List.length_nil]; omega) | ((with_reducible refine lenOk_of ?_); first | decide | omega) | ((with_reducible refine mulOk_l ?_); first | decide | omega) | ((with_reducible refine mulOk_r ?_); first | decide | omega) | ((with_reducible refine smallI_of ?_); omega) | ((with_reducible refine divOk_of ?_ ?_) <;> first | decide | omega) | exact And.intro (by omega) (by omega) | omega | (unfold kp; exact Or.inl rfl) | with_reducible rfl | with_reducible exact trivial)))
  rw [lst_e0 f]
  refine wfor_inv (f := PyData.int) (I := fun pre σ => ∃ (c3 : NI), σ = [some (.own (Tp .int ab)), some (.own (.int y)), some (.own (Ls (EN pre.length) (lpN b c pre.length f.length [f]))), c3.c, none, none])
    ⟨⟨none, rfl, rfl⟩, rfl⟩ ?_ ?_
  · rintro pre r suf σ hp ⟨c3, rfl⟩
    obtain ⟨g1, g2⟩ := rng_at hp
    have er : r = (pre.length : Int) := by omega
    subst er
    generalize hn : pre.length = n at *
    have hnb : n < b := by omega
    have hl1 : (lpN b c (n + 1) f.length [f]).length ≤ 400 := Nat.le_trans (lpN_mono b c [f] (show n + 1 ≤ b by omega)) hle
    exists imm_Sx, imm_Sg, flat_Sx, flat_Sg, wbi_lenS, wits_Sx, w2_inS, w2_ninS, w2_addS, w2_addSg, wslc_S, wsub_S, w2_ltS, w2_isN0, w2_isNi, w2_isNs, w2_isNS, w2_isNt, w2_isNl, w2_isNT, w2_isNL, w2_ntN0, w2_ntNi, w2_ntNs, w2_ntNS, w2_ntNt, w2_ntNl, w2_ntNT, w2_ntNL, w2_repL, w2_rep1, w2_repT, w2_repT1
    refine wcomp2_map (f := EN n) (EN (n + 1)) (fun _ => true) (fun g => (List.range (topN b c (f.length + n) g + 1)).map fun j => j :: g) true (fun g hg => ?_) (by (try exists imm_Sx, imm_Sg, flat_Sx, flat_Sg, wbi_lenS, wits_Sx, w2_inS, w2_ninS, w2_addS, w2_addSg, wslc_S, wsub_S, w2_ltS, w2_isN0, w2_isNi, w2_isNs, w2_isNS, w2_isNt, w2_isNl, w2_isNT, w2_isNL, w2_ntN0, w2_ntNi, w2_ntNs, w2_ntNS, w2_ntNt, w2_ntNl, w2_ntNT, w2_ntNL, w2_repL, w2_rep1, w2_repT, w2_repT1)) rfl ?_ fun b' hb' => ?_
    · exists imm_Sx, imm_Sg, flat_Sx, flat_Sg, wbi_lenS, wits_Sx, w2_inS, w2_ninS, w2_addS, w2_addSg, wslc_S, wsub_S, w2_ltS, w2_isN0, w2_isNi, w2_isNs, w2_isNS, w2_isNt, w2_isNl, w2_isNT, w2_isNL, w2_ntN0, w2_ntNi, w2_ntNs, w2_ntNS, w2_ntNt, w2_ntNl, w2_ntNT, w2_ntNL, w2_repL, w2_rep1, w2_repT, w2_repT1, EN
      intro _
      have hgl := lpN_lens n f.length [f] (fun f' hf' => by rw [List.mem_singleton.mp hf']) g hg
      have hgd := List.mem_singleton.mp (lpN_drop n f.length [f] g hg)
      have hV := rb_top hb0 hnb hf0 h0 h1 hgl hgd
      have htc := (topN_le b c (f.length + n) g).1
      have hcl := cv_len (g.take n)
      rw [List.length_take] at hcl
      have hcu : (cut (cv (g.take n)) (some (-1)) none).length ≤ 1 := by rw [cut_last]; split <;> simp
      refine ⟨⟨by omega, by omega⟩, lenOk_of (by decide), ?_⟩
      rw [show PyData.list [PyData.int (pyg ab (n : Int)), PyData.int y] = Ls .int [pyg ab (n : Int), y] from rfl]
      exists imm_Sx, imm_Sg, flat_Sx, flat_Sg, wbi_lenS, wits_Sx, w2_inS, w2_ninS, w2_addS, w2_addSg, wslc_S, wsub_S, w2_ltS, w2_isN0, w2_isNi, w2_isNs, w2_isNS, w2_isNt, w2_isNl, w2_isNT, w2_isNL, w2_ntN0, w2_ntNi, w2_ntNs, w2_ntNS, w2_ntNt, w2_ntNl, w2_ntNT, w2_ntNL, w2_repL, w2_rep1, w2_repT, w2_repT1, EN, min1_q
      rw [pyg_gz (by omega), Int.toNat_natCast, hy, hV]
      refine ⟨by omega, smallI_of (by omega), ?_⟩
      refine wcomp_map1 (f := PyData.int) (Tp .int) (fun v => cv (g.take n) ++ [v]) true (fun v hv => ?_) (by (try exists imm_Sx, imm_Sg, flat_Sx, flat_Sg, wbi_lenS, wits_Sx, w2_inS, w2_ninS, w2_addS, w2_addSg, wslc_S, wsub_S, w2_ltS, w2_isN0, w2_isNi, w2_isNs, w2_isNS, w2_isNt, w2_isNl, w2_isNT, w2_isNL, w2_ntN0, w2_ntNi, w2_ntNs, w2_ntNS, w2_ntNt, w2_ntNl, w2_ntNT, w2_ntNL, w2_repL, w2_rep1, w2_repT, w2_repT1)) rfl (by rw [rng_len]; omega) fun b' hb' => ?_
      · (try exists imm_Sx, imm_Sg, flat_Sx, flat_Sg, wbi_lenS, wits_Sx, w2_inS, w2_ninS, w2_addS, w2_addSg, wslc_S, wsub_S, w2_ltS, w2_isN0, w2_isNi, w2_isNs, w2_isNS, w2_isNt, w2_isNl, w2_isNT, w2_isNL, w2_ntN0, w2_ntNi, w2_ntNs, w2_ntNS, w2_ntNt, w2_ntNl, w2_ntNT, w2_ntNL, w2_repL, w2_rep1, w2_repT, w2_repT1, tup1)
        exact ⟨lenOk_of (by decide), by omega, fun _ => trivial⟩
      obtain rfl := hb' rfl
      exact ⟨en_q g n _ (by omega), fun _ => rfl⟩
    · rw [filter_t, ← stN_q, ← lpN_snoc]; omega
    · rw [filter_t, ← stN_q, ← lpN_snoc]
      obtain rfl := hb' rfl
      (try exists imm_Sx, imm_Sg, flat_Sx, flat_Sg, wbi_lenS, wits_Sx, w2_inS, w2_ninS, w2_addS, w2_addSg, wslc_S, wsub_S, w2_ltS, w2_isN0, w2_isNi, w2_isNs, w2_isNS, w2_isNt, w2_isNl, w2_isNT, w2_isNL, w2_ntN0, w2_ntNi, w2_ntNs, w2_ntNS, w2_ntNt, w2_ntNl, w2_ntNT, w2_ntNL, w2_repL, w2_rep1, w2_repT, w2_repT1)
      refine ⟨⟨some (.own (.int n)), rfl, rfl⟩, ?_⟩
      rw [List.length_append, hn, List.length_singleton]
  · rintro σ ⟨c3, rfl⟩
    rw [rng_len, show ((ab.length : Int) - 0).toNat = b by omega]
    exists imm_Sx, imm_Sg, flat_Sx, flat_Sg, wbi_lenS, wits_Sx, w2_inS, w2_ninS, w2_addS, w2_addSg, wslc_S, wsub_S, w2_ltS, w2_isN0, w2_isNi, w2_isNs, w2_isNS, w2_isNt, w2_isNl, w2_isNT, w2_isNL, w2_ntN0, w2_ntNi, w2_ntNs, w2_ntNS, w2_ntNt, w2_ntNl, w2_ntNT, w2_ntNL, w2_repL, w2_rep1, w2_repT, w2_repT1
    exact q
/-! tables of r rows -/
def PT (b r : Nat) (g : List Nat) : D := Tp (Tp .int) (tb r b (fe r b g))
theorem tb_len (a b : Nat) (f : Nat → Nat → Int) : (tb a b f).length = a := by simp [tb]
theorem tb_get (a b : Nat) (f : Nat → Nat → Int) {r : Nat} (h : r < a) : (tb a b f)[r]? = some ((List.range b).map fun k => f r k) := by
  unfold tb
  rw [List.getElem?_map, List.getElem?_range h]; rfl
theorem tb_congr {a b : Nat} {f h : Nat → Nat → Int} (e : ∀ r k, r < a → k < b → f r k = h r k) : tb a b f = tb a b h := by
  unfold tb
  refine List.map_congr_left fun r hr => List.map_congr_left fun k hk => ?_
  exact e r k (List.mem_range.mp hr) (List.mem_range.mp hk)
theorem tb_s (a b : Nat) (f : Nat → Nat → Int) : tb (a + 1) b f = tb a b f ++ [(List.range b).map fun k => f a k] := by
  unfold tb
  rw [List.range_succ, List.map_append]; rfl
/-- a row more -/
theorem tb_more {b r : Nat} {g g' : List Nat} (hg : g.length = r * b) (hg' : g'.length = r * b + b) (hd : g'.drop b = g) : tb (r + 1) b (fe (r + 1) b g') = tb r b (fe r b g) ++ [cv (g'.take b)] := by
  rw [tb_s]
  have e : (r + 1) * b = r * b + b := by rw [Nat.add_mul, Nat.one_mul]
  congr 1
  · refine tb_congr fun i k hi hk => ?_
    have := cell_lt hi hk
    unfold fe
    rw [← hd, ent_drop, e, show r * b + b - 1 - (i * b + k) = b + (r * b - 1 - (i * b + k)) by omega]
  · congr 1
    refine gz_ext (by rw [List.length_map, List.length_range, cv_len, List.length_take]; omega) fun k hk => ?_
    rw [List.length_map, List.length_range] at hk
    rw [gz_map, if_pos hk, gz_cv _ (by rw [List.length_take]; omega), List.length_take, Nat.min_eq_left (by omega)]
    unfold fe ent
    rw [e, show r * b + b - 1 - (r * b + k) = b - 1 - k by omega, List.getD_eq_getElem?_getD, List.getD_eq_getElem?_getD, List.getElem?_take_of_lt (by omega)]
def stab (a b c : Nat) : List (List Nat) := (lpN b c (a * b) 0 [[]]).mergeSort fun g h => leD (PT b a g) (PT b a h)
theorem stab_perm (a b c : Nat) : (stab a b c).Perm (lpN b c (a * b) 0 [[]]) := List.mergeSort_perm _ _
theorem stab_q (a b c : Nat) : ((lpN b c (a * b) 0 [[]]).map (PT b a)).mergeSort leD = (stab a b c).map (PT b a) := by
  unfold stab
  rw [← List.map_mergeSort (r := fun g h => leD (PT b a g) (PT b a h)) fun g _ h _ => rfl]
theorem alike_TT : ∀ x y : List (List Int), PySem.W.alikeAll (x.map (Tp PyData.int)) (y.map (Tp PyData.int)) = true
  | [], _ => by simp [PySem.W.alikeAll]
  | _ :: _, [] => by simp [PySem.W.alikeAll]
  | x :: xs, y :: ys => by
    rw [List.map_cons, List.map_cons, PySem.W.alikeAll, alike_TT xs ys, alike_T x y]; rfl
theorem sortB_PT (a b : Nat) (L : List (List Nat)) (hl : L.length ≤ 16777216) (ha : 0 < a) : sortB (L.map (PT b a)) = true := by
  have e : L.map (PT b a) = (L.map fun g => tb a b (fe a b g)).map (Tp (Tp PyData.int)) := by rw [List.map_map]; rfl
  rw [e]
  unfold sortB
  have h1 : immAll ((L.map fun g => tb a b (fe a b g)).map (Tp (Tp PyData.int))) = true := immAll_map _
  have h2 : alikeAll2 ((L.map fun g => tb a b (fe a b g)).map (Tp (Tp PyData.int))) = true := by
    unfold alikeAll2
    rw [List.all_eq_true]
    intro x hx
    rw [List.all_eq_true]
    intro y hy
    obtain ⟨a, _, rfl⟩ := List.mem_map.mp hx
    obtain ⟨b, _, rfl⟩ := List.mem_map.mp hy
    exact alike_TT a b
  have h3 : PyData.depthAll ((L.map fun g => tb a b (fe a b g)).map (Tp (Tp PyData.int))) ≤ 50 := Nat.le_trans (depthAll_map _) (by decide)
  have h4 : lenOk ((L.map fun g => tb a b (fe a b g)).map (Tp (Tp PyData.int))).length = true := lenOk_of (by rw [List.length_map, List.length_map]; exact hl)
  rw [h1, h2, decide_eq_true h3, h4]
  simp only [Bool.true_and, Bool.or_eq_true, decide_eq_true_eq]
  refine .inl (.inr ?_)
  rw [List.all_eq_true]
  intro x hx
  obtain ⟨t, ht, rfl⟩ := List.mem_map.mp hx
  obtain ⟨g, _, rfl⟩ := List.mem_map.mp ht
  have hlen := tb_len a b (fe a b g)
  cases hh : tb a b (fe a b g) with
  | nil => rw [hh] at hlen; simp at hlen; omega
  | cons x r => rfl
theorem lst_p0 (b : Nat) : PyData.list [PyData.tuple []] = Ls (PT b 0) [[]] := by simp [Ls, Tp, PT, tb]
theorem tupT {l : List Int} : PyData.tuple [Tp PyData.int l] = Tp (Tp .int) [l] := rfl
theorem planes_ok (k : Nat) (x y z : Int) (a b c : Nat) (hx : x = a) (hy : y = b) (hz : z = c) (ha : a < 9) (hb : b < 9) (hc : c < 9) (q0 : mac a b c < 400 → 0 < a ∧ 0 < b) {Q : D → Prop} {E : XE} (q1 : mac a b c < 400 → Q (Tp (PT b a) (stab a b c))) (q2 : 3000 < mac a b c → E 1 (.str "large") (.int 0)) (q3 : mac a b c < 400 ∨ 3000 < mac a b c) : Call (runF fs (k+3)) 4 [.own (.int x), .own (.int y), .own (.int z)] Q E := by
  refine call_intro rfl rfl ?_
  subst hx hy hz
  unfold c4
  exists imm_Sx, imm_Sg, flat_Sx, flat_Sg, wbi_lenS, wits_Sx, w2_inS, w2_ninS, w2_addS, w2_addSg, wslc_S, wsub_S, w2_ltS, w2_isN0, w2_isNi, w2_isNs, w2_isNS, w2_isNt, w2_isNl, w2_isNT, w2_isNL, w2_ntN0, w2_ntNi, w2_ntNs, w2_ntNS, w2_ntNt, w2_ntNl, w2_ntNT, w2_ntNL, w2_repL, w2_rep1, w2_repT, w2_repT1
  refine wcall_3 ?_
  exists imm_Sx, imm_Sg, flat_Sx, flat_Sg, wbi_lenS, wits_Sx, w2_inS, w2_ninS, w2_addS, w2_addSg, wslc_S, wsub_S, w2_ltS, w2_isN0, w2_isNi, w2_isNs, w2_isNS, w2_isNt, w2_isNl, w2_isNT, w2_isNL, w2_ntN0, w2_ntNi, w2_ntNs, w2_ntNS, w2_ntNt, w2_ntNl, w2_ntNT, w2_ntNL, w2_repL, w2_rep1, w2_repT, w2_repT1
  refine mac_ok _ a b c ha hb hc ?_
  (try exists imm_Sx, imm_Sg, flat_Sx, flat_Sg, wbi_lenS, wits_Sx, w2_inS, w2_ninS, w2_addS, w2_addSg, wslc_S, wsub_S, w2_ltS, w2_isN0, w2_isNi, w2_isNs, w2_isNS, w2_isNt, w2_isNl, w2_isNT, w2_isNL, w2_ntN0, w2_ntNi, w2_ntNs, w2_ntNS, w2_ntNt, w2_ntNl, w2_ntNT, w2_ntNL, w2_repL, w2_rep1, w2_repT, w2_repT1)
  refine wbS_if (fun h3 => ?_) (fun h3 => ?_) <;> (try simp only [decide_eq_true_eq, decide_eq_false_iff_not, Bool.or_eq_true, Bool.and_eq_true, Bool.or_eq_false_iff, Bool.and_eq_false_iff, Bool.not_eq_true', Bool.not_eq_false', Bool.not_eq_true, Bool.not_eq_false, Int.not_lt, Int.not_le, Bool.false_eq_true, Bool.true_eq_false, id] at h3)
  · (try exists imm_Sx, imm_Sg, flat_Sx, flat_Sg, wbi_lenS, wits_Sx, w2_inS, w2_ninS, w2_addS, w2_addSg, wslc_S, wsub_S, w2_ltS, w2_isN0, w2_isNi, w2_isNs, w2_isNS, w2_isNt, w2_isNl, w2_isNT, w2_isNL, w2_ntN0, w2_ntNi, w2_ntNs, w2_ntNS, w2_ntNt, w2_ntNl, w2_ntNT, w2_ntNL, w2_repL, w2_rep1, w2_repT, w2_repT1)
    exact q2 h3
  · have hm : mac a b c < 400 := by omega
    obtain ⟨ha0, hb0⟩ := q0 hm
    have hlen : (lpN b c (a * b) 0 [[]]).length ≤ 400 := by
      have := all3_of chk2_ok ha hb hc
      simp only [Bool.or_eq_true, decide_eq_true_eq, Bool.not_eq_true', decide_eq_false_iff_not] at this
      rcases this with ((h | h) | h) | h
      · have := beq_of h; omega
      · have := beq_of h; omega
      · omega
      · omega
    have hab : a * b ≤ 64 := Nat.mul_le_mul (show a ≤ 8 by omega) (show b ≤ 8 by omega)
    (try exists imm_Sx, imm_Sg, flat_Sx, flat_Sg, wbi_lenS, wits_Sx, w2_inS, w2_ninS, w2_addS, w2_addSg, wslc_S, wsub_S, w2_ltS, w2_isN0, w2_isNi, w2_isNs, w2_isNS, w2_isNt, w2_isNl, w2_isNT, w2_isNL, w2_ntN0, w2_ntNi, w2_ntNs, w2_ntNS, w2_ntNt, w2_ntNl, w2_ntNT, w2_ntNL, w2_repL, w2_rep1, w2_repT, w2_repT1)
    (repeat ((with_reducible refine And.intro ?_ ?_); focus (intros; first | (simp only [List.length_append, List.length_cons, List.length_nil]; omega) | ((with_reducible refine lenOk_of ?_); first | decide | omega) | ((with_reducible refine mulOk_l ?_); first | decide | omega) | ((with_reducible refine mulOk_r ?_); first | decide | omega) | ((with_reducible refine smallI_of ?_); omega) | ((with_reducible refine divOk_of ?_ ?_) <;> first | decide | omega) | exact And.intro (by omega) (by omega) | omega | (unfold kp; exact Or.inl rfl) | with_reducible rfl | with_reducible exact trivial)))
    rw [lst_p0 b]
    refine wfor_inv (f := PyData.int) (I := fun pre σ => ∃ (c4 c6 c7 : NI), σ = [some (.own (.int a)), some (.own (.int b)), some (.own (.int c)), some (.own (Ls (PT b pre.length) (lpN b c (pre.length * b) 0 [[]]))), c4.c, none, c6.c, c7.c, none])
      ⟨⟨none, rfl, rfl⟩, ⟨none, rfl, rfl⟩, ⟨none, rfl, rfl⟩, by rw [List.length_nil, Nat.zero_mul]; rfl⟩ ?_ ?_
    · rintro pre r suf σ hp ⟨c4, c6, c7, rfl⟩
      obtain ⟨g1, g2⟩ := rng_at hp
      have er : r = (pre.length : Int) := by omega
      subst er
      generalize hn : pre.length = n at *
      have hna : n < a := by omega
      have hnb : (n + 1) * b ≤ a * b := Nat.mul_le_mul_right b hna
      have e1 : (n + 1) * b = n * b + b := by rw [Nat.add_mul, Nat.one_mul]
      have hle := lpN_le hlen hnb
      have hfl : lpN b c ((n + 1) * b) 0 [[]] = (lpN b c (n * b) 0 [[]]).flatMap fun g => lpN b c b (n * b) [g] := by
        rw [e1, lpN_add, Nat.zero_add, lpN_flat b c b]
      rw [hfl] at hle
      exists imm_Sx, imm_Sg, flat_Sx, flat_Sg, wbi_lenS, wits_Sx, w2_inS, w2_ninS, w2_addS, w2_addSg, wslc_S, wsub_S, w2_ltS, w2_isN0, w2_isNi, w2_isNs, w2_isNS, w2_isNt, w2_isNl, w2_isNT, w2_isNL, w2_ntN0, w2_ntNi, w2_ntNs, w2_ntNS, w2_ntNt, w2_ntNl, w2_ntNT, w2_ntNL, w2_repL, w2_rep1, w2_repT, w2_repT1, lst0 (f := PT b (n + 1))
      (repeat ((with_reducible refine And.intro ?_ ?_); focus (intros; first | (simp only [List.length_append, List.length_cons, List.length_nil]; omega) | ((with_reducible refine lenOk_of ?_); first | decide | omega) | ((with_reducible refine mulOk_l ?_); first | decide | omega) | ((with_reducible refine mulOk_r ?_); first | decide | omega) | ((with_reducible refine smallI_of ?_); omega) | ((with_reducible refine divOk_of ?_ ?_) <;> first | decide | omega) | exact And.intro (by omega) (by omega) | omega | (unfold kp; exact Or.inl rfl) | with_reducible rfl | with_reducible exact trivial)))
      refine wfor_inv (f := PT b n) (I := fun pre' σ => ∃ (c6 c7 : NI), σ = [some (.own (.int a)), some (.own (.int b)), some (.own (.int c)), some (.fz (Ls (PT b n) (lpN b c (n * b) 0 [[]]))), some (.own (.int n)), some (.own (Ls (PT b (n + 1)) (pre'.flatMap fun g => lpN b c b (n * b) [g]))), c6.c, c7.c, none])
        ⟨c6, c7, rfl⟩ ?_ ?_
      · rintro pre' g suf' σ hp' ⟨c6, c7, rfl⟩
        obtain ⟨hgl, hgi⟩ := lp_inv hb0 (pre_mem hp')
        have hsl : (pre'.flatMap fun g => lpN b c b (n * b) [g]).length + (lpN b c b (n * b) [g]).length ≤ 400 := by
          rw [hp', List.flatMap_append, List.flatMap_cons, List.length_append, List.length_append] at hle
          omega
        have htl := tb_len n b (fe n b g)
        have fin : ∀ ab : List Int, ab.length = b → (g = [] → ∀ j, j < b → gz ab j = c) → (g ≠ [] → ∀ j, j < b → gz ab j = (ent g (b - 1 - j) : Nat)) → ∀ Q : D → Prop, Q (Ls (EN b) (lpN b c b (n * b) [g])) → Call (runF fs (k + 2)) 3 [.own (Tp .int ab), .own (.int c)] Q E := fun ab h1 h2 h3 Q hQ => by
          refine rbelow_ok (k + 1) ab b c g hc hb hb0 h1 (by rw [hgl, Nat.mul_mod_left]) (by omega) h2 h3 (by rw [hgl]; omega) ?_
          rw [hgl]; exact hQ
        exists imm_Sx, imm_Sg, flat_Sx, flat_Sg, wbi_lenS, wits_Sx, w2_inS, w2_ninS, w2_addS, w2_addSg, wslc_S, wsub_S, w2_ltS, w2_isN0, w2_isNi, w2_isNs, w2_isNS, w2_isNt, w2_isNl, w2_isNT, w2_isNL, w2_ntN0, w2_ntNi, w2_ntNs, w2_ntNS, w2_ntNt, w2_ntNl, w2_ntNT, w2_ntNL, w2_repL, w2_rep1, w2_repT, w2_repT1, PT
        refine ⟨fun _ => lenOk_of (by decide), fun _ => by omega, fun _ => by omega, fun h => ⟨by omega, by omega⟩, ?_⟩
        have habs : ∃ ab : List Int, (if (0 : Int) < ((tb n b (fe n b g)).length : Int) then pyg (tb n b (fe n b g)) (-1) else List.replicate (b : Int).toNat (c : Int)) = ab ∧ ab.length = b ∧ (g = [] → ∀ j, j < b → gz ab j = c) ∧ (g ≠ [] → ∀ j, j < b → gz ab j = (ent g (b - 1 - j) : Nat)) := by
          refine ⟨_, rfl, ?_⟩
          by_cases hn0 : n = 0
          · have hg0 : g = [] := List.length_eq_zero_iff.mp (by rw [hgl, hn0, Nat.zero_mul])
            rw [if_neg (by rw [htl]; omega), Int.toNat_natCast]
            refine ⟨List.length_replicate, fun _ j hj => ?_, fun h => absurd hg0 h⟩
            rw [gz_in (by rw [List.length_replicate]; exact hj), List.getElem_replicate]
          · have hg0 : g ≠ [] := fun e => by
              rw [e] at hgl
              have : 0 < n * b := Nat.mul_pos (by omega) hb0
              simp at hgl; omega
            have ep : pyg (tb n b (fe n b g)) (-1) = (List.range b).map fun k => fe n b g (n - 1) k := by
              unfold pyg
              rw [if_neg (by decide), htl, show (-1 + (n : Int)).toNat = n - 1 by omega, List.getD_eq_getElem?_getD, tb_get n b _ (by omega)]; rfl
            rw [if_pos (by rw [htl]; omega), ep]
            refine ⟨by simp, fun h => absurd h hg0, fun _ j hj => ?_⟩
            rw [gz_map, if_pos hj]
            unfold fe
            have e2 : (n - 1) * b + b = n * b := by
              have : n = (n - 1) + 1 := by omega
              conv => rhs; rw [this, Nat.add_mul, Nat.one_mul]
            rw [show n * b - 1 - ((n - 1) * b + j) = b - 1 - j by omega]
        obtain ⟨ab, eab, h1, h2, h3⟩ := habs
        rw [eab]
        have hg' : ∀ g' ∈ lpN b c b (n * b) [g], g'.length = n * b + b ∧ g'.drop b = g := fun g' hm => ⟨lpN_lens b (n * b) [g] (fun f' hf' => by rw [List.mem_singleton.mp hf']; exact hgl) g' hm, List.mem_singleton.mp (lpN_drop b (n * b) [g] g' hm)⟩
        refine wcall_2 ?_
        (try exists imm_Sx, imm_Sg, flat_Sx, flat_Sg, wbi_lenS, wits_Sx, w2_inS, w2_ninS, w2_addS, w2_addSg, wslc_S, wsub_S, w2_ltS, w2_isN0, w2_isNi, w2_isNs, w2_isNS, w2_isNt, w2_isNl, w2_isNT, w2_isNL, w2_ntN0, w2_ntNi, w2_ntNs, w2_ntNS, w2_ntNt, w2_ntNl, w2_ntNT, w2_ntNL, w2_repL, w2_rep1, w2_repT, w2_repT1)
        refine fin ab h1 h2 h3 _ ?_
        exists imm_Sx, imm_Sg, flat_Sx, flat_Sg, wbi_lenS, wits_Sx, w2_inS, w2_ninS, w2_addS, w2_addSg, wslc_S, wsub_S, w2_ltS, w2_isN0, w2_isNi, w2_isNs, w2_isNS, w2_isNt, w2_isNl, w2_isNT, w2_isNL, w2_ntN0, w2_ntNi, w2_ntNs, w2_ntNS, w2_ntNt, w2_ntNl, w2_ntNT, w2_ntNL, w2_repL, w2_rep1, w2_repT, w2_repT1
        refine wcomp_map1 (f := EN b) (PT b (n + 1)) (fun g' => g') true (fun g' hm => ?_) (by (try exists imm_Sx, imm_Sg, flat_Sx, flat_Sg, wbi_lenS, wits_Sx, w2_inS, w2_ninS, w2_addS, w2_addSg, wslc_S, wsub_S, w2_ltS, w2_isN0, w2_isNi, w2_isNs, w2_isNS, w2_isNt, w2_isNl, w2_isNT, w2_isNL, w2_ntN0, w2_ntNi, w2_ntNs, w2_ntNS, w2_ntNt, w2_ntNl, w2_ntNT, w2_ntNL, w2_repL, w2_rep1, w2_repT, w2_repT1)) rfl (by omega) fun b' hb' => ?_
        · obtain ⟨k1, k2⟩ := hg' g' hm
          have em := tb_more hgl k1 k2
          exists imm_Sx, imm_Sg, flat_Sx, flat_Sg, wbi_lenS, wits_Sx, w2_inS, w2_ninS, w2_addS, w2_addSg, wslc_S, wsub_S, w2_ltS, w2_isN0, w2_isNi, w2_isNs, w2_isNS, w2_isNt, w2_isNl, w2_isNT, w2_isNL, w2_ntN0, w2_ntNi, w2_ntNs, w2_ntNS, w2_ntNt, w2_ntNl, w2_ntNT, w2_ntNL, w2_repL, w2_rep1, w2_repT, w2_repT1, EN
          rw [tupT]
          simp -dsimp only [↓we.eq_1, ↓we.eq_2, ↓we.eq_3, ↓we.eq_4, ↓we.eq_5, ↓we.eq_6, ↓we.eq_7, ↓we.eq_8, ↓we.eq_9, ↓we.eq_10, ↓we.eq_11, ↓we.eq_12, ↓we.eq_13, ↓we.eq_14, ↓we.eq_15, ↓we.eq_16, ↓we.eq_17, ↓we.eq_18, ↓we.eq_19, ↓we.eq_20, ↓we.eq_21, ↓we.eq_22, ↓we.eq_23, ↓we.eq_24, ↓we.eq_25, ↓we.eq_26, ↓we.eq_27, ↓we.eq_28, ↓we.eq_29, ↓we.eq_30, ↓we.eq_31, ↓we.eq_32, ↓wes.eq_1, ↓wes.eq_2, ↓wa.eq_1, ↓wa.eq_2, ↓wa.eq_3, ↓wo.eq_1, ↓wo.eq_2, ↓wt.eq_1, ↓wt.eq_2, ↓wit.eq_1, ↓wit.eq_2, ↓wit.eq_3, ↓wit.eq_4, ↓wit.eq_5, ↓wit.eq_6, ↓wit.eq_7, ↓wit.eq_8, ↓wx.eq_1, ↓wx.eq_2, ↓wx.eq_3, ↓wxs.eq_1, ↓wxs.eq_2, ↓ws.eq_1, ↓ws.eq_2, ↓ws.eq_3, ↓ws.eq_4, ↓ws.eq_5, ↓ws.eq_6, ↓ws.eq_7, ↓ws.eq_8, ↓ws.eq_9, ↓ws.eq_10, ↓ws.eq_11, ↓ws.eq_12, ↓ws.eq_13, ↓ws.eq_14, ↓ws.eq_15, ↓ws.eq_16, ↓ws.eq_17, ↓ws.eq_18, ↓ws.eq_19, ↓wss.eq_1, ↓wss.eq_2, ↓wa_var, ↓wx_int, ↓wa_int, ↓wx_str, ↓wa_str, ↓wx_bl, ↓wa_bl, ↓wx_non, ↓wa_non, ↓wx_op2, ↓wa_op2, ↓wx_op1, ↓wa_op1, ↓wx_and, ↓wa_and, ↓wx_or, ↓wa_or, ↓wx_ite, ↓wa_ite, ↓wx_cmp3, ↓wa_cmp3, ↓wx_bi, ↓wa_bi, ↓wx_mt, ↓wa_mt, ↓wx_sub, ↓wa_sub, ↓wx_slc, ↓wa_slc, ↓wx_rev, ↓wa_rev, ↓wa_tup, ↓wa_lst, ↓wx_call, ↓wa_call, ↓wx_scrL, ↓wa_scrL, ↓wx_pop0, ↓wa_pop0, ↓wx_pop1, ↓wa_pop1, ↓wx_comp, ↓wa_comp, ↓wx_rng, ↓wa_rng, ↓wx_rng1, ↓wa_rng1, ↓wx_isBool, ↓wa_isBool, ↓wx_isTup, ↓wa_isTup, ↓wx_isInt, ↓wa_isInt, ↓wx_sset, ↓wx_comp2, ↓wa_comp2, ↓wa_sset, ↓gx_eq, ↓wown_eq, ↓wscr_eq, get_z, get_s, ↓gk_own, ↓gk_fz, ↓gk_bor, ↓gx_own, ↓gx_fz, ↓gx_bor, ↓wscr_s, noBor_n, noBor_z, noBor_o, noBor_f, noBor_s, freeze_z, freeze_s, frz1_o, frz1_f, frz1_s, frz1_n, frz1_b, freezes_n, freezes_c, imm_int, imm_bool, imm_str, imm_none, imm_list, imm_tuple, immAll_n, immAll_c, flat_int, flat_bool, flat_str, flat_none, flat_list, flat_tuple, kp_t, kp_f, kp_ft, ↓kpv_t, ↓kpv_f, kpv_fz, kpv_n, isFz_var, isfz_f, imm_Tp, flat_Tp, imm_Ls, flat_Ls, immAll_map, ↓w2_eq, ↓w2_ne, ↓w2_eqL, ↓w2_neL, ↓w2_inT, ↓w2_ninT, ↓w2_inL, ↓w2_ninL, ↓wmt_count, ↓w2_addT, ↓w2_addL, ↓wsub_T, ↓wsub_L, ↓wslc_T, ↓wslc_L, ↓wrev_T, ↓wrev_L, ↓wits_T, ↓wits_L, ↓wlist_L, ↓wlist_l, ↓wits_l, ↓wits_t, ↓wown_L, ↓wown_l, ↓wset_map, ↓wat_map, ↓wbi_lenT, ↓wbi_lenL, ↓wbi_tupL, ↓wbi_tupT, ↓wbi_lstL, ↓wbi_lstT, ↓wbi_sumT, ↓wbi_sumL, ↓wbi_allL, ↓wbi_anyL, ↓wbi_max2, ↓wbi_min2, ↓wbi_abs, ↓wbi_int, ↓wbi_intb, ↓w2_add, ↓w2_sub, ↓w2_mul, ↓w2_fdiv, ↓w2_mod, ↓w2_pow, ↓w2_lt, ↓w2_le, ↓w2_gt, ↓w2_ge, ↓w1_neg, ↓w1_not, ↓wi_i, ↓wv_b, ↓wb_t, ↓wb_f, ↓wand_b, ↓wand_c1, ↓wand_t, ↓wandE_t, ↓wandE_f, ↓worE_t, ↓worE_f, ↓wand_f, ↓wor_b, ↓wor_c1, ↓wor_t, ↓wor_f, ↓wnx_n, ↓wnx_r, ↓wnx_b, ↓wnx_k, ↓wbind_1, ↓wbind_2, ↓wbind_3, List.set_cons_zero, List.set_cons_succ, List.map_cons, List.map_nil, List.length_cons, List.length_nil, List.cons_append, List.nil_append, Bool.or_true, Bool.true_or, Bool.or_false, Bool.false_or, Bool.and_true, Bool.true_and, Bool.and_false, Bool.false_and, Bool.not_true, Bool.not_false, if_true, if_false, true_and, and_true, eff, effs, effo, effi, vars, varss, varso, varsi, List.replicate_succ, List.replicate_zero, Nat.reduceSub, Nat.reduceAdd, Nat.reduceLeDiff, Nat.reduceLT, ↓wbS_t, ↓wbS_f, ↓wite_t, ↓wite_f, ↓wite_c1, ↓wite_c2, ↓wite_int, ↓wite_bool, ↓wite_str, ↓wite_T, ↓wite_L, cellOf_q, arC_q, store_q, cond_true, cond_false, rangeD_q, list_rangeD, list_map_q, tuple_map_q, noBor_nb, ↓Turn_n, ↓Turn_k, ↓Turn_b, ↓Turn_r, map_snoc, sizeLine_q, List.length_map, decide_eq_true_eq, decide_eq_false_iff_not, Bool.and_eq_true, Bool.or_eq_true, Bool.not_eq_true', Bool.not_eq_false', map_rev_q, wipe_n, wipe_c, Bool.false_eq_true, ↓wtry_n, ↓wtry_c, hd_0, hd_1, hd_2, decide_true, decide_false, Nat.reduceEqDiff, reduceCtorEq, Option.isSome_some, noBor_ni, immAt_q, immc_ni, immc_o, immc_f, immc_b, immc_n, List.all_cons, List.all_nil, ↓witr_T, ↓witr_L, ↓wits_S, ↓wbi_sorted, map_app_q, enumD_q, ↓wbind_pr, ↓wsub_pr0, ↓wsub_pr1, imm_Pr, flat_Pr, restore_n, restore_c, Nat.max_self, imm_Sx, imm_Sg, flat_Sx, flat_Sg, wbi_lenS, wits_Sx, w2_inS, w2_ninS, w2_addS, w2_addSg, wslc_S, wsub_S, w2_ltS, w2_isN0, w2_isNi, w2_isNs, w2_isNS, w2_isNt, w2_isNl, w2_isNT, w2_isNL, w2_ntN0, w2_ntNi, w2_ntNs, w2_ntNS, w2_ntNt, w2_ntNl, w2_ntNT, w2_ntNL, w2_repL, w2_rep1, w2_repT, w2_repT1, ← em]
          exact ⟨lenOk_of (by decide), by rw [htl]; omega, rfl, fun _ => trivial⟩
        obtain rfl := hb' rfl
        rw [List.map_id']
        (try exists imm_Sx, imm_Sg, flat_Sx, flat_Sg, wbi_lenS, wits_Sx, w2_inS, w2_ninS, w2_addS, w2_addSg, wslc_S, wsub_S, w2_ltS, w2_isN0, w2_isNi, w2_isNs, w2_isNS, w2_isNt, w2_isNl, w2_isNT, w2_isNL, w2_ntN0, w2_ntNi, w2_ntNs, w2_ntNS, w2_ntNt, w2_ntNl, w2_ntNT, w2_ntNL, w2_repL, w2_rep1, w2_repT, w2_repT1)
        have im : immAll (List.map (PT b (n + 1)) (lpN b c b (n * b) [g])) = true := by
          have : List.map (PT b (n + 1)) (lpN b c b (n * b) [g]) = ((lpN b c b (n * b) [g]).map fun g => tb (n + 1) b (fe (n + 1) b g)).map (Tp (Tp .int)) := by rw [List.map_map]; rfl
          rw [this]
          exact immAll_map _
        exact ⟨im, lenOk_of (by omega), ⟨some (.own (Tp (Tp .int) (tb n b (fe n b g)))), rfl, imm_Tp _⟩, ⟨some (.own (Tp .int ab)), rfl, imm_Tp _⟩, by rw [List.flatMap_append, List.flatMap_singleton]⟩
      · rintro σ ⟨c6, c7, rfl⟩
        (try exists imm_Sx, imm_Sg, flat_Sx, flat_Sg, wbi_lenS, wits_Sx, w2_inS, w2_ninS, w2_addS, w2_addSg, wslc_S, wsub_S, w2_ltS, w2_isN0, w2_isNi, w2_isNs, w2_isNS, w2_isNt, w2_isNl, w2_isNT, w2_isNL, w2_ntN0, w2_ntNi, w2_ntNs, w2_ntNS, w2_ntNt, w2_ntNl, w2_ntNT, w2_ntNL, w2_repL, w2_rep1, w2_repT, w2_repT1)
        refine ⟨⟨some (.own (.int n)), rfl, rfl⟩, c6, c7, ?_⟩
        rw [List.length_append, hn, List.length_singleton, hfl]
    · rintro σ ⟨c4, c6, c7, rfl⟩
      rw [rng_len, show ((a : Int) - 0).toNat = a by omega]
      exists imm_Sx, imm_Sg, flat_Sx, flat_Sg, wbi_lenS, wits_Sx, w2_inS, w2_ninS, w2_addS, w2_addSg, wslc_S, wsub_S, w2_ltS, w2_isN0, w2_isNi, w2_isNs, w2_isNS, w2_isNt, w2_isNl, w2_isNT, w2_isNL, w2_ntN0, w2_ntNi, w2_ntNs, w2_ntNS, w2_ntNt, w2_ntNl, w2_ntNT, w2_ntNL, w2_repL, w2_rep1, w2_repT, w2_repT1, wbi_sorted
      refine ⟨sortB_PT a b _ (by omega) ha0, ?_⟩
      rw [stab_q]
      exists imm_Sx, imm_Sg, flat_Sx, flat_Sg, wbi_lenS, wits_Sx, w2_inS, w2_ninS, w2_addS, w2_addSg, wslc_S, wsub_S, w2_ltS, w2_isN0, w2_isNi, w2_isNs, w2_isNS, w2_isNt, w2_isNl, w2_isNT, w2_isNL, w2_ntN0, w2_ntNi, w2_ntNs, w2_ntNS, w2_ntNt, w2_ntNl, w2_ntNT, w2_ntNL, w2_repL, w2_rep1, w2_repT, w2_repT1
      have hfl : flat (Tp (PT b a) (stab a b c)) = true := by
        have : Tp (PT b a) (stab a b c) = Tp (Tp (Tp .int)) ((stab a b c).map fun g => tb a b (fe a b g)) := by unfold Tp PT; rw [List.map_map]; rfl
        rw [this]
        exact flat_Tp _
      exact ⟨hfl, q1 hm⟩
end K45
set_option Elab.async false
set_option linter.all false
set_option maxRecDepth 100000
set_option maxHeartbeats 1000000
namespace K45
open PySem PV
def rw' (t : List (List Int)) (r : Nat) : List Int := t.getD r []
def wd (t : List (List Int)) : Nat := (rw' t 0).length
def bk (t : List (List Int)) (c : Int) (r k : Nat) : Bool :=
  decide (gz (rw' t r) k < 0) || (decide (c < gz (rw' t r) k) || ((decide (0 < k) && decide (gz (rw' t r) (k - 1) < gz (rw' t r) k)) || (decide (0 < r) && decide (gz (rw' t (r - 1)) k < gz (rw' t r) k))))
def okr (t : List (List Int)) (c : Int) (r : Nat) : Bool := decide ((rw' t r).length = wd t) && (List.range (wd t)).all fun k => !bk t c r k
def fbr (t : List (List Int)) (c : Int) : Option Nat := (List.range t.length).find? fun r => !okr t c r
def bx (t : List (List Int)) (c : Int) : Prop := t.length ≤ 8 ∧ wd t ≤ 8 ∧ 0 ≤ c ∧ c ≤ 8
theorem fbr_some {t : List (List Int)} {c : Int} {r : Nat} (h : ∀ j, j < r → okr t c j = true) (hr : r < t.length) (hb : okr t c r = false) : fbr t c = some r := by
  unfold fbr
  rw [List.find?_range_eq_some]
  exact ⟨by rw [hb]; rfl, List.mem_range.mpr hr, fun j hj => by rw [h j hj]; rfl⟩
theorem fbr_none {t : List (List Int)} {c : Int} (h : ∀ j, j < t.length → okr t c j = true) : fbr t c = none := by
  unfold fbr
  rw [List.find?_eq_none]
  intro j hj
  rw [h j (List.mem_range.mp hj)]; decide
theorem pyg_rw {t : List (List Int)} {i : Int} (h : 0 ≤ i) : pyg t i = rw' t i.toNat := by
  unfold pyg rw'; rw [if_pos h]; rfl
theorem rw_some {t : List (List Int)} {r : Nat} {x : List Int} (h : t[r]? = some x) : rw' t r = x := by
  unfold rw'; rw [List.getD_eq_getElem?_getD, h]; rfl
theorem wd_q (t : List (List Int)) : (if (0 : Int) < (t.length : Int) then ((pyg t 0).length : Int) else 0) = (wd t : Nat) := by
  split
  · rw [pyg_rw (by decide)]; rfl
  · rename_i h
    have : t = [] := List.length_eq_zero_iff.mp (by omega)
    rw [this]; rfl
theorem okr_no {t : List (List Int)} {c : Int} {r k : Nat} (hk : k < wd t) (h : bk t c r k = true) : okr t c r = false := by
  unfold okr
  rw [Bool.and_eq_false_iff]
  right
  rw [List.all_eq_false]
  exact ⟨k, List.mem_range.mpr hk, by rw [h]; decide⟩
theorem okr_yes {t : List (List Int)} {c : Int} {r : Nat} (hl : (rw' t r).length = wd t) (h : ∀ k, k < wd t → bk t c r k = false) : okr t c r = true := by
  unfold okr
  rw [decide_eq_true hl, Bool.true_and, List.all_eq_true]
  intro k hk
  rw [h k (List.mem_range.mp hk)]; rfl
theorem okr_len {t : List (List Int)} {c : Int} {r : Nat} (h : okr t c r = true) : (rw' t r).length = wd t := by
  unfold okr at h
  rw [Bool.and_eq_true] at h
  exact of_decide_eq_true h.1
theorem okr_bk {t : List (List Int)} {c : Int} {r k : Nat} (h : okr t c r = true) (hk : k < wd t) : bk t c r k = false := by
  unfold okr at h
  rw [Bool.and_eq_true] at h
  have := List.all_eq_true.mp h.2 k (List.mem_range.mpr hk)
  simpa using this
theorem enl_pre {α : Type} {l : List α} {pre suf : List (Int × α)} {p : Int × α} (h : enl 0 l = pre ++ p :: suf) : p.1 = pre.length ∧ pre.length < l.length ∧ l[pre.length]? = some p.2 := by
  obtain ⟨h1, h2, _⟩ := enl_at h
  exact ⟨h1, (List.getElem?_eq_some_iff.mp h2).1, h2⟩
theorem bk_q1 (t : List (List Int)) (c : Int) (r k : Nat) : (!(decide (0 ≤ gz (rw' t r) k) && decide (gz (rw' t r) k ≤ c)) || ((decide ((0 : Int) < (k : Int)) && decide (pyg (rw' t r) ((k : Int) - 1) < gz (rw' t r) k)) || (decide ((0 : Int) < (r : Int)) && decide (pyg (pyg t ((r : Int) - 1)) (k : Int) < gz (rw' t r) k)))) = bk t c r k := by
  unfold bk
  have e1 : (decide ((0 : Int) < (k : Int)) && decide (pyg (rw' t r) ((k : Int) - 1) < gz (rw' t r) k)) = (decide (0 < k) && decide (gz (rw' t r) (k - 1) < gz (rw' t r) k)) := by
    by_cases z : 0 < k
    · rw [pyg_gz (by omega), show ((k : Int) - 1).toNat = k - 1 by omega, decide_eq_true z, decide_eq_true (by omega : (0 : Int) < (k : Int))]
    · rw [decide_eq_false z, decide_eq_false (by omega : ¬ (0 : Int) < (k : Int))]; rfl
  have e2 : (decide ((0 : Int) < (r : Int)) && decide (pyg (pyg t ((r : Int) - 1)) (k : Int) < gz (rw' t r) k)) = (decide (0 < r) && decide (gz (rw' t (r - 1)) k < gz (rw' t r) k)) := by
    by_cases z : 0 < r
    · rw [pyg_rw (t := t) (by omega), show ((r : Int) - 1).toNat = r - 1 by omega, pyg_gz (by omega), Int.toNat_natCast, decide_eq_true z, decide_eq_true (by omega : (0 : Int) < (r : Int))]
    · rw [decide_eq_false z, decide_eq_false (by omega : ¬ (0 : Int) < (r : Int))]; rfl
  rw [e1, e2, Bool.not_and, Bool.or_assoc]
  congr 1
  · by_cases h : gz (rw' t r) k < 0
    · rw [decide_eq_true h, decide_eq_false (by omega)]; rfl
    · rw [decide_eq_false h, decide_eq_true (by omega)]; rfl
  · congr 1
    by_cases h : c < gz (rw' t r) k
    · rw [decide_eq_true h, decide_eq_false (by omega)]; rfl
    · rw [decide_eq_false h, decide_eq_true (by omega)]; rfl
theorem bk_q2 (t : List (List Int)) (c : Int) (r k : Nat) : (decide (gz (rw' t r) k < 0) || (decide (c < gz (rw' t r) k) || ((decide ((0 : Int) < (k : Int)) && decide (pyg (rw' t r) ((k : Int) - 1) < gz (rw' t r) k)) || (decide ((0 : Int) < (r : Int)) && decide (pyg (pyg t ((r : Int) - 1)) (k : Int) < gz (rw' t r) k))))) = bk t c r k := by
  rw [← bk_q1, Bool.not_and, Bool.or_assoc]
  congr 1
  · by_cases h : gz (rw' t r) k < 0
    · rw [decide_eq_true h, decide_eq_false (by omega)]; rfl
    · rw [decide_eq_false h, decide_eq_true (by omega)]; rfl
  · congr 1
    by_cases h : c < gz (rw' t r) k
    · rw [decide_eq_true h, decide_eq_false (by omega)]; rfl
    · rw [decide_eq_false h, decide_eq_true (by omega)]; rfl
theorem check_ok (m : Nat) (t : List (List Int)) (c : Int) (hl : t.length ≤ 1000) (hw : ∀ r, (rw' t r).length ≤ 1000) {Q : D → Prop} {E : XE} (qb : ¬ bx t c → E 1 (.str "box") (.int 0)) (q1 : ∀ r : Nat, bx t c → fbr t c = some r → (rw' t r).length ≠ wd t → E 1 (.str "rows") (.int r)) (q2 : ∀ r : Nat, bx t c → fbr t c = some r → (rw' t r).length = wd t → E 1 (.str "order") (.int r)) (q3 : bx t c → fbr t c = none → Q .none) : Call (runF fs (m+2)) 1 [.own (Tp (Tp .int) t), .own (.int c)] Q E := by
  refine call_intro rfl rfl ?_
  unfold c1
  exists imm_Sx, imm_Sg, flat_Sx, flat_Sg, wbi_lenS, wits_Sx, w2_inS, w2_ninS, w2_addS, w2_addSg, wslc_S, wsub_S, w2_ltS, w2_isN0, w2_isNi, w2_isNs, w2_isNS, w2_isNt, w2_isNl, w2_isNT, w2_isNL, w2_ntN0, w2_ntNi, w2_ntNs, w2_ntNS, w2_ntNt, w2_ntNl, w2_ntNT, w2_ntNL, w2_repL, w2_rep1, w2_repT, w2_repT1
  refine ⟨fun h => ⟨by omega, by omega⟩, ?_⟩
  rw [wd_q]
  refine wcall_3 ?_
  (try exists imm_Sx, imm_Sg, flat_Sx, flat_Sg, wbi_lenS, wits_Sx, w2_inS, w2_ninS, w2_addS, w2_addSg, wslc_S, wsub_S, w2_ltS, w2_isN0, w2_isNi, w2_isNs, w2_isNS, w2_isNt, w2_isNl, w2_isNT, w2_isNL, w2_ntN0, w2_ntNi, w2_ntNs, w2_ntNS, w2_ntNt, w2_ntNl, w2_ntNT, w2_ntNL, w2_repL, w2_rep1, w2_repT, w2_repT1)
  refine box_ok _ _ _ _ (fun hb => ?_) (fun hb => qb fun h => hb (by unfold inB; unfold bx at h; omega))
  have hbx : bx t c := by unfold inB at hb; unfold bx; omega
  (try exists imm_Sx, imm_Sg, flat_Sx, flat_Sg, wbi_lenS, wits_Sx, w2_inS, w2_ninS, w2_addS, w2_addSg, wslc_S, wsub_S, w2_ltS, w2_isN0, w2_isNi, w2_isNs, w2_isNS, w2_isNt, w2_isNl, w2_isNT, w2_isNL, w2_ntN0, w2_ntNi, w2_ntNs, w2_ntNS, w2_ntNt, w2_ntNl, w2_ntNT, w2_ntNL, w2_repL, w2_rep1, w2_repT, w2_repT1)
  refine wfor_inv (f := Pr PyData.int (Tp PyData.int)) (I := fun pre σ => (∀ j, j < pre.length → okr t c j = true) ∧ ∃ (c2 c3 c4 c5 : NI), σ = [some (.own (Tp (Tp .int) t)), some (.own (.int c)), c2.c, c3.c, c4.c, c5.c]) ⟨fun j hj => absurd hj (by simp), ⟨none, rfl, rfl⟩, ⟨none, rfl, rfl⟩, ⟨none, rfl, rfl⟩, ⟨none, rfl, rfl⟩, rfl⟩ ?_ ?_
  · rintro pre ⟨p1, x⟩ suf σ hp ⟨hb, c2, c3, c4, c5, rfl⟩
    obtain ⟨g1, g2, g3⟩ := enl_pre hp
    simp only at g1 g3
    subst g1
    obtain rfl := rw_some g3
    generalize hn : pre.length = r at *
    have ewd : (pyg t 0).length = wd t := by rw [pyg_rw (by decide)]; rfl
    exists imm_Sx, imm_Sg, flat_Sx, flat_Sg, wbi_lenS, wits_Sx, w2_inS, w2_ninS, w2_addS, w2_addSg, wslc_S, wsub_S, w2_ltS, w2_isN0, w2_isNi, w2_isNs, w2_isNS, w2_isNt, w2_isNl, w2_isNT, w2_isNL, w2_ntN0, w2_ntNi, w2_ntNs, w2_ntNS, w2_ntNt, w2_ntNl, w2_ntNT, w2_ntNL, w2_repL, w2_rep1, w2_repT, w2_repT1
    refine ⟨⟨by omega, by omega⟩, ?_⟩
    rw [ewd]
    by_cases hle : (rw' t r).length = wd t
    · rw [show decide (((rw' t r).length : Int) = (wd t : Nat)) = true from decide_eq_true (by omega)]
      (try exists imm_Sx, imm_Sg, flat_Sx, flat_Sg, wbi_lenS, wits_Sx, w2_inS, w2_ninS, w2_addS, w2_addSg, wslc_S, wsub_S, w2_ltS, w2_isN0, w2_isNi, w2_isNs, w2_isNS, w2_isNt, w2_isNl, w2_isNT, w2_isNL, w2_ntN0, w2_ntNi, w2_ntNs, w2_ntNS, w2_ntNt, w2_ntNl, w2_ntNT, w2_ntNL, w2_repL, w2_rep1, w2_repT, w2_repT1)
      refine wfor_inv (f := Pr PyData.int PyData.int) (I := fun pre' σ => (∀ k, k < pre'.length → bk t c r k = false) ∧ ∃ (c4 c5 : NI), σ = [some (.own (Tp (Tp .int) t)), some (.own (.int c)), some (.own (.int r)), some (.own (Tp .int (rw' t r))), c4.c, c5.c]) ⟨fun j hj => absurd hj (by simp), c4, c5, rfl⟩ ?_ ?_
      · rintro pre' ⟨p1, x⟩ suf' σ hp' ⟨hk, c4, c5, rfl⟩
        obtain ⟨f1, f2, f3⟩ := enl_pre hp'
        simp only at f1 f3
        subst f1
        have ex : x = gz (rw' t r) pre'.length := by unfold gz; rw [List.getD_eq_getElem?_getD, f3]; rfl
        subst ex
        generalize hm : pre'.length = k at *
        have eb := bk_q1 t c r k
        have hprev : 0 < r → (pyg t ((r : Int) - 1)).length = wd t := fun z => by
          rw [pyg_rw (by omega), show ((r : Int) - 1).toNat = r - 1 by omega, okr_len (hb (r - 1) (by omega))]
        exists imm_Sx, imm_Sg, flat_Sx, flat_Sg, wbi_lenS, wits_Sx, w2_inS, w2_ninS, w2_addS, w2_addSg, wslc_S, wsub_S, w2_ltS, w2_isN0, w2_isNi, w2_isNs, w2_isNS, w2_isNt, w2_isNl, w2_isNT, w2_isNL, w2_ntN0, w2_ntNi, w2_ntNs, w2_ntNS, w2_ntNt, w2_ntNl, w2_ntNT, w2_ntNL, w2_repL, w2_rep1, w2_repT, w2_repT1
        refine ⟨fun _ z => ⟨by omega, by omega⟩, fun _ _ z => ⟨by omega, by omega⟩, fun _ _ z => by rw [hprev (by omega)]; exact ⟨by omega, by omega⟩, ?_⟩
        rw [eb]
        refine wbS_if (fun h0 => ?_) (fun h0 => ?_) <;> (try simp only [decide_eq_true_eq, decide_eq_false_iff_not, Bool.or_eq_true, Bool.and_eq_true, Bool.or_eq_false_iff, Bool.and_eq_false_iff, Bool.not_eq_true', Bool.not_eq_false', Bool.not_eq_true, Bool.not_eq_false, Int.not_lt, Int.not_le, Bool.false_eq_true, Bool.true_eq_false, id] at h0)
        · exists imm_Sx, imm_Sg, flat_Sx, flat_Sg, wbi_lenS, wits_Sx, w2_inS, w2_ninS, w2_addS, w2_addSg, wslc_S, wsub_S, w2_ltS, w2_isN0, w2_isNi, w2_isNs, w2_isNS, w2_isNt, w2_isNl, w2_isNT, w2_isNL, w2_ntN0, w2_ntNi, w2_ntNs, w2_ntNS, w2_ntNt, w2_ntNl, w2_ntNT, w2_ntNL, w2_repL, w2_rep1, w2_repT, w2_repT1
          exact q2 r hbx (fbr_some hb (by omega) (okr_no (by omega) h0)) hle
        · exists imm_Sx, imm_Sg, flat_Sx, flat_Sg, wbi_lenS, wits_Sx, w2_inS, w2_ninS, w2_addS, w2_addSg, wslc_S, wsub_S, w2_ltS, w2_isN0, w2_isNi, w2_isNs, w2_isNS, w2_isNt, w2_isNl, w2_isNT, w2_isNL, w2_ntN0, w2_ntNi, w2_ntNs, w2_ntNS, w2_ntNt, w2_ntNl, w2_ntNT, w2_ntNL, w2_repL, w2_rep1, w2_repT, w2_repT1
          refine ⟨fun j hj => ?_, ⟨some (.own (.int k)), rfl, rfl⟩, ⟨some (.own (.int (gz (rw' t r) k))), rfl, rfl⟩, rfl⟩
          rw [List.length_append, List.length_singleton, hm] at hj
          by_cases e : j = k
          · rw [e]; exact h0
          · exact hk j (by omega)
      · rintro σ ⟨hk, c4, c5, rfl⟩
        rw [enl_len, hle] at hk
        have hok := okr_yes hle hk
        (try exists imm_Sx, imm_Sg, flat_Sx, flat_Sg, wbi_lenS, wits_Sx, w2_inS, w2_ninS, w2_addS, w2_addSg, wslc_S, wsub_S, w2_ltS, w2_isN0, w2_isNi, w2_isNs, w2_isNS, w2_isNt, w2_isNl, w2_isNT, w2_isNL, w2_ntN0, w2_ntNi, w2_ntNs, w2_ntNS, w2_ntNt, w2_ntNl, w2_ntNT, w2_ntNL, w2_repL, w2_rep1, w2_repT, w2_repT1)
        refine ⟨fun j hj => ?_, ⟨some (.own (.int r)), rfl, rfl⟩, ⟨some (.own (Tp .int (rw' t r))), rfl, imm_Tp _⟩, c4, c5, rfl⟩
        rw [List.length_append, List.length_singleton, hn] at hj
        by_cases e : j = r
        · rw [e]; exact hok
        · exact hb j (by omega)
    · rw [show decide (((rw' t r).length : Int) = (wd t : Nat)) = false from decide_eq_false (by omega)]
      (try exists imm_Sx, imm_Sg, flat_Sx, flat_Sg, wbi_lenS, wits_Sx, w2_inS, w2_ninS, w2_addS, w2_addSg, wslc_S, wsub_S, w2_ltS, w2_isN0, w2_isNi, w2_isNs, w2_isNS, w2_isNt, w2_isNl, w2_isNT, w2_isNL, w2_ntN0, w2_ntNi, w2_ntNs, w2_ntNS, w2_ntNt, w2_ntNl, w2_ntNT, w2_ntNL, w2_repL, w2_rep1, w2_repT, w2_repT1)
      refine q1 r hbx (fbr_some hb (by omega) ?_) hle
      unfold okr
      rw [decide_eq_false hle]; rfl
  · rintro σ ⟨hb, c2, c3, c4, c5, rfl⟩
    rw [enl_len] at hb
    have hn := fbr_none hb
    (try exists imm_Sx, imm_Sg, flat_Sx, flat_Sg, wbi_lenS, wits_Sx, w2_inS, w2_ninS, w2_addS, w2_addSg, wslc_S, wsub_S, w2_ltS, w2_isN0, w2_isNi, w2_isNs, w2_isNS, w2_isNt, w2_isNl, w2_isNT, w2_isNL, w2_ntN0, w2_ntNi, w2_ntNs, w2_ntNS, w2_ntNt, w2_ntNl, w2_ntNT, w2_ntNL, w2_repL, w2_rep1, w2_repT, w2_repT1)
    exact q3 hbx hn
theorem lerr_ok (m : Nat) (t : List (List Int)) (c : Int) (hl : t.length ≤ 1000) (hw : ∀ r, (rw' t r).length ≤ 1000) {Q : D → Prop} {E : XE} (qb : ¬ bx t c → Q (.tuple [.str "box", .int 0])) (q1 : ∀ r : Nat, bx t c → fbr t c = some r → (rw' t r).length ≠ wd t → Q (.tuple [.str "rows", .int r])) (q2 : ∀ r : Nat, bx t c → fbr t c = some r → (rw' t r).length = wd t → Q (.tuple [.str "order", .int r])) (q3 : bx t c → fbr t c = none → Q .none) : Call (runF fs (m+1)) 16 [.own (Tp (Tp .int) t), .own (.int c)] Q E := by
  refine call_intro rfl rfl ?_
  unfold c16
  exists imm_Sx, imm_Sg, flat_Sx, flat_Sg, wbi_lenS, wits_Sx, w2_inS, w2_ninS, w2_addS, w2_addSg, wslc_S, wsub_S, w2_ltS, w2_isN0, w2_isNi, w2_isNs, w2_isNS, w2_isNt, w2_isNl, w2_isNT, w2_isNL, w2_ntN0, w2_ntNi, w2_ntNs, w2_ntNS, w2_ntNt, w2_ntNl, w2_ntNT, w2_ntNL, w2_repL, w2_rep1, w2_repT, w2_repT1
  refine ⟨fun h => ⟨by omega, by omega⟩, ?_⟩
  rw [wd_q]
  have eb : (decide (8 < (t.length : Int)) || (decide (8 < ((wd t : Nat) : Int)) || !(decide (0 ≤ c) && decide (c ≤ 8)))) = false ↔ bx t c := by
    unfold bx
    simp only [Bool.or_eq_false_iff, decide_eq_false_iff_not, Bool.not_eq_false', Bool.and_eq_true, decide_eq_true_eq]
    omega
  refine wbS_if (fun h => ?_) (fun h => ?_)
  · (try exists imm_Sx, imm_Sg, flat_Sx, flat_Sg, wbi_lenS, wits_Sx, w2_inS, w2_ninS, w2_addS, w2_addSg, wslc_S, wsub_S, w2_ltS, w2_isN0, w2_isNi, w2_isNs, w2_isNS, w2_isNt, w2_isNl, w2_isNT, w2_isNL, w2_ntN0, w2_ntNi, w2_ntNs, w2_ntNS, w2_ntNt, w2_ntNl, w2_ntNT, w2_ntNL, w2_repL, w2_rep1, w2_repT, w2_repT1)
    exact ⟨lenOk_of (by decide), qb fun z => by rw [eb.mpr z] at h; cases h⟩
  have hbx := eb.mp h
  (try exists imm_Sx, imm_Sg, flat_Sx, flat_Sg, wbi_lenS, wits_Sx, w2_inS, w2_ninS, w2_addS, w2_addSg, wslc_S, wsub_S, w2_ltS, w2_isN0, w2_isNi, w2_isNs, w2_isNS, w2_isNt, w2_isNl, w2_isNT, w2_isNL, w2_ntN0, w2_ntNi, w2_ntNs, w2_ntNS, w2_ntNt, w2_ntNl, w2_ntNT, w2_ntNL, w2_repL, w2_rep1, w2_repT, w2_repT1)
  (repeat ((with_reducible refine And.intro ?_ ?_); focus (intros; first | (simp only [List.length_append, List.length_cons, List.length_nil]; omega) | ((with_reducible refine lenOk_of ?_); first | decide | omega) | ((with_reducible refine mulOk_l ?_); first | decide | omega) | ((with_reducible refine mulOk_r ?_); first | decide | omega) | ((with_reducible refine smallI_of ?_); omega) | ((with_reducible refine divOk_of ?_ ?_) <;> first | decide | omega) | exact And.intro (by omega) (by omega) | omega | (unfold kp; exact Or.inl rfl) | with_reducible rfl | with_reducible exact trivial)))
  try simp only [wd_q]
  refine wfor_inv (f := PyData.int) (I := fun pre σ => (∀ j, j < pre.length → okr t c j = true) ∧ ∃ (c3 c4 c5 : NI), σ = [some (.own (Tp (Tp .int) t)), some (.own (.int c)), some (.own (.int (wd t : Nat))), c3.c, c4.c, c5.c]) ⟨fun j hj => absurd hj (by simp), ⟨none, rfl, rfl⟩, ⟨none, rfl, rfl⟩, ⟨none, rfl, rfl⟩, rfl⟩ ?_ ?_
  · rintro pre r suf σ hp ⟨hb, c3, c4, c5, rfl⟩
    obtain ⟨g1, g2⟩ := rng_at hp
    have er : r = (pre.length : Int) := by omega
    subst er
    generalize hn : pre.length = r at *
    have erw : pyg t (r : Int) = rw' t r := by rw [pyg_rw (by omega), Int.toNat_natCast]
    exists imm_Sx, imm_Sg, flat_Sx, flat_Sg, wbi_lenS, wits_Sx, w2_inS, w2_ninS, w2_addS, w2_addSg, wslc_S, wsub_S, w2_ltS, w2_isN0, w2_isNi, w2_isNs, w2_isNS, w2_isNt, w2_isNl, w2_isNT, w2_isNL, w2_ntN0, w2_ntNi, w2_ntNs, w2_ntNS, w2_ntNt, w2_ntNl, w2_ntNT, w2_ntNL, w2_repL, w2_rep1, w2_repT, w2_repT1, erw
    refine ⟨⟨by omega, by omega⟩, ?_⟩
    by_cases hle : (rw' t r).length = wd t
    · rw [show decide (((rw' t r).length : Int) = (wd t : Nat)) = true from decide_eq_true (by omega)]
      have hwr := hw r
      (try exists imm_Sx, imm_Sg, flat_Sx, flat_Sg, wbi_lenS, wits_Sx, w2_inS, w2_ninS, w2_addS, w2_addSg, wslc_S, wsub_S, w2_ltS, w2_isN0, w2_isNi, w2_isNs, w2_isNS, w2_isNt, w2_isNl, w2_isNT, w2_isNL, w2_ntN0, w2_ntNi, w2_ntNs, w2_ntNS, w2_ntNt, w2_ntNl, w2_ntNT, w2_ntNL, w2_repL, w2_rep1, w2_repT, w2_repT1)
      (repeat ((with_reducible refine And.intro ?_ ?_); focus (intros; first | (simp only [List.length_append, List.length_cons, List.length_nil]; omega) | ((with_reducible refine lenOk_of ?_); first | decide | omega) | ((with_reducible refine mulOk_l ?_); first | decide | omega) | ((with_reducible refine mulOk_r ?_); first | decide | omega) | ((with_reducible refine smallI_of ?_); omega) | ((with_reducible refine divOk_of ?_ ?_) <;> first | decide | omega) | exact And.intro (by omega) (by omega) | omega | (unfold kp; exact Or.inl rfl) | with_reducible rfl | with_reducible exact trivial)))
      refine wfor_inv (f := PyData.int) (I := fun pre' σ => (∀ k, k < pre'.length → bk t c r k = false) ∧ ∃ (c4 c5 : NI), σ = [some (.own (Tp (Tp .int) t)), some (.own (.int c)), some (.own (.int (wd t : Nat))), some (.own (.int r)), c4.c, c5.c]) ⟨fun j hj => absurd hj (by simp), c4, c5, rfl⟩ ?_ ?_
      · rintro pre' k suf' σ hp' ⟨hk, c4, c5, rfl⟩
        obtain ⟨f1, f2⟩ := rng_at hp'
        have ek : k = (pre'.length : Int) := by omega
        subst ek
        generalize hm : pre'.length = k at *
        have eb := bk_q2 t c r k
        have eg : pyg (rw' t r) (k : Int) = gz (rw' t r) k := by rw [pyg_gz (by omega), Int.toNat_natCast]
        have hprev : 0 < r → (pyg t ((r : Int) - 1)).length = wd t := fun z => by
          rw [pyg_rw (by omega), show ((r : Int) - 1).toNat = r - 1 by omega, okr_len (hb (r - 1) (by omega))]
        exists imm_Sx, imm_Sg, flat_Sx, flat_Sg, wbi_lenS, wits_Sx, w2_inS, w2_ninS, w2_addS, w2_addSg, wslc_S, wsub_S, w2_ltS, w2_isN0, w2_isNi, w2_isNs, w2_isNS, w2_isNt, w2_isNl, w2_isNT, w2_isNL, w2_ntN0, w2_ntNi, w2_ntNs, w2_ntNS, w2_ntNt, w2_ntNl, w2_ntNT, w2_ntNL, w2_repL, w2_rep1, w2_repT, w2_repT1, erw, eg
        refine ⟨⟨by omega, by omega⟩, ⟨by omega, by omega⟩, fun _ _ z => ⟨by omega, by omega⟩, fun _ _ z => ⟨by omega, by omega⟩, fun _ _ _ z => ⟨by omega, by omega⟩, fun _ _ _ z => by rw [hprev (by omega)]; exact ⟨by omega, by omega⟩, ?_⟩
        rw [eb]
        refine wbS_if (fun h0 => ?_) (fun h0 => ?_) <;> (try simp only [decide_eq_true_eq, decide_eq_false_iff_not, Bool.or_eq_true, Bool.and_eq_true, Bool.or_eq_false_iff, Bool.and_eq_false_iff, Bool.not_eq_true', Bool.not_eq_false', Bool.not_eq_true, Bool.not_eq_false, Int.not_lt, Int.not_le, Bool.false_eq_true, Bool.true_eq_false, id] at h0)
        · exists imm_Sx, imm_Sg, flat_Sx, flat_Sg, wbi_lenS, wits_Sx, w2_inS, w2_ninS, w2_addS, w2_addSg, wslc_S, wsub_S, w2_ltS, w2_isN0, w2_isNi, w2_isNs, w2_isNS, w2_isNt, w2_isNl, w2_isNT, w2_isNL, w2_ntN0, w2_ntNi, w2_ntNs, w2_ntNS, w2_ntNt, w2_ntNl, w2_ntNT, w2_ntNL, w2_repL, w2_rep1, w2_repT, w2_repT1
          exact ⟨lenOk_of (by decide), q2 r hbx (fbr_some hb (by omega) (okr_no (by omega) h0)) hle⟩
        · exists imm_Sx, imm_Sg, flat_Sx, flat_Sg, wbi_lenS, wits_Sx, w2_inS, w2_ninS, w2_addS, w2_addSg, wslc_S, wsub_S, w2_ltS, w2_isN0, w2_isNi, w2_isNs, w2_isNS, w2_isNt, w2_isNl, w2_isNT, w2_isNL, w2_ntN0, w2_ntNi, w2_ntNs, w2_ntNS, w2_ntNt, w2_ntNl, w2_ntNT, w2_ntNL, w2_repL, w2_rep1, w2_repT, w2_repT1
          try simp only [erw, eg]
          refine ⟨fun j hj => ?_, ⟨some (.own (.int k)), rfl, rfl⟩, ⟨some (.own (.int (gz (rw' t r) k))), rfl, rfl⟩, rfl⟩
          rw [List.length_append, List.length_singleton, hm] at hj
          by_cases e : j = k
          · rw [e]; exact h0
          · exact hk j (by omega)
      · rintro σ ⟨hk, c4, c5, rfl⟩
        rw [rng_len, show (((wd t : Nat) : Int) - 0).toNat = wd t by omega] at hk
        have hok := okr_yes hle hk
        (try exists imm_Sx, imm_Sg, flat_Sx, flat_Sg, wbi_lenS, wits_Sx, w2_inS, w2_ninS, w2_addS, w2_addSg, wslc_S, wsub_S, w2_ltS, w2_isN0, w2_isNi, w2_isNs, w2_isNS, w2_isNt, w2_isNl, w2_isNT, w2_isNL, w2_ntN0, w2_ntNi, w2_ntNs, w2_ntNS, w2_ntNt, w2_ntNl, w2_ntNT, w2_ntNL, w2_repL, w2_rep1, w2_repT, w2_repT1)
        refine ⟨fun j hj => ?_, ⟨some (.own (.int r)), rfl, rfl⟩, c4, c5, rfl⟩
        rw [List.length_append, List.length_singleton, hn] at hj
        by_cases e : j = r
        · rw [e]; exact hok
        · exact hb j (by omega)
    · rw [show decide (((rw' t r).length : Int) = (wd t : Nat)) = false from decide_eq_false (by omega)]
      (try exists imm_Sx, imm_Sg, flat_Sx, flat_Sg, wbi_lenS, wits_Sx, w2_inS, w2_ninS, w2_addS, w2_addSg, wslc_S, wsub_S, w2_ltS, w2_isN0, w2_isNi, w2_isNs, w2_isNS, w2_isNt, w2_isNl, w2_isNT, w2_isNL, w2_ntN0, w2_ntNi, w2_ntNs, w2_ntNS, w2_ntNt, w2_ntNl, w2_ntNT, w2_ntNL, w2_repL, w2_rep1, w2_repT, w2_repT1)
      refine ⟨lenOk_of (by decide), q1 r hbx (fbr_some hb (by omega) ?_) hle⟩
      unfold okr
      rw [decide_eq_false hle]; rfl
  · rintro σ ⟨hb, c3, c4, c5, rfl⟩
    rw [rng_len, show ((t.length : Int) - 0).toNat = t.length by omega] at hb
    have hn := fbr_none hb
    (try exists imm_Sx, imm_Sg, flat_Sx, flat_Sg, wbi_lenS, wits_Sx, w2_inS, w2_ninS, w2_addS, w2_addSg, wslc_S, wsub_S, w2_ltS, w2_isN0, w2_isNi, w2_isNs, w2_isNS, w2_isNt, w2_isNl, w2_isNT, w2_isNL, w2_ntN0, w2_ntNi, w2_ntNs, w2_ntNS, w2_ntNt, w2_ntNl, w2_ntNT, w2_ntNL, w2_repL, w2_rep1, w2_repT, w2_repT1)
    exact q3 hbx hn
end K45
set_option Elab.async false
set_option linter.all false
set_option maxRecDepth 100000
set_option maxHeartbeats 1000000
namespace K45
open PySem PV
theorem rw_tb (a b : Nat) (f : Nat → Nat → Int) {r : Nat} (h : r < a) : rw' (tb a b f) r = (List.range b).map fun k => f r k := rw_some (tb_get a b f h)
theorem wd_tb (a b : Nat) (f : Nat → Nat → Int) (h : 0 < a) : wd (tb a b f) = b := by
  unfold wd; rw [rw_tb a b f h]; simp
theorem T_ok {a b : Nat} {c : Int} {f : Nat → Nat → Int} (hT : T a b c f) (ha : 0 < a) : fbr (tb a b f) c = none := by
  refine fbr_none fun r hr => ?_
  rw [tb_len] at hr
  refine okr_yes (by rw [rw_tb a b f hr, wd_tb a b f ha]; simp) fun k hk => ?_
  rw [wd_tb a b f ha] at hk
  have e : ∀ r', r' < a → ∀ k', k' < b → gz (rw' (tb a b f) r') k' = f r' k' := fun r' hr' k' hk' => by
    rw [rw_tb a b f hr', gz_map, if_pos hk']
  unfold bk
  rw [e r hr k hk]
  have h1 := hT.lo r k hr hk
  have h2 := hT.hi r k hr hk
  rw [decide_eq_false (by omega : ¬ f r k < 0), decide_eq_false (by omega : ¬ c < f r k)]
  have e1 : (decide (0 < k) && decide (gz (rw' (tb a b f) r) (k - 1) < f r k)) = false := by
    by_cases z : 0 < k
    · rw [e r hr (k - 1) (by omega)]
      have := hT.row r (k - 1) hr (by omega)
      rw [show k - 1 + 1 = k by omega] at this
      rw [decide_eq_false (by omega : ¬ f r (k - 1) < f r k), Bool.and_false]
    · rw [decide_eq_false z]; rfl
  have e2 : (decide (0 < r) && decide (gz (rw' (tb a b f) (r - 1)) k < f r k)) = false := by
    by_cases z : 0 < r
    · rw [e (r - 1) (by omega) k hk]
      have := hT.col (r - 1) k (by omega) hk
      rw [show r - 1 + 1 = r by omega] at this
      rw [decide_eq_false (by omega : ¬ f (r - 1) k < f r k), Bool.and_false]
    · rw [decide_eq_false z]; rfl
  rw [e1, e2]; rfl
theorem chkT (m : Nat) {a b : Nat} {c : Int} {f : Nat → Nat → Int} (hT : T a b c f) (ha : 0 < a) (ha8 : a ≤ 8) (hb8 : b ≤ 8) (hc : 0 ≤ c ∧ c ≤ 8) {Q : D → Prop} {E : XE} (q : Q .none) : Call (runF fs (m+2)) 1 [.own (Tp (Tp .int) (tb a b f)), .own (.int c)] Q E := by
  have hn := T_ok hT ha
  have hbx : bx (tb a b f) c := ⟨by rw [tb_len]; exact ha8, by rw [wd_tb a b f ha]; exact hb8, hc.1, hc.2⟩
  have hr : ∀ r, (rw' (tb a b f) r).length ≤ 1000 := fun r => by
    by_cases h : r < a
    · rw [rw_tb a b f h]; simp; omega
    · unfold rw'
      rw [List.getD_eq_getElem?_getD, List.getElem?_eq_none (by rw [tb_len]; omega)]; simp
  refine check_ok m _ c (by rw [tb_len]; omega) hr (fun h => absurd hbx h) (fun r _ h => ?_) (fun r _ h => ?_) (fun _ _ => q)
  · rw [hn] at h; cases h
  · rw [hn] at h; cases h
/-! turned around -/
def cm (c : Int) (t : List (List Int)) : List (List Int) := t.reverse.map fun row => row.reverse.map fun v => c - v
theorem cm_cm (c : Int) (t : List (List Int)) : cm c (cm c t) = t := by
  unfold cm
  rw [← List.map_reverse, List.reverse_reverse, List.map_map]
  have : ((fun row : List Int => row.reverse.map fun v => c - v) ∘ fun row => row.reverse.map fun v => c - v) = id := by
    funext row
    simp only [Function.comp, id]
    rw [← List.map_reverse, List.reverse_reverse, List.map_map]
    have : ((fun v : Int => c - v) ∘ fun v => c - v) = id := by funext v; simp only [Function.comp, id]; omega
    rw [this, List.map_id]
  rw [this, List.map_id]
theorem rev_range {α : Type} (n : Nat) (f : Nat → α) : ((List.range n).map f).reverse = (List.range n).map fun i => f (n - 1 - i) := by
  refine List.ext_getElem (by simp) fun i h1 h2 => ?_
  simp
def cf (a b : Nat) (c : Int) (f : Nat → Nat → Int) (r k : Nat) : Int := c - f (a - 1 - r) (b - 1 - k)
theorem cm_tb (a b : Nat) (c : Int) (f : Nat → Nat → Int) : cm c (tb a b f) = tb a b (cf a b c f) := by
  unfold cm tb cf
  rw [rev_range, List.map_map]
  refine List.map_congr_left fun r _ => ?_
  simp only [Function.comp]
  rw [rev_range, List.map_map]; rfl
theorem cf_T {a b : Nat} {c : Int} {f : Nat → Nat → Int} (h : T a b c f) : T a b c (cf a b c f) := by
  refine ⟨fun r k hr hk => ?_, fun r k hr hk => ?_, fun r k hr hk => ?_, fun r k hr hk => ?_⟩
  · have := h.hi (a - 1 - r) (b - 1 - k) (by omega) (by omega); unfold cf; omega
  · have := h.lo (a - 1 - r) (b - 1 - k) (by omega) (by omega); unfold cf; omega
  · have := h.row (a - 1 - r) (b - 1 - (k + 1)) (by omega) (by omega)
    rw [show b - 1 - (k + 1) + 1 = b - 1 - k by omega] at this
    unfold cf; omega
  · have := h.col (a - 1 - (r + 1)) (b - 1 - k) (by omega) (by omega)
    rw [show a - 1 - (r + 1) + 1 = a - 1 - r by omega] at this
    unfold cf; omega
theorem compl_ok (m : Nat) {a b : Nat} {c : Int} {f : Nat → Nat → Int} (hT : T a b c f) (ha : 0 < a) (ha8 : a ≤ 8) (hb8 : b ≤ 8) (hc : 0 ≤ c ∧ c ≤ 8) {Q : D → Prop} {E : XE} (q : Q (Tp (Tp .int) (cm c (tb a b f)))) : Call (runF fs (m+3)) 9 [.own (Tp (Tp .int) (tb a b f)), .own (.int c)] Q E := by
  refine call_intro rfl rfl ?_
  unfold c9
  exists imm_Sx, imm_Sg, flat_Sx, flat_Sg, wbi_lenS, wits_Sx, w2_inS, w2_ninS, w2_addS, w2_addSg, wslc_S, wsub_S, w2_ltS, w2_isN0, w2_isNi, w2_isNs, w2_isNS, w2_isNt, w2_isNl, w2_isNT, w2_isNL, w2_ntN0, w2_ntNi, w2_ntNs, w2_ntNS, w2_ntNt, w2_ntNl, w2_ntNT, w2_ntNL, w2_repL, w2_rep1, w2_repT, w2_repT1
  refine wcall_2 ?_
  (try exists imm_Sx, imm_Sg, flat_Sx, flat_Sg, wbi_lenS, wits_Sx, w2_inS, w2_ninS, w2_addS, w2_addSg, wslc_S, wsub_S, w2_ltS, w2_isN0, w2_isNi, w2_isNs, w2_isNS, w2_isNt, w2_isNl, w2_isNT, w2_isNL, w2_ntN0, w2_ntNi, w2_ntNs, w2_ntNS, w2_ntNt, w2_ntNl, w2_ntNT, w2_ntNL, w2_repL, w2_rep1, w2_repT, w2_repT1)
  refine chkT _ hT ha ha8 hb8 hc ?_
  (try exists imm_Sx, imm_Sg, flat_Sx, flat_Sg, wbi_lenS, wits_Sx, w2_inS, w2_ninS, w2_addS, w2_addSg, wslc_S, wsub_S, w2_ltS, w2_isN0, w2_isNi, w2_isNs, w2_isNS, w2_isNt, w2_isNl, w2_isNT, w2_isNL, w2_ntN0, w2_ntNi, w2_ntNs, w2_ntNS, w2_ntNt, w2_ntNl, w2_ntNT, w2_ntNL, w2_repL, w2_rep1, w2_repT, w2_repT1)
  have hr : ∀ row ∈ (tb a b f).reverse, row.length = b := fun row hm => by
    rw [List.mem_reverse] at hm
    unfold tb at hm
    obtain ⟨r, _, rfl⟩ := List.mem_map.mp hm
    simp
  have hl := tb_len a b f
  refine wcomp_map1 (f := Tp PyData.int) (Tp .int) (fun row => row.reverse.map fun v => c - v) true (fun row hm => ?_) (by (try exists imm_Sx, imm_Sg, flat_Sx, flat_Sg, wbi_lenS, wits_Sx, w2_inS, w2_ninS, w2_addS, w2_addSg, wslc_S, wsub_S, w2_ltS, w2_isN0, w2_isNi, w2_isNs, w2_isNS, w2_isNt, w2_isNl, w2_isNT, w2_isNL, w2_ntN0, w2_ntNi, w2_ntNs, w2_ntNS, w2_ntNt, w2_ntNl, w2_ntNT, w2_ntNL, w2_repL, w2_rep1, w2_repT, w2_repT1)) rfl (by rw [List.length_reverse]; omega) fun b' hb' => ?_
  · have := hr row hm
    (try exists imm_Sx, imm_Sg, flat_Sx, flat_Sg, wbi_lenS, wits_Sx, w2_inS, w2_ninS, w2_addS, w2_addSg, wslc_S, wsub_S, w2_ltS, w2_isN0, w2_isNi, w2_isNs, w2_isNS, w2_isNt, w2_isNl, w2_isNT, w2_isNL, w2_ntN0, w2_ntNi, w2_ntNs, w2_ntNS, w2_ntNt, w2_ntNl, w2_ntNT, w2_ntNL, w2_repL, w2_rep1, w2_repT, w2_repT1)
    refine wcomp_map1 (f := PyData.int) PyData.int (fun v => c - v) true (fun v hm => ?_) (by (try exists imm_Sx, imm_Sg, flat_Sx, flat_Sg, wbi_lenS, wits_Sx, w2_inS, w2_ninS, w2_addS, w2_addSg, wslc_S, wsub_S, w2_ltS, w2_isN0, w2_isNi, w2_isNs, w2_isNS, w2_isNt, w2_isNl, w2_isNT, w2_isNL, w2_ntN0, w2_ntNi, w2_ntNs, w2_ntNS, w2_ntNt, w2_ntNl, w2_ntNT, w2_ntNL, w2_repL, w2_rep1, w2_repT, w2_repT1)) rfl (by rw [List.length_reverse]; omega) fun b' hb' => ?_
    · (try exists imm_Sx, imm_Sg, flat_Sx, flat_Sg, wbi_lenS, wits_Sx, w2_inS, w2_ninS, w2_addS, w2_addSg, wslc_S, wsub_S, w2_ltS, w2_isN0, w2_isNi, w2_isNs, w2_isNS, w2_isNt, w2_isNl, w2_isNT, w2_isNL, w2_ntN0, w2_ntNi, w2_ntNs, w2_ntNS, w2_ntNt, w2_ntNl, w2_ntNT, w2_ntNL, w2_repL, w2_rep1, w2_repT, w2_repT1)
      exact fun _ => trivial
    obtain rfl := hb' rfl
    (try exists imm_Sx, imm_Sg, flat_Sx, flat_Sg, wbi_lenS, wits_Sx, w2_inS, w2_ninS, w2_addS, w2_addSg, wslc_S, wsub_S, w2_ltS, w2_isN0, w2_isNi, w2_isNs, w2_isNS, w2_isNt, w2_isNl, w2_isNT, w2_isNL, w2_ntN0, w2_ntNi, w2_ntNs, w2_ntNS, w2_ntNt, w2_ntNl, w2_ntNT, w2_ntNL, w2_repL, w2_rep1, w2_repT, w2_repT1)
    exact fun _ => trivial
  obtain rfl := hb' rfl
  (try exists imm_Sx, imm_Sg, flat_Sx, flat_Sg, wbi_lenS, wits_Sx, w2_inS, w2_ninS, w2_addS, w2_addSg, wslc_S, wsub_S, w2_ltS, w2_isN0, w2_isNi, w2_isNs, w2_isNS, w2_isNt, w2_isNl, w2_isNT, w2_isNL, w2_ntN0, w2_ntNi, w2_ntNs, w2_ntNS, w2_ntNt, w2_ntNl, w2_ntNT, w2_ntNL, w2_repL, w2_rep1, w2_repT, w2_repT1)
  exact q
/-! turned -/
def uf (a : Nat) (f : Nat → Nat → Int) (h k : Nat) : Int := (((List.range a).filter fun r => decide ((h : Int) < f r k)).length : Nat)
theorem filt_mono {α : Type} {l : List α} {p q : α → Bool} (h : ∀ x ∈ l, p x = true → q x = true) : (l.filter p).length ≤ (l.filter q).length := by
  rw [← List.countP_eq_length_filter, ← List.countP_eq_length_filter]
  exact List.countP_mono_left h
theorem uf_T {a b : Nat} {c : Nat} {f : Nat → Nat → Int} (h : T a b c f) : T c b a (uf a f) := by
  refine ⟨fun _ _ _ _ => Int.natCast_nonneg _, fun r k hr hk => ?_, fun r k hr hk => ?_, fun r k hr hk => ?_⟩
  · unfold uf
    have := List.length_filter_le (fun r' => decide ((r : Int) < f r' k)) (List.range a)
    rw [List.length_range] at this
    omega
  · unfold uf
    have := filt_mono (l := List.range a) (p := fun r' => decide ((r : Int) < f r' (k + 1))) (q := fun r' => decide ((r : Int) < f r' k)) fun r' hr' hp => by
      have := h.row r' k (List.mem_range.mp hr') hk
      have := of_decide_eq_true hp
      exact decide_eq_true (by omega)
    omega
  · unfold uf
    have := filt_mono (l := List.range a) (p := fun r' => decide (((r + 1 : Nat) : Int) < f r' k)) (q := fun r' => decide ((r : Int) < f r' k)) fun r' hr' hp => by
      have := of_decide_eq_true hp
      exact decide_eq_true (by omega)
    omega
theorem anti_cnt (p : Nat → Bool) : ∀ a : Nat, (∀ r, r + 1 < a → p (r + 1) = true → p r = true) → ∀ r, r < a → (r < ((List.range a).filter p).length ↔ p r = true)
  | 0, _, r, hr => absurd hr (by omega)
  | a + 1, h, r, hr => by
    have ih := anti_cnt p a fun r hr => h r (by omega)
    have hle := List.length_filter_le p (List.range a)
    rw [List.length_range] at hle
    rw [List.range_succ, List.filter_append, List.length_append]
    cases hp : p a with
    | true =>
      have all : ∀ d, d ≤ a → p (a - d) = true := by
        intro d
        induction d with
        | zero => intro _; exact hp
        | succ d ihd =>
          intro hd
          have := ihd (by omega)
          refine h (a - (d + 1)) (by omega) ?_
          rw [show a - (d + 1) + 1 = a - d by omega]; exact this
      have hf : (List.range a).filter p = List.range a := List.filter_eq_self.mpr fun x hx => by
        have hx := List.mem_range.mp hx
        have := all (a - x) (by omega)
        rwa [show a - (a - x) = x by omega] at this
      have : [a].filter p = [a] := by simp [hp]
      rw [hf, this, List.length_range, List.length_singleton]
      have := all (a - r) (by omega)
      rw [show a - (a - r) = r by omega] at this
      rw [this]
      exact ⟨fun _ => rfl, fun _ => hr⟩
    | false =>
      have : [a].filter p = [] := by simp [hp]
      rw [this, List.length_nil, Nat.add_zero]
      by_cases e : r = a
      · subst e
        rw [hp]
        constructor
        · intro q; omega
        · intro q; cases q
      · exact ih r (by omega)
theorem cnt_lt (v : Int) (hv : 0 ≤ v) : ∀ c : Nat, ((List.range c).filter fun h : Nat => decide ((h : Int) < v)).length = min c v.toNat
  | 0 => by simp
  | c + 1 => by
    rw [List.range_succ, List.filter_append, List.length_append, cnt_lt v hv c]
    by_cases h : (c : Int) < v
    · have : [c].filter (fun h : Nat => decide ((h : Int) < v)) = [c] := by simp [h]
      rw [this, List.length_singleton]; omega
    · have : [c].filter (fun h : Nat => decide ((h : Int) < v)) = [] := by simp; omega
      rw [this, List.length_nil]; omega
theorem uf_uf {a b c : Nat} {f : Nat → Nat → Int} (h : T a b c f) : tb a b (uf c (uf a f)) = tb a b f := by
  refine tb_congr fun r k hr hk => ?_
  have e : uf c (uf a f) r k = (((List.range c).filter fun i : Nat => decide ((i : Int) < f r k)).length : Nat) := by
    unfold uf
    congr 2
    refine List.filter_congr fun i hi => ?_
    refine decide_eq_decide.mpr ?_
    have := anti_cnt (fun r' => decide ((i : Int) < f r' k)) a (fun r' hr' hp => by
      have := h.col r' k hr' hk
      have := of_decide_eq_true hp
      exact decide_eq_true (by omega)) r hr
    rw [decide_eq_true_eq] at this
    rw [← this]; omega
  rw [e, cnt_lt _ (h.lo r k hr hk)]
  have := h.hi r k hr hk
  have := h.lo r k hr hk
  omega
theorem filt_tb (a b : Nat) (f : Nat → Nat → Int) (k : Nat) (hk : k < b) (p : Int → Bool) : ((tb a b f).filter fun row => p (gz row k)).length = ((List.range a).filter fun r => p (f r k)).length := by
  unfold tb
  rw [List.filter_map, List.length_map]
  congr 1
  refine List.filter_congr fun r _ => ?_
  simp only [Function.comp]
  rw [gz_map, if_pos hk]
theorem turned_ok (m : Nat) {a b c : Nat} {f : Nat → Nat → Int} (z : Int) (hz : z = c) (hT : T a b c f) (ha : 0 < a) (ha8 : a ≤ 8) (hb8 : b ≤ 8) (hc : c ≤ 8) {Q : D → Prop} {E : XE} (q : Q (Tp (Tp .int) (tb c b (uf a f)))) : Call (runF fs (m+3)) 10 [.own (Tp (Tp .int) (tb a b f)), .own (.int z)] Q E := by
  refine call_intro rfl rfl ?_
  subst hz
  unfold c10
  exists imm_Sx, imm_Sg, flat_Sx, flat_Sg, wbi_lenS, wits_Sx, w2_inS, w2_ninS, w2_addS, w2_addSg, wslc_S, wsub_S, w2_ltS, w2_isN0, w2_isNi, w2_isNs, w2_isNS, w2_isNt, w2_isNl, w2_isNT, w2_isNL, w2_ntN0, w2_ntNi, w2_ntNs, w2_ntNS, w2_ntNt, w2_ntNl, w2_ntNT, w2_ntNL, w2_repL, w2_rep1, w2_repT, w2_repT1
  refine wcall_2 ?_
  (try exists imm_Sx, imm_Sg, flat_Sx, flat_Sg, wbi_lenS, wits_Sx, w2_inS, w2_ninS, w2_addS, w2_addSg, wslc_S, wsub_S, w2_ltS, w2_isN0, w2_isNi, w2_isNs, w2_isNS, w2_isNt, w2_isNl, w2_isNT, w2_isNL, w2_ntN0, w2_ntNi, w2_ntNs, w2_ntNS, w2_ntNt, w2_ntNl, w2_ntNT, w2_ntNL, w2_repL, w2_rep1, w2_repT, w2_repT1)
  refine chkT _ hT ha ha8 hb8 ⟨by omega, by omega⟩ ?_
  have hl := tb_len a b f
  have ew : (if (0 : Int) < ((tb a b f).length : Int) then ((pyg (tb a b f) 0).length : Int) else 0) = (b : Int) := by
    rw [wd_q, wd_tb a b f ha]
  exists imm_Sx, imm_Sg, flat_Sx, flat_Sg, wbi_lenS, wits_Sx, w2_inS, w2_ninS, w2_addS, w2_addSg, wslc_S, wsub_S, w2_ltS, w2_isN0, w2_isNi, w2_isNs, w2_isNS, w2_isNt, w2_isNl, w2_isNT, w2_isNL, w2_ntN0, w2_ntNi, w2_ntNs, w2_ntNS, w2_ntNt, w2_ntNl, w2_ntNT, w2_ntNL, w2_repL, w2_rep1, w2_repT, w2_repT1, lst0 (f := Tp PyData.int)
  refine ⟨fun _ => ⟨by omega, by omega⟩, ?_⟩
  (repeat ((with_reducible refine And.intro ?_ ?_); focus (intros; first | (simp only [List.length_append, List.length_cons, List.length_nil]; omega) | ((with_reducible refine lenOk_of ?_); first | decide | omega) | ((with_reducible refine mulOk_l ?_); first | decide | omega) | ((with_reducible refine mulOk_r ?_); first | decide | omega) | ((with_reducible refine smallI_of ?_); omega) | ((with_reducible refine divOk_of ?_ ?_) <;> first | decide | omega) | exact And.intro (by omega) (by omega) | omega | (unfold kp; exact Or.inl rfl) | with_reducible rfl | with_reducible exact trivial)))
  try simp only [ew]
  refine wfor_inv (f := PyData.int) (I := fun pre σ => ∃ (c4 : NI), σ = [some (.own (Tp (Tp .int) (tb a b f))), some (.own (.int c)), some (.own (.int b)), some (.own (Ls (Tp .int) (tb pre.length b (uf a f)))), c4.c, none, none]) ⟨⟨none, rfl, rfl⟩, rfl⟩ ?_ ?_
  · rintro pre h suf σ hp ⟨c4, rfl⟩
    obtain ⟨g1, g2⟩ := rng_at hp
    have eh : h = (pre.length : Int) + 1 := by omega
    subst eh
    generalize hn : pre.length = n at *
    exists imm_Sx, imm_Sg, flat_Sx, flat_Sg, wbi_lenS, wits_Sx, w2_inS, w2_ninS, w2_addS, w2_addSg, wslc_S, wsub_S, w2_ltS, w2_isN0, w2_isNi, w2_isNs, w2_isNS, w2_isNt, w2_isNl, w2_isNT, w2_isNL, w2_ntN0, w2_ntNi, w2_ntNs, w2_ntNS, w2_ntNt, w2_ntNl, w2_ntNT, w2_ntNL, w2_repL, w2_rep1, w2_repT, w2_repT1
    (repeat ((with_reducible refine And.intro ?_ ?_); focus (intros; first | (simp only [List.length_append, List.length_cons, List.length_nil]; omega) | ((with_reducible refine lenOk_of ?_); first | decide | omega) | ((with_reducible refine mulOk_l ?_); first | decide | omega) | ((with_reducible refine mulOk_r ?_); first | decide | omega) | ((with_reducible refine smallI_of ?_); omega) | ((with_reducible refine divOk_of ?_ ?_) <;> first | decide | omega) | exact And.intro (by omega) (by omega) | omega | (unfold kp; exact Or.inl rfl) | with_reducible rfl | with_reducible exact trivial)))
    have er : (rng 0 (b : Int)).map (fun k => (((tb a b f).filter fun row => decide ((n : Int) + 1 ≤ pyg row k)).length : Int)) = (List.range b).map fun k => uf a f n k := by
      unfold rng
      rw [List.map_map, show ((b : Int) - 0).toNat = b by omega]
      refine List.map_congr_left fun k hk => ?_
      simp only [Function.comp, Int.zero_add]
      have e1 : (fun row : List Int => decide ((n : Int) + 1 ≤ pyg row (k : Int))) = fun row => decide ((n : Int) < gz row k) := by
        funext row
        rw [pyg_gz (by omega), Int.toNat_natCast]
        exact decide_eq_decide.mpr (by omega)
      rw [e1, filt_tb a b f k (List.mem_range.mp hk) fun v => decide ((n : Int) < v)]
      rfl
    refine wcomp_map1 (f := PyData.int) PyData.int (fun k => (((tb a b f).filter fun row => decide ((n : Int) + 1 ≤ pyg row k)).length : Int)) true (fun k hk => ?_) (by (try exists imm_Sx, imm_Sg, flat_Sx, flat_Sg, wbi_lenS, wits_Sx, w2_inS, w2_ninS, w2_addS, w2_addSg, wslc_S, wsub_S, w2_ltS, w2_isN0, w2_isNi, w2_isNs, w2_isNS, w2_isNt, w2_isNl, w2_isNT, w2_isNL, w2_ntN0, w2_ntNi, w2_ntNs, w2_ntNS, w2_ntNt, w2_ntNl, w2_ntNT, w2_ntNL, w2_repL, w2_rep1, w2_repT, w2_repT1)) rfl (by rw [rng_len]; omega) fun b' hb' => ?_
    · rw [mem_rng] at hk
      (try exists imm_Sx, imm_Sg, flat_Sx, flat_Sg, wbi_lenS, wits_Sx, w2_inS, w2_ninS, w2_addS, w2_addSg, wslc_S, wsub_S, w2_ltS, w2_isN0, w2_isNi, w2_isNs, w2_isNS, w2_isNt, w2_isNl, w2_isNT, w2_isNL, w2_ntN0, w2_ntNi, w2_ntNs, w2_ntNS, w2_ntNt, w2_ntNl, w2_ntNT, w2_ntNL, w2_repL, w2_rep1, w2_repT, w2_repT1)
      refine wcomp_map (f := Tp PyData.int) (Tp PyData.int) (fun row => decide ((n : Int) + 1 ≤ pyg row k)) (fun row => row) true (fun row hm => ?_) (by (try exists imm_Sx, imm_Sg, flat_Sx, flat_Sg, wbi_lenS, wits_Sx, w2_inS, w2_ninS, w2_addS, w2_addSg, wslc_S, wsub_S, w2_ltS, w2_isN0, w2_isNi, w2_isNs, w2_isNS, w2_isNt, w2_isNl, w2_isNT, w2_isNL, w2_ntN0, w2_ntNi, w2_ntNs, w2_ntNS, w2_ntNt, w2_ntNl, w2_ntNT, w2_ntNL, w2_repL, w2_rep1, w2_repT, w2_repT1)) rfl ?_ fun b' hb' => ?_
      · have : row.length = b := by
          unfold tb at hm
          obtain ⟨r, _, rfl⟩ := List.mem_map.mp hm
          simp
        (try exists imm_Sx, imm_Sg, flat_Sx, flat_Sg, wbi_lenS, wits_Sx, w2_inS, w2_ninS, w2_addS, w2_addSg, wslc_S, wsub_S, w2_ltS, w2_isN0, w2_isNi, w2_isNs, w2_isNS, w2_isNt, w2_isNl, w2_isNT, w2_isNL, w2_ntN0, w2_ntNi, w2_ntNs, w2_ntNS, w2_ntNt, w2_ntNl, w2_ntNT, w2_ntNL, w2_repL, w2_rep1, w2_repT, w2_repT1)
        exact ⟨⟨by omega, by omega⟩, fun _ _ => trivial⟩
      · rw [List.length_map]
        have := List.length_filter_le (fun row => decide ((n : Int) + 1 ≤ pyg row k)) (tb a b f)
        omega
      obtain rfl := hb' rfl
      rw [List.map_id']
      (try exists imm_Sx, imm_Sg, flat_Sx, flat_Sg, wbi_lenS, wits_Sx, w2_inS, w2_ninS, w2_addS, w2_addSg, wslc_S, wsub_S, w2_ltS, w2_isN0, w2_isNi, w2_isNs, w2_isNS, w2_isNt, w2_isNl, w2_isNT, w2_isNL, w2_ntN0, w2_ntNi, w2_ntNs, w2_ntNS, w2_ntNt, w2_ntNl, w2_ntNT, w2_ntNL, w2_repL, w2_rep1, w2_repT, w2_repT1)
      exact fun _ => trivial
    obtain rfl := hb' rfl
    rw [er]
    (try exists imm_Sx, imm_Sg, flat_Sx, flat_Sg, wbi_lenS, wits_Sx, w2_inS, w2_ninS, w2_addS, w2_addSg, wslc_S, wsub_S, w2_ltS, w2_isN0, w2_isNi, w2_isNs, w2_isNS, w2_isNt, w2_isNl, w2_isNT, w2_isNL, w2_ntN0, w2_ntNi, w2_ntNs, w2_ntNS, w2_ntNt, w2_ntNl, w2_ntNT, w2_ntNL, w2_repL, w2_rep1, w2_repT, w2_repT1)
    refine ⟨by rw [tb_len]; omega, ⟨some (.own (.int ((n : Int) + 1))), rfl, rfl⟩, ?_⟩
    rw [List.length_append, List.length_singleton, hn, tb_s]
  · rintro σ ⟨c4, rfl⟩
    rw [rng_len, show ((c : Int) + 1 - 1).toNat = c by omega]
    (try exists imm_Sx, imm_Sg, flat_Sx, flat_Sg, wbi_lenS, wits_Sx, w2_inS, w2_ninS, w2_addS, w2_addSg, wslc_S, wsub_S, w2_ltS, w2_isN0, w2_isNi, w2_isNs, w2_isNS, w2_isNt, w2_isNl, w2_isNT, w2_isNL, w2_ntN0, w2_ntNi, w2_ntNs, w2_ntNS, w2_ntNt, w2_ntNl, w2_ntNT, w2_ntNL, w2_repL, w2_rep1, w2_repT, w2_repT1)
    exact q
end K45
set_option Elab.async false
set_option linter.all false
set_option maxRecDepth 100000
set_option maxHeartbeats 1000000
namespace K45
open PySem PV
/-! sums -/
def tsum (t : List (List Int)) : Int := (t.map List.sum).sum
theorem cv_sum (g : List Nat) : (cv g).sum = ((g.sum : Nat) : Int) := by
  induction g with
  | nil => rfl
  | cons j g ih => rw [cv_cons, List.sum_append, ih, List.sum_cons]; simp; omega
theorem tsum_tb (b : Nat) : ∀ (a : Nat) (g : List Nat), g.length = a * b → tsum (tb a b (fe a b g)) = ((g.sum : Nat) : Int)
  | 0, g, h => by
    have : g = [] := List.length_eq_zero_iff.mp (by rw [h, Nat.zero_mul])
    subst this; rfl
  | a + 1, g, h => by
    rw [Nat.add_mul, Nat.one_mul] at h
    rw [tb_more (g := g.drop b) (by rw [List.length_drop]; omega) h rfl]
    unfold tsum
    rw [List.map_append, List.sum_append]
    have ih := tsum_tb b a (g.drop b) (by rw [List.length_drop]; omega)
    unfold tsum at ih
    rw [ih]
    simp only [List.map_cons, List.map_nil, List.sum_cons, List.sum_nil, cv_sum, Int.add_zero]
    have := List.sum_append (l₁ := g.take b) (l₂ := g.drop b)
    rw [List.take_append_drop] at this
    rw [this]; omega
theorem sum_bd (c : Nat) : ∀ g : List Nat, (∀ i, i < g.length → ent g i ≤ c) → g.sum ≤ g.length * c
  | [], _ => by simp
  | x :: g, h => by
    have h0 := h 0 (by simp)
    rw [ent_0] at h0
    have := sum_bd c g fun i hi => by
      have := h (i + 1) (by simp; exact hi)
      rwa [ent_s] at this
    rw [List.sum_cons, List.length_cons, Nat.add_mul]; omega
theorem lp_sum {a b c : Nat} (hb : 0 < b) {g : List Nat} (hg : g ∈ lpN b c (a * b) 0 [[]]) : g.sum ≤ a * b * c := by
  obtain ⟨h1, h2⟩ := lp_inv hb hg
  have := sum_bd c g fun i hi => (h2 i hi).1
  rwa [h1] at this
/-- how many rows have each sum -/
def cnI (L : List (List Nat)) (n : Nat) : List Int := (List.range (n + 1)).map fun k => ((L.filter fun g => decide (g.sum = k)).length : Nat)
theorem cnI_s (L : List (List Nat)) (g : List Nat) (n : Nat) (hg : g.sum ≤ n) : (cnI L n).set g.sum (gz (cnI L n) g.sum + 1) = cnI (L ++ [g]) n := by
  unfold cnI
  rw [set_map]
  refine List.map_congr_left fun k hk => ?_
  rw [gz_map, if_pos (show g.sum < n + 1 by omega), List.filter_append, List.length_append]
  by_cases h : k = g.sum
  · have : [g].filter (fun g => decide (g.sum = k)) = [g] := by simp [h]
    rw [if_pos h, this, h]; rfl
  · have : [g].filter (fun g => decide (g.sum = k)) = [] := by simp; omega
    rw [if_neg h, this]; rfl
theorem cnI_perm {L M : List (List Nat)} (h : L.Perm M) (n : Nat) : cnI L n = cnI M n := by
  unfold cnI
  refine List.map_congr_left fun k _ => ?_
  rw [(h.filter _).length_eq]
theorem cnI_0 (n : Nat) : List.replicate (n + 1) (0 : Int) = cnI [] n := by
  unfold cnI
  refine gz_ext (by simp) fun i hi => ?_
  rw [List.length_replicate] at hi
  rw [gz_map, if_pos hi, gz_in (by simpa using hi), List.getElem_replicate]; rfl
theorem csum_ok (m : Nat) (x y z : Int) (a b c : Nat) (hx : x = a) (hy : y = b) (hz : z = c) (ha : a < 9) (hb : b < 9) (hc : c < 9) (ha0 : 0 < a) (hb0 : 0 < b) (hm : mac a b c < 400) (hlen : (lpN b c (a * b) 0 [[]]).length ≤ 400) {Q : D → Prop} {E : XE} (q : Q (Tp .int (cnI (lpN b c (a * b) 0 [[]]) (a * b * c)))) : Call (runF fs (m+4)) 5 [.own (.int x), .own (.int y), .own (.int z)] Q E := by
  have hab : a * b ≤ 64 := Nat.mul_le_mul (show a ≤ 8 by omega) (show b ≤ 8 by omega)
  have habc : a * b * c ≤ 512 := Nat.mul_le_mul hab (show c ≤ 8 by omega)
  have e3 : (a : Int) * (b : Int) * (c : Int) = ((a * b * c : Nat) : Int) := by rw [Int.natCast_mul, Int.natCast_mul]
  refine call_intro rfl rfl ?_
  unfold c5
  exists imm_Sx, imm_Sg, flat_Sx, flat_Sg, wbi_lenS, wits_Sx, w2_inS, w2_ninS, w2_addS, w2_addSg, wslc_S, wsub_S, w2_ltS, w2_isN0, w2_isNi, w2_isNs, w2_isNS, w2_isNt, w2_isNl, w2_isNT, w2_isNL, w2_ntN0, w2_ntNi, w2_ntNs, w2_ntNS, w2_ntNt, w2_ntNl, w2_ntNT, w2_ntNL, w2_repL, w2_rep1, w2_repT, w2_repT1
  have e4 : x * y * z = ((a * b * c : Nat) : Int) := by rw [hx, hy, hz]; exact e3
  rw [e4, show (((a * b * c : Nat) : Int) + 1).toNat = a * b * c + 1 by omega, cnI_0]
  refine ⟨lenOk_of (by decide), mulOk_l ⟨by omega, by omega⟩, mulOk_r ⟨by omega, by omega⟩, by omega, by omega, by omega, ?_⟩
  refine wcall_3 ?_
  (try exists imm_Sx, imm_Sg, flat_Sx, flat_Sg, wbi_lenS, wits_Sx, w2_inS, w2_ninS, w2_addS, w2_addSg, wslc_S, wsub_S, w2_ltS, w2_isN0, w2_isNi, w2_isNs, w2_isNS, w2_isNt, w2_isNl, w2_isNT, w2_isNL, w2_ntN0, w2_ntNi, w2_ntNs, w2_ntNS, w2_ntNt, w2_ntNl, w2_ntNT, w2_ntNL, w2_repL, w2_rep1, w2_repT, w2_repT1)
  refine planes_ok _ x y z a b c hx hy hz ha hb hc (fun _ => ⟨ha0, hb0⟩) (fun _ => ?_) (fun h => absurd h (by omega)) (.inl hm)
  have hsp := stab_perm a b c
  exists imm_Sx, imm_Sg, flat_Sx, flat_Sg, wbi_lenS, wits_Sx, w2_inS, w2_ninS, w2_addS, w2_addSg, wslc_S, wsub_S, w2_ltS, w2_isN0, w2_isNi, w2_isNs, w2_isNS, w2_isNt, w2_isNl, w2_isNT, w2_isNL, w2_ntN0, w2_ntNi, w2_ntNs, w2_ntNS, w2_ntNt, w2_ntNl, w2_ntNT, w2_ntNL, w2_repL, w2_rep1, w2_repT, w2_repT1
  refine wfor_inv (f := PT b a) (I := fun pre σ => ∃ (c4 c5 : NI), σ = [some (.own (.int x)), some (.own (.int y)), some (.own (.int z)), some (.own (Ls .int (cnI pre (a * b * c)))), c4.c, c5.c, none]) ⟨⟨none, rfl, rfl⟩, ⟨none, rfl, rfl⟩, rfl⟩ ?_ ?_
  · rintro pre g suf σ hp ⟨c4, c5, rfl⟩
    have hg : g ∈ lpN b c (a * b) 0 [[]] := hsp.mem_iff.mp (pre_mem hp)
    obtain ⟨hgl, hgi⟩ := lp_inv hb0 hg
    have hgs := lp_sum hb0 hg
    have hts := tsum_tb b a g hgl
    have hl := tb_len a b (fe a b g)
    have hcl : (cnI pre (a * b * c)).length = a * b * c + 1 := by simp [cnI]
    exists imm_Sx, imm_Sg, flat_Sx, flat_Sg, wbi_lenS, wits_Sx, w2_inS, w2_ninS, w2_addS, w2_addSg, wslc_S, wsub_S, w2_ltS, w2_isN0, w2_isNi, w2_isNs, w2_isNS, w2_isNt, w2_isNl, w2_isNT, w2_isNL, w2_ntN0, w2_ntNi, w2_ntNs, w2_ntNS, w2_ntNt, w2_ntNl, w2_ntNT, w2_ntNL, w2_repL, w2_rep1, w2_repT, w2_repT1, PT
    refine wcomp_map1 (f := Tp PyData.int) PyData.int List.sum true (fun row hm => ?_) (by (try exists imm_Sx, imm_Sg, flat_Sx, flat_Sg, wbi_lenS, wits_Sx, w2_inS, w2_ninS, w2_addS, w2_addSg, wslc_S, wsub_S, w2_ltS, w2_isN0, w2_isNi, w2_isNs, w2_isNS, w2_isNt, w2_isNl, w2_isNT, w2_isNL, w2_ntN0, w2_ntNi, w2_ntNs, w2_ntNS, w2_ntNt, w2_ntNl, w2_ntNT, w2_ntNL, w2_repL, w2_rep1, w2_repT, w2_repT1)) rfl (by omega) fun b' hb' => ?_
    · (try exists imm_Sx, imm_Sg, flat_Sx, flat_Sg, wbi_lenS, wits_Sx, w2_inS, w2_ninS, w2_addS, w2_addSg, wslc_S, wsub_S, w2_ltS, w2_isN0, w2_isNi, w2_isNs, w2_isNS, w2_isNt, w2_isNl, w2_isNT, w2_isNL, w2_ntN0, w2_ntNi, w2_ntNs, w2_ntNS, w2_ntNt, w2_ntNl, w2_ntNT, w2_ntNL, w2_repL, w2_rep1, w2_repT, w2_repT1)
      exact fun _ => trivial
    obtain rfl := hb' rfl
    have e5 : ((tb a b (fe a b g)).map List.sum).sum = ((g.sum : Nat) : Int) := hts
    (try exists imm_Sx, imm_Sg, flat_Sx, flat_Sg, wbi_lenS, wits_Sx, w2_inS, w2_ninS, w2_addS, w2_addSg, wslc_S, wsub_S, w2_ltS, w2_isN0, w2_isNi, w2_isNs, w2_isNS, w2_isNt, w2_isNl, w2_isNT, w2_isNL, w2_ntN0, w2_ntNi, w2_ntNs, w2_ntNS, w2_ntNt, w2_ntNl, w2_ntNT, w2_ntNL, w2_repL, w2_rep1, w2_repT, w2_repT1, e5)
    try simp only [e5]
    refine ⟨⟨by omega, by omega⟩, ⟨by omega, by omega⟩, ⟨some (.own (Tp (Tp .int) (tb a b (fe a b g)))), rfl, imm_Tp _⟩, ⟨some (.own (.int (g.sum : Nat))), rfl, rfl⟩, ?_⟩
    rw [if_pos (by omega), pyg_gz (by omega), Int.toNat_natCast, cnI_s pre g _ hgs]
  · rintro σ ⟨c4, c5, rfl⟩
    rw [cnI_perm hsp]
    (try exists imm_Sx, imm_Sg, flat_Sx, flat_Sg, wbi_lenS, wits_Sx, w2_inS, w2_ninS, w2_addS, w2_addSg, wslc_S, wsub_S, w2_ltS, w2_isN0, w2_isNi, w2_isNs, w2_isNS, w2_isNt, w2_isNl, w2_isNT, w2_isNL, w2_ntN0, w2_ntNi, w2_ntNs, w2_ntNS, w2_ntNt, w2_ntNl, w2_ntNT, w2_ntNL, w2_repL, w2_rep1, w2_repT, w2_repT1)
    exact q
/-! told -/
theorem dT {p : Prop} (h : p) (i : Decidable p) : @decide p i = true := decide_eq_true h
theorem dF {p : Prop} (h : ¬ p) (i : Decidable p) : @decide p i = false := decide_eq_false h
theorem sne {x y : Str} (h : x ≠ y) {K : D → Prop} : w2 .eq (PyData.str x) (.str y) K = K (.bool false) := by
  rw [w2_eq (by decide), decide_eq_false h]
theorem seq {x : Str} {K : D → Prop} : w2 .eq (PyData.str x) (.str x) K = K (.bool true) := by
  rw [w2_eq (by decide), decide_eq_true rfl]
theorem mac_ok' (k : Nat) (x y z : Int) (a b c : Nat) (hx : x = a) (hy : y = b) (hz : z = c) (ha : a < 9) (hb : b < 9) (hc : c < 9) {Q : D → Prop} {E : XE} (q : Q (.int (mac a b c))) : Call (runF fs (k+2)) 2 [.own (.int x), .own (.int y), .own (.int z)] Q E := by
  subst hx hy hz
  exact mac_ok k a b c ha hb hc q
theorem qmac_ok' (k : Nat) (x y z : Int) (a b c : Nat) (hx : x = a) (hy : y = b) (hz : z = c) (ha : a < 9) (hb : b < 9) (hc : c < 9) {Q : D → Prop} {E : XE} (q1 : a * b * c ≤ 60 → Q (Tp .int (poly a b c))) (q2 : 60 < a * b * c → E 1 (.str "large") (.int 0)) : Call (runF fs (k+2)) 6 [.own (.int x), .own (.int y), .own (.int z)] Q E := by
  subst hx hy hz
  exact qmac_ok k a b c ha hb hc q1 q2
theorem symc_ok' (k : Nat) (x z : Int) (a c : Nat) (hx : x = a) (hz : z = c) (ha : a < 9) (hc : c < 9) (hB : 0 < symB a ∧ symB a < 2 ^ 400) {Q : D → Prop} {E : XE} (q : Q (.int (symc a c))) : Call (runF fs (k+2)) 11 [.own (.int x), .own (.int z)] Q E := by
  subst hx hz
  exact symc_ok k a c ha hc hB q
theorem tcount_ok (m : Nat) (x y z : Int) (a b c : Nat) (hx : x = a) (hy : y = b) (hz : z = c) (ha : a < 9) (hb : b < 9) (hc : c < 9) {Q : D → Prop} {E : XE} (q : Q (.int (mac a b c))) : Call (runF fs (m+3)) 15 [.own (.str "count"), .own (.int x), .own (.int y), .own (.int z)] Q E := by
  refine call_intro rfl rfl ?_
  unfold c15
  exists imm_Sx, imm_Sg, flat_Sx, flat_Sg, wbi_lenS, wits_Sx, w2_inS, w2_ninS, w2_addS, w2_addSg, wslc_S, wsub_S, w2_ltS, w2_isN0, w2_isNi, w2_isNs, w2_isNS, w2_isNt, w2_isNl, w2_isNT, w2_isNL, w2_ntN0, w2_ntNi, w2_ntNs, w2_ntNS, w2_ntNt, w2_ntNl, w2_ntNT, w2_ntNL, w2_repL, w2_rep1, w2_repT, w2_repT1
  rw [dF (by decide : ¬ Str.ofString "count" = Str.ofString "list")]
  (try exists imm_Sx, imm_Sg, flat_Sx, flat_Sg, wbi_lenS, wits_Sx, w2_inS, w2_ninS, w2_addS, w2_addSg, wslc_S, wsub_S, w2_ltS, w2_isN0, w2_isNi, w2_isNs, w2_isNS, w2_isNt, w2_isNl, w2_isNT, w2_isNL, w2_ntN0, w2_ntNi, w2_ntNs, w2_ntNS, w2_ntNt, w2_ntNl, w2_ntNT, w2_ntNL, w2_repL, w2_rep1, w2_repT, w2_repT1)
  rw [dF (by decide : ¬ Str.ofString "count" = Str.ofString "check")]
  (try exists imm_Sx, imm_Sg, flat_Sx, flat_Sg, wbi_lenS, wits_Sx, w2_inS, w2_ninS, w2_addS, w2_addSg, wslc_S, wsub_S, w2_ltS, w2_isN0, w2_isNi, w2_isNs, w2_isNS, w2_isNt, w2_isNl, w2_isNT, w2_isNL, w2_ntN0, w2_ntNi, w2_ntNs, w2_ntNS, w2_ntNt, w2_ntNl, w2_ntNT, w2_ntNL, w2_repL, w2_rep1, w2_repT, w2_repT1)
  refine wcall_3 ?_
  (try exists imm_Sx, imm_Sg, flat_Sx, flat_Sg, wbi_lenS, wits_Sx, w2_inS, w2_ninS, w2_addS, w2_addSg, wslc_S, wsub_S, w2_ltS, w2_isN0, w2_isNi, w2_isNs, w2_isNS, w2_isNt, w2_isNl, w2_isNT, w2_isNL, w2_ntN0, w2_ntNi, w2_ntNs, w2_ntNS, w2_ntNt, w2_ntNl, w2_ntNT, w2_ntNL, w2_repL, w2_rep1, w2_repT, w2_repT1)
  refine mac_ok' _ x y z a b c hx hy hz ha hb hc ?_
  (try exists imm_Sx, imm_Sg, flat_Sx, flat_Sg, wbi_lenS, wits_Sx, w2_inS, w2_ninS, w2_addS, w2_addSg, wslc_S, wsub_S, w2_ltS, w2_isN0, w2_isNi, w2_isNs, w2_isNS, w2_isNt, w2_isNl, w2_isNT, w2_isNL, w2_ntN0, w2_ntNi, w2_ntNs, w2_ntNS, w2_ntNt, w2_ntNl, w2_ntNT, w2_ntNL, w2_repL, w2_rep1, w2_repT, w2_repT1)
  exact q
theorem tbox_ok (m : Nat) (x y z : Int) (h : ¬ inB x y z) {Q : D → Prop} {E : XE} (q : Q (.tuple [.str "box", .int 0])) : Call (runF fs (m+3)) 15 [.own (.str "count"), .own (.int x), .own (.int y), .own (.int z)] Q E := by
  refine call_intro rfl rfl ?_
  unfold c15
  exists imm_Sx, imm_Sg, flat_Sx, flat_Sg, wbi_lenS, wits_Sx, w2_inS, w2_ninS, w2_addS, w2_addSg, wslc_S, wsub_S, w2_ltS, w2_isN0, w2_isNi, w2_isNs, w2_isNS, w2_isNt, w2_isNl, w2_isNT, w2_isNL, w2_ntN0, w2_ntNi, w2_ntNs, w2_ntNS, w2_ntNt, w2_ntNl, w2_ntNT, w2_ntNL, w2_repL, w2_rep1, w2_repT, w2_repT1
  rw [dF (by decide : ¬ Str.ofString "count" = Str.ofString "list")]
  (try exists imm_Sx, imm_Sg, flat_Sx, flat_Sg, wbi_lenS, wits_Sx, w2_inS, w2_ninS, w2_addS, w2_addSg, wslc_S, wsub_S, w2_ltS, w2_isN0, w2_isNi, w2_isNs, w2_isNS, w2_isNt, w2_isNl, w2_isNT, w2_isNL, w2_ntN0, w2_ntNi, w2_ntNs, w2_ntNS, w2_ntNt, w2_ntNl, w2_ntNT, w2_ntNL, w2_repL, w2_rep1, w2_repT, w2_repT1)
  rw [dF (by decide : ¬ Str.ofString "count" = Str.ofString "check")]
  (try exists imm_Sx, imm_Sg, flat_Sx, flat_Sg, wbi_lenS, wits_Sx, w2_inS, w2_ninS, w2_addS, w2_addSg, wslc_S, wsub_S, w2_ltS, w2_isN0, w2_isNi, w2_isNs, w2_isNS, w2_isNt, w2_isNl, w2_isNT, w2_isNL, w2_ntN0, w2_ntNi, w2_ntNs, w2_ntNS, w2_ntNt, w2_ntNl, w2_ntNT, w2_ntNL, w2_repL, w2_rep1, w2_repT, w2_repT1)
  refine wcall_3 ?_
  (try exists imm_Sx, imm_Sg, flat_Sx, flat_Sg, wbi_lenS, wits_Sx, w2_inS, w2_ninS, w2_addS, w2_addSg, wslc_S, wsub_S, w2_ltS, w2_isN0, w2_isNi, w2_isNs, w2_isNS, w2_isNt, w2_isNl, w2_isNT, w2_isNL, w2_ntN0, w2_ntNi, w2_ntNs, w2_ntNS, w2_ntNt, w2_ntNl, w2_ntNT, w2_ntNL, w2_repL, w2_rep1, w2_repT, w2_repT1)
  refine call_intro rfl rfl ?_
  unfold c2
  exists imm_Sx, imm_Sg, flat_Sx, flat_Sg, wbi_lenS, wits_Sx, w2_inS, w2_ninS, w2_addS, w2_addSg, wslc_S, wsub_S, w2_ltS, w2_isN0, w2_isNi, w2_isNs, w2_isNS, w2_isNt, w2_isNl, w2_isNT, w2_isNL, w2_ntN0, w2_ntNi, w2_ntNs, w2_ntNS, w2_ntNt, w2_ntNl, w2_ntNT, w2_ntNL, w2_repL, w2_rep1, w2_repT, w2_repT1
  refine wcall_3 ?_
  exists imm_Sx, imm_Sg, flat_Sx, flat_Sg, wbi_lenS, wits_Sx, w2_inS, w2_ninS, w2_addS, w2_addSg, wslc_S, wsub_S, w2_ltS, w2_isN0, w2_isNi, w2_isNs, w2_isNS, w2_isNt, w2_isNl, w2_isNT, w2_isNL, w2_ntN0, w2_ntNi, w2_ntNs, w2_ntNS, w2_ntNt, w2_ntNl, w2_ntNT, w2_ntNL, w2_repL, w2_rep1, w2_repT, w2_repT1
  refine box_ok _ _ _ _ (fun hb => absurd hb h) (fun _ => ?_)
  (try exists imm_Sx, imm_Sg, flat_Sx, flat_Sg, wbi_lenS, wits_Sx, w2_inS, w2_ninS, w2_addS, w2_addSg, wslc_S, wsub_S, w2_ltS, w2_isN0, w2_isNi, w2_isNs, w2_isNS, w2_isNt, w2_isNl, w2_isNT, w2_isNL, w2_ntN0, w2_ntNi, w2_ntNs, w2_ntNS, w2_ntNt, w2_ntNl, w2_ntNT, w2_ntNL, w2_repL, w2_rep1, w2_repT, w2_repT1, wtry_c, hd_1)
  exact q
theorem tlist_ok (m : Nat) (x y z : Int) (a b c : Nat) (hx : x = a) (hy : y = b) (hz : z = c) (ha : a < 9) (hb : b < 9) (hc : c < 9) (q0 : mac a b c < 400 → 0 < a ∧ 0 < b) {Q : D → Prop} {E : XE} (q1 : mac a b c < 400 → Q (Tp (PT b a) (stab a b c))) (q2 : 3000 < mac a b c → Q (.tuple [.str "large", .int 0])) (q3 : mac a b c < 400 ∨ 3000 < mac a b c) : Call (runF fs (m+4)) 15 [.own (.str "list"), .own (.int x), .own (.int y), .own (.int z)] Q E := by
  refine call_intro rfl rfl ?_
  unfold c15
  exists imm_Sx, imm_Sg, flat_Sx, flat_Sg, wbi_lenS, wits_Sx, w2_inS, w2_ninS, w2_addS, w2_addSg, wslc_S, wsub_S, w2_ltS, w2_isN0, w2_isNi, w2_isNs, w2_isNS, w2_isNt, w2_isNl, w2_isNT, w2_isNL, w2_ntN0, w2_ntNi, w2_ntNs, w2_ntNS, w2_ntNt, w2_ntNl, w2_ntNT, w2_ntNL, w2_repL, w2_rep1, w2_repT, w2_repT1
  refine wcall_3 ?_
  (try exists imm_Sx, imm_Sg, flat_Sx, flat_Sg, wbi_lenS, wits_Sx, w2_inS, w2_ninS, w2_addS, w2_addSg, wslc_S, wsub_S, w2_ltS, w2_isN0, w2_isNi, w2_isNs, w2_isNS, w2_isNt, w2_isNl, w2_isNT, w2_isNL, w2_ntN0, w2_ntNi, w2_ntNs, w2_ntNS, w2_ntNt, w2_ntNl, w2_ntNT, w2_ntNL, w2_repL, w2_rep1, w2_repT, w2_repT1)
  refine planes_ok _ x y z a b c hx hy hz ha hb hc q0 (fun h => ?_) (fun h => ?_) q3
  · (try exists imm_Sx, imm_Sg, flat_Sx, flat_Sg, wbi_lenS, wits_Sx, w2_inS, w2_ninS, w2_addS, w2_addSg, wslc_S, wsub_S, w2_ltS, w2_isN0, w2_isNi, w2_isNs, w2_isNS, w2_isNt, w2_isNl, w2_isNT, w2_isNL, w2_ntN0, w2_ntNi, w2_ntNs, w2_ntNS, w2_ntNt, w2_ntNl, w2_ntNT, w2_ntNL, w2_repL, w2_rep1, w2_repT, w2_repT1)
    exact q1 h
  · (try exists imm_Sx, imm_Sg, flat_Sx, flat_Sg, wbi_lenS, wits_Sx, w2_inS, w2_ninS, w2_addS, w2_addSg, wslc_S, wsub_S, w2_ltS, w2_isN0, w2_isNi, w2_isNs, w2_isNS, w2_isNt, w2_isNl, w2_isNT, w2_isNL, w2_ntN0, w2_ntNi, w2_ntNs, w2_ntNS, w2_ntNt, w2_ntNl, w2_ntNT, w2_ntNL, w2_repL, w2_rep1, w2_repT, w2_repT1, wtry_c, hd_1)
    exact q2 h
theorem tpoly_ok (m : Nat) (x y z : Int) (a b c : Nat) (hx : x = a) (hy : y = b) (hz : z = c) (ha : a < 9) (hb : b < 9) (hc : c < 9) {Q : D → Prop} {E : XE} (q1 : a * b * c ≤ 60 → Q (Tp .int (poly a b c))) (q2 : 60 < a * b * c → Q (.tuple [.str "large", .int 0])) : Call (runF fs (m+3)) 15 [.own (.str "poly"), .own (.int x), .own (.int y), .own (.int z)] Q E := by
  refine call_intro rfl rfl ?_
  unfold c15
  exists imm_Sx, imm_Sg, flat_Sx, flat_Sg, wbi_lenS, wits_Sx, w2_inS, w2_ninS, w2_addS, w2_addSg, wslc_S, wsub_S, w2_ltS, w2_isN0, w2_isNi, w2_isNs, w2_isNS, w2_isNt, w2_isNl, w2_isNT, w2_isNL, w2_ntN0, w2_ntNi, w2_ntNs, w2_ntNS, w2_ntNt, w2_ntNl, w2_ntNT, w2_ntNL, w2_repL, w2_rep1, w2_repT, w2_repT1
  rw [dF (by decide : ¬ Str.ofString "poly" = Str.ofString "list")]
  (try exists imm_Sx, imm_Sg, flat_Sx, flat_Sg, wbi_lenS, wits_Sx, w2_inS, w2_ninS, w2_addS, w2_addSg, wslc_S, wsub_S, w2_ltS, w2_isN0, w2_isNi, w2_isNs, w2_isNS, w2_isNt, w2_isNl, w2_isNT, w2_isNL, w2_ntN0, w2_ntNi, w2_ntNs, w2_ntNS, w2_ntNt, w2_ntNl, w2_ntNT, w2_ntNL, w2_repL, w2_rep1, w2_repT, w2_repT1)
  rw [dF (by decide : ¬ Str.ofString "poly" = Str.ofString "check")]
  (try exists imm_Sx, imm_Sg, flat_Sx, flat_Sg, wbi_lenS, wits_Sx, w2_inS, w2_ninS, w2_addS, w2_addSg, wslc_S, wsub_S, w2_ltS, w2_isN0, w2_isNi, w2_isNs, w2_isNS, w2_isNt, w2_isNl, w2_isNT, w2_isNL, w2_ntN0, w2_ntNi, w2_ntNs, w2_ntNS, w2_ntNt, w2_ntNl, w2_ntNT, w2_ntNL, w2_repL, w2_rep1, w2_repT, w2_repT1)
  rw [dF (by decide : ¬ Str.ofString "poly" = Str.ofString "count")]
  (try exists imm_Sx, imm_Sg, flat_Sx, flat_Sg, wbi_lenS, wits_Sx, w2_inS, w2_ninS, w2_addS, w2_addSg, wslc_S, wsub_S, w2_ltS, w2_isN0, w2_isNi, w2_isNs, w2_isNS, w2_isNt, w2_isNl, w2_isNT, w2_isNL, w2_ntN0, w2_ntNi, w2_ntNs, w2_ntNS, w2_ntNt, w2_ntNl, w2_ntNT, w2_ntNL, w2_repL, w2_rep1, w2_repT, w2_repT1)
  refine wcall_3 ?_
  (try exists imm_Sx, imm_Sg, flat_Sx, flat_Sg, wbi_lenS, wits_Sx, w2_inS, w2_ninS, w2_addS, w2_addSg, wslc_S, wsub_S, w2_ltS, w2_isN0, w2_isNi, w2_isNs, w2_isNS, w2_isNt, w2_isNl, w2_isNT, w2_isNL, w2_ntN0, w2_ntNi, w2_ntNs, w2_ntNS, w2_ntNt, w2_ntNl, w2_ntNT, w2_ntNL, w2_repL, w2_rep1, w2_repT, w2_repT1)
  refine qmac_ok' _ x y z a b c hx hy hz ha hb hc (fun h => ?_) (fun h => ?_)
  · (try exists imm_Sx, imm_Sg, flat_Sx, flat_Sg, wbi_lenS, wits_Sx, w2_inS, w2_ninS, w2_addS, w2_addSg, wslc_S, wsub_S, w2_ltS, w2_isN0, w2_isNi, w2_isNs, w2_isNS, w2_isNt, w2_isNl, w2_isNT, w2_isNL, w2_ntN0, w2_ntNi, w2_ntNs, w2_ntNS, w2_ntNt, w2_ntNl, w2_ntNT, w2_ntNL, w2_repL, w2_rep1, w2_repT, w2_repT1)
    exact q1 h
  · (try exists imm_Sx, imm_Sg, flat_Sx, flat_Sg, wbi_lenS, wits_Sx, w2_inS, w2_ninS, w2_addS, w2_addSg, wslc_S, wsub_S, w2_ltS, w2_isN0, w2_isNi, w2_isNs, w2_isNS, w2_isNt, w2_isNl, w2_isNT, w2_isNL, w2_ntN0, w2_ntNi, w2_ntNs, w2_ntNS, w2_ntNt, w2_ntNl, w2_ntNT, w2_ntNL, w2_repL, w2_rep1, w2_repT, w2_repT1, wtry_c, hd_1)
    exact q2 h
def bx' (t : List (List Int)) (c : Int) : Bool := decide (t.length ≤ 8) && (decide (wd t ≤ 8) && (decide (0 ≤ c) && decide (c ≤ 8)))
theorem bx_of {t : List (List Int)} {c : Int} (h : bx' t c = true) : bx t c := by
  unfold bx' at h
  simp only [Bool.and_eq_true, decide_eq_true_eq] at h
  exact h
theorem of_bx {t : List (List Int)} {c : Int} (h : bx t c) : bx' t c = true := by
  unfold bx'
  simp only [Bool.and_eq_true, decide_eq_true_eq]
  exact h
def errT (t : List (List Int)) (c : Int) : D := if bx' t c = true then (match fbr t c with
  | none => .none
  | some r => if (rw' t r).length ≠ wd t then .tuple [.str "rows", .int (r : Nat)] else .tuple [.str "order", .int (r : Nat)]) else .tuple [.str "box", .int 0]
theorem tcheck_ok (m : Nat) (t : List (List Int)) (c : Int) (x : Int) (hl : t.length ≤ 1000) (hw : ∀ r, (rw' t r).length ≤ 1000) {Q : D → Prop} {E : XE} (q : Q (errT t c)) : Call (runF fs (m+3)) 15 [.own (.str "check"), .own (Tp (Tp .int) t), .own (.int c), .own (.int x)] Q E := by
  refine call_intro rfl rfl ?_
  unfold c15
  exists imm_Sx, imm_Sg, flat_Sx, flat_Sg, wbi_lenS, wits_Sx, w2_inS, w2_ninS, w2_addS, w2_addSg, wslc_S, wsub_S, w2_ltS, w2_isN0, w2_isNi, w2_isNs, w2_isNS, w2_isNt, w2_isNl, w2_isNT, w2_isNL, w2_ntN0, w2_ntNi, w2_ntNs, w2_ntNS, w2_ntNt, w2_ntNl, w2_ntNT, w2_ntNL, w2_repL, w2_rep1, w2_repT, w2_repT1
  rw [dF (by decide : ¬ Str.ofString "check" = Str.ofString "list")]
  (try exists imm_Sx, imm_Sg, flat_Sx, flat_Sg, wbi_lenS, wits_Sx, w2_inS, w2_ninS, w2_addS, w2_addSg, wslc_S, wsub_S, w2_ltS, w2_isN0, w2_isNi, w2_isNs, w2_isNS, w2_isNt, w2_isNl, w2_isNT, w2_isNL, w2_ntN0, w2_ntNi, w2_ntNs, w2_ntNS, w2_ntNt, w2_ntNl, w2_ntNT, w2_ntNL, w2_repL, w2_rep1, w2_repT, w2_repT1)
  refine wcall_2 ?_
  (try exists imm_Sx, imm_Sg, flat_Sx, flat_Sg, wbi_lenS, wits_Sx, w2_inS, w2_ninS, w2_addS, w2_addSg, wslc_S, wsub_S, w2_ltS, w2_isN0, w2_isNi, w2_isNs, w2_isNS, w2_isNt, w2_isNl, w2_isNT, w2_isNL, w2_ntN0, w2_ntNi, w2_ntNs, w2_ntNS, w2_ntNt, w2_ntNl, w2_ntNT, w2_ntNL, w2_repL, w2_rep1, w2_repT, w2_repT1)
  unfold errT at q
  refine check_ok _ t c hl hw (fun h => ?_) (fun r h1 h2 h3 => ?_) (fun r h1 h2 h3 => ?_) (fun h1 h2 => ?_)
  · rw [if_neg (fun z => h (bx_of z))] at q
    (try exists imm_Sx, imm_Sg, flat_Sx, flat_Sg, wbi_lenS, wits_Sx, w2_inS, w2_ninS, w2_addS, w2_addSg, wslc_S, wsub_S, w2_ltS, w2_isN0, w2_isNi, w2_isNs, w2_isNS, w2_isNt, w2_isNl, w2_isNT, w2_isNL, w2_ntN0, w2_ntNi, w2_ntNs, w2_ntNS, w2_ntNt, w2_ntNl, w2_ntNT, w2_ntNL, w2_repL, w2_rep1, w2_repT, w2_repT1, wtry_c, hd_1)
    exact q
  · rw [if_pos (of_bx h1), h2] at q
    simp only [if_pos h3] at q
    (try exists imm_Sx, imm_Sg, flat_Sx, flat_Sg, wbi_lenS, wits_Sx, w2_inS, w2_ninS, w2_addS, w2_addSg, wslc_S, wsub_S, w2_ltS, w2_isN0, w2_isNi, w2_isNs, w2_isNS, w2_isNt, w2_isNl, w2_isNT, w2_isNL, w2_ntN0, w2_ntNi, w2_ntNs, w2_ntNS, w2_ntNt, w2_ntNl, w2_ntNT, w2_ntNL, w2_repL, w2_rep1, w2_repT, w2_repT1, wtry_c, hd_1)
    exact q
  · rw [if_pos (of_bx h1), h2] at q
    simp only [if_neg (fun z : (rw' t r).length ≠ wd t => z h3)] at q
    (try exists imm_Sx, imm_Sg, flat_Sx, flat_Sg, wbi_lenS, wits_Sx, w2_inS, w2_ninS, w2_addS, w2_addSg, wslc_S, wsub_S, w2_ltS, w2_isN0, w2_isNi, w2_isNs, w2_isNS, w2_isNt, w2_isNl, w2_isNT, w2_isNL, w2_ntN0, w2_ntNi, w2_ntNs, w2_ntNS, w2_ntNt, w2_ntNl, w2_ntNT, w2_ntNL, w2_repL, w2_rep1, w2_repT, w2_repT1, wtry_c, hd_1)
    exact q
  · rw [if_pos (of_bx h1), h2] at q
    (try exists imm_Sx, imm_Sg, flat_Sx, flat_Sg, wbi_lenS, wits_Sx, w2_inS, w2_ninS, w2_addS, w2_addSg, wslc_S, wsub_S, w2_ltS, w2_isN0, w2_isNi, w2_isNs, w2_isNS, w2_isNt, w2_isNl, w2_isNT, w2_isNL, w2_ntN0, w2_ntNi, w2_ntNs, w2_ntNS, w2_ntNt, w2_ntNl, w2_ntNT, w2_ntNL, w2_repL, w2_rep1, w2_repT, w2_repT1)
    exact q
theorem pyg_mem {α : Type} [Inhabited α] {l : List α} {i : Int} (h : 0 ≤ i) (h2 : i < l.length) : pyg l i ∈ l := by
  unfold pyg
  rw [if_pos h, List.getD_eq_getElem?_getD, List.getElem?_eq_getElem (by omega)]
  exact List.getElem_mem _
theorem pick_ok (k : Nat) {x : D} (hx : Dr x) (l : List (List (List Int))) (hl : 0 < l.length) (hl2 : l.length < 100000) {Q : D → D → Prop} {E : XE} (q : ∀ a x', a ∈ l → Dr x' → Q (Tp (Tp .int) a) x') : CallR (runF fs (k+2)) 14 [.own x, .fz (Ls (Tp (Tp .int)) l)] Q E := by
  refine callR_intro rfl rfl (by decide) ?_
  unfold c14
  exists imm_Sx, imm_Sg, flat_Sx, flat_Sg, wbi_lenS, wits_Sx, w2_inS, w2_ninS, w2_addS, w2_addSg, wslc_S, wsub_S, w2_ltS, w2_isN0, w2_isNi, w2_isNs, w2_isNS, w2_isNt, w2_isNl, w2_isNT, w2_isNL, w2_ntN0, w2_ntNi, w2_ntNs, w2_ntNS, w2_ntNt, w2_ntNl, w2_ntNT, w2_ntNL, w2_repL, w2_rep1, w2_repT, w2_repT1
  refine wcall_take (f := 13) (mm := 69621) (q := 2147483647) rfl (by decide) (by decide) hx rfl (by exists imm_Sx, imm_Sg, flat_Sx, flat_Sg, wbi_lenS, wits_Sx, w2_inS, w2_ninS, w2_addS, w2_addSg, wslc_S, wsub_S, w2_ltS, w2_isN0, w2_isNi, w2_isNs, w2_isNS, w2_isNt, w2_isNl, w2_isNT, w2_isNL, w2_ntN0, w2_ntNi, w2_ntNs, w2_ntNS, w2_ntNt, w2_ntNl, w2_ntNT, w2_ntNL, w2_repL, w2_rep1, w2_repT, w2_repT1) (by omega) (by omega) fun r x1 r0 r1 hx1 => ?_
  exists imm_Sx, imm_Sg, flat_Sx, flat_Sg, wbi_lenS, wits_Sx, w2_inS, w2_ninS, w2_addS, w2_addSg, wslc_S, wsub_S, w2_ltS, w2_isN0, w2_isNi, w2_isNs, w2_isNS, w2_isNt, w2_isNl, w2_isNT, w2_isNL, w2_ntN0, w2_ntNi, w2_ntNs, w2_ntNS, w2_ntNt, w2_ntNl, w2_ntNT, w2_ntNL, w2_repL, w2_rep1, w2_repT, w2_repT1
  exact ⟨⟨by omega, by omega⟩, x1, rfl, q _ x1 (pyg_mem r0 r1) hx1⟩
end K45
set_option Elab.async false
set_option linter.all false
set_option maxRecDepth 100000
set_option maxHeartbeats 1000000
namespace K45
open PySem PV
def big : Ss := match tailS 6 c18.body with | .cons (.iff _ b _) _ => b | _ => .nil
theorem eq_pr {a : Str} {i : Int} {K : D → Prop} : w2 .eq (.tuple [.str a, .int i]) (.tuple [.str a, .int i]) K = K (.bool true) := by
  have := w2_eq (f := Pr PyData.str PyData.int) (a := (a, i)) (b := (a, i)) (K := K) (by decide)
  rw [decide_eq_true rfl] at this
  exact this
theorem ne_pr {a : Str} {i : Int} {K : D → Prop} : w2 .ne (.tuple [.str a, .int i]) (.tuple [.str a, .int i]) K = K (.bool false) := by
  have := w2_ne (f := Pr PyData.str PyData.int) (a := (a, i)) (b := (a, i)) (K := K) (by decide)
  rw [decide_eq_true rfl] at this
  exact this
theorem ne_non {K : D → Prop} : w2 .ne .none .none K = K (.bool false) := by
  have : eqD .none .none = .ok true := by
    unfold eqD
    rw [if_pos (by simp [PyData.depth])]
    simp [PyData.eqv]
  simp only [w2, op2, this, bind_ok]; rfl
/-- what is left of the block: any ending -/
def KB (KE : Out → PV.Env → Prop) (ns : List Int) (x y z m : Int) : Prop := ∀ (d : D) (n6 n7 n8 n9 n10 n11 n12 n13 n15 n16 n17 n18 n19 : NB), KE .nx [some (.scr ns), some (.own d), some (.own (.int x)), some (.own (.int y)), some (.own (.int z)), some (.own (.int m)), n6.c, n7.c, n8.c, n9.c, n10.c, n11.c, n12.c, n13.c, none, n15.c, n16.c, n17.c, n18.c, n19.c]
theorem bigF (k : Nat) (ns : List Int) (x y z m : Int) (n6 n7 n8 n9 n10 n11 : NB) (n13 n15 n16 n17 n18 n19 : NI) (d : D) (t : List (List Int)) (ht : t.length ≤ 1000) (hw : ∀ row ∈ t, row.length ≤ 1000) {KE : Out → PV.Env → Prop} {E : XE} (hK : KB KE ns x y z m) : wss (runF fs (k+5)) (tailS 16 big) [some (.scr ns), some (.own d), some (.own (.int x)), some (.own (.int y)), some (.own (.int z)), some (.own (.int m)), n6.c, n7.c, n8.c, n9.c, n10.c, n11.c, some (.own (Ls (Ls .int) t)), n13.c, none, n15.c, n16.c, n17.c, n18.c, n19.c] KE E := by
  have hr : ∀ r, (rw' t r).length ≤ 1000 := fun r => by
    by_cases h : r < t.length
    · have e : rw' t r = t[r] := by unfold rw'; rw [List.getD_eq_getElem?_getD, List.getElem?_eq_getElem h]; rfl
      rw [e]; exact hw _ (List.getElem_mem h)
    · unfold rw'
      rw [List.getD_eq_getElem?_getD, List.getElem?_eq_none (by omega)]; simp
  unfold big c18
  simp only [tailS]
  exists imm_Sx, imm_Sg, flat_Sx, flat_Sg, wbi_lenS, wits_Sx, w2_inS, w2_ninS, w2_addS, w2_addSg, wslc_S, wsub_S, w2_ltS, w2_isN0, w2_isNi, w2_isNs, w2_isNS, w2_isNt, w2_isNl, w2_isNT, w2_isNL, w2_ntN0, w2_ntNi, w2_ntNs, w2_ntNS, w2_ntNt, w2_ntNl, w2_ntNT, w2_ntNL, w2_repL, w2_rep1, w2_repT, w2_repT1
  refine wcomp_map1 (f := Ls PyData.int) (Tp .int) (fun row => row) true (fun row hm => ?_) (by (try exists imm_Sx, imm_Sg, flat_Sx, flat_Sg, wbi_lenS, wits_Sx, w2_inS, w2_ninS, w2_addS, w2_addSg, wslc_S, wsub_S, w2_ltS, w2_isN0, w2_isNi, w2_isNs, w2_isNS, w2_isNt, w2_isNl, w2_isNT, w2_isNL, w2_ntN0, w2_ntNi, w2_ntNs, w2_ntNS, w2_ntNt, w2_ntNl, w2_ntNT, w2_ntNL, w2_repL, w2_rep1, w2_repT, w2_repT1)) rfl (by omega) fun b' hb' => ?_
  · (try exists imm_Sx, imm_Sg, flat_Sx, flat_Sg, wbi_lenS, wits_Sx, w2_inS, w2_ninS, w2_addS, w2_addSg, wslc_S, wsub_S, w2_ltS, w2_isN0, w2_isNi, w2_isNs, w2_isNS, w2_isNt, w2_isNl, w2_isNT, w2_isNL, w2_ntN0, w2_ntNi, w2_ntNs, w2_ntNS, w2_ntNt, w2_ntNl, w2_ntNT, w2_ntNL, w2_repL, w2_rep1, w2_repT, w2_repT1)
    exact fun _ => trivial
  obtain rfl := hb' rfl
  rw [List.map_id']
  (try exists imm_Sx, imm_Sg, flat_Sx, flat_Sg, wbi_lenS, wits_Sx, w2_inS, w2_ninS, w2_addS, w2_addSg, wslc_S, wsub_S, w2_ltS, w2_isN0, w2_isNi, w2_isNs, w2_isNS, w2_isNt, w2_isNl, w2_isNT, w2_isNL, w2_ntN0, w2_ntNi, w2_ntNs, w2_ntNS, w2_ntNt, w2_ntNl, w2_ntNT, w2_ntNL, w2_repL, w2_rep1, w2_repT, w2_repT1)
  refine wcall_vals (rs := [_, _, _, _]) ?_
  (try exists imm_Sx, imm_Sg, flat_Sx, flat_Sg, wbi_lenS, wits_Sx, w2_inS, w2_ninS, w2_addS, w2_addSg, wslc_S, wsub_S, w2_ltS, w2_isN0, w2_isNi, w2_isNs, w2_isNS, w2_isNt, w2_isNl, w2_isNT, w2_isNL, w2_ntN0, w2_ntNi, w2_ntNs, w2_ntNS, w2_ntNt, w2_ntNl, w2_ntNT, w2_ntNL, w2_repL, w2_rep1, w2_repT, w2_repT1)
  refine tcheck_ok _ t z 0 ht hr ?_
  (try exists imm_Sx, imm_Sg, flat_Sx, flat_Sg, wbi_lenS, wits_Sx, w2_inS, w2_ninS, w2_addS, w2_addSg, wslc_S, wsub_S, w2_ltS, w2_isN0, w2_isNi, w2_isNs, w2_isNS, w2_isNt, w2_isNl, w2_isNT, w2_isNL, w2_ntN0, w2_ntNi, w2_ntNs, w2_ntNS, w2_ntNt, w2_ntNl, w2_ntNT, w2_ntNL, w2_repL, w2_rep1, w2_repT, w2_repT1)
  refine wcall_2 ?_
  (try exists imm_Sx, imm_Sg, flat_Sx, flat_Sg, wbi_lenS, wits_Sx, w2_inS, w2_ninS, w2_addS, w2_addSg, wslc_S, wsub_S, w2_ltS, w2_isN0, w2_isNi, w2_isNs, w2_isNS, w2_isNt, w2_isNl, w2_isNT, w2_isNL, w2_ntN0, w2_ntNi, w2_ntNs, w2_ntNS, w2_ntNt, w2_ntNl, w2_ntNT, w2_ntNL, w2_repL, w2_rep1, w2_repT, w2_repT1)
  have fin : ∀ (e : D), KE .nx [some (.scr ns), some (.own d), some (.own (.int x)), some (.own (.int y)), some (.own (.int z)), some (.own (.int m)), n6.c, n7.c, n8.c, n9.c, n10.c, n11.c, some (.own (Tp (Tp .int) t)), n13.c, none, n15.c, n16.c, n17.c, n18.c, n19.c] := fun _ => hK d n6 n7 n8 n9 n10 n11 ⟨some (.own (Tp (Tp .int) t)), rfl⟩ ⟨n13.c, n13.h⟩ ⟨n15.c, n15.h⟩ ⟨n16.c, n16.h⟩ ⟨n17.c, n17.h⟩ ⟨n18.c, n18.h⟩ ⟨n19.c, n19.h⟩
  refine lerr_ok _ t z ht hr (fun h => ?_) (fun r h1 h2 h3 => ?_) (fun r h1 h2 h3 => ?_) (fun h1 h2 => ?_)
  · have e : errT t z = .tuple [.str "box", .int 0] := by unfold errT; rw [if_neg fun q => h (bx_of q)]
    rw [e]
    (try exists imm_Sx, imm_Sg, flat_Sx, flat_Sg, wbi_lenS, wits_Sx, w2_inS, w2_ninS, w2_addS, w2_addSg, wslc_S, wsub_S, w2_ltS, w2_isN0, w2_isNi, w2_isNs, w2_isNS, w2_isNt, w2_isNl, w2_isNT, w2_isNL, w2_ntN0, w2_ntNi, w2_ntNs, w2_ntNS, w2_ntNt, w2_ntNl, w2_ntNT, w2_ntNL, w2_repL, w2_rep1, w2_repT, w2_repT1, ne_pr)
    exact fin .none
  · have e : errT t z = .tuple [.str "rows", .int r] := by unfold errT; rw [if_pos (of_bx h1), h2]; exact if_pos h3
    rw [e]
    (try exists imm_Sx, imm_Sg, flat_Sx, flat_Sg, wbi_lenS, wits_Sx, w2_inS, w2_ninS, w2_addS, w2_addSg, wslc_S, wsub_S, w2_ltS, w2_isN0, w2_isNi, w2_isNs, w2_isNS, w2_isNt, w2_isNl, w2_isNT, w2_isNL, w2_ntN0, w2_ntNi, w2_ntNs, w2_ntNS, w2_ntNt, w2_ntNl, w2_ntNT, w2_ntNL, w2_repL, w2_rep1, w2_repT, w2_repT1, ne_pr)
    exact fin .none
  · have e : errT t z = .tuple [.str "order", .int r] := by unfold errT; rw [if_pos (of_bx h1), h2]; exact if_neg fun q => q h3
    rw [e]
    (try exists imm_Sx, imm_Sg, flat_Sx, flat_Sg, wbi_lenS, wits_Sx, w2_inS, w2_ninS, w2_addS, w2_addSg, wslc_S, wsub_S, w2_ltS, w2_isN0, w2_isNi, w2_isNs, w2_isNS, w2_isNt, w2_isNl, w2_isNT, w2_isNL, w2_ntN0, w2_ntNi, w2_ntNs, w2_ntNS, w2_ntNt, w2_ntNl, w2_ntNT, w2_ntNL, w2_repL, w2_rep1, w2_repT, w2_repT1, ne_pr)
    exact fin .none
  · have e : errT t z = .none := by unfold errT; rw [if_pos (of_bx h1), h2]
    rw [e]
    (try exists imm_Sx, imm_Sg, flat_Sx, flat_Sg, wbi_lenS, wits_Sx, w2_inS, w2_ninS, w2_addS, w2_addSg, wslc_S, wsub_S, w2_ltS, w2_isN0, w2_isNi, w2_isNs, w2_isNS, w2_isNt, w2_isNl, w2_isNT, w2_isNL, w2_ntN0, w2_ntNi, w2_ntNs, w2_ntNS, w2_ntNt, w2_ntNl, w2_ntNT, w2_ntNL, w2_repL, w2_rep1, w2_repT, w2_repT1, ne_non)
    exact fin .none
theorem rows_set {t : List (List Int)} {i : Nat} {row : List Int} {n : Nat} (h : ∀ r ∈ t, r.length ≤ n) (h2 : row.length ≤ n) : ∀ r ∈ t.set i row, r.length ≤ n := fun r hr => by
  rcases List.mem_or_eq_of_mem_set hr with q | q
  · exact h r q
  · rw [q]; exact h2
theorem bigE (k : Nat) (ns : List Int) (x y z m : Int) (n6 n7 n8 n10 n11 n12 : NB) (n13 n15 n16 n17 n18 n19 : NI) (d : D) (hd : Dr d) (t : List (List Int)) (hx : 0 < x ∧ x < 9) (hy : 0 < y ∧ y < 9) (ht : (t.length : Int) = x) (hw : ∀ row ∈ t, (row.length : Int) = y) {KE : Out → PV.Env → Prop} {E : XE} (hK : KB KE ns x y z m) : wss (runF fs (k+5)) (tailS 13 big) [some (.scr ns), some (.own d), some (.own (.int x)), some (.own (.int y)), some (.own (.int z)), some (.own (.int m)), n6.c, n7.c, n8.c, some (.own (Tp (Tp .int) t)), n10.c, n11.c, n12.c, n13.c, none, n15.c, n16.c, n17.c, n18.c, n19.c] KE E := by
  unfold big c18
  simp only [tailS]
  exists imm_Sx, imm_Sg, flat_Sx, flat_Sg, wbi_lenS, wits_Sx, w2_inS, w2_ninS, w2_addS, w2_addSg, wslc_S, wsub_S, w2_ltS, w2_isN0, w2_isNi, w2_isNs, w2_isNS, w2_isNt, w2_isNl, w2_isNT, w2_isNL, w2_ntN0, w2_ntNi, w2_ntNs, w2_ntNS, w2_ntNt, w2_ntNl, w2_ntNT, w2_ntNL, w2_repL, w2_rep1, w2_repT, w2_repT1
  refine wcomp_map1 (f := Tp PyData.int) (Ls .int) (fun row => row) true (fun row hm => ?_) (by (try exists imm_Sx, imm_Sg, flat_Sx, flat_Sg, wbi_lenS, wits_Sx, w2_inS, w2_ninS, w2_addS, w2_addSg, wslc_S, wsub_S, w2_ltS, w2_isN0, w2_isNi, w2_isNs, w2_isNS, w2_isNt, w2_isNl, w2_isNT, w2_isNL, w2_ntN0, w2_ntNi, w2_ntNs, w2_ntNS, w2_ntNt, w2_ntNl, w2_ntNT, w2_ntNL, w2_repL, w2_rep1, w2_repT, w2_repT1)) rfl (by omega) fun b' hb' => ?_
  · (try exists imm_Sx, imm_Sg, flat_Sx, flat_Sg, wbi_lenS, wits_Sx, w2_inS, w2_ninS, w2_addS, w2_addSg, wslc_S, wsub_S, w2_ltS, w2_isN0, w2_isNi, w2_isNs, w2_isNS, w2_isNt, w2_isNl, w2_isNT, w2_isNL, w2_ntN0, w2_ntNi, w2_ntNs, w2_ntNS, w2_ntNt, w2_ntNl, w2_ntNT, w2_ntNL, w2_repL, w2_rep1, w2_repT, w2_repT1)
    exact fun _ => trivial
  obtain rfl := hb' rfl
  rw [List.map_id']
  (try exists imm_Sx, imm_Sg, flat_Sx, flat_Sg, wbi_lenS, wits_Sx, w2_inS, w2_ninS, w2_addS, w2_addSg, wslc_S, wsub_S, w2_ltS, w2_isN0, w2_isNi, w2_isNs, w2_isNS, w2_isNt, w2_isNl, w2_isNT, w2_isNL, w2_ntN0, w2_ntNi, w2_ntNs, w2_ntNS, w2_ntNt, w2_ntNl, w2_ntNT, w2_ntNL, w2_repL, w2_rep1, w2_repT, w2_repT1)
  refine wcall_take (f := 13) (mm := 69621) (q := 2147483647) rfl (by decide) (by decide) hd rfl (by (try exists imm_Sx, imm_Sg, flat_Sx, flat_Sg, wbi_lenS, wits_Sx, w2_inS, w2_ninS, w2_addS, w2_addSg, wslc_S, wsub_S, w2_ltS, w2_isN0, w2_isNi, w2_isNs, w2_isNS, w2_isNt, w2_isNl, w2_isNT, w2_isNL, w2_ntN0, w2_ntNi, w2_ntNs, w2_ntNS, w2_ntNt, w2_ntNl, w2_ntNT, w2_ntNL, w2_repL, w2_rep1, w2_repT, w2_repT1)) (by omega) (by omega) fun r d1 r0 r1 hd1 => ?_
  (try exists imm_Sx, imm_Sg, flat_Sx, flat_Sg, wbi_lenS, wits_Sx, w2_inS, w2_ninS, w2_addS, w2_addSg, wslc_S, wsub_S, w2_ltS, w2_isN0, w2_isNi, w2_isNs, w2_isNS, w2_isNt, w2_isNl, w2_isNT, w2_isNL, w2_ntN0, w2_ntNi, w2_ntNs, w2_ntNS, w2_ntNt, w2_ntNl, w2_ntNT, w2_ntNL, w2_repL, w2_rep1, w2_repT, w2_repT1)
  refine wcall_take (f := 13) (mm := 69621) (q := 2147483647) rfl (by decide) (by decide) hd1 rfl (by (try exists imm_Sx, imm_Sg, flat_Sx, flat_Sg, wbi_lenS, wits_Sx, w2_inS, w2_ninS, w2_addS, w2_addSg, wslc_S, wsub_S, w2_ltS, w2_isN0, w2_isNi, w2_isNs, w2_isNS, w2_isNt, w2_isNl, w2_isNT, w2_isNL, w2_ntN0, w2_ntNi, w2_ntNs, w2_ntNS, w2_ntNt, w2_ntNl, w2_ntNT, w2_ntNL, w2_repL, w2_rep1, w2_repT, w2_repT1)) (by decide) (by decide) fun e d2 e0 e1 hd2 => ?_
  (try exists imm_Sx, imm_Sg, flat_Sx, flat_Sg, wbi_lenS, wits_Sx, w2_inS, w2_ninS, w2_addS, w2_addSg, wslc_S, wsub_S, w2_ltS, w2_isN0, w2_isNi, w2_isNs, w2_isNS, w2_isNt, w2_isNl, w2_isNT, w2_isNL, w2_ntN0, w2_ntNi, w2_ntNs, w2_ntNS, w2_ntNt, w2_ntNl, w2_ntNT, w2_ntNL, w2_repL, w2_rep1, w2_repT, w2_repT1)
  have hrl : (pyg t r).length ≤ 9 := by
    have hm : pyg t r ∈ t := pyg_mem r0 (by omega)
    have := hw _ hm
    omega
  have hw1 : ∀ row ∈ t, row.length ≤ 1000 := fun row hm => by have := hw row hm; omega
  have hcut := fun (d' : D) (t' : List (List Int)) (q1 : t'.length ≤ 1000) (q2 : ∀ row ∈ t', row.length ≤ 1000) => bigF k ns x y z m n6 n7 n8 ⟨some (.own (Tp (Tp .int) t)), rfl⟩ n10 n11 ⟨some (.own (.int r)), rfl, rfl⟩ n15 n16 n17 n18 n19 d' t' q1 q2 hK (E := E)
  unfold big c18 at hcut
  simp only [tailS] at hcut
  refine wbS_if (fun h0 => ?_) (fun h0 => ?_) <;> (try simp only [decide_eq_true_eq, decide_eq_false_iff_not, Bool.or_eq_true, Bool.and_eq_true, Bool.or_eq_false_iff, Bool.and_eq_false_iff, Bool.not_eq_true', Bool.not_eq_false', Bool.not_eq_true, Bool.not_eq_false, Int.not_lt, Int.not_le, Bool.false_eq_true, Bool.true_eq_false, id] at h0)
  · (try exists imm_Sx, imm_Sg, flat_Sx, flat_Sg, wbi_lenS, wits_Sx, w2_inS, w2_ninS, w2_addS, w2_addSg, wslc_S, wsub_S, w2_ltS, w2_isN0, w2_isNi, w2_isNs, w2_isNS, w2_isNt, w2_isNl, w2_isNT, w2_isNL, w2_ntN0, w2_ntNi, w2_ntNs, w2_ntNS, w2_ntNt, w2_ntNl, w2_ntNT, w2_ntNL, w2_repL, w2_rep1, w2_repT, w2_repT1)
    refine ⟨⟨by omega, by omega⟩, ⟨by omega, by omega⟩, by omega, ⟨by omega, by omega⟩, ?_⟩
    have hcut := hcut d2 (t.set (if 0 ≤ r then r.toNat else (r + ↑t.length).toNat) (pyg t r ++ [0])) (by rw [List.length_set]; omega) (rows_set hw1 (by rw [List.length_append, List.length_singleton]; omega))
    revert hcut; exists imm_Sx, imm_Sg, flat_Sx, flat_Sg, wbi_lenS, wits_Sx, w2_inS, w2_ninS, w2_addS, w2_addSg, wslc_S, wsub_S, w2_ltS, w2_isN0, w2_isNi, w2_isNs, w2_isNS, w2_isNt, w2_isNl, w2_isNT, w2_isNL, w2_ntN0, w2_ntNi, w2_ntNs, w2_ntNS, w2_ntNt, w2_ntNl, w2_ntNT, w2_ntNL, w2_repL, w2_rep1, w2_repT, w2_repT1; exact id
  · (try exists imm_Sx, imm_Sg, flat_Sx, flat_Sg, wbi_lenS, wits_Sx, w2_inS, w2_ninS, w2_addS, w2_addSg, wslc_S, wsub_S, w2_ltS, w2_isN0, w2_isNi, w2_isNs, w2_isNS, w2_isNt, w2_isNl, w2_isNT, w2_isNL, w2_ntN0, w2_ntNi, w2_ntNs, w2_ntNS, w2_ntNt, w2_ntNl, w2_ntNT, w2_ntNL, w2_repL, w2_rep1, w2_repT, w2_repT1)
    refine wcall_take (f := 13) (mm := 69621) (q := 2147483647) rfl (by decide) (by decide) hd2 rfl (by (try exists imm_Sx, imm_Sg, flat_Sx, flat_Sg, wbi_lenS, wits_Sx, w2_inS, w2_ninS, w2_addS, w2_addSg, wslc_S, wsub_S, w2_ltS, w2_isN0, w2_isNi, w2_isNs, w2_isNS, w2_isNt, w2_isNl, w2_isNT, w2_isNL, w2_ntN0, w2_ntNi, w2_ntNs, w2_ntNS, w2_ntNt, w2_ntNl, w2_ntNT, w2_ntNL, w2_repL, w2_rep1, w2_repT, w2_repT1)) (by decide) (by decide) fun v d3 v0 v1 hd3 => ?_
    (try exists imm_Sx, imm_Sg, flat_Sx, flat_Sg, wbi_lenS, wits_Sx, w2_inS, w2_ninS, w2_addS, w2_addSg, wslc_S, wsub_S, w2_ltS, w2_isN0, w2_isNi, w2_isNs, w2_isNS, w2_isNt, w2_isNl, w2_isNT, w2_isNL, w2_ntN0, w2_ntNi, w2_ntNs, w2_ntNS, w2_ntNt, w2_ntNl, w2_ntNT, w2_ntNL, w2_repL, w2_rep1, w2_repT, w2_repT1)
    refine ⟨⟨by omega, by omega⟩, ?_⟩
    refine wcall_take (f := 13) (mm := 69621) (q := 2147483647) rfl (by decide) (by decide) hd3 rfl (by (try exists imm_Sx, imm_Sg, flat_Sx, flat_Sg, wbi_lenS, wits_Sx, w2_inS, w2_ninS, w2_addS, w2_addSg, wslc_S, wsub_S, w2_ltS, w2_isN0, w2_isNi, w2_isNs, w2_isNS, w2_isNt, w2_isNl, w2_isNT, w2_isNL, w2_ntN0, w2_ntNi, w2_ntNs, w2_ntNS, w2_ntNt, w2_ntNl, w2_ntNT, w2_ntNL, w2_repL, w2_rep1, w2_repT, w2_repT1)) (by omega) (by omega) fun j d4 j0 j1 hd4 => ?_
    (try exists imm_Sx, imm_Sg, flat_Sx, flat_Sg, wbi_lenS, wits_Sx, w2_inS, w2_ninS, w2_addS, w2_addSg, wslc_S, wsub_S, w2_ltS, w2_isN0, w2_isNi, w2_isNs, w2_isNS, w2_isNt, w2_isNl, w2_isNT, w2_isNL, w2_ntN0, w2_ntNi, w2_ntNs, w2_ntNS, w2_ntNt, w2_ntNl, w2_ntNT, w2_ntNL, w2_repL, w2_rep1, w2_repT, w2_repT1)
    have hpl : ((pyg t r).length : Int) = y := hw _ (pyg_mem r0 (by omega))
    refine ⟨⟨by omega, by omega⟩, ⟨by omega, by omega⟩, ?_⟩
    have hcut := hcut d4 (t.set (if 0 ≤ r then r.toNat else (r + ↑t.length).toNat) ((pyg t r).set (if 0 ≤ j then j.toNat else (j + ↑(pyg t r).length).toNat) (v - 1))) (by rw [List.length_set]; omega) (rows_set hw1 (by rw [List.length_set]; omega))
    revert hcut; exists imm_Sx, imm_Sg, flat_Sx, flat_Sg, wbi_lenS, wits_Sx, w2_inS, w2_ninS, w2_addS, w2_addSg, wslc_S, wsub_S, w2_ltS, w2_isN0, w2_isNi, w2_isNs, w2_isNS, w2_isNt, w2_isNl, w2_isNT, w2_isNL, w2_ntN0, w2_ntNi, w2_ntNs, w2_ntNS, w2_ntNt, w2_ntNl, w2_ntNT, w2_ntNL, w2_repL, w2_rep1, w2_repT, w2_repT1; exact id
end K45
set_option Elab.async false
set_option linter.all false
set_option maxRecDepth 100000
set_option maxHeartbeats 1000000
namespace K45
open PySem PV
def tabs (a b c : Nat) : List (List (List Int)) := (lpN b c (a * b) 0 [[]]).map fun g => tb a b (fe a b g)
def symT (x : Int) (t : List (List Int)) : Bool := ((rng 0 x).map fun r => ((rng 0 x).map fun k => decide (pyg (pyg t r) k = pyg (pyg t k) r)).all id).all id
theorem pyg_tb {a b : Nat} {f : Nat → Nat → Int} {r k : Nat} (hr : r < a) (hk : k < b) : pyg (pyg (tb a b f) (r : Int)) (k : Int) = f r k := by
  rw [pyg_rw (by omega), Int.toNat_natCast, rw_tb a b f hr, pyg_gz (by omega), Int.toNat_natCast, gz_map, if_pos hk]
theorem symT_q (a : Nat) (g : List Nat) : symT a (tb a a (fe a a g)) = symN a g := by
  unfold symT symN rng
  rw [show ((a : Int) - 0).toNat = a by omega, List.map_map, all_map]
  rw [Bool.eq_iff_iff, List.all_eq_true, List.all_eq_true]
  constructor
  · intro h r hr
    have := h r hr
    simp only [Function.comp, Int.zero_add] at this
    rw [List.map_map, all_map, List.all_eq_true] at this
    rw [List.all_eq_true]
    intro k hk
    have := this k hk
    simp only [Function.comp, Int.zero_add, decide_eq_true_eq] at this
    rw [pyg_tb (List.mem_range.mp hr) (List.mem_range.mp hk), pyg_tb (List.mem_range.mp hk) (List.mem_range.mp hr)] at this
    unfold fe ent at this
    have : g.getD (a * a - 1 - (r * a + k)) 0 = g.getD (a * a - 1 - (k * a + r)) 0 := by omega
    rw [this]; exact Nat.beq_refl _
  · intro h r hr
    simp only [Function.comp, Int.zero_add]
    rw [List.map_map, all_map, List.all_eq_true]
    intro k hk
    have := List.all_eq_true.mp (h r hr) k hk
    have := beq_of this
    simp only [Function.comp, Int.zero_add, decide_eq_true_eq]
    rw [pyg_tb (List.mem_range.mp hr) (List.mem_range.mp hk), pyg_tb (List.mem_range.mp hk) (List.mem_range.mp hr)]
    unfold fe ent
    omega
theorem sym_len (a c : Nat) : ((tabs a a c).filter (symT a)).length = ((lpN a c (a * a) 0 [[]]).filter (symN a)).length := by
  unfold tabs
  rw [List.filter_map, List.length_map]
  congr 1
  refine List.filter_congr fun g _ => ?_
  simp only [Function.comp]
  exact symT_q a g
theorem up_q (a b c : Nat) (f : Nat → Nat → Int) : (rng 0 (c : Int)).map (fun h => (rng 0 (b : Int)).map fun k => (((tb a b f).filter fun row => decide (h < pyg row k)).length : Int)) = tb c b (uf a f) := by
  unfold rng
  rw [List.map_map, show ((c : Int) - 0).toNat = c by omega, show ((b : Int) - 0).toNat = b by omega]
  unfold tb
  refine List.map_congr_left fun h hh => ?_
  simp only [Function.comp, Int.zero_add]
  rw [List.map_map]
  refine List.map_congr_left fun k hk => ?_
  simp only [Function.comp, Int.zero_add]
  have e1 : (fun row : List Int => decide ((h : Int) < pyg row (k : Int))) = fun row => decide ((h : Int) < gz row k) := by
    funext row
    rw [pyg_gz (by omega), Int.toNat_natCast]
  rw [e1]
  exact congrArg Int.ofNat (filt_tb a b f k (List.mem_range.mp hk) fun v => decide ((h : Int) < v))
theorem bigS (k : Nat) (ns : List Int) (x y z : Int) (a b c : Nat) (hx : x = a) (hy : y = b) (hz : z = c) (ha : a < 9) (hb : b < 9) (hc : c < 9) (ha0 : 0 < a) (hb0 : 0 < b) (hm : mac a b c < 400) (hlen : (lpN b c (a * b) 0 [[]]).length ≤ 400) (n7 n8 n10 n11 : NB) (d : D) (hd : Dr d) (f : Nat → Nat → Int) {KE : Out → PV.Env → Prop} {E : XE} (hK : KB KE ns x y z (mac a b c)) : wss (runF fs (k+5)) (tailS 12 big) [some (.scr ns), some (.own d), some (.own (.int x)), some (.own (.int y)), some (.own (.int z)), some (.own (.int (mac a b c))), some (.own (Ls (Tp (Tp .int)) (tabs a b c))), n7.c, n8.c, some (.own (Tp (Tp .int) (tb a b f))), n10.c, n11.c, none, none, none, none, none, none, none, none] KE E := by
  have hl := tb_len a b f
  have hrow : ∀ row ∈ tb a b f, row.length = b := fun row hm => by
    unfold tb at hm
    obtain ⟨r, _, rfl⟩ := List.mem_map.mp hm
    simp
  have htl : (tabs a b c).length ≤ 400 := by unfold tabs; rw [List.length_map]; exact hlen
  have hcut := bigE k ns x y z (mac a b c) ⟨some (.own (Ls (Tp (Tp .int)) (tabs a b c))), rfl⟩ n7 n8 n10 n11 ⟨none, rfl⟩ ⟨none, rfl, rfl⟩ ⟨none, rfl, rfl⟩ ⟨none, rfl, rfl⟩ ⟨none, rfl, rfl⟩ ⟨none, rfl, rfl⟩ ⟨none, rfl, rfl⟩ d hd (tb a b f) (by omega) (by omega) (by omega) (fun row hm => by rw [hrow row hm, hy]) hK (E := E)
  unfold big c18 at hcut ⊢
  simp only [tailS] at hcut ⊢
  exists imm_Sx, imm_Sg, flat_Sx, flat_Sg, wbi_lenS, wits_Sx, w2_inS, w2_ninS, w2_addS, w2_addSg, wslc_S, wsub_S, w2_ltS, w2_isN0, w2_isNi, w2_isNs, w2_isNS, w2_isNt, w2_isNl, w2_isNT, w2_isNL, w2_ntN0, w2_ntNi, w2_ntNs, w2_ntNS, w2_ntNt, w2_ntNl, w2_ntNT, w2_ntNL, w2_repL, w2_rep1, w2_repT, w2_repT1
  by_cases hab : x = y
  · have : a = b := by omega
    subst this
    have h4 := List.all_eq_true.mp (List.all_eq_true.mp chk4_ok a (List.mem_range.mpr ha)) c (List.mem_range.mpr hc)
    simp only [Bool.or_eq_true, Bool.and_eq_true, decide_eq_true_eq, Bool.not_eq_true', decide_eq_false_iff_not] at h4
    have h4 : (symA a c).fdiv (symB a) = (((lpN a c (a * a) 0 [[]]).filter (symN a)).length : Int) ∧ 0 < symB a ∧ symB a < 2 ^ 400 := by
      rcases h4 with (h | h) | h
      · have := beq_of h; omega
      · omega
      · exact ⟨h.1.1, h.1.2, h.2⟩
    rw [decide_eq_true hab]
    (try exists imm_Sx, imm_Sg, flat_Sx, flat_Sg, wbi_lenS, wits_Sx, w2_inS, w2_ninS, w2_addS, w2_addSg, wslc_S, wsub_S, w2_ltS, w2_isN0, w2_isNi, w2_isNs, w2_isNS, w2_isNt, w2_isNl, w2_isNT, w2_isNL, w2_ntN0, w2_ntNi, w2_ntNs, w2_ntNS, w2_ntNt, w2_ntNl, w2_ntNT, w2_ntNL, w2_repL, w2_rep1, w2_repT, w2_repT1)
    refine wcall_2 ?_
    (try exists imm_Sx, imm_Sg, flat_Sx, flat_Sg, wbi_lenS, wits_Sx, w2_inS, w2_ninS, w2_addS, w2_addSg, wslc_S, wsub_S, w2_ltS, w2_isN0, w2_isNi, w2_isNs, w2_isNS, w2_isNt, w2_isNl, w2_isNT, w2_isNL, w2_ntN0, w2_ntNi, w2_ntNs, w2_ntNS, w2_ntNt, w2_ntNl, w2_ntNT, w2_ntNL, w2_repL, w2_rep1, w2_repT, w2_repT1)
    refine symc_ok' _ x z a c hx hz ha hc h4.2 ?_
    (try exists imm_Sx, imm_Sg, flat_Sx, flat_Sg, wbi_lenS, wits_Sx, w2_inS, w2_ninS, w2_addS, w2_addSg, wslc_S, wsub_S, w2_ltS, w2_isN0, w2_isNi, w2_isNs, w2_isNS, w2_isNt, w2_isNl, w2_isNT, w2_isNL, w2_ntN0, w2_ntNi, w2_ntNs, w2_ntNS, w2_ntNt, w2_ntNl, w2_ntNT, w2_ntNL, w2_repL, w2_rep1, w2_repT, w2_repT1)
    refine wcomp_map (f := Tp (Tp PyData.int)) (Tp (Tp PyData.int)) (symT x) (fun t => t) true (fun t ht => ?_) (by (try exists imm_Sx, imm_Sg, flat_Sx, flat_Sg, wbi_lenS, wits_Sx, w2_inS, w2_ninS, w2_addS, w2_addSg, wslc_S, wsub_S, w2_ltS, w2_isN0, w2_isNi, w2_isNs, w2_isNS, w2_isNt, w2_isNl, w2_isNT, w2_isNL, w2_ntN0, w2_ntNi, w2_ntNs, w2_ntNS, w2_ntNt, w2_ntNl, w2_ntNT, w2_ntNL, w2_repL, w2_rep1, w2_repT, w2_repT1)) rfl ?_ fun b' hb' => ?_
    · have hd2 : t.length = a ∧ ∀ r : Int, 0 ≤ r → r < a → (pyg t r).length = a := by
        unfold tabs at ht
        obtain ⟨g, _, rfl⟩ := List.mem_map.mp ht
        refine ⟨tb_len _ _ _, fun r h0 h1 => ?_⟩
        rw [pyg_rw h0, rw_tb _ _ _ (by omega)]; simp
      (try exists imm_Sx, imm_Sg, flat_Sx, flat_Sg, wbi_lenS, wits_Sx, w2_inS, w2_ninS, w2_addS, w2_addSg, wslc_S, wsub_S, w2_ltS, w2_isN0, w2_isNi, w2_isNs, w2_isNS, w2_isNt, w2_isNl, w2_isNT, w2_isNL, w2_ntN0, w2_ntNi, w2_ntNs, w2_ntNS, w2_ntNt, w2_ntNl, w2_ntNT, w2_ntNL, w2_repL, w2_rep1, w2_repT, w2_repT1)
      (repeat ((with_reducible refine And.intro ?_ ?_); focus (intros; first | (simp only [List.length_append, List.length_cons, List.length_nil]; omega) | ((with_reducible refine lenOk_of ?_); first | decide | omega) | ((with_reducible refine mulOk_l ?_); first | decide | omega) | ((with_reducible refine mulOk_r ?_); first | decide | omega) | ((with_reducible refine smallI_of ?_); omega) | ((with_reducible refine divOk_of ?_ ?_) <;> first | decide | omega) | exact And.intro (by omega) (by omega) | omega | (unfold kp; exact Or.inl rfl) | with_reducible rfl | with_reducible exact trivial)))
      refine wcomp_map1 (f := PyData.int) PyData.bool (fun r => ((rng 0 x).map fun k => decide (pyg (pyg t r) k = pyg (pyg t k) r)).all id) true (fun r hr => ?_) (by (try exists imm_Sx, imm_Sg, flat_Sx, flat_Sg, wbi_lenS, wits_Sx, w2_inS, w2_ninS, w2_addS, w2_addSg, wslc_S, wsub_S, w2_ltS, w2_isN0, w2_isNi, w2_isNs, w2_isNS, w2_isNt, w2_isNl, w2_isNT, w2_isNL, w2_ntN0, w2_ntNi, w2_ntNs, w2_ntNS, w2_ntNt, w2_ntNl, w2_ntNT, w2_ntNL, w2_repL, w2_rep1, w2_repT, w2_repT1)) rfl (by rw [rng_len]; omega) fun b' hb' => ?_
      · rw [mem_rng] at hr
        (try exists imm_Sx, imm_Sg, flat_Sx, flat_Sg, wbi_lenS, wits_Sx, w2_inS, w2_ninS, w2_addS, w2_addSg, wslc_S, wsub_S, w2_ltS, w2_isN0, w2_isNi, w2_isNs, w2_isNS, w2_isNt, w2_isNl, w2_isNT, w2_isNL, w2_ntN0, w2_ntNi, w2_ntNs, w2_ntNS, w2_ntNt, w2_ntNl, w2_ntNT, w2_ntNL, w2_repL, w2_rep1, w2_repT, w2_repT1)
        (repeat ((with_reducible refine And.intro ?_ ?_); focus (intros; first | (simp only [List.length_append, List.length_cons, List.length_nil]; omega) | ((with_reducible refine lenOk_of ?_); first | decide | omega) | ((with_reducible refine mulOk_l ?_); first | decide | omega) | ((with_reducible refine mulOk_r ?_); first | decide | omega) | ((with_reducible refine smallI_of ?_); omega) | ((with_reducible refine divOk_of ?_ ?_) <;> first | decide | omega) | exact And.intro (by omega) (by omega) | omega | (unfold kp; exact Or.inl rfl) | with_reducible rfl | with_reducible exact trivial)))
        refine wcomp_map1 (f := PyData.int) PyData.bool (fun k => decide (pyg (pyg t r) k = pyg (pyg t k) r)) true (fun j hj => ?_) (by (try exists imm_Sx, imm_Sg, flat_Sx, flat_Sg, wbi_lenS, wits_Sx, w2_inS, w2_ninS, w2_addS, w2_addSg, wslc_S, wsub_S, w2_ltS, w2_isN0, w2_isNi, w2_isNs, w2_isNS, w2_isNt, w2_isNl, w2_isNT, w2_isNL, w2_ntN0, w2_ntNi, w2_ntNs, w2_ntNS, w2_ntNt, w2_ntNl, w2_ntNT, w2_ntNL, w2_repL, w2_rep1, w2_repT, w2_repT1)) rfl (by rw [rng_len]; omega) fun b' hb' => ?_
        · rw [mem_rng] at hj
          have e1 := hd2.2 r hr.1 (by omega)
          have e2 := hd2.2 j hj.1 (by omega)
          (try exists imm_Sx, imm_Sg, flat_Sx, flat_Sg, wbi_lenS, wits_Sx, w2_inS, w2_ninS, w2_addS, w2_addSg, wslc_S, wsub_S, w2_ltS, w2_isN0, w2_isNi, w2_isNs, w2_isNS, w2_isNt, w2_isNl, w2_isNT, w2_isNL, w2_ntN0, w2_ntNi, w2_ntNs, w2_ntNS, w2_ntNt, w2_ntNl, w2_ntNT, w2_ntNL, w2_repL, w2_rep1, w2_repT, w2_repT1)
          exact ⟨⟨by omega, by omega⟩, ⟨by omega, by omega⟩, ⟨by omega, by omega⟩, ⟨by omega, by omega⟩, fun _ => trivial⟩
        obtain rfl := hb' rfl
        (try exists imm_Sx, imm_Sg, flat_Sx, flat_Sg, wbi_lenS, wits_Sx, w2_inS, w2_ninS, w2_addS, w2_addSg, wslc_S, wsub_S, w2_ltS, w2_isN0, w2_isNi, w2_isNs, w2_isNS, w2_isNt, w2_isNl, w2_isNT, w2_isNL, w2_ntN0, w2_ntNi, w2_ntNs, w2_ntNS, w2_ntNt, w2_ntNl, w2_ntNT, w2_ntNL, w2_repL, w2_rep1, w2_repT, w2_repT1)
        exact fun _ => trivial
      obtain rfl := hb' rfl
      (try exists imm_Sx, imm_Sg, flat_Sx, flat_Sg, wbi_lenS, wits_Sx, w2_inS, w2_ninS, w2_addS, w2_addSg, wslc_S, wsub_S, w2_ltS, w2_isN0, w2_isNi, w2_isNs, w2_isNS, w2_isNt, w2_isNl, w2_isNT, w2_isNL, w2_ntN0, w2_ntNi, w2_ntNs, w2_ntNS, w2_ntNt, w2_ntNl, w2_ntNT, w2_ntNL, w2_repL, w2_rep1, w2_repT, w2_repT1)
      exact ⟨rfl, fun _ _ => trivial⟩
    · rw [List.length_map]
      have := List.length_filter_le (symT x) (tabs a a c)
      omega
    obtain rfl := hb' rfl
    rw [List.map_id']
    have e : ((tabs a a c).filter (symT x)).length = ((lpN a c (a * a) 0 [[]]).filter (symN a)).length := by rw [hx]; exact sym_len a c
    (try exists imm_Sx, imm_Sg, flat_Sx, flat_Sg, wbi_lenS, wits_Sx, w2_inS, w2_ninS, w2_addS, w2_addSg, wslc_S, wsub_S, w2_ltS, w2_isN0, w2_isNi, w2_isNs, w2_isNS, w2_isNt, w2_isNl, w2_isNT, w2_isNL, w2_ntN0, w2_ntNi, w2_ntNs, w2_ntNS, w2_ntNt, w2_ntNl, w2_ntNT, w2_ntNL, w2_repL, w2_rep1, w2_repT, w2_repT1, e)
    rw [show decide (symc a c = (((lpN a c (a * a) 0 [[]]).filter (symN a)).length : Int)) = true from decide_eq_true h4.1]
    (try exists imm_Sx, imm_Sg, flat_Sx, flat_Sg, wbi_lenS, wits_Sx, w2_inS, w2_ninS, w2_addS, w2_addSg, wslc_S, wsub_S, w2_ltS, w2_isN0, w2_isNi, w2_isNs, w2_isNS, w2_isNt, w2_isNl, w2_isNT, w2_isNL, w2_ntN0, w2_ntNi, w2_ntNs, w2_ntNS, w2_ntNt, w2_ntNl, w2_ntNT, w2_ntNL, w2_repL, w2_rep1, w2_repT, w2_repT1)
    revert hcut; exists imm_Sx, imm_Sg, flat_Sx, flat_Sg, wbi_lenS, wits_Sx, w2_inS, w2_ninS, w2_addS, w2_addSg, wslc_S, wsub_S, w2_ltS, w2_isN0, w2_isNi, w2_isNs, w2_isNS, w2_isNt, w2_isNl, w2_isNT, w2_isNL, w2_ntN0, w2_ntNi, w2_ntNs, w2_ntNS, w2_ntNt, w2_ntNl, w2_ntNT, w2_ntNL, w2_repL, w2_rep1, w2_repT, w2_repT1; exact id
  · rw [decide_eq_false hab]
    (try exists imm_Sx, imm_Sg, flat_Sx, flat_Sg, wbi_lenS, wits_Sx, w2_inS, w2_ninS, w2_addS, w2_addSg, wslc_S, wsub_S, w2_ltS, w2_isN0, w2_isNi, w2_isNs, w2_isNS, w2_isNt, w2_isNl, w2_isNT, w2_isNL, w2_ntN0, w2_ntNi, w2_ntNs, w2_ntNS, w2_ntNt, w2_ntNl, w2_ntNT, w2_ntNL, w2_repL, w2_rep1, w2_repT, w2_repT1)
    revert hcut; exists imm_Sx, imm_Sg, flat_Sx, flat_Sg, wbi_lenS, wits_Sx, w2_inS, w2_ninS, w2_addS, w2_addSg, wslc_S, wsub_S, w2_ltS, w2_isN0, w2_isNi, w2_isNs, w2_isNS, w2_isNt, w2_isNl, w2_isNT, w2_isNL, w2_ntN0, w2_ntNi, w2_ntNs, w2_ntNS, w2_ntNt, w2_ntNl, w2_ntNT, w2_ntNL, w2_repL, w2_rep1, w2_repT, w2_repT1; exact id
theorem bigD (k : Nat) (ns : List Int) (x y z : Int) (a b c : Nat) (hx : x = a) (hy : y = b) (hz : z = c) (ha : a < 9) (hb : b < 9) (hc : c < 9) (ha0 : 0 < a) (hb0 : 0 < b) (hm : mac a b c < 400) (hlen : (lpN b c (a * b) 0 [[]]).length ≤ 400) (n7 n8 n10 : NB) (d : D) (hd : Dr d) (f : Nat → Nat → Int) (hT : T a b c f) {KE : Out → PV.Env → Prop} {E : XE} (hK : KB KE ns x y z (mac a b c)) : wss (runF fs (k+5)) (tailS 9 big) [some (.scr ns), some (.own d), some (.own (.int x)), some (.own (.int y)), some (.own (.int z)), some (.own (.int (mac a b c))), some (.own (Ls (Tp (Tp .int)) (tabs a b c))), n7.c, n8.c, some (.own (Tp (Tp .int) (tb a b f))), n10.c, none, none, none, none, none, none, none, none, none] KE E := by
  have hl := tb_len a b f
  have hrow : ∀ row ∈ tb a b f, row.length = b := fun row hm => by
    unfold tb at hm
    obtain ⟨r, _, rfl⟩ := List.mem_map.mp hm
    simp
  have hcut := bigS k ns x y z a b c hx hy hz ha hb hc ha0 hb0 hm hlen n7 n8 n10 ⟨some (.own (Tp (Tp .int) (tb c b (uf a f)))), rfl⟩ d hd f hK (E := E)
  unfold big c18 at hcut ⊢
  simp only [tailS] at hcut ⊢
  exists imm_Sx, imm_Sg, flat_Sx, flat_Sg, wbi_lenS, wits_Sx, w2_inS, w2_ninS, w2_addS, w2_addSg, wslc_S, wsub_S, w2_ltS, w2_isN0, w2_isNi, w2_isNs, w2_isNS, w2_isNt, w2_isNl, w2_isNT, w2_isNL, w2_ntN0, w2_ntNi, w2_ntNs, w2_ntNS, w2_ntNt, w2_ntNl, w2_ntNT, w2_ntNL, w2_repL, w2_rep1, w2_repT, w2_repT1
  refine wcall_2 ?_
  (try exists imm_Sx, imm_Sg, flat_Sx, flat_Sg, wbi_lenS, wits_Sx, w2_inS, w2_ninS, w2_addS, w2_addSg, wslc_S, wsub_S, w2_ltS, w2_isN0, w2_isNi, w2_isNs, w2_isNS, w2_isNt, w2_isNl, w2_isNT, w2_isNL, w2_ntN0, w2_ntNi, w2_ntNs, w2_ntNS, w2_ntNt, w2_ntNl, w2_ntNT, w2_ntNL, w2_repL, w2_rep1, w2_repT, w2_repT1)
  refine turned_ok _ z hz hT ha0 (by omega) (by omega) (by omega) ?_
  (try exists imm_Sx, imm_Sg, flat_Sx, flat_Sg, wbi_lenS, wits_Sx, w2_inS, w2_ninS, w2_addS, w2_addSg, wslc_S, wsub_S, w2_ltS, w2_isN0, w2_isNi, w2_isNs, w2_isNS, w2_isNt, w2_isNl, w2_isNT, w2_isNL, w2_ntN0, w2_ntNi, w2_ntNs, w2_ntNS, w2_ntNt, w2_ntNl, w2_ntNT, w2_ntNL, w2_repL, w2_rep1, w2_repT, w2_repT1)
  have eu := up_q a b c f
  rw [← hy, ← hz] at eu
  (repeat ((with_reducible refine And.intro ?_ ?_); focus (intros; first | (simp only [List.length_append, List.length_cons, List.length_nil]; omega) | ((with_reducible refine lenOk_of ?_); first | decide | omega) | ((with_reducible refine mulOk_l ?_); first | decide | omega) | ((with_reducible refine mulOk_r ?_); first | decide | omega) | ((with_reducible refine smallI_of ?_); omega) | ((with_reducible refine divOk_of ?_ ?_) <;> first | decide | omega) | exact And.intro (by omega) (by omega) | omega | (unfold kp; exact Or.inl rfl) | with_reducible rfl | with_reducible exact trivial)))
  refine wcomp_map1 (f := PyData.int) (Tp .int) (fun h => (rng 0 y).map fun k => (((tb a b f).filter fun row => decide (h < pyg row k)).length : Int)) true (fun h hh => ?_) (by (try exists imm_Sx, imm_Sg, flat_Sx, flat_Sg, wbi_lenS, wits_Sx, w2_inS, w2_ninS, w2_addS, w2_addSg, wslc_S, wsub_S, w2_ltS, w2_isN0, w2_isNi, w2_isNs, w2_isNS, w2_isNt, w2_isNl, w2_isNT, w2_isNL, w2_ntN0, w2_ntNi, w2_ntNs, w2_ntNS, w2_ntNt, w2_ntNl, w2_ntNT, w2_ntNL, w2_repL, w2_rep1, w2_repT, w2_repT1)) rfl (by rw [rng_len]; omega) fun b' hb' => ?_
  · (try exists imm_Sx, imm_Sg, flat_Sx, flat_Sg, wbi_lenS, wits_Sx, w2_inS, w2_ninS, w2_addS, w2_addSg, wslc_S, wsub_S, w2_ltS, w2_isN0, w2_isNi, w2_isNs, w2_isNS, w2_isNt, w2_isNl, w2_isNT, w2_isNL, w2_ntN0, w2_ntNi, w2_ntNs, w2_ntNS, w2_ntNt, w2_ntNl, w2_ntNT, w2_ntNL, w2_repL, w2_rep1, w2_repT, w2_repT1)
    (repeat ((with_reducible refine And.intro ?_ ?_); focus (intros; first | (simp only [List.length_append, List.length_cons, List.length_nil]; omega) | ((with_reducible refine lenOk_of ?_); first | decide | omega) | ((with_reducible refine mulOk_l ?_); first | decide | omega) | ((with_reducible refine mulOk_r ?_); first | decide | omega) | ((with_reducible refine smallI_of ?_); omega) | ((with_reducible refine divOk_of ?_ ?_) <;> first | decide | omega) | exact And.intro (by omega) (by omega) | omega | (unfold kp; exact Or.inl rfl) | with_reducible rfl | with_reducible exact trivial)))
    refine wcomp_map1 (f := PyData.int) PyData.int (fun k => (((tb a b f).filter fun row => decide (h < pyg row k)).length : Int)) true (fun j hj => ?_) (by (try exists imm_Sx, imm_Sg, flat_Sx, flat_Sg, wbi_lenS, wits_Sx, w2_inS, w2_ninS, w2_addS, w2_addSg, wslc_S, wsub_S, w2_ltS, w2_isN0, w2_isNi, w2_isNs, w2_isNS, w2_isNt, w2_isNl, w2_isNT, w2_isNL, w2_ntN0, w2_ntNi, w2_ntNs, w2_ntNS, w2_ntNt, w2_ntNl, w2_ntNT, w2_ntNL, w2_repL, w2_rep1, w2_repT, w2_repT1)) rfl (by rw [rng_len]; omega) fun b' hb' => ?_
    · rw [mem_rng] at hj
      (try exists imm_Sx, imm_Sg, flat_Sx, flat_Sg, wbi_lenS, wits_Sx, w2_inS, w2_ninS, w2_addS, w2_addSg, wslc_S, wsub_S, w2_ltS, w2_isN0, w2_isNi, w2_isNs, w2_isNS, w2_isNt, w2_isNl, w2_isNT, w2_isNL, w2_ntN0, w2_ntNi, w2_ntNs, w2_ntNS, w2_ntNt, w2_ntNl, w2_ntNT, w2_ntNL, w2_repL, w2_rep1, w2_repT, w2_repT1)
      refine wcomp_map (f := Tp PyData.int) (Tp PyData.int) (fun row => decide (h < pyg row j)) (fun row => row) true (fun row hm => ?_) (by (try exists imm_Sx, imm_Sg, flat_Sx, flat_Sg, wbi_lenS, wits_Sx, w2_inS, w2_ninS, w2_addS, w2_addSg, wslc_S, wsub_S, w2_ltS, w2_isN0, w2_isNi, w2_isNs, w2_isNS, w2_isNt, w2_isNl, w2_isNT, w2_isNL, w2_ntN0, w2_ntNi, w2_ntNs, w2_ntNS, w2_ntNt, w2_ntNl, w2_ntNT, w2_ntNL, w2_repL, w2_rep1, w2_repT, w2_repT1)) rfl ?_ fun b' hb' => ?_
      · have := hrow row hm
        (try exists imm_Sx, imm_Sg, flat_Sx, flat_Sg, wbi_lenS, wits_Sx, w2_inS, w2_ninS, w2_addS, w2_addSg, wslc_S, wsub_S, w2_ltS, w2_isN0, w2_isNi, w2_isNs, w2_isNS, w2_isNt, w2_isNl, w2_isNT, w2_isNL, w2_ntN0, w2_ntNi, w2_ntNs, w2_ntNS, w2_ntNt, w2_ntNl, w2_ntNT, w2_ntNL, w2_repL, w2_rep1, w2_repT, w2_repT1)
        exact ⟨⟨by omega, by omega⟩, fun _ _ => trivial⟩
      · rw [List.length_map]
        have := List.length_filter_le (fun row => decide (h < pyg row j)) (tb a b f)
        omega
      obtain rfl := hb' rfl
      rw [List.map_id']
      (try exists imm_Sx, imm_Sg, flat_Sx, flat_Sg, wbi_lenS, wits_Sx, w2_inS, w2_ninS, w2_addS, w2_addSg, wslc_S, wsub_S, w2_ltS, w2_isN0, w2_isNi, w2_isNs, w2_isNS, w2_isNt, w2_isNl, w2_isNT, w2_isNL, w2_ntN0, w2_ntNi, w2_ntNs, w2_ntNS, w2_ntNt, w2_ntNl, w2_ntNT, w2_ntNL, w2_repL, w2_rep1, w2_repT, w2_repT1)
      exact fun _ => trivial
    obtain rfl := hb' rfl
    (try exists imm_Sx, imm_Sg, flat_Sx, flat_Sg, wbi_lenS, wits_Sx, w2_inS, w2_ninS, w2_addS, w2_addSg, wslc_S, wsub_S, w2_ltS, w2_isN0, w2_isNi, w2_isNs, w2_isNS, w2_isNt, w2_isNl, w2_isNT, w2_isNL, w2_ntN0, w2_ntNi, w2_ntNs, w2_ntNS, w2_ntNt, w2_ntNl, w2_ntNT, w2_ntNL, w2_repL, w2_rep1, w2_repT, w2_repT1)
    exact fun _ => trivial
  obtain rfl := hb' rfl
  rw [eu]
  (try exists imm_Sx, imm_Sg, flat_Sx, flat_Sg, wbi_lenS, wits_Sx, w2_inS, w2_ninS, w2_addS, w2_addSg, wslc_S, wsub_S, w2_ltS, w2_isN0, w2_isNi, w2_isNs, w2_isNS, w2_isNt, w2_isNl, w2_isNT, w2_isNL, w2_ntN0, w2_ntNi, w2_ntNs, w2_ntNS, w2_ntNt, w2_ntNl, w2_ntNT, w2_ntNL, w2_repL, w2_rep1, w2_repT, w2_repT1, eq_self)
  by_cases hz0 : 0 < z
  · rw [decide_eq_true hz0]
    have hU := uf_T hT
    (try exists imm_Sx, imm_Sg, flat_Sx, flat_Sg, wbi_lenS, wits_Sx, w2_inS, w2_ninS, w2_addS, w2_addSg, wslc_S, wsub_S, w2_ltS, w2_isN0, w2_isNi, w2_isNs, w2_isNS, w2_isNt, w2_isNl, w2_isNT, w2_isNL, w2_ntN0, w2_ntNi, w2_ntNs, w2_ntNS, w2_ntNt, w2_ntNl, w2_ntNT, w2_ntNL, w2_repL, w2_rep1, w2_repT, w2_repT1)
    refine wcall_2 ?_
    (try exists imm_Sx, imm_Sg, flat_Sx, flat_Sg, wbi_lenS, wits_Sx, w2_inS, w2_ninS, w2_addS, w2_addSg, wslc_S, wsub_S, w2_ltS, w2_isN0, w2_isNi, w2_isNs, w2_isNS, w2_isNt, w2_isNl, w2_isNT, w2_isNL, w2_ntN0, w2_ntNi, w2_ntNs, w2_ntNS, w2_ntNt, w2_ntNl, w2_ntNT, w2_ntNL, w2_repL, w2_rep1, w2_repT, w2_repT1)
    have hul := tb_len c b (uf a f)
    have hc0 : 0 < c := by omega
    have hur : ∀ r, (rw' (tb c b (uf a f)) r).length ≤ 1000 := fun r => by
      by_cases h : r < c
      · rw [rw_tb c b _ h]; simp; omega
      · unfold rw'
        rw [List.getD_eq_getElem?_getD, List.getElem?_eq_none (by omega)]; simp
    have hbx : bx (tb c b (uf a f)) x := ⟨by omega, by rw [wd_tb c b _ hc0]; omega, by omega, by omega⟩
    have hno : fbr (tb c b (uf a f)) x = none := by rw [hx]; exact T_ok hU hc0
    refine lerr_ok _ _ x (by omega) hur (fun h => absurd hbx h) (fun r _ h => by rw [hno] at h; cases h) (fun r _ h => by rw [hno] at h; cases h) (fun _ _ => ?_)
    (try exists imm_Sx, imm_Sg, flat_Sx, flat_Sg, wbi_lenS, wits_Sx, w2_inS, w2_ninS, w2_addS, w2_addSg, wslc_S, wsub_S, w2_ltS, w2_isN0, w2_isNi, w2_isNs, w2_isNS, w2_isNt, w2_isNl, w2_isNT, w2_isNL, w2_ntN0, w2_ntNi, w2_ntNs, w2_ntNS, w2_ntNt, w2_ntNl, w2_ntNT, w2_ntNL, w2_repL, w2_rep1, w2_repT, w2_repT1)
    refine wcall_2 ?_
    (try exists imm_Sx, imm_Sg, flat_Sx, flat_Sg, wbi_lenS, wits_Sx, w2_inS, w2_ninS, w2_addS, w2_addSg, wslc_S, wsub_S, w2_ltS, w2_isN0, w2_isNi, w2_isNs, w2_isNS, w2_isNt, w2_isNl, w2_isNT, w2_isNL, w2_ntN0, w2_ntNi, w2_ntNs, w2_ntNS, w2_ntNt, w2_ntNl, w2_ntNT, w2_ntNL, w2_repL, w2_rep1, w2_repT, w2_repT1)
    refine turned_ok _ x hx hU hc0 (by omega) (by omega) (by omega) ?_
    rw [uf_uf hT]
    (try exists imm_Sx, imm_Sg, flat_Sx, flat_Sg, wbi_lenS, wits_Sx, w2_inS, w2_ninS, w2_addS, w2_addSg, wslc_S, wsub_S, w2_ltS, w2_isN0, w2_isNi, w2_isNs, w2_isNS, w2_isNt, w2_isNl, w2_isNT, w2_isNL, w2_ntN0, w2_ntNi, w2_ntNs, w2_ntNS, w2_ntNt, w2_ntNl, w2_ntNT, w2_ntNL, w2_repL, w2_rep1, w2_repT, w2_repT1, eq_self)
    revert hcut; exists imm_Sx, imm_Sg, flat_Sx, flat_Sg, wbi_lenS, wits_Sx, w2_inS, w2_ninS, w2_addS, w2_addSg, wslc_S, wsub_S, w2_ltS, w2_isN0, w2_isNi, w2_isNs, w2_isNS, w2_isNt, w2_isNl, w2_isNT, w2_isNL, w2_ntN0, w2_ntNi, w2_ntNs, w2_ntNS, w2_ntNt, w2_ntNl, w2_ntNT, w2_ntNL, w2_repL, w2_rep1, w2_repT, w2_repT1; exact id
  · rw [decide_eq_false hz0]
    (try exists imm_Sx, imm_Sg, flat_Sx, flat_Sg, wbi_lenS, wits_Sx, w2_inS, w2_ninS, w2_addS, w2_addSg, wslc_S, wsub_S, w2_ltS, w2_isN0, w2_isNi, w2_isNs, w2_isNS, w2_isNt, w2_isNl, w2_isNT, w2_isNL, w2_ntN0, w2_ntNi, w2_ntNs, w2_ntNS, w2_ntNt, w2_ntNl, w2_ntNT, w2_ntNL, w2_repL, w2_rep1, w2_repT, w2_repT1)
    revert hcut; exists imm_Sx, imm_Sg, flat_Sx, flat_Sg, wbi_lenS, wits_Sx, w2_inS, w2_ninS, w2_addS, w2_addSg, wslc_S, wsub_S, w2_ltS, w2_isN0, w2_isNi, w2_isNs, w2_isNS, w2_isNt, w2_isNl, w2_isNT, w2_isNL, w2_ntN0, w2_ntNi, w2_ntNs, w2_ntNS, w2_ntNt, w2_ntNl, w2_ntNT, w2_ntNL, w2_repL, w2_rep1, w2_repT, w2_repT1; exact id
end K45
set_option Elab.async false
set_option linter.all false
set_option maxRecDepth 100000
set_option maxHeartbeats 1000000
namespace K45
open PySem PV
theorem rows_q (a b c : Nat) : Ls (fun g => Tp (Tp PyData.int) (tb a b (fe a b g))) (lpN b c (a * b) 0 [[]]) = Ls (Tp (Tp .int)) (tabs a b c) := by
  unfold Ls tabs; rw [List.map_map]; rfl
/-- the tables, sorted -/
def stabs (a b c : Nat) : List (List (List Int)) := (stab a b c).map fun g => tb a b (fe a b g)
theorem stab_T (a b c : Nat) : Tp (PT b a) (stab a b c) = Tp (Tp (Tp .int)) (stabs a b c) := by
  unfold Tp stabs PT; rw [List.map_map]; rfl
theorem tabs_PT (a b c : Nat) : (tabs a b c).map (Tp (Tp PyData.int)) = (lpN b c (a * b) 0 [[]]).map (PT b a) := by
  unfold tabs; rw [List.map_map]; rfl
theorem tabs_srt (a b c : Nat) : ((tabs a b c).map (Tp (Tp PyData.int))).mergeSort leD = (stabs a b c).map (Tp (Tp .int)) := by
  rw [tabs_PT, stab_q]
  unfold stabs PT; rw [List.map_map]; rfl
theorem tabs_T {a b c : Nat} (hb0 : 0 < b) {t : List (List Int)} (ht : t ∈ tabs a b c) : ∃ f, t = tb a b f ∧ T a b c f := by
  unfold tabs at ht
  obtain ⟨g, hg, rfl⟩ := List.mem_map.mp ht
  obtain ⟨h1, h2⟩ := lp_inv hb0 hg
  exact ⟨fe a b g, rfl, fe_T h1 h2⟩
theorem count_q (L : List (List Nat)) (s : List Nat → Int) (h : ∀ g ∈ L, s g = ((g.sum : Nat) : Int)) (k : Nat) : (L.map s).count (k : Int) = (L.filter fun g => decide (g.sum = k)).length := by
  induction L with
  | nil => rfl
  | cons g L ih =>
    rw [List.map_cons, List.count_cons, ih fun g hg => h g (List.mem_cons_of_mem _ hg), h g List.mem_cons_self, List.filter_cons]
    by_cases e : g.sum = k
    · rw [decide_eq_true e, if_pos rfl, List.length_cons, if_pos (by rw [e]; exact beq_self_eq_true _)]
    · rw [decide_eq_false e, if_neg Bool.false_ne_true, if_neg (by rw [beq_iff_eq]; omega)]; rfl
theorem due_q {a b c : Nat} (hb0 : 0 < b) : (rng 0 (((a * b * c : Nat) : Int) + 1)).map (fun k => ((((tabs a b c).map tsum).count k : Nat) : Int)) = cnI (lpN b c (a * b) 0 [[]]) (a * b * c) := by
  unfold cnI rng tabs
  rw [List.map_map, List.map_map, show (((a * b * c : Nat) : Int) + 1 - 0).toNat = a * b * c + 1 by omega]
  refine List.map_congr_left fun k _ => ?_
  simp only [Function.comp, Int.zero_add]
  rw [count_q (lpN b c (a * b) 0 [[]]) (tsum ∘ fun g => tb a b (fe a b g)) (fun g hg => tsum_tb b a g (lp_inv hb0 hg).1) k]
theorem poly_cn {a b c : Nat} (ha : a < 9) (hb : b < 9) (hc : c < 9) (ha0 : 0 < a) (hb0 : 0 < b) (hm : mac a b c < 400) (h60 : a * b * c ≤ 60) : poly a b c = cnI (lpN b c (a * b) 0 [[]]) (a * b * c) := by
  have := all3_of chk3_ok ha hb hc
  simp only [Bool.or_eq_true, decide_eq_true_eq, Bool.not_eq_true', Bool.and_eq_false_iff, decide_eq_false_iff_not] at this
  have hk : cnts ((lpN b c (a * b) 0 [[]]).map List.sum) (a * b * c) = Qn a b c := by
    rcases this with ((h | h) | h) | h
    · have := beq_of h; omega
    · have := beq_of h; omega
    · rcases h with h | h
      · omega
      · rw [Nat.ble_eq_true_of_le h60] at h; cases h
    · exact h
  rw [(poly_q ha hb hc h60).eq, ← hk]
  unfold cnts cnI
  rw [List.map_map]
  refine List.map_congr_left fun k _ => ?_
  simp only [Function.comp]
  rw [List.filter_map, List.length_map]
  congr 2
  refine List.filter_congr fun g _ => ?_
  simp only [Function.comp]
  by_cases e : g.sum = k
  · rw [e, decide_eq_true rfl]; exact Nat.beq_refl _
  · rw [decide_eq_false e]
    cases q : Nat.beq k g.sum with
    | false => rfl
    | true => exact absurd (beq_of q).symm e
theorem bigC (k : Nat) (ns : List Int) (x y z : Int) (a b c : Nat) (hx : x = a) (hy : y = b) (hz : z = c) (ha : a < 9) (hb : b < 9) (hc : c < 9) (ha0 : 0 < a) (hb0 : 0 < b) (hm : mac a b c < 400) (hlen : (lpN b c (a * b) 0 [[]]).length ≤ 400) (hl0 : 0 < (lpN b c (a * b) 0 [[]]).length) (n7 n8 : NB) (d : D) (hd : Dr d) {KE : Out → PV.Env → Prop} {E : XE} (hK : KB KE ns x y z (mac a b c)) : wss (runF fs (k+5)) (tailS 6 big) [some (.scr ns), some (.own d), some (.own (.int x)), some (.own (.int y)), some (.own (.int z)), some (.own (.int (mac a b c))), some (.own (Ls (Tp (Tp .int)) (tabs a b c))), n7.c, n8.c, none, none, none, none, none, none, none, none, none, none, none] KE E := by
  have htl : (tabs a b c).length = (lpN b c (a * b) 0 [[]]).length := by unfold tabs; rw [List.length_map]
  unfold big c18
  simp only [tailS]
  exists imm_Sx, imm_Sg, flat_Sx, flat_Sg, wbi_lenS, wits_Sx, w2_inS, w2_ninS, w2_addS, w2_addSg, wslc_S, wsub_S, w2_ltS, w2_isN0, w2_isNi, w2_isNs, w2_isNS, w2_isNt, w2_isNl, w2_isNT, w2_isNL, w2_ntN0, w2_ntNi, w2_ntNs, w2_ntNS, w2_ntNt, w2_ntNl, w2_ntNT, w2_ntNL, w2_repL, w2_rep1, w2_repT, w2_repT1
  refine wcall_rL rfl (by (try exists imm_Sx, imm_Sg, flat_Sx, flat_Sg, wbi_lenS, wits_Sx, w2_inS, w2_ninS, w2_addS, w2_addSg, wslc_S, wsub_S, w2_ltS, w2_isN0, w2_isNi, w2_isNs, w2_isNS, w2_isNt, w2_isNl, w2_isNT, w2_isNL, w2_ntN0, w2_ntNi, w2_ntNs, w2_ntNS, w2_ntNt, w2_ntNl, w2_ntNT, w2_ntNL, w2_repL, w2_rep1, w2_repT, w2_repT1)) (by decide) ?_
  (try exists imm_Sx, imm_Sg, flat_Sx, flat_Sg, wbi_lenS, wits_Sx, w2_inS, w2_ninS, w2_addS, w2_addSg, wslc_S, wsub_S, w2_ltS, w2_isN0, w2_isNi, w2_isNs, w2_isNS, w2_isNt, w2_isNl, w2_isNT, w2_isNL, w2_ntN0, w2_ntNi, w2_ntNs, w2_ntNS, w2_ntNt, w2_ntNl, w2_ntNT, w2_ntNL, w2_repL, w2_rep1, w2_repT, w2_repT1)
  refine pick_ok _ hd _ (by omega) (by omega) fun t d1 ht hd1 => ?_
  obtain ⟨f, rfl, hT⟩ := tabs_T hb0 ht
  have hl := tb_len a b f
  have hrow : ∀ row ∈ (tb a b f).reverse, row.length = b := fun row hm => by
    rw [List.mem_reverse] at hm
    unfold tb at hm
    obtain ⟨r, _, rfl⟩ := List.mem_map.mp hm
    simp
  have hcut := bigD k ns x y z a b c hx hy hz ha hb hc ha0 hb0 hm hlen n7 n8 ⟨some (.own (Tp (Tp .int) (cm z (tb a b f)))), rfl⟩ d1 hd1 f hT hK (E := E)
  unfold big c18 at hcut
  simp only [tailS] at hcut
  (try exists imm_Sx, imm_Sg, flat_Sx, flat_Sg, wbi_lenS, wits_Sx, w2_inS, w2_ninS, w2_addS, w2_addSg, wslc_S, wsub_S, w2_ltS, w2_isN0, w2_isNi, w2_isNs, w2_isNS, w2_isNt, w2_isNl, w2_isNT, w2_isNL, w2_ntN0, w2_ntNi, w2_ntNs, w2_ntNS, w2_ntNt, w2_ntNl, w2_ntNT, w2_ntNL, w2_repL, w2_rep1, w2_repT, w2_repT1)
  refine wcomp_map1 (f := Tp PyData.int) (Tp .int) (fun row => row.reverse.map fun v => z - v) true (fun row hm => ?_) (by (try exists imm_Sx, imm_Sg, flat_Sx, flat_Sg, wbi_lenS, wits_Sx, w2_inS, w2_ninS, w2_addS, w2_addSg, wslc_S, wsub_S, w2_ltS, w2_isN0, w2_isNi, w2_isNs, w2_isNS, w2_isNt, w2_isNl, w2_isNT, w2_isNL, w2_ntN0, w2_ntNi, w2_ntNs, w2_ntNS, w2_ntNt, w2_ntNl, w2_ntNT, w2_ntNL, w2_repL, w2_rep1, w2_repT, w2_repT1)) rfl (by rw [List.length_reverse]; omega) fun b' hb' => ?_
  · have := hrow row hm
    (try exists imm_Sx, imm_Sg, flat_Sx, flat_Sg, wbi_lenS, wits_Sx, w2_inS, w2_ninS, w2_addS, w2_addSg, wslc_S, wsub_S, w2_ltS, w2_isN0, w2_isNi, w2_isNs, w2_isNS, w2_isNt, w2_isNl, w2_isNT, w2_isNL, w2_ntN0, w2_ntNi, w2_ntNs, w2_ntNS, w2_ntNt, w2_ntNl, w2_ntNT, w2_ntNL, w2_repL, w2_rep1, w2_repT, w2_repT1)
    refine wcomp_map1 (f := PyData.int) PyData.int (fun v => z - v) true (fun v hm => ?_) (by (try exists imm_Sx, imm_Sg, flat_Sx, flat_Sg, wbi_lenS, wits_Sx, w2_inS, w2_ninS, w2_addS, w2_addSg, wslc_S, wsub_S, w2_ltS, w2_isN0, w2_isNi, w2_isNs, w2_isNS, w2_isNt, w2_isNl, w2_isNT, w2_isNL, w2_ntN0, w2_ntNi, w2_ntNs, w2_ntNS, w2_ntNt, w2_ntNl, w2_ntNT, w2_ntNL, w2_repL, w2_rep1, w2_repT, w2_repT1)) rfl (by rw [List.length_reverse]; omega) fun b' hb' => ?_
    · (try exists imm_Sx, imm_Sg, flat_Sx, flat_Sg, wbi_lenS, wits_Sx, w2_inS, w2_ninS, w2_addS, w2_addSg, wslc_S, wsub_S, w2_ltS, w2_isN0, w2_isNi, w2_isNs, w2_isNS, w2_isNt, w2_isNl, w2_isNT, w2_isNL, w2_ntN0, w2_ntNi, w2_ntNs, w2_ntNS, w2_ntNt, w2_ntNl, w2_ntNT, w2_ntNL, w2_repL, w2_rep1, w2_repT, w2_repT1)
      exact fun _ => trivial
    obtain rfl := hb' rfl
    (try exists imm_Sx, imm_Sg, flat_Sx, flat_Sg, wbi_lenS, wits_Sx, w2_inS, w2_ninS, w2_addS, w2_addSg, wslc_S, wsub_S, w2_ltS, w2_isN0, w2_isNi, w2_isNs, w2_isNS, w2_isNt, w2_isNl, w2_isNT, w2_isNL, w2_ntN0, w2_ntNi, w2_ntNs, w2_ntNS, w2_ntNt, w2_ntNl, w2_ntNT, w2_ntNL, w2_repL, w2_rep1, w2_repT, w2_repT1)
    exact fun _ => trivial
  obtain rfl := hb' rfl
  have ecm : (tb a b f).reverse.map (fun row => row.reverse.map fun v => z - v) = cm z (tb a b f) := rfl
  rw [ecm]
  have hTz : T a b z f := by rw [hz]; exact hT
  (try exists imm_Sx, imm_Sg, flat_Sx, flat_Sg, wbi_lenS, wits_Sx, w2_inS, w2_ninS, w2_addS, w2_addSg, wslc_S, wsub_S, w2_ltS, w2_isN0, w2_isNi, w2_isNs, w2_isNS, w2_isNt, w2_isNl, w2_isNT, w2_isNL, w2_ntN0, w2_ntNi, w2_ntNs, w2_ntNS, w2_ntNt, w2_ntNl, w2_ntNT, w2_ntNL, w2_repL, w2_rep1, w2_repT, w2_repT1)
  refine wcall_2 ?_
  (try exists imm_Sx, imm_Sg, flat_Sx, flat_Sg, wbi_lenS, wits_Sx, w2_inS, w2_ninS, w2_addS, w2_addSg, wslc_S, wsub_S, w2_ltS, w2_isN0, w2_isNi, w2_isNs, w2_isNS, w2_isNt, w2_isNl, w2_isNT, w2_isNL, w2_ntN0, w2_ntNi, w2_ntNs, w2_ntNS, w2_ntNt, w2_ntNl, w2_ntNT, w2_ntNL, w2_repL, w2_rep1, w2_repT, w2_repT1)
  refine compl_ok _ hTz ha0 (by omega) (by omega) (by omega) ?_
  (try exists imm_Sx, imm_Sg, flat_Sx, flat_Sg, wbi_lenS, wits_Sx, w2_inS, w2_ninS, w2_addS, w2_addSg, wslc_S, wsub_S, w2_ltS, w2_isN0, w2_isNi, w2_isNs, w2_isNS, w2_isNt, w2_isNl, w2_isNT, w2_isNL, w2_ntN0, w2_ntNi, w2_ntNs, w2_ntNS, w2_ntNt, w2_ntNl, w2_ntNT, w2_ntNL, w2_repL, w2_rep1, w2_repT, w2_repT1, eq_self)
  refine wcall_2 ?_
  (try exists imm_Sx, imm_Sg, flat_Sx, flat_Sg, wbi_lenS, wits_Sx, w2_inS, w2_ninS, w2_addS, w2_addSg, wslc_S, wsub_S, w2_ltS, w2_isN0, w2_isNi, w2_isNs, w2_isNS, w2_isNt, w2_isNl, w2_isNT, w2_isNL, w2_ntN0, w2_ntNi, w2_ntNs, w2_ntNS, w2_ntNt, w2_ntNl, w2_ntNT, w2_ntNL, w2_repL, w2_rep1, w2_repT, w2_repT1)
  have e1 := cm_tb a b z f
  rw [e1]
  refine compl_ok _ (cf_T hTz) ha0 (by omega) (by omega) (by omega) ?_
  rw [← e1, cm_cm]
  (try exists imm_Sx, imm_Sg, flat_Sx, flat_Sg, wbi_lenS, wits_Sx, w2_inS, w2_ninS, w2_addS, w2_addSg, wslc_S, wsub_S, w2_ltS, w2_isN0, w2_isNi, w2_isNs, w2_isNS, w2_isNt, w2_isNl, w2_isNT, w2_isNL, w2_ntN0, w2_ntNi, w2_ntNs, w2_ntNS, w2_ntNt, w2_ntNl, w2_ntNT, w2_ntNL, w2_repL, w2_rep1, w2_repT, w2_repT1, eq_self)
  revert hcut; exists imm_Sx, imm_Sg, flat_Sx, flat_Sg, wbi_lenS, wits_Sx, w2_inS, w2_ninS, w2_addS, w2_addSg, wslc_S, wsub_S, w2_ltS, w2_isN0, w2_isNi, w2_isNs, w2_isNS, w2_isNt, w2_isNl, w2_isNT, w2_isNL, w2_ntN0, w2_ntNi, w2_ntNs, w2_ntNS, w2_ntNt, w2_ntNl, w2_ntNT, w2_ntNL, w2_repL, w2_rep1, w2_repT, w2_repT1; exact id
theorem bigB (k : Nat) (ns : List Int) (x y z : Int) (a b c : Nat) (hx : x = a) (hy : y = b) (hz : z = c) (ha : a < 9) (hb : b < 9) (hc : c < 9) (ha0 : 0 < a) (hb0 : 0 < b) (hm : mac a b c < 400) (hL : ((lpN b c (a * b) 0 [[]]).length : Int) = mac a b c) (hl0 : 0 < (lpN b c (a * b) 0 [[]]).length) (d : D) (hd : Dr d) {KE : Out → PV.Env → Prop} {E : XE} (hK : KB KE ns x y z (mac a b c)) : wss (runF fs (k+5)) big [some (.scr ns), some (.own d), some (.own (.int x)), some (.own (.int y)), some (.own (.int z)), some (.own (.int (mac a b c))), none, none, none, none, none, none, none, none, none, none, none, none, none, none] KE E := by
  have hlen : (lpN b c (a * b) 0 [[]]).length ≤ 400 := by omega
  have hab : a * b ≤ 64 := Nat.mul_le_mul (show a ≤ 8 by omega) (show b ≤ 8 by omega)
  have habc : a * b * c ≤ 512 := Nat.mul_le_mul hab (show c ≤ 8 by omega)
  have e4 : x * y * z = ((a * b * c : Nat) : Int) := by rw [hx, hy, hz, Int.natCast_mul, Int.natCast_mul]
  have htl : (tabs a b c).length = (lpN b c (a * b) 0 [[]]).length := by unfold tabs; rw [List.length_map]
  have hcut := bigC k ns x y z a b c hx hy hz ha hb hc ha0 hb0 hm hlen hl0 ⟨some (.own (Ls .int ((tabs a b c).map tsum))), rfl⟩ ⟨some (.own (Tp .int (cnI (lpN b c (a * b) 0 [[]]) (a * b * c)))), rfl⟩ d hd hK (E := E)
  unfold big c18 at hcut ⊢
  simp only [tailS] at hcut ⊢
  exists imm_Sx, imm_Sg, flat_Sx, flat_Sg, wbi_lenS, wits_Sx, w2_inS, w2_ninS, w2_addS, w2_addSg, wslc_S, wsub_S, w2_ltS, w2_isN0, w2_isNi, w2_isNs, w2_isNS, w2_isNt, w2_isNl, w2_isNT, w2_isNL, w2_ntN0, w2_ntNi, w2_ntNs, w2_ntNS, w2_ntNt, w2_ntNl, w2_ntNT, w2_ntNL, w2_repL, w2_rep1, w2_repT, w2_repT1
  refine wcall_3 ?_
  (try exists imm_Sx, imm_Sg, flat_Sx, flat_Sg, wbi_lenS, wits_Sx, w2_inS, w2_ninS, w2_addS, w2_addSg, wslc_S, wsub_S, w2_ltS, w2_isN0, w2_isNi, w2_isNs, w2_isNS, w2_isNt, w2_isNl, w2_isNT, w2_isNL, w2_ntN0, w2_ntNi, w2_ntNs, w2_ntNS, w2_ntNt, w2_ntNl, w2_ntNT, w2_ntNL, w2_repL, w2_rep1, w2_repT, w2_repT1)
  refine lplanes_ok _ x y z a b c hx hy hz ha hb hc hb0 hlen ?_
  rw [rows_q]
  (try exists imm_Sx, imm_Sg, flat_Sx, flat_Sg, wbi_lenS, wits_Sx, w2_inS, w2_ninS, w2_addS, w2_addSg, wslc_S, wsub_S, w2_ltS, w2_isN0, w2_isNi, w2_isNs, w2_isNS, w2_isNt, w2_isNl, w2_isNT, w2_isNL, w2_ntN0, w2_ntNi, w2_ntNs, w2_ntNS, w2_ntNt, w2_ntNl, w2_ntNT, w2_ntNL, w2_repL, w2_rep1, w2_repT, w2_repT1)
  rw [show decide (((tabs a b c).length : Int) = mac a b c) = true from decide_eq_true (by omega)]
  (try exists imm_Sx, imm_Sg, flat_Sx, flat_Sg, wbi_lenS, wits_Sx, w2_inS, w2_ninS, w2_addS, w2_addSg, wslc_S, wsub_S, w2_ltS, w2_isN0, w2_isNi, w2_isNs, w2_isNS, w2_isNt, w2_isNl, w2_isNT, w2_isNL, w2_ntN0, w2_ntNi, w2_ntNs, w2_ntNS, w2_ntNt, w2_ntNl, w2_ntNT, w2_ntNL, w2_repL, w2_rep1, w2_repT, w2_repT1)
  refine wcall_vals (rs := [_, _, _, _]) ?_
  (try exists imm_Sx, imm_Sg, flat_Sx, flat_Sg, wbi_lenS, wits_Sx, w2_inS, w2_ninS, w2_addS, w2_addSg, wslc_S, wsub_S, w2_ltS, w2_isN0, w2_isNi, w2_isNs, w2_isNS, w2_isNt, w2_isNl, w2_isNT, w2_isNL, w2_ntN0, w2_ntNi, w2_ntNs, w2_ntNS, w2_ntNt, w2_ntNl, w2_ntNT, w2_ntNL, w2_repL, w2_rep1, w2_repT, w2_repT1)
  refine tlist_ok _ x y z a b c hx hy hz ha hb hc (fun _ => ⟨ha0, hb0⟩) (fun _ => ?_) (fun h => absurd h (by omega)) (.inl hm)
  rw [stab_T]
  have hsB : sortB ((tabs a b c).map (Tp (Tp PyData.int))) = true := by rw [tabs_PT]; exact sortB_PT a b _ (by omega) ha0
  have hsr := tabs_srt a b c
  (try exists imm_Sx, imm_Sg, flat_Sx, flat_Sg, wbi_lenS, wits_Sx, w2_inS, w2_ninS, w2_addS, w2_addSg, wslc_S, wsub_S, w2_ltS, w2_isN0, w2_isNi, w2_isNs, w2_isNS, w2_isNt, w2_isNl, w2_isNT, w2_isNL, w2_ntN0, w2_ntNi, w2_ntNs, w2_ntNS, w2_ntNt, w2_ntNl, w2_ntNT, w2_ntNL, w2_repL, w2_rep1, w2_repT, w2_repT1, wbi_sorted, hsr)
  (repeat ((with_reducible refine And.intro ?_ ?_); focus (intros; first | (simp only [List.length_append, List.length_cons, List.length_nil]; omega) | ((with_reducible refine lenOk_of ?_); first | decide | omega) | ((with_reducible refine mulOk_l ?_); first | decide | omega) | ((with_reducible refine mulOk_r ?_); first | decide | omega) | ((with_reducible refine smallI_of ?_); omega) | ((with_reducible refine divOk_of ?_ ?_) <;> first | decide | omega) | exact And.intro (by omega) (by omega) | omega | (unfold kp; exact Or.inl rfl) | with_reducible rfl | with_reducible exact trivial)))
  refine wcomp_map1 (f := Tp (Tp PyData.int)) PyData.int tsum true (fun t ht => ?_) (by (try exists imm_Sx, imm_Sg, flat_Sx, flat_Sg, wbi_lenS, wits_Sx, w2_inS, w2_ninS, w2_addS, w2_addSg, wslc_S, wsub_S, w2_ltS, w2_isN0, w2_isNi, w2_isNs, w2_isNS, w2_isNt, w2_isNl, w2_isNT, w2_isNL, w2_ntN0, w2_ntNi, w2_ntNs, w2_ntNS, w2_ntNt, w2_ntNl, w2_ntNT, w2_ntNL, w2_repL, w2_rep1, w2_repT, w2_repT1)) rfl (by omega) fun b' hb' => ?_
  · obtain ⟨f, rfl, _⟩ := tabs_T hb0 ht
    have hl := tb_len a b f
    (try exists imm_Sx, imm_Sg, flat_Sx, flat_Sg, wbi_lenS, wits_Sx, w2_inS, w2_ninS, w2_addS, w2_addSg, wslc_S, wsub_S, w2_ltS, w2_isN0, w2_isNi, w2_isNs, w2_isNS, w2_isNt, w2_isNl, w2_isNT, w2_isNL, w2_ntN0, w2_ntNi, w2_ntNs, w2_ntNS, w2_ntNt, w2_ntNl, w2_ntNT, w2_ntNL, w2_repL, w2_rep1, w2_repT, w2_repT1)
    refine wcomp_map1 (f := Tp PyData.int) PyData.int List.sum true (fun row hm => ?_) (by (try exists imm_Sx, imm_Sg, flat_Sx, flat_Sg, wbi_lenS, wits_Sx, w2_inS, w2_ninS, w2_addS, w2_addSg, wslc_S, wsub_S, w2_ltS, w2_isN0, w2_isNi, w2_isNs, w2_isNS, w2_isNt, w2_isNl, w2_isNT, w2_isNL, w2_ntN0, w2_ntNi, w2_ntNs, w2_ntNS, w2_ntNt, w2_ntNl, w2_ntNT, w2_ntNL, w2_repL, w2_rep1, w2_repT, w2_repT1)) rfl (by omega) fun b' hb' => ?_
    · (try exists imm_Sx, imm_Sg, flat_Sx, flat_Sg, wbi_lenS, wits_Sx, w2_inS, w2_ninS, w2_addS, w2_addSg, wslc_S, wsub_S, w2_ltS, w2_isN0, w2_isNi, w2_isNs, w2_isNS, w2_isNt, w2_isNl, w2_isNT, w2_isNL, w2_ntN0, w2_ntNi, w2_ntNs, w2_ntNS, w2_ntNt, w2_ntNl, w2_ntNT, w2_ntNL, w2_repL, w2_rep1, w2_repT, w2_repT1)
      exact fun _ => trivial
    obtain rfl := hb' rfl
    (try exists imm_Sx, imm_Sg, flat_Sx, flat_Sg, wbi_lenS, wits_Sx, w2_inS, w2_ninS, w2_addS, w2_addSg, wslc_S, wsub_S, w2_ltS, w2_isN0, w2_isNi, w2_isNs, w2_isNS, w2_isNt, w2_isNl, w2_isNT, w2_isNL, w2_ntN0, w2_ntNi, w2_ntNs, w2_ntNS, w2_ntNt, w2_ntNl, w2_ntNT, w2_ntNL, w2_repL, w2_rep1, w2_repT, w2_repT1)
    exact ⟨rfl, fun _ => trivial⟩
  obtain rfl := hb' rfl
  (try exists imm_Sx, imm_Sg, flat_Sx, flat_Sg, wbi_lenS, wits_Sx, w2_inS, w2_ninS, w2_addS, w2_addSg, wslc_S, wsub_S, w2_ltS, w2_isN0, w2_isNi, w2_isNs, w2_isNS, w2_isNt, w2_isNl, w2_isNT, w2_isNL, w2_ntN0, w2_ntNi, w2_ntNs, w2_ntNS, w2_ntNt, w2_ntNl, w2_ntNT, w2_ntNL, w2_repL, w2_rep1, w2_repT, w2_repT1, e4)
  refine ⟨mulOk_l ⟨by omega, by omega⟩, mulOk_r ⟨by omega, by omega⟩, smallI_of (by omega), ?_⟩
  refine wcomp_map1 (f := PyData.int) PyData.int (fun j => ((((tabs a b c).map tsum).count j : Nat) : Int)) true (fun j hj => ?_) (by (try exists imm_Sx, imm_Sg, flat_Sx, flat_Sg, wbi_lenS, wits_Sx, w2_inS, w2_ninS, w2_addS, w2_addSg, wslc_S, wsub_S, w2_ltS, w2_isN0, w2_isNi, w2_isNs, w2_isNS, w2_isNt, w2_isNl, w2_isNT, w2_isNL, w2_ntN0, w2_ntNi, w2_ntNs, w2_ntNS, w2_ntNt, w2_ntNl, w2_ntNT, w2_ntNL, w2_repL, w2_rep1, w2_repT, w2_repT1)) rfl (by rw [rng_len]; omega) fun b' hb' => ?_
  · (try exists imm_Sx, imm_Sg, flat_Sx, flat_Sg, wbi_lenS, wits_Sx, w2_inS, w2_ninS, w2_addS, w2_addSg, wslc_S, wsub_S, w2_ltS, w2_isN0, w2_isNi, w2_isNs, w2_isNS, w2_isNt, w2_isNl, w2_isNT, w2_isNL, w2_ntN0, w2_ntNi, w2_ntNs, w2_ntNS, w2_ntNt, w2_ntNl, w2_ntNT, w2_ntNL, w2_repL, w2_rep1, w2_repT, w2_repT1)
    have ec : List.countP (fun y => decide (y = j)) ((tabs a b c).map tsum) = ((tabs a b c).map tsum).count j := by
      unfold List.count
      congr 1
    rw [ec]
    first | exact ⟨rfl, fun _ => trivial⟩ | exact fun _ => trivial
  obtain rfl := hb' rfl
  rw [due_q hb0]
  (try exists imm_Sx, imm_Sg, flat_Sx, flat_Sg, wbi_lenS, wits_Sx, w2_inS, w2_ninS, w2_addS, w2_addSg, wslc_S, wsub_S, w2_ltS, w2_isN0, w2_isNi, w2_isNs, w2_isNS, w2_isNt, w2_isNl, w2_isNT, w2_isNL, w2_ntN0, w2_ntNi, w2_ntNs, w2_ntNS, w2_ntNt, w2_ntNl, w2_ntNT, w2_ntNL, w2_repL, w2_rep1, w2_repT, w2_repT1)
  refine wcall_3 ?_
  (try exists imm_Sx, imm_Sg, flat_Sx, flat_Sg, wbi_lenS, wits_Sx, w2_inS, w2_ninS, w2_addS, w2_addSg, wslc_S, wsub_S, w2_ltS, w2_isN0, w2_isNi, w2_isNs, w2_isNS, w2_isNt, w2_isNl, w2_isNT, w2_isNL, w2_ntN0, w2_ntNi, w2_ntNs, w2_ntNS, w2_ntNt, w2_ntNl, w2_ntNT, w2_ntNL, w2_repL, w2_rep1, w2_repT, w2_repT1)
  refine csum_ok _ x y z a b c hx hy hz ha hb hc ha0 hb0 hm hlen ?_
  (try exists imm_Sx, imm_Sg, flat_Sx, flat_Sg, wbi_lenS, wits_Sx, w2_inS, w2_ninS, w2_addS, w2_addSg, wslc_S, wsub_S, w2_ltS, w2_isN0, w2_isNi, w2_isNs, w2_isNS, w2_isNt, w2_isNl, w2_isNT, w2_isNL, w2_ntN0, w2_ntNi, w2_ntNs, w2_ntNS, w2_ntNt, w2_ntNl, w2_ntNT, w2_ntNL, w2_repL, w2_rep1, w2_repT, w2_repT1, eq_self)
  refine ⟨mulOk_l ⟨by omega, by omega⟩, mulOk_r ⟨by omega, by omega⟩, ?_⟩
  rw [e4]
  by_cases h60 : a * b * c ≤ 60
  · rw [show decide (((a * b * c : Nat) : Int) ≤ 60) = true from decide_eq_true (by omega)]
    (try exists imm_Sx, imm_Sg, flat_Sx, flat_Sg, wbi_lenS, wits_Sx, w2_inS, w2_ninS, w2_addS, w2_addSg, wslc_S, wsub_S, w2_ltS, w2_isN0, w2_isNi, w2_isNs, w2_isNS, w2_isNt, w2_isNl, w2_isNT, w2_isNL, w2_ntN0, w2_ntNi, w2_ntNs, w2_ntNS, w2_ntNt, w2_ntNl, w2_ntNT, w2_ntNL, w2_repL, w2_rep1, w2_repT, w2_repT1)
    refine wcall_vals (rs := [_, _, _, _]) ?_
    (try exists imm_Sx, imm_Sg, flat_Sx, flat_Sg, wbi_lenS, wits_Sx, w2_inS, w2_ninS, w2_addS, w2_addSg, wslc_S, wsub_S, w2_ltS, w2_isN0, w2_isNi, w2_isNs, w2_isNS, w2_isNt, w2_isNl, w2_isNT, w2_isNL, w2_ntN0, w2_ntNi, w2_ntNs, w2_ntNS, w2_ntNt, w2_ntNl, w2_ntNT, w2_ntNL, w2_repL, w2_rep1, w2_repT, w2_repT1)
    refine tpoly_ok _ x y z a b c hx hy hz ha hb hc (fun _ => ?_) (fun h => absurd h (by omega))
    rw [poly_cn ha hb hc ha0 hb0 hm h60]
    (try exists imm_Sx, imm_Sg, flat_Sx, flat_Sg, wbi_lenS, wits_Sx, w2_inS, w2_ninS, w2_addS, w2_addSg, wslc_S, wsub_S, w2_ltS, w2_isN0, w2_isNi, w2_isNs, w2_isNS, w2_isNt, w2_isNl, w2_isNT, w2_isNL, w2_ntN0, w2_ntNi, w2_ntNs, w2_ntNS, w2_ntNt, w2_ntNl, w2_ntNT, w2_ntNL, w2_repL, w2_rep1, w2_repT, w2_repT1, eq_self)
    revert hcut; exists imm_Sx, imm_Sg, flat_Sx, flat_Sg, wbi_lenS, wits_Sx, w2_inS, w2_ninS, w2_addS, w2_addSg, wslc_S, wsub_S, w2_ltS, w2_isN0, w2_isNi, w2_isNs, w2_isNS, w2_isNt, w2_isNl, w2_isNT, w2_isNL, w2_ntN0, w2_ntNi, w2_ntNs, w2_ntNS, w2_ntNt, w2_ntNl, w2_ntNT, w2_ntNL, w2_repL, w2_rep1, w2_repT, w2_repT1; exact id
  · rw [show decide (((a * b * c : Nat) : Int) ≤ 60) = false from decide_eq_false (by omega)]
    (try exists imm_Sx, imm_Sg, flat_Sx, flat_Sg, wbi_lenS, wits_Sx, w2_inS, w2_ninS, w2_addS, w2_addSg, wslc_S, wsub_S, w2_ltS, w2_isN0, w2_isNi, w2_isNs, w2_isNS, w2_isNt, w2_isNl, w2_isNT, w2_isNL, w2_ntN0, w2_ntNi, w2_ntNs, w2_ntNS, w2_ntNt, w2_ntNl, w2_ntNT, w2_ntNL, w2_repL, w2_rep1, w2_repT, w2_repT1)
    revert hcut; exists imm_Sx, imm_Sg, flat_Sx, flat_Sg, wbi_lenS, wits_Sx, w2_inS, w2_ninS, w2_addS, w2_addSg, wslc_S, wsub_S, w2_ltS, w2_isN0, w2_isNi, w2_isNs, w2_isNS, w2_isNt, w2_isNl, w2_isNT, w2_isNL, w2_ntN0, w2_ntNi, w2_ntNs, w2_ntNS, w2_ntNt, w2_ntNl, w2_ntNT, w2_ntNL, w2_repL, w2_rep1, w2_repT, w2_repT1; exact id
end K45
set_option Elab.async false
set_option linter.all false
set_option maxRecDepth 100000
set_option maxHeartbeats 1000000
namespace K45
open PySem PV
theorem mac_facts {a b c : Nat} (ha : a < 9) (hb : b < 9) (hc : c < 9) : mac a b c = mac b c a ∧ mac a b c = mac c b a ∧ 1 ≤ mac a b c := by
  have := all3_of chk1_ok ha hb hc
  simp only [Bool.and_eq_true, decide_eq_true_eq] at this
  exact ⟨this.1.1, this.1.2, this.2⟩
theorem rest4 (k : Nat) (ns : List Int) (x y z : Int) (n1 n5 n6 n7 n8 n9 n10 n11 n12 n13 n14 n15 n16 n17 n18 n19 : NB) {E : XE} : wss (runF fs (k+5)) (tailS 8 c18.body) [some (.scr ns), n1.c, some (.own (.int x)), some (.own (.int y)), some (.own (.int z)), n5.c, n6.c, n7.c, n8.c, n9.c, n10.c, n11.c, n12.c, n13.c, n14.c, n15.c, n16.c, n17.c, n18.c, n19.c] LP E := by
  unfold c18
  simp only [tailS]
  exists imm_Sx, imm_Sg, flat_Sx, flat_Sg, wbi_lenS, wits_Sx, w2_inS, w2_ninS, w2_addS, w2_addSg, wslc_S, wsub_S, w2_ltS, w2_isN0, w2_isNi, w2_isNs, w2_isNS, w2_isNt, w2_isNl, w2_isNT, w2_isNL, w2_ntN0, w2_ntNi, w2_ntNs, w2_ntNS, w2_ntNt, w2_ntNl, w2_ntNT, w2_ntNL, w2_repL, w2_rep1, w2_repT, w2_repT1
  refine wcall_vals (rs := [_, _, _, _]) ?_
  (try exists imm_Sx, imm_Sg, flat_Sx, flat_Sg, wbi_lenS, wits_Sx, w2_inS, w2_ninS, w2_addS, w2_addSg, wslc_S, wsub_S, w2_ltS, w2_isN0, w2_isNi, w2_isNs, w2_isNS, w2_isNt, w2_isNl, w2_isNT, w2_isNL, w2_ntN0, w2_ntNi, w2_ntNs, w2_ntNS, w2_ntNt, w2_ntNl, w2_ntNT, w2_ntNL, w2_repL, w2_rep1, w2_repT, w2_repT1)
  refine tbox_ok _ _ _ _ (by unfold inB; omega) ?_
  (try exists imm_Sx, imm_Sg, flat_Sx, flat_Sg, wbi_lenS, wits_Sx, w2_inS, w2_ninS, w2_addS, w2_addSg, wslc_S, wsub_S, w2_ltS, w2_isN0, w2_isNi, w2_isNs, w2_isNS, w2_isNt, w2_isNl, w2_isNT, w2_isNL, w2_ntN0, w2_ntNi, w2_ntNs, w2_ntNS, w2_ntNt, w2_ntNl, w2_ntNT, w2_ntNL, w2_repL, w2_rep1, w2_repT, w2_repT1, eq_pr)
  (repeat ((with_reducible refine And.intro ?_ ?_); focus (intros; first | (simp only [List.length_append, List.length_cons, List.length_nil]; omega) | ((with_reducible refine lenOk_of ?_); first | decide | omega) | ((with_reducible refine mulOk_l ?_); first | decide | omega) | ((with_reducible refine mulOk_r ?_); first | decide | omega) | ((with_reducible refine smallI_of ?_); omega) | ((with_reducible refine divOk_of ?_ ?_) <;> first | decide | omega) | exact And.intro (by omega) (by omega) | omega | (unfold kp; exact Or.inl rfl) | with_reducible rfl | with_reducible exact trivial)))
  refine wcall_vals (rs := [_, _, _, _]) ?_
  (try exists imm_Sx, imm_Sg, flat_Sx, flat_Sg, wbi_lenS, wits_Sx, w2_inS, w2_ninS, w2_addS, w2_addSg, wslc_S, wsub_S, w2_ltS, w2_isN0, w2_isNi, w2_isNs, w2_isNS, w2_isNt, w2_isNl, w2_isNT, w2_isNL, w2_ntN0, w2_ntNi, w2_ntNs, w2_ntNS, w2_ntNt, w2_ntNl, w2_ntNT, w2_ntNL, w2_repL, w2_rep1, w2_repT, w2_repT1)
  refine tbox_ok _ _ _ _ (by unfold inB; omega) ?_
  (try exists imm_Sx, imm_Sg, flat_Sx, flat_Sg, wbi_lenS, wits_Sx, w2_inS, w2_ninS, w2_addS, w2_addSg, wslc_S, wsub_S, w2_ltS, w2_isN0, w2_isNi, w2_isNs, w2_isNS, w2_isNt, w2_isNl, w2_isNT, w2_isNL, w2_ntN0, w2_ntNi, w2_ntNs, w2_ntNS, w2_ntNt, w2_ntNl, w2_ntNT, w2_ntNL, w2_repL, w2_rep1, w2_repT, w2_repT1, eq_pr, LP_r)
  exact lenOk_of (by decide)
theorem rest3 (k : Nat) (ns : List Int) (x y z : Int) (a b c : Nat) (hx : x = a) (hy : y = b) (hz : z = c) (ha : a < 9) (hb : b < 9) (hc : c < 9) (n1 n6 n7 n8 n9 n10 n11 n12 n13 n15 n16 n17 n18 n19 : NB) {E : XE} : wss (runF fs (k+5)) (tailS 7 c18.body) [some (.scr ns), n1.c, some (.own (.int x)), some (.own (.int y)), some (.own (.int z)), some (.own (.int (mac a b c))), n6.c, n7.c, n8.c, n9.c, n10.c, n11.c, n12.c, n13.c, none, n15.c, n16.c, n17.c, n18.c, n19.c] LP E := by
  have e4 : x * y * z = ((a * b * c : Nat) : Int) := by rw [hx, hy, hz, Int.natCast_mul, Int.natCast_mul]
  unfold c18
  simp only [tailS]
  exists imm_Sx, imm_Sg, flat_Sx, flat_Sg, wbi_lenS, wits_Sx, w2_inS, w2_ninS, w2_addS, w2_addSg, wslc_S, wsub_S, w2_ltS, w2_isN0, w2_isNi, w2_isNs, w2_isNS, w2_isNt, w2_isNl, w2_isNT, w2_isNL, w2_ntN0, w2_ntNi, w2_ntNs, w2_ntNS, w2_ntNt, w2_ntNl, w2_ntNT, w2_ntNL, w2_repL, w2_rep1, w2_repT, w2_repT1
  refine ⟨mulOk_l ⟨by omega, by omega⟩, mulOk_r ⟨by omega, by omega⟩, ?_⟩
  rw [e4]
  refine wbS_if (fun h6 => ?_) (fun h6 => ?_) <;> (try simp only [decide_eq_true_eq, decide_eq_false_iff_not, Bool.or_eq_true, Bool.and_eq_true, Bool.or_eq_false_iff, Bool.and_eq_false_iff, Bool.not_eq_true', Bool.not_eq_false', Bool.not_eq_true, Bool.not_eq_false, Int.not_lt, Int.not_le, Bool.false_eq_true, Bool.true_eq_false, id] at h6)
  · have hP := poly_q ha hb hc (by omega)
    (try exists imm_Sx, imm_Sg, flat_Sx, flat_Sg, wbi_lenS, wits_Sx, w2_inS, w2_ninS, w2_addS, w2_addSg, wslc_S, wsub_S, w2_ltS, w2_isN0, w2_isNi, w2_isNs, w2_isNS, w2_isNt, w2_isNl, w2_isNT, w2_isNL, w2_ntN0, w2_ntNi, w2_ntNs, w2_ntNS, w2_ntNt, w2_ntNl, w2_ntNT, w2_ntNL, w2_repL, w2_rep1, w2_repT, w2_repT1)
    refine wcall_vals (rs := [_, _, _, _]) ?_
    (try exists imm_Sx, imm_Sg, flat_Sx, flat_Sg, wbi_lenS, wits_Sx, w2_inS, w2_ninS, w2_addS, w2_addSg, wslc_S, wsub_S, w2_ltS, w2_isN0, w2_isNi, w2_isNs, w2_isNS, w2_isNt, w2_isNl, w2_isNT, w2_isNL, w2_ntN0, w2_ntNi, w2_ntNs, w2_ntNS, w2_ntNt, w2_ntNl, w2_ntNT, w2_ntNL, w2_repL, w2_rep1, w2_repT, w2_repT1)
    refine tpoly_ok _ x y z a b c hx hy hz ha hb hc (fun _ => ?_) (fun h => absurd h (by omega))
    have hr := hP.rev
    have hs := hP.sum
    have hl := hP.len
    generalize poly a b c = P at *
    (try simp -dsimp only [↓we.eq_1, ↓we.eq_2, ↓we.eq_3, ↓we.eq_4, ↓we.eq_5, ↓we.eq_6, ↓we.eq_7, ↓we.eq_8, ↓we.eq_9, ↓we.eq_10, ↓we.eq_11, ↓we.eq_12, ↓we.eq_13, ↓we.eq_14, ↓we.eq_15, ↓we.eq_16, ↓we.eq_17, ↓we.eq_18, ↓we.eq_19, ↓we.eq_20, ↓we.eq_21, ↓we.eq_22, ↓we.eq_23, ↓we.eq_24, ↓we.eq_25, ↓we.eq_26, ↓we.eq_27, ↓we.eq_28, ↓we.eq_29, ↓we.eq_30, ↓we.eq_31, ↓we.eq_32, ↓wes.eq_1, ↓wes.eq_2, ↓wa.eq_1, ↓wa.eq_2, ↓wa.eq_3, ↓wo.eq_1, ↓wo.eq_2, ↓wt.eq_1, ↓wt.eq_2, ↓wit.eq_1, ↓wit.eq_2, ↓wit.eq_3, ↓wit.eq_4, ↓wit.eq_5, ↓wit.eq_6, ↓wit.eq_7, ↓wit.eq_8, ↓wx.eq_1, ↓wx.eq_2, ↓wx.eq_3, ↓wxs.eq_1, ↓wxs.eq_2, ↓ws.eq_1, ↓ws.eq_2, ↓ws.eq_3, ↓ws.eq_4, ↓ws.eq_5, ↓ws.eq_6, ↓ws.eq_7, ↓ws.eq_8, ↓ws.eq_9, ↓ws.eq_10, ↓ws.eq_11, ↓ws.eq_12, ↓ws.eq_13, ↓ws.eq_14, ↓ws.eq_15, ↓ws.eq_16, ↓ws.eq_17, ↓ws.eq_18, ↓ws.eq_19, ↓wss.eq_1, ↓wss.eq_2, ↓wa_var, ↓wx_int, ↓wa_int, ↓wx_str, ↓wa_str, ↓wx_bl, ↓wa_bl, ↓wx_non, ↓wa_non, ↓wx_op2, ↓wa_op2, ↓wx_op1, ↓wa_op1, ↓wx_and, ↓wa_and, ↓wx_or, ↓wa_or, ↓wx_ite, ↓wa_ite, ↓wx_cmp3, ↓wa_cmp3, ↓wx_bi, ↓wa_bi, ↓wx_mt, ↓wa_mt, ↓wx_sub, ↓wa_sub, ↓wx_slc, ↓wa_slc, ↓wx_rev, ↓wa_rev, ↓wa_tup, ↓wa_lst, ↓wx_call, ↓wa_call, ↓wx_scrL, ↓wa_scrL, ↓wx_pop0, ↓wa_pop0, ↓wx_pop1, ↓wa_pop1, ↓wx_comp, ↓wa_comp, ↓wx_rng, ↓wa_rng, ↓wx_rng1, ↓wa_rng1, ↓wx_isBool, ↓wa_isBool, ↓wx_isTup, ↓wa_isTup, ↓wx_isInt, ↓wa_isInt, ↓wx_sset, ↓wx_comp2, ↓wa_comp2, ↓wa_sset, ↓gx_eq, ↓wown_eq, ↓wscr_eq, get_z, get_s, ↓gk_own, ↓gk_fz, ↓gk_bor, ↓gx_own, ↓gx_fz, ↓gx_bor, ↓wscr_s, noBor_n, noBor_z, noBor_o, noBor_f, noBor_s, freeze_z, freeze_s, frz1_o, frz1_f, frz1_s, frz1_n, frz1_b, freezes_n, freezes_c, imm_int, imm_bool, imm_str, imm_none, imm_list, imm_tuple, immAll_n, immAll_c, flat_int, flat_bool, flat_str, flat_none, flat_list, flat_tuple, kp_t, kp_f, kp_ft, ↓kpv_t, ↓kpv_f, kpv_fz, kpv_n, isFz_var, isfz_f, imm_Tp, flat_Tp, imm_Ls, flat_Ls, immAll_map, ↓w2_eq, ↓w2_ne, ↓w2_eqL, ↓w2_neL, ↓w2_inT, ↓w2_ninT, ↓w2_inL, ↓w2_ninL, ↓wmt_count, ↓w2_addT, ↓w2_addL, ↓wsub_T, ↓wsub_L, ↓wslc_T, ↓wslc_L, ↓wrev_T, ↓wrev_L, ↓wits_T, ↓wits_L, ↓wlist_L, ↓wlist_l, ↓wits_l, ↓wits_t, ↓wown_L, ↓wown_l, ↓wset_map, ↓wat_map, ↓wbi_lenT, ↓wbi_lenL, ↓wbi_tupL, ↓wbi_tupT, ↓wbi_lstL, ↓wbi_lstT, ↓wbi_sumT, ↓wbi_sumL, ↓wbi_allL, ↓wbi_anyL, ↓wbi_max2, ↓wbi_min2, ↓wbi_abs, ↓wbi_int, ↓wbi_intb, ↓w2_add, ↓w2_sub, ↓w2_mul, ↓w2_fdiv, ↓w2_mod, ↓w2_pow, ↓w2_lt, ↓w2_le, ↓w2_gt, ↓w2_ge, ↓w1_neg, ↓w1_not, ↓wi_i, ↓wv_b, ↓wb_t, ↓wb_f, ↓wand_b, ↓wand_c1, ↓wand_t, ↓wandE_t, ↓wandE_f, ↓worE_t, ↓worE_f, ↓wand_f, ↓wor_b, ↓wor_c1, ↓wor_t, ↓wor_f, ↓wnx_n, ↓wnx_r, ↓wnx_b, ↓wnx_k, ↓wbind_1, ↓wbind_2, ↓wbind_3, List.set_cons_zero, List.set_cons_succ, List.map_cons, List.map_nil, List.length_cons, List.length_nil, List.cons_append, List.nil_append, Bool.or_true, Bool.true_or, Bool.or_false, Bool.false_or, Bool.and_true, Bool.true_and, Bool.and_false, Bool.false_and, Bool.not_true, Bool.not_false, if_true, if_false, true_and, and_true, eff, effs, effo, effi, vars, varss, varso, varsi, List.replicate_succ, List.replicate_zero, Nat.reduceSub, Nat.reduceAdd, Nat.reduceLeDiff, Nat.reduceLT, ↓wbS_t, ↓wbS_f, ↓wite_t, ↓wite_f, ↓wite_c1, ↓wite_c2, ↓wite_int, ↓wite_bool, ↓wite_str, ↓wite_T, ↓wite_L, cellOf_q, arC_q, store_q, cond_true, cond_false, rangeD_q, list_rangeD, list_map_q, tuple_map_q, noBor_nb, ↓Turn_n, ↓Turn_k, ↓Turn_b, ↓Turn_r, map_snoc, sizeLine_q, List.length_map, decide_eq_true_eq, decide_eq_false_iff_not, Bool.and_eq_true, Bool.or_eq_true, Bool.not_eq_true', Bool.not_eq_false', map_rev_q, wipe_n, wipe_c, Bool.false_eq_true, ↓wtry_n, ↓wtry_c, hd_0, hd_1, hd_2, decide_true, decide_false, Nat.reduceEqDiff, reduceCtorEq, Option.isSome_some, noBor_ni, immAt_q, immc_ni, immc_o, immc_f, immc_b, immc_n, List.all_cons, List.all_nil, ↓witr_T, ↓witr_L, ↓wits_S, ↓wbi_sorted, map_app_q, enumD_q, ↓wbind_pr, ↓wsub_pr0, ↓wsub_pr1, imm_Pr, flat_Pr, restore_n, restore_c, Nat.max_self, imm_Sx, imm_Sg, flat_Sx, flat_Sg, wbi_lenS, wits_Sx, w2_inS, w2_ninS, w2_addS, w2_addSg, wslc_S, wsub_S, w2_ltS, w2_isN0, w2_isNi, w2_isNs, w2_isNS, w2_isNt, w2_isNl, w2_isNT, w2_isNL, w2_ntN0, w2_ntNi, w2_ntNs, w2_ntNS, w2_ntNt, w2_ntNl, w2_ntNT, w2_ntNL, w2_repL, w2_rep1, w2_repT, w2_repT1, hs, ← hr, hl, eq_self, e4])
    refine ⟨fun _ _ => mulOk_l ⟨by omega, by omega⟩, fun _ _ => mulOk_r ⟨by omega, by omega⟩, ?_⟩
    rw [show decide (((a * b * c + 1 : Nat) : Int) = ((a * b * c : Nat) : Int) + 1) = true from decide_eq_true (by omega)]
    (try exists imm_Sx, imm_Sg, flat_Sx, flat_Sg, wbi_lenS, wits_Sx, w2_inS, w2_ninS, w2_addS, w2_addSg, wslc_S, wsub_S, w2_ltS, w2_isN0, w2_isNi, w2_isNs, w2_isNS, w2_isNt, w2_isNl, w2_isNT, w2_isNL, w2_ntN0, w2_ntNi, w2_ntNs, w2_ntNS, w2_ntNt, w2_ntNl, w2_ntNT, w2_ntNL, w2_repL, w2_rep1, w2_repT, w2_repT1)
    have hcut := rest4 k ns x y z n1 ⟨some (.own (.int (mac a b c))), rfl⟩ n6 n7 n8 n9 n10 n11 n12 n13 ⟨some (.own (Tp .int P)), rfl⟩ n15 n16 n17 n18 n19 (E := E); unfold c18 at hcut; simp only [tailS] at hcut; revert hcut; exists imm_Sx, imm_Sg, flat_Sx, flat_Sg, wbi_lenS, wits_Sx, w2_inS, w2_ninS, w2_addS, w2_addSg, wslc_S, wsub_S, w2_ltS, w2_isN0, w2_isNi, w2_isNs, w2_isNS, w2_isNt, w2_isNl, w2_isNT, w2_isNL, w2_ntN0, w2_ntNi, w2_ntNs, w2_ntNS, w2_ntNt, w2_ntNl, w2_ntNT, w2_ntNL, w2_repL, w2_rep1, w2_repT, w2_repT1; exact id
  · (try exists imm_Sx, imm_Sg, flat_Sx, flat_Sg, wbi_lenS, wits_Sx, w2_inS, w2_ninS, w2_addS, w2_addSg, wslc_S, wsub_S, w2_ltS, w2_isN0, w2_isNi, w2_isNs, w2_isNS, w2_isNt, w2_isNl, w2_isNT, w2_isNL, w2_ntN0, w2_ntNi, w2_ntNs, w2_ntNS, w2_ntNt, w2_ntNl, w2_ntNT, w2_ntNL, w2_repL, w2_rep1, w2_repT, w2_repT1)
    refine wcall_vals (rs := [_, _, _, _]) ?_
    (try exists imm_Sx, imm_Sg, flat_Sx, flat_Sg, wbi_lenS, wits_Sx, w2_inS, w2_ninS, w2_addS, w2_addSg, wslc_S, wsub_S, w2_ltS, w2_isN0, w2_isNi, w2_isNs, w2_isNS, w2_isNt, w2_isNl, w2_isNT, w2_isNL, w2_ntN0, w2_ntNi, w2_ntNs, w2_ntNS, w2_ntNt, w2_ntNl, w2_ntNT, w2_ntNL, w2_repL, w2_rep1, w2_repT, w2_repT1)
    refine tpoly_ok _ x y z a b c hx hy hz ha hb hc (fun h => absurd h (by omega)) (fun _ => ?_)
    (try exists imm_Sx, imm_Sg, flat_Sx, flat_Sg, wbi_lenS, wits_Sx, w2_inS, w2_ninS, w2_addS, w2_addSg, wslc_S, wsub_S, w2_ltS, w2_isN0, w2_isNi, w2_isNs, w2_isNS, w2_isNt, w2_isNl, w2_isNT, w2_isNL, w2_ntN0, w2_ntNi, w2_ntNs, w2_ntNS, w2_ntNt, w2_ntNl, w2_ntNT, w2_ntNL, w2_repL, w2_rep1, w2_repT, w2_repT1, ne_pr)
    (repeat ((with_reducible refine And.intro ?_ ?_); focus (intros; first | (simp only [List.length_append, List.length_cons, List.length_nil]; omega) | ((with_reducible refine lenOk_of ?_); first | decide | omega) | ((with_reducible refine mulOk_l ?_); first | decide | omega) | ((with_reducible refine mulOk_r ?_); first | decide | omega) | ((with_reducible refine smallI_of ?_); omega) | ((with_reducible refine divOk_of ?_ ?_) <;> first | decide | omega) | exact And.intro (by omega) (by omega) | omega | (unfold kp; exact Or.inl rfl) | with_reducible rfl | with_reducible exact trivial)))
    have hcut := rest4 k ns x y z n1 ⟨some (.own (.int (mac a b c))), rfl⟩ n6 n7 n8 n9 n10 n11 n12 n13 ⟨none, rfl⟩ n15 n16 n17 n18 n19 (E := E); unfold c18 at hcut; simp only [tailS] at hcut; revert hcut; exists imm_Sx, imm_Sg, flat_Sx, flat_Sg, wbi_lenS, wits_Sx, w2_inS, w2_ninS, w2_addS, w2_addSg, wslc_S, wsub_S, w2_ltS, w2_isN0, w2_isNi, w2_isNs, w2_isNS, w2_isNt, w2_isNl, w2_isNT, w2_isNL, w2_ntN0, w2_ntNi, w2_ntNs, w2_ntNS, w2_ntNt, w2_ntNl, w2_ntNT, w2_ntNL, w2_repL, w2_rep1, w2_repT, w2_repT1; exact id
theorem list_no {a b c : Nat} (ha : a < 9) (hb : b < 9) (hc : c < 9) (ha0 : 0 < a) (hb0 : 0 < b) (hm : mac a b c < 400) : ((lpN b c (a * b) 0 [[]]).length : Int) = mac a b c := by
  have := all3_of chk2_ok ha hb hc
  simp only [Bool.or_eq_true, decide_eq_true_eq, Bool.not_eq_true', decide_eq_false_iff_not] at this
  rcases this with ((h | h) | h) | h
  · have := beq_of h; omega
  · have := beq_of h; omega
  · omega
  · exact h
theorem law_ok (k : Nat) (ns : List Int) (hn : ns.length ≤ 63) {E} : Call (runF fs (k+6)) 18 [.scr ns] (fun d => d = .bool true) E := by
  refine call_intro rfl rfl ?_
  show wss _ _ _ LP E
  unfold c18
  exists imm_Sx, imm_Sg, flat_Sx, flat_Sg, wbi_lenS, wits_Sx, w2_inS, w2_ninS, w2_addS, w2_addSg, wslc_S, wsub_S, w2_ltS, w2_isN0, w2_isNi, w2_isNs, w2_isNS, w2_isNt, w2_isNl, w2_isNT, w2_isNL, w2_ntN0, w2_ntNi, w2_ntNs, w2_ntNS, w2_ntNt, w2_ntNl, w2_ntNT, w2_ntNL, w2_repL, w2_rep1, w2_repT, w2_repT1
  refine wcall_begin (f := 12) (s0 := 3) (m := 48271) (a := 2147483629) (c := 5) (q := 2147483647) rfl (by decide) (by decide) (by decide) (by decide) hn rfl fun d hd => ?_
  exists imm_Sx, imm_Sg, flat_Sx, flat_Sg, wbi_lenS, wits_Sx, w2_inS, w2_ninS, w2_addS, w2_addSg, wslc_S, wsub_S, w2_ltS, w2_isN0, w2_isNi, w2_isNs, w2_isNS, w2_isNt, w2_isNl, w2_isNT, w2_isNL, w2_ntN0, w2_ntNi, w2_ntNs, w2_ntNS, w2_ntNt, w2_ntNl, w2_ntNT, w2_ntNL, w2_repL, w2_rep1, w2_repT, w2_repT1
  refine wcall_take (f := 13) (mm := 69621) (q := 2147483647) rfl (by decide) (by decide) hd rfl (by (try exists imm_Sx, imm_Sg, flat_Sx, flat_Sg, wbi_lenS, wits_Sx, w2_inS, w2_ninS, w2_addS, w2_addSg, wslc_S, wsub_S, w2_ltS, w2_isN0, w2_isNi, w2_isNs, w2_isNS, w2_isNt, w2_isNl, w2_isNT, w2_isNL, w2_ntN0, w2_ntNi, w2_ntNs, w2_ntNS, w2_ntNt, w2_ntNl, w2_ntNT, w2_ntNL, w2_repL, w2_rep1, w2_repT, w2_repT1)) (by decide) (by decide) fun x d1 x0 x1 hd1 => ?_
  (try exists imm_Sx, imm_Sg, flat_Sx, flat_Sg, wbi_lenS, wits_Sx, w2_inS, w2_ninS, w2_addS, w2_addSg, wslc_S, wsub_S, w2_ltS, w2_isN0, w2_isNi, w2_isNs, w2_isNS, w2_isNt, w2_isNl, w2_isNT, w2_isNL, w2_ntN0, w2_ntNi, w2_ntNs, w2_ntNS, w2_ntNt, w2_ntNl, w2_ntNT, w2_ntNL, w2_repL, w2_rep1, w2_repT, w2_repT1)
  refine wcall_take (f := 13) (mm := 69621) (q := 2147483647) rfl (by decide) (by decide) hd1 rfl (by (try exists imm_Sx, imm_Sg, flat_Sx, flat_Sg, wbi_lenS, wits_Sx, w2_inS, w2_ninS, w2_addS, w2_addSg, wslc_S, wsub_S, w2_ltS, w2_isN0, w2_isNi, w2_isNs, w2_isNS, w2_isNt, w2_isNl, w2_isNT, w2_isNL, w2_ntN0, w2_ntNi, w2_ntNs, w2_ntNS, w2_ntNt, w2_ntNl, w2_ntNT, w2_ntNL, w2_repL, w2_rep1, w2_repT, w2_repT1)) (by decide) (by decide) fun y d2 y0 y1 hd2 => ?_
  (try exists imm_Sx, imm_Sg, flat_Sx, flat_Sg, wbi_lenS, wits_Sx, w2_inS, w2_ninS, w2_addS, w2_addSg, wslc_S, wsub_S, w2_ltS, w2_isN0, w2_isNi, w2_isNs, w2_isNS, w2_isNt, w2_isNl, w2_isNT, w2_isNL, w2_ntN0, w2_ntNi, w2_ntNs, w2_ntNS, w2_ntNt, w2_ntNl, w2_ntNT, w2_ntNL, w2_repL, w2_rep1, w2_repT, w2_repT1)
  refine wcall_take (f := 13) (mm := 69621) (q := 2147483647) rfl (by decide) (by decide) hd2 rfl (by (try exists imm_Sx, imm_Sg, flat_Sx, flat_Sg, wbi_lenS, wits_Sx, w2_inS, w2_ninS, w2_addS, w2_addSg, wslc_S, wsub_S, w2_ltS, w2_isN0, w2_isNi, w2_isNs, w2_isNS, w2_isNt, w2_isNl, w2_isNT, w2_isNL, w2_ntN0, w2_ntNi, w2_ntNs, w2_ntNS, w2_ntNt, w2_ntNl, w2_ntNT, w2_ntNL, w2_repL, w2_rep1, w2_repT, w2_repT1)) (by decide) (by decide) fun z d3 z0 z1 hd3 => ?_
  obtain ⟨a, hx⟩ := Int.eq_ofNat_of_zero_le x0
  obtain ⟨b, hy⟩ := Int.eq_ofNat_of_zero_le y0
  obtain ⟨c, hz⟩ := Int.eq_ofNat_of_zero_le z0
  have ha : a < 9 := by omega
  have hb : b < 9 := by omega
  have hc : c < 9 := by omega
  obtain ⟨m1, m2, m3⟩ := mac_facts ha hb hc
  (try exists imm_Sx, imm_Sg, flat_Sx, flat_Sg, wbi_lenS, wits_Sx, w2_inS, w2_ninS, w2_addS, w2_addSg, wslc_S, wsub_S, w2_ltS, w2_isN0, w2_isNi, w2_isNs, w2_isNS, w2_isNt, w2_isNl, w2_isNT, w2_isNL, w2_ntN0, w2_ntNi, w2_ntNs, w2_ntNS, w2_ntNt, w2_ntNl, w2_ntNT, w2_ntNL, w2_repL, w2_rep1, w2_repT, w2_repT1)
  refine wcall_vals (rs := [_, _, _, _]) ?_
  (try exists imm_Sx, imm_Sg, flat_Sx, flat_Sg, wbi_lenS, wits_Sx, w2_inS, w2_ninS, w2_addS, w2_addSg, wslc_S, wsub_S, w2_ltS, w2_isN0, w2_isNi, w2_isNs, w2_isNS, w2_isNt, w2_isNl, w2_isNT, w2_isNL, w2_ntN0, w2_ntNi, w2_ntNs, w2_ntNS, w2_ntNt, w2_ntNl, w2_ntNT, w2_ntNL, w2_repL, w2_rep1, w2_repT, w2_repT1)
  refine tcount_ok _ x y z a b c hx hy hz ha hb hc ?_
  (try exists imm_Sx, imm_Sg, flat_Sx, flat_Sg, wbi_lenS, wits_Sx, w2_inS, w2_ninS, w2_addS, w2_addSg, wslc_S, wsub_S, w2_ltS, w2_isN0, w2_isNi, w2_isNs, w2_isNS, w2_isNt, w2_isNl, w2_isNT, w2_isNL, w2_ntN0, w2_ntNi, w2_ntNs, w2_ntNS, w2_ntNt, w2_ntNl, w2_ntNT, w2_ntNL, w2_repL, w2_rep1, w2_repT, w2_repT1)
  refine wcall_vals (rs := [_, _, _, _]) ?_
  (try exists imm_Sx, imm_Sg, flat_Sx, flat_Sg, wbi_lenS, wits_Sx, w2_inS, w2_ninS, w2_addS, w2_addSg, wslc_S, wsub_S, w2_ltS, w2_isN0, w2_isNi, w2_isNs, w2_isNS, w2_isNt, w2_isNl, w2_isNT, w2_isNL, w2_ntN0, w2_ntNi, w2_ntNs, w2_ntNS, w2_ntNt, w2_ntNl, w2_ntNT, w2_ntNL, w2_repL, w2_rep1, w2_repT, w2_repT1)
  refine tcount_ok _ y z x b c a hy hz hx hb hc ha ?_
  rw [← m1]
  (try exists imm_Sx, imm_Sg, flat_Sx, flat_Sg, wbi_lenS, wits_Sx, w2_inS, w2_ninS, w2_addS, w2_addSg, wslc_S, wsub_S, w2_ltS, w2_isN0, w2_isNi, w2_isNs, w2_isNS, w2_isNt, w2_isNl, w2_isNT, w2_isNL, w2_ntN0, w2_ntNi, w2_ntNs, w2_ntNS, w2_ntNt, w2_ntNl, w2_ntNT, w2_ntNL, w2_repL, w2_rep1, w2_repT, w2_repT1, eq_self)
  refine wcall_vals (rs := [_, _, _, _]) ?_
  (try exists imm_Sx, imm_Sg, flat_Sx, flat_Sg, wbi_lenS, wits_Sx, w2_inS, w2_ninS, w2_addS, w2_addSg, wslc_S, wsub_S, w2_ltS, w2_isN0, w2_isNi, w2_isNs, w2_isNS, w2_isNt, w2_isNl, w2_isNT, w2_isNL, w2_ntN0, w2_ntNi, w2_ntNs, w2_ntNS, w2_ntNt, w2_ntNl, w2_ntNT, w2_ntNL, w2_repL, w2_rep1, w2_repT, w2_repT1)
  refine tcount_ok _ z y x c b a hz hy hx hc hb ha ?_
  rw [← m2]
  (try exists imm_Sx, imm_Sg, flat_Sx, flat_Sg, wbi_lenS, wits_Sx, w2_inS, w2_ninS, w2_addS, w2_addSg, wslc_S, wsub_S, w2_ltS, w2_isN0, w2_isNi, w2_isNs, w2_isNS, w2_isNt, w2_isNl, w2_isNT, w2_isNL, w2_ntN0, w2_ntNi, w2_ntNs, w2_ntNS, w2_ntNt, w2_ntNl, w2_ntNT, w2_ntNL, w2_repL, w2_rep1, w2_repT, w2_repT1, eq_self)
  rw [show decide (mac a b c < 1) = false from decide_eq_false (by omega)]
  (try exists imm_Sx, imm_Sg, flat_Sx, flat_Sg, wbi_lenS, wits_Sx, w2_inS, w2_ninS, w2_addS, w2_addSg, wslc_S, wsub_S, w2_ltS, w2_isN0, w2_isNi, w2_isNs, w2_isNS, w2_isNt, w2_isNl, w2_isNT, w2_isNL, w2_ntN0, w2_ntNi, w2_ntNs, w2_ntNS, w2_ntNt, w2_ntNl, w2_ntNT, w2_ntNL, w2_repL, w2_rep1, w2_repT, w2_repT1)
  have hr3 := fun (d : D) (n6 n7 n8 n9 n10 n11 n12 n13 n15 n16 n17 n18 n19 : NB) => rest3 k ns x y z a b c hx hy hz ha hb hc ⟨some (.own d), rfl⟩ n6 n7 n8 n9 n10 n11 n12 n13 n15 n16 n17 n18 n19 (E := E)
  refine wbS_if (fun h => ?_) (fun h => ?_)
  · simp only [Bool.and_eq_true, decide_eq_true_eq] at h
    have ha0 : 0 < a := by omega
    have hb0 : 0 < b := by omega
    have hL := list_no ha hb hc ha0 hb0 h.1
    refine bigB k ns x y z a b c hx hy hz ha hb hc ha0 hb0 h.1 hL (by omega) d3 hd3 ?_
    intro d n6 n7 n8 n9 n10 n11 n12 n13 n15 n16 n17 n18 n19
    have hcut := hr3 d n6 n7 n8 n9 n10 n11 n12 n13 n15 n16 n17 n18 n19
    unfold c18 at hcut
    simp only [tailS] at hcut
    revert hcut; exists imm_Sx, imm_Sg, flat_Sx, flat_Sg, wbi_lenS, wits_Sx, w2_inS, w2_ninS, w2_addS, w2_addSg, wslc_S, wsub_S, w2_ltS, w2_isN0, w2_isNi, w2_isNs, w2_isNS, w2_isNt, w2_isNl, w2_isNT, w2_isNL, w2_ntN0, w2_ntNi, w2_ntNs, w2_ntNS, w2_ntNt, w2_ntNl, w2_ntNT, w2_ntNL, w2_repL, w2_rep1, w2_repT, w2_repT1; exact id
  · have hcut := hr3 d3 ⟨none, rfl⟩ ⟨none, rfl⟩ ⟨none, rfl⟩ ⟨none, rfl⟩ ⟨none, rfl⟩ ⟨none, rfl⟩ ⟨none, rfl⟩ ⟨none, rfl⟩ ⟨none, rfl⟩ ⟨none, rfl⟩ ⟨none, rfl⟩ ⟨none, rfl⟩ ⟨none, rfl⟩
    unfold c18 at hcut
    simp only [tailS] at hcut
    (try exists imm_Sx, imm_Sg, flat_Sx, flat_Sg, wbi_lenS, wits_Sx, w2_inS, w2_ninS, w2_addS, w2_addSg, wslc_S, wsub_S, w2_ltS, w2_isN0, w2_isNi, w2_isNs, w2_isNS, w2_isNt, w2_isNl, w2_isNT, w2_isNL, w2_ntN0, w2_ntNi, w2_ntNs, w2_ntNS, w2_ntNt, w2_ntNl, w2_ntNT, w2_ntNL, w2_repL, w2_rep1, w2_repT, w2_repT1)
    by_cases h3 : 3000 < mac a b c
    · rw [decide_eq_true h3]
      (try exists imm_Sx, imm_Sg, flat_Sx, flat_Sg, wbi_lenS, wits_Sx, w2_inS, w2_ninS, w2_addS, w2_addSg, wslc_S, wsub_S, w2_ltS, w2_isN0, w2_isNi, w2_isNs, w2_isNS, w2_isNt, w2_isNl, w2_isNT, w2_isNL, w2_ntN0, w2_ntNi, w2_ntNs, w2_ntNS, w2_ntNt, w2_ntNl, w2_ntNT, w2_ntNL, w2_repL, w2_rep1, w2_repT, w2_repT1)
      refine wcall_vals (rs := [_, _, _, _]) ?_
      (try exists imm_Sx, imm_Sg, flat_Sx, flat_Sg, wbi_lenS, wits_Sx, w2_inS, w2_ninS, w2_addS, w2_addSg, wslc_S, wsub_S, w2_ltS, w2_isN0, w2_isNi, w2_isNs, w2_isNS, w2_isNt, w2_isNl, w2_isNT, w2_isNL, w2_ntN0, w2_ntNi, w2_ntNs, w2_ntNS, w2_ntNt, w2_ntNl, w2_ntNT, w2_ntNL, w2_repL, w2_rep1, w2_repT, w2_repT1)
      refine tlist_ok _ x y z a b c hx hy hz ha hb hc (fun h => absurd h (by omega)) (fun h => absurd h (by omega)) (fun _ => ?_) (.inr h3)
      (try exists imm_Sx, imm_Sg, flat_Sx, flat_Sg, wbi_lenS, wits_Sx, w2_inS, w2_ninS, w2_addS, w2_addSg, wslc_S, wsub_S, w2_ltS, w2_isN0, w2_isNi, w2_isNs, w2_isNS, w2_isNt, w2_isNl, w2_isNT, w2_isNL, w2_ntN0, w2_ntNi, w2_ntNs, w2_ntNS, w2_ntNt, w2_ntNl, w2_ntNT, w2_ntNL, w2_repL, w2_rep1, w2_repT, w2_repT1, ne_pr)
      refine ⟨lenOk_of (by decide), ?_⟩
      revert hcut; exists imm_Sx, imm_Sg, flat_Sx, flat_Sg, wbi_lenS, wits_Sx, w2_inS, w2_ninS, w2_addS, w2_addSg, wslc_S, wsub_S, w2_ltS, w2_isN0, w2_isNi, w2_isNs, w2_isNS, w2_isNt, w2_isNl, w2_isNT, w2_isNL, w2_ntN0, w2_ntNi, w2_ntNs, w2_ntNS, w2_ntNt, w2_ntNl, w2_ntNT, w2_ntNL, w2_repL, w2_rep1, w2_repT, w2_repT1; exact id
    · rw [decide_eq_false h3]
      (try exists imm_Sx, imm_Sg, flat_Sx, flat_Sg, wbi_lenS, wits_Sx, w2_inS, w2_ninS, w2_addS, w2_addSg, wslc_S, wsub_S, w2_ltS, w2_isN0, w2_isNi, w2_isNs, w2_isNS, w2_isNt, w2_isNl, w2_isNT, w2_isNL, w2_ntN0, w2_ntNi, w2_ntNs, w2_ntNS, w2_ntNt, w2_ntNl, w2_ntNT, w2_ntNL, w2_repL, w2_rep1, w2_repT, w2_repT1)
      revert hcut; exists imm_Sx, imm_Sg, flat_Sx, flat_Sg, wbi_lenS, wits_Sx, w2_inS, w2_ninS, w2_addS, w2_addSg, wslc_S, wsub_S, w2_ltS, w2_isN0, w2_isNi, w2_isNs, w2_isNS, w2_isNt, w2_isNl, w2_isNT, w2_isNL, w2_ntN0, w2_ntNi, w2_ntNs, w2_ntNS, w2_ntNt, w2_ntNl, w2_ntNT, w2_ntNL, w2_repL, w2_rep1, w2_repT, w2_repT1; exact id
end K45
set_option Elab.async false
set_option linter.all false
set_option maxRecDepth 100000
namespace K45
open PySem PV
def nms : List Str := (["check_box", "check_plane", "macmahon", "rows_below", "planes", "counts_by_sum", "q_macmahon", "_times", "_divided", "complement", "turned", "symmetric_count", "_law_begin", "_law_take", "_law_pick", "_law_told", "_law_error", "_law_planes", "law"] : List Str)
def cns : List Str := (["WorkError", "ShapeError"] : List Str)
def nss : List (List Str) := [n0, n1, n2, n3, n4, n5, n6, n7, n8, n9, n10, n11, n12, n13, n14, n15, n16, n17, n18]
def ixs : List Nat := [5, 6, 7, 8, 9, 10, 11, 12, 13, 14, 15, 16, 18, 19, 20, 21, 22, 23, 24]
def ioF : Nat → List Nat := fun f => match f with
  | 13 => [0]
  | 14 => [0]
  | _ => []
def J : Info := { nm := fun f => nms.getD f ("" : Str), io := ioF, cn := fun c => cns.getD c ("" : Str), nf := 19, nc := 2, cat := fun z c => ([(0, 0), (0, 1), (1, 1)] : List (Nat × Nat)).contains (z, c), gc := [("LISTED", 3000)] }
def L : LawT := { J := J, fs := fs, N := fun f => nss.getD f [], at_ := fun f => ixs.getD f 0, P := PySem.Challenge.pw_shapeworks_k45_whole_plane_partitions, cls0 := 1 }
theorem ok : L.ok = true := by decide +kernel
abbrev R : PySem.W.OpenRow := PySem.W.OpenLaw.row PySem.Challenge.rw_shapeworks_k45_whole_plane_partitions
def others : List Str := (["WorkError", "ShapeError", "check_box", "check_plane", "macmahon", "rows_below", "planes", "counts_by_sum", "q_macmahon", "_times", "_divided", "complement", "turned", "symmetric_count", "_law_begin", "_law_take", "_law_pick", "_law_told", "_law_error", "_law_planes", "LISTED"] : List Str)
open PySem.W in
theorem run (w : World) : HandSHeadRun.RunEq R (PySem.W.view R.prog [24]) L.hk L.ob 20000 others w := by
  intro os
  kernel_rfl
theorem bind : L.Bind := by
  intro f hf kV doc pm an cdv ct us hl
  match f, hf with
  | 0, _ => match us, hl with
    | [_, _, _], _ => rfl
  | 1, _ => match us, hl with
    | [_, _], _ => rfl
  | 2, _ => match us, hl with
    | [_, _, _], _ => rfl
  | 3, _ => match us, hl with
    | [_, _], _ => rfl
  | 4, _ => match us, hl with
    | [_, _, _], _ => rfl
  | 5, _ => match us, hl with
    | [_, _, _], _ => rfl
  | 6, _ => match us, hl with
    | [_, _, _], _ => rfl
  | 7, _ => match us, hl with
    | [_, _], _ => rfl
  | 8, _ => match us, hl with
    | [_, _], _ => rfl
  | 9, _ => match us, hl with
    | [_, _], _ => rfl
  | 10, _ => match us, hl with
    | [_, _], _ => rfl
  | 11, _ => match us, hl with
    | [_, _], _ => rfl
  | 12, _ => match us, hl with
    | [_], _ => rfl
  | 13, _ => match us, hl with
    | [_, _], _ => rfl
  | 14, _ => match us, hl with
    | [_, _], _ => rfl
  | 15, _ => match us, hl with
    | [_, _, _, _], _ => rfl
  | 16, _ => match us, hl with
    | [_, _], _ => rfl
  | 17, _ => match us, hl with
    | [_, _, _], _ => rfl
  | 18, _ => match us, hl with
    | [_], _ => rfl
  | n + 19, h => exact absurd (show n + 19 < 19 from h) (by omega)
theorem ini : L.J.nc ≠ 0 → L.IsI ∧ L.BindI 0 ∧ L.BindI 1 := fun _ => ⟨⟨_, _, _, _, _, _, _, _, rfl⟩, fun T kV doc pm an cdv ct us its h1 h2 => match us, its, h1, h2 with
  | [_, _], [_], _, _ => ⟨_, rfl, rfl⟩, fun T kV doc pm an cdv ct us its h1 h2 => match us, its, h1, h2 with
  | [_, _, _], [_], _, _ => ⟨_, rfl, rfl⟩⟩
open PySem.W PySem.Calls PyProof.Rows in
theorem holds_of (k : Nat) (hk : L2.Room (k + 2) callerA) (h : ∀ ns : List Int, ns.length ≤ 63 → ∃ outs, PV.runF fs k 18 [.scr ns] = .ok ((true, .bool true), outs)) : PySem.Challenge.rw_shapeworks_k45_whole_plane_partitions.Holds := by
  w_on; o_law
  refine HandSHeadRun.head_any (r := OpenLaw.row PySem.Challenge.rw_shapeworks_k45_whole_plane_partitions) (q := view (OpenLaw.row PySem.Challenge.rw_shapeworks_k45_whole_plane_partitions).prog [24]) (H := L.hk) (ob := L.ob) (M := 20000) (loose := others) (d := HandSHeadRun.topDef (OpenLaw.row PySem.Challenge.rw_shapeworks_k45_whole_plane_partitions).prog 24) (kwd := []) L.ob_eq
    (by kernel_rfl) (fun s => by kernel_rfl) run (by kernel_rfl) (by kernel_rfl) (by kernel_rfl) (by rfl) (by first | assumption | decide +kernel) (by decide +kernel) ⟨rfl, rfl, rfl, rfl, rfl, by decide +kernel⟩ ?hw ?hc
  case hw => w_witness2
  case hc =>
    exact walk_P L rfl rfl hk (by decide) (by kernel_rfl) (by kernel_rfl) ok bind ini h
end K45
open PySem PySem.W PyProof.Rows
set_option Elab.async false
set_option maxRecDepth 100000 in
theorem PySem.Challenge.cw_shapeworks_k45_whole_plane_partitions_holds : PySem.Challenge.rw_shapeworks_k45_whole_plane_partitions.Holds := by
  exact K45.holds_of 7 ⟨rfl, by decide, by decide⟩ fun ns hn => PV.of_call (K45.law_ok 1 ns hn)
