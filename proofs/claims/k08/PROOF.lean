import PyProof.Rows.All
import Wide.All
import OpenK.AllK
import Wide.FinOn
import HandS.ForMost
import HandS.Exc
import HandS.Walk
import HandS.Zip
import HandS.Wide
import HandS.Defaults
import HandS.IsInst
import HandS.TupAny
import HandS.TupMul
import HandS.Flow
import HandS.More
import KE.GoesMore
import HandS.WordsExc
import HandS.Ends
import PySem.Challenge.RW_stayswithin_k08_whole_what_is_linear
set_option Elab.async false
set_option linter.all false
set_option maxRecDepth 100000
set_option maxHeartbeats 4000000
/-! PI, part A: data, cells, own syntax, the evaluator. -/
namespace PI
open PySem PySem.Spec PyProof.Rows L2

/-- data: trees; `ref n` is the n-th cell of the store; `scr` the script's list -/
inductive D where
  | non | bl (b : Bool) | int (i : Int) | str (x : Str)
  | tup (xs : List D) | lst (xs : List D) | scr (ns : List Int) | ref (n : Nat)

/-- cells: lists that are changed, instances; `dead` is a list that was frozen -/
inductive Cell where
  | lst (xs : List D) | ins (C : Str) (fs : List (Str × D)) | dead

abbrev Sto := List Cell
abbrev Ev := List (Option D)

inductive Out (α : Type) where
  | ok (a : α) (st : Sto)
  | exc (c : Str) (fs : List (Str × D)) (st : Sto)
  | bad

def Out.bind {α β : Type} (o : Out α) (f : α → Sto → Out β) : Out β :=
  match o with
  | .ok a st => f a st
  | .exc c fs st => .exc c fs st
  | .bad => .bad
@[simp] theorem Out.bind_ok {α β : Type} (a : α) (st : Sto) (f : α → Sto → Out β) : (Out.ok a st).bind f = f a st := rfl
@[simp] theorem Out.bind_exc {α β : Type} (c : Str) (fs : List (Str × D)) (st : Sto) (f : α → Sto → Out β) : (Out.exc c fs st : Out α).bind f = .exc c fs st := rfl
@[simp] theorem Out.bind_bad {α β : Type} (f : α → Sto → Out β) : (Out.bad : Out α).bind f = .bad := rfl

theorem Out.bind_assoc {α β γ : Type} (o : Out α) (f : α → Sto → Out β) (g : β → Sto → Out γ) : (o.bind f).bind g = o.bind fun a s => (f a s).bind g := by
  cases o <;> rfl
/-- an expression within a statement: what it raises leaves with the names as they stand -/
def Out.lift {α β : Type} (o : Out α) (x : Str → List (Str × D) → β) (f : α → Sto → Out β) : Out β :=
  match o with
  | .ok a st => f a st
  | .exc c fs st => .ok (x c fs) st
  | .bad => .bad
@[simp] theorem Out.lift_ok {α β : Type} (a : α) (st : Sto) (x : Str → List (Str × D) → β) (f : α → Sto → Out β) : (Out.ok a st).lift x f = f a st := rfl
@[simp] theorem Out.lift_exc {α β : Type} (c : Str) (fs : List (Str × D)) (st : Sto) (x : Str → List (Str × D) → β) (f : α → Sto → Out β) : (Out.exc c fs st : Out α).lift x f = .ok (x c fs) st := rfl
@[simp] theorem Out.lift_bad {α β : Type} (x : Str → List (Str × D) → β) (f : α → Sto → Out β) : (Out.bad : Out α).lift x f = .bad := rfl
/-- where nothing may be raised -/
def Out.calm {α : Type} (o : Out α) : Out α :=
  match o with
  | .exc _ _ _ => .bad
  | o => o
@[simp] theorem Out.calm_ok {α : Type} (a : α) (st : Sto) : (Out.ok a st).calm = .ok a st := rfl
theorem Out.calm_inv {α : Type} {o : Out α} {a : α} {st : Sto} (h : o.calm = .ok a st) : o = .ok a st := by
  cases o with
  | ok => exact h
  | exc => cases h
  | bad => cases h

/-- a condition that the run wants -/
noncomputable def need {α : Type} (p : Prop) (o : Out α) : Out α := open Classical in if p then o else .bad
theorem need_pos {α : Type} {p : Prop} {o : Out α} (h : p) : need p o = o := by unfold need; rw [if_pos h]
theorem need_ok {α : Type} {p : Prop} {o : Out α} {a : α} {st : Sto} (h : need p o = .ok a st) : p ∧ o = .ok a st := by
  unfold need at h
  split at h
  · exact ⟨by assumption, h⟩
  · cases h
theorem need_exc {α : Type} {p : Prop} {o : Out α} {c : Str} {fs : List (Str × D)} {st : Sto} (h : need p o = .exc c fs st) : p ∧ o = .exc c fs st := by
  unfold need at h
  split at h
  · exact ⟨by assumption, h⟩
  · cases h

/-! ### views -/
def seqOf (st : Sto) : D → Option (List D)
  | .tup xs => some xs
  | .lst xs => some xs
  | .scr ns => some (ns.map .int)
  | .ref n => match st[n]? with
    | some (.lst xs) => some xs
    | _ => none
  | _ => none
/-- lists alone -/
def lstOf (st : Sto) : D → Option (List D)
  | .lst xs => some xs
  | .ref n => match st[n]? with
    | some (.lst xs) => some xs
    | _ => none
  | _ => none
def newL (m : Bool) (xs : List D) (st : Sto) : Out D := if m then .ok (.ref st.length) (st ++ [.lst xs]) else .ok (.lst xs) st
@[simp] theorem newL_t (xs : List D) (st : Sto) : newL true xs st = .ok (.ref st.length) (st ++ [.lst xs]) := rfl
@[simp] theorem newL_f (xs : List D) (st : Sto) : newL false xs st = .ok (.lst xs) st := rfl

/-! ### the syntax -/
inductive Pat where
  | name (i : Nat)
  | tup (ps : List Pat)
/-- what a loop walks -/
inductive IK where
  | plain | range1 | range2 | range3 | zip | enum
  deriving DecidableEq
/-- built-ins by name -/
inductive BI where
  | len | tuple | list | int | abs | isI (t : String) | sum | all | any | repr | max2 | min2 | max1 | min1 | minD | str
  deriving DecidableEq
/-- methods of built-in types -/
inductive BM where
  | append | insert | pop | popAt | extend | remove | index | join | split | partition | find
  deriving DecidableEq
inductive E where
  | var (i : Nat) | fz (i : Nat) | glob (x : Str)
  | int (i : Int) | str (x : Str) | bl (b : Bool) | non | gap
  | bin (m : Bool) (op : Operator) (a b : E)
  | neg (a : E) | not (a : E) | and (a b : E) | or (a b : E) | ite (c a b : E)
  | cmp (op : CmpOp) (a b : E) | chain (o1 o2 : CmpOp) (a b c : E)
  | ix (a i : E) | slice (m : Bool) (a lo hi : E)
  | tup (es : List E) | lst (m : Bool) (es : List E)
  | comp (m : Bool) (elt : E) (p : Pat) (k : IK) (es : List E) (c : E) (own : List Nat)
  | attr (e : E) (f : Str)
  | call (f : Str) (es : List E)
  | meth (C : Str) (o : E) (f : Str) (es : List E)
  | new (C : Str) (es : List E)
  | bi (m : Bool) (b : BI) (es : List E)
  | bm (o : E) (b : BM) (es : List E)
inductive S where
  | asg (p : Pat) (e : E) | par (i j : Nat) (a b : E)
  | setIx (o i e : E) | setAttr (o : E) (f : Str) (e : E)
  | ex (e : E) | ret (e : E) | ifs (c : E) (a b : List S)
  | loop (c : E) (b : List S) | each (p : Pat) (k : IK) (es : List E) (b : List S)
  | pass | brk | cont
inductive Fl where
  | nx (en : Ev) | ret (d : D) | brk (en : Ev) | cont (en : Ev) | exc (c : Str) (fs : List (Str × D)) (en : Ev)

/-! ### operators -/
/-- the size of products -/
def mulOk (a b : Int) : Prop := a.natAbs < 2 ^ 64 ∨ b.natAbs < 2 ^ 64 ∨ ∃ m n : Nat, a.natAbs < 2 ^ m ∧ b.natAbs < 2 ^ n ∧ m + n ≤ 100000000
noncomputable def addV (m : Bool) (x y : D) (st : Sto) : Out D :=
  match x, y with
  | .int a, .int b => .ok (.int (a + b)) st
  | .str a, .str b => need (a.length + b.length ≤ sizeLine) (.ok (.str (a ++ b)) st)
  | .tup a, .tup b => need (a.length + b.length ≤ sizeLine) (.ok (.tup (a ++ b)) st)
  | x, y => match lstOf st x, lstOf st y with
    | some a, some b => need (a.length + b.length ≤ sizeLine) (newL m (a ++ b) st)
    | _, _ => .bad
noncomputable def subV (x y : D) (st : Sto) : Out D :=
  match x, y with
  | .int a, .int b => .ok (.int (a - b)) st
  | _, _ => .bad
noncomputable def mulV (m : Bool) (x y : D) (st : Sto) : Out D :=
  match x, y with
  | .int a, .int b => need (mulOk a b) (.ok (.int (a * b)) st)
  | .tup a, .int k => need (a ≠ [] ∧ 2 ≤ k ∧ k ≤ 1000 ∧ a.length ≤ 1000) (.ok (.tup (List.replicate k.toNat a).flatten) st)
  | x, .int k => match lstOf st x with
    | some a => need (0 ≤ k ∧ k < 2 ^ 62 ∧ a.length * k.toNat ≤ sizeLine) (newL m (List.replicate k.toNat a).flatten st)
    | _ => .bad
  | _, _ => .bad
noncomputable def fdivV (x y : D) (st : Sto) : Out D :=
  match x, y with
  | .int a, .int b => need (b ≠ 0 ∧ b.natAbs < 2 ^ 9000) (.ok (.int (a.fdiv b)) st)
  | _, _ => .bad
noncomputable def modV (x y : D) (st : Sto) : Out D :=
  match x, y with
  | .int a, .int b => need (b ≠ 0) (.ok (.int (a.fmod b)) st)
  | _, _ => .bad
noncomputable def powV (x y : D) (st : Sto) : Out D :=
  match x, y with
  | .int a, .int b => need (0 ≤ b ∧ b ≤ 1000000 ∧ a.natAbs < 2 ^ 64) (.ok (.int (a ^ b.toNat)) st)
  | _, _ => .bad
noncomputable def binV (m : Bool) (op : Operator) (x y : D) (st : Sto) : Out D :=
  match op with
  | .Add => addV m x y st
  | .Sub => subV x y st
  | .Mult => mulV m x y st
  | .FloorDiv => fdivV x y st
  | .Mod => modV x y st
  | .Pow => powV x y st
  | _ => .bad

/-! ### equality and texts of data -/
mutual
def plain : D → Bool
  | .tup xs => plainL xs
  | .lst xs => plainL xs
  | .ref _ => false
  | .scr _ => false
  | _ => true
def plainL : List D → Bool
  | [] => true
  | x :: xs => plain x && plainL xs
end
mutual
def toPy : D → PyData
  | .non => .none
  | .bl b => .bool b
  | .int i => .int i
  | .str x => .str x
  | .tup xs => .tuple (toPyL xs)
  | .lst xs => .list (toPyL xs)
  | .scr _ => .none
  | .ref _ => .none
def toPyL : List D → List PyData
  | [] => []
  | x :: xs => toPy x :: toPyL xs
end
/-- a cell's list as a tree -/
def norm (st : Sto) : D → D
  | .ref n => match st[n]? with
    | some (.lst xs) => .lst xs
    | _ => .ref n
  | .scr ns => .lst (ns.map .int)
  | d => d
def eqOk (d : D) : Prop := plain d = true ∧ SeqAt.shaped (toPy d) = true
def eqD (x y : D) : Bool := PyData.eqv (toPy x) (toPy y)
def showOk (d : D) : Prop := plain d = true ∧ (toPy d).showable = true ∧ (toPy d).depth ≤ 60 ∧ (toPy d).shown.length ≤ sizeLine
def flatD : D → Bool
  | .non => true
  | .bl _ => true
  | .int _ => true
  | .str _ => true
  | _ => false

/-! ### comparisons -/
def truthD (st : Sto) : D → Option Bool
  | .non => some false
  | .bl b => some b
  | .int i => some (i != 0)
  | .str x => some (x.length != 0)
  | d => (seqOf st d).map fun xs => !xs.isEmpty
noncomputable def cmpV (op : CmpOp) (x y : D) (st : Sto) : Out Bool :=
  match op with
  | .Eq => match x, y with
    | .str a, .str b => .ok (decide (a = b)) st
    | x, y => need (eqOk (norm st x) ∧ eqOk (norm st y)) (.ok (eqD (norm st x) (norm st y)) st)
  | .NotEq => match x, y with
    | .str a, .str b => .ok (!decide (a = b)) st
    | x, y => need (eqOk (norm st x) ∧ eqOk (norm st y)) (.ok (!eqD (norm st x) (norm st y)) st)
  | .Lt => match x, y with
    | .int a, .int b => .ok (decide (a < b)) st
    | _, _ => .bad
  | .LtE => match x, y with
    | .int a, .int b => .ok (decide (a ≤ b)) st
    | _, _ => .bad
  | .Gt => match x, y with
    | .int a, .int b => .ok (decide (b < a)) st
    | _, _ => .bad
  | .GtE => match x, y with
    | .int a, .int b => .ok (decide (b ≤ a)) st
    | _, _ => .bad
  | .Is => match y with
    | .non => .ok (match x with | .non => true | _ => false) st
    | _ => .bad
  | .IsNot => match y with
    | .non => .ok (match x with | .non => false | _ => true) st
    | _ => .bad
  | .In => match seqOf st y with
    | some ys => need (flatD x = true ∧ ys.all flatD = true) (.ok (ys.any fun z => eqD z x) st)
    | none => .bad
  | .NotIn => match seqOf st y with
    | some ys => need (flatD x = true ∧ ys.all flatD = true) (.ok (!(ys.any fun z => eqD z x)) st)
    | none => .bad

/-! ### subscripts -/
/-- the place that an index means -/
def ixV (x i : D) (st : Sto) : Out D :=
  match i with
  | .int k => match seqOf st x with
    | some xs => match atI xs k with
      | some d => .ok d st
      | none => .bad
    | none => .bad
  | _ => .bad
def partV : E → D → Option (Option Int)
  | .gap, _ => some none
  | _, .int i => some (some i)
  | _, _ => none
def cutD (xs : List D) (lo hi : Option Int) : List D := (xs.drop (HT.sIx xs.length 0 lo)).take (HT.sIx xs.length xs.length hi - HT.sIx xs.length 0 lo)
def sliceV (m : Bool) (x : D) (lo hi : Option Int) (st : Sto) : Out D :=
  match x with
  | .tup xs => .ok (.tup (cutD xs lo hi)) st
  | x => match lstOf st x with
    | some xs => newL m (cutD xs lo hi) st
    | none => .bad

/-! ### built-ins -/
def intsOf : List D → Option (List Int)
  | [] => some []
  | .int i :: xs => (intsOf xs).map (i :: ·)
  | _ :: _ => none
def blsOf : List D → Option (List Bool)
  | [] => some []
  | .bl i :: xs => (blsOf xs).map (i :: ·)
  | _ :: _ => none
def tyD (st : Sto) : D → Option String
  | .non => some "NoneType"
  | .bl _ => some "bool"
  | .int _ => some "int"
  | .str _ => some "str"
  | .tup _ => some "tuple"
  | .lst _ => some "list"
  | .scr _ => some "list"
  | .ref n => match st[n]? with
    | some (.lst _) => some "list"
    | _ => none
def isTy (a t : String) : Bool := a == t || (a == "bool" && t == "int")
def lenD (st : Sto) : D → Option Nat
  | .str x => some x.length
  | d => (seqOf st d).map List.length
def lenV (xs : List D) (st : Sto) : Out D :=
  match xs with
  | [x] => match lenD st x with
    | some n => .ok (.int n) st
    | none => .bad
  | _ => .bad
def tupleV (xs : List D) (st : Sto) : Out D :=
  match xs with
  | [x] => match seqOf st x with
    | some ys => .ok (.tup ys) st
    | none => .bad
  | _ => .bad
def listV (m : Bool) (xs : List D) (st : Sto) : Out D :=
  match xs with
  | [x] => match seqOf st x with
    | some ys => newL m ys st
    | none => .bad
  | _ => .bad
def intV (xs : List D) (st : Sto) : Out D :=
  match xs with
  | [.int i] => .ok (.int i) st
  | [.bl k] => .ok (.int (if k then 1 else 0)) st
  | _ => .bad
def absV' (xs : List D) (st : Sto) : Out D :=
  match xs with
  | [.int i] => .ok (.int i.natAbs) st
  | _ => .bad
def isV (t : String) (xs : List D) (st : Sto) : Out D :=
  match xs with
  | [x] => match tyD st x with
    | some a => .ok (.bl (isTy a t)) st
    | none => .bad
  | _ => .bad
def sumV (xs : List D) (st : Sto) : Out D :=
  match xs with
  | [x] => match lstOf st x with
    | some ys => match intsOf ys with
      | some ns => .ok (.int ns.sum) st
      | none => .bad
    | none => .bad
  | _ => .bad
def allV (xs : List D) (st : Sto) : Out D :=
  match xs with
  | [x] => match lstOf st x with
    | some ys => match blsOf ys with
      | some bs => .ok (.bl (bs.all id)) st
      | none => .bad
    | none => .bad
  | _ => .bad
def anyV (xs : List D) (st : Sto) : Out D :=
  match xs with
  | [x] => match lstOf st x with
    | some ys => match blsOf ys with
      | some bs => .ok (.bl (bs.any id)) st
      | none => .bad
    | none => .bad
  | _ => .bad
noncomputable def reprV (xs : List D) (st : Sto) : Out D :=
  match xs with
  | [x] => need (showOk (norm st x)) (.ok (.str (toPy (norm st x)).shown) st)
  | _ => .bad
def max2V (xs : List D) (st : Sto) : Out D :=
  match xs with
  | [.int i, .int j] => .ok (.int (if j > i then j else i)) st
  | _ => .bad
def min2V (xs : List D) (st : Sto) : Out D :=
  match xs with
  | [.int i, .int j] => .ok (.int (if j < i then j else i)) st
  | _ => .bad
noncomputable def biV (m : Bool) (b : BI) (xs : List D) (st : Sto) : Out D :=
  match b with
  | .len => lenV xs st
  | .tuple => tupleV xs st
  | .list => listV m xs st
  | .int => intV xs st
  | .abs => absV' xs st
  | .isI t => isV t xs st
  | .sum => sumV xs st
  | .all => allV xs st
  | .any => anyV xs st
  | .repr => reprV xs st
  | .max2 => max2V xs st
  | .min2 => min2V xs st
  | _ => .bad
/-- a method that changes a cell, or asks -/
noncomputable def appendV (o : D) (xs : List D) (st : Sto) : Out D :=
  match o, xs with
  | .ref n, [x] => match st[n]? with
    | some (.lst ys) => need (ys.length < sizeLine) (.ok .non (st.set n (.lst (ys ++ [x]))))
    | _ => .bad
  | _, _ => .bad
noncomputable def extendV (o : D) (xs : List D) (st : Sto) : Out D :=
  match o, xs with
  | .ref n, [x] => match st[n]?, lstOf st x with
    | some (.lst ys), some zs => need (ys.length + zs.length ≤ sizeLine) (.ok .non (st.set n (.lst (ys ++ zs))))
    | _, _ => .bad
  | _, _ => .bad
noncomputable def insertV (o : D) (xs : List D) (st : Sto) : Out D :=
  match o, xs with
  | .ref n, [.int i, x] => match st[n]? with
    | some (.lst ys) => need (ys.length < sizeLine ∧ 0 ≤ i ∧ i < 2 ^ 62) (.ok .non (st.set n (.lst (ys.take i.toNat ++ [x] ++ ys.drop i.toNat))))
    | _ => .bad
  | _, _ => .bad
noncomputable def bmV (b : BM) (o : D) (xs : List D) (st : Sto) : Out D :=
  match b with
  | .append => appendV o xs st
  | .extend => extendV o xs st
  | .insert => insertV o xs st
  | _ => .bad

/-- the receiver is of the method's type -/
def recvOk (b : BM) (st : Sto) (x : D) : Prop :=
  match b with
  | .append => (lstOf st x).isSome = true
  | .extend => (lstOf st x).isSome = true
  | .insert => (lstOf st x).isSome = true
  | .pop => (lstOf st x).isSome = true
  | .popAt => (lstOf st x).isSome = true
  | .remove => (lstOf st x).isSome = true
  | _ => False
/-! ### iterables: the items, and the cells that must stay as they are -/
structure Itv where
  items : List D
  keep : List (Nat × List D)
def keepOf : D → List D → List (Nat × List D)
  | .ref n, xs => [(n, xs)]
  | _, _ => []
def isT : D → Bool
  | .tup _ => true
  | _ => false
def rangeL (lo : Int) (n : Nat) : List D := (List.range n).map fun i => .int (lo + (i : Nat))
def strL (x : Str) : List D := x.cps.toList.map fun c => .str ⟨#[c]⟩
noncomputable def iterV (k : IK) (xs : List D) (st : Sto) : Out Itv :=
  match k, xs with
  | .plain, [.str x] => .ok ⟨strL x, []⟩ st
  | .plain, [x] => match seqOf st x with
    | some ys => .ok ⟨ys, keepOf x ys⟩ st
    | none => .bad
  | .range1, [.int j] => need (-(2 ^ 62) ≤ j ∧ j < 2 ^ 62) (.ok ⟨rangeL 0 j.toNat, []⟩ st)
  | .range2, [.int i, .int j] => need (-(2 ^ 62) ≤ i ∧ i < 2 ^ 62 ∧ -(2 ^ 62) ≤ j ∧ j < 2 ^ 62) (.ok ⟨rangeL i (j - i).toNat, []⟩ st)
  | .zip, [x, y] => match seqOf st x, seqOf st y with
    | some ys, some zs => .ok ⟨(ys.zip zs).map fun p => .tup [p.1, p.2], keepOf x ys ++ keepOf y zs⟩ st
    | _, _ => .bad
  | .enum, [x] => match seqOf st x with
    | some ys => need (isT x = false) (.ok ⟨ys.mapIdx fun i y => .tup [.int (i : Nat), y], keepOf x ys⟩ st)
    | none => .bad
  | _, _ => .bad
def Itv.stays (v : Itv) (st : Sto) : Prop := ∀ p ∈ v.keep, st[p.1]? = some (.lst p.2)

/-! ### patterns -/
mutual
def bindP : Pat → D → Ev → Option Ev
  | .name i, d, en => some (en.set i (some d))
  | .tup ps, .tup xs, en => bindPs ps xs en
  | .tup _, _, _ => none
def bindPs : List Pat → List D → Ev → Option Ev
  | [], [], en => some en
  | p :: ps, x :: xs, en => match bindP p x en with
    | some en' => bindPs ps xs en'
    | none => none
  | _, _, _ => none
end
def wipeE (en : Ev) : List Nat → Ev
  | [] => en
  | v :: vs => (wipeE en vs).set v none

/-! ### the evaluator: cl what the defs do, gl the module's constants, N how many turns a while may take -/
structure Gm where
  cl : Str → List D → Sto → Out D
  gl : Str → Option D
  fill : Str → Nat → List D
  N : Nat
  fns : List Str

/-- the turns of a comprehension -/
noncomputable def compL (f : D → Sto → Out (Option D)) (v : Itv) : List D → List D → Sto → Out (List D)
  | [], acc, st => need (v.stays st) (.ok acc st)
  | x :: xs, acc, st => need (v.stays st) ((f x st).bind fun r st1 => match r with
    | some d => compL f v xs (acc ++ [d]) st1
    | none => compL f v xs acc st1)

mutual
noncomputable def evalE (G : Gm) : E → Ev → Sto → Out D
  | .var i, en, st => match en[i]? with
    | some (some d) => .ok d st
    | _ => .bad
  | .fz i, en, st => match en[i]? with
    | some (some (.ref n)) => match st[n]? with
      | some (.lst xs) => .ok (.lst xs) (st.set n .dead)
      | _ => .bad
    | _ => .bad
  | .glob x, _, st => match G.gl x with
    | some d => .ok d st
    | none => .bad
  | .int i, _, st => .ok (.int i) st
  | .str x, _, st => .ok (.str x) st
  | .bl b, _, st => .ok (.bl b) st
  | .non, _, st => .ok .non st
  | .gap, _, st => .ok .non st
  | .bin m op a b, en, st => (evalE G a en st).bind fun x s1 => (evalE G b en s1).bind fun y s2 => binV m op x y s2
  | .neg a, en, st => (evalE G a en st).bind fun x s1 => match x with
    | .int i => .ok (.int (-i)) s1
    | _ => .bad
  | .not a, en, st => (evalE G a en st).bind fun x s1 => match truthD s1 x with
    | some b => .ok (.bl (!b)) s1
    | none => .bad
  | .and a b, en, st => (evalE G a en st).bind fun x s1 => match truthD s1 x with
    | some true => evalE G b en s1
    | some false => .ok x s1
    | none => .bad
  | .or a b, en, st => (evalE G a en st).bind fun x s1 => match truthD s1 x with
    | some true => .ok x s1
    | some false => evalE G b en s1
    | none => .bad
  | .ite c a b, en, st => (evalE G c en st).bind fun x s1 => match truthD s1 x with
    | some true => evalE G a en s1
    | some false => evalE G b en s1
    | none => .bad
  | .cmp op a b, en, st => (evalE G a en st).bind fun x s1 => (evalE G b en s1).bind fun y s2 => (cmpV op x y s2).bind fun r s3 => .ok (.bl r) s3
  | .chain o1 o2 a b c, en, st => (evalE G a en st).bind fun x s1 => (evalE G b en s1).bind fun y s2 => (cmpV o1 x y s2).bind fun r s3 => match r with
    | true => (evalE G c en s3).bind fun z s4 => (cmpV o2 y z s4).bind fun r2 s5 => .ok (.bl r2) s5
    | false => .ok (.bl false) s3
  | .ix a i, en, st => (evalE G a en st).bind fun x s1 => (evalE G i en s1).bind fun y s2 => ixV x y s2
  | .slice m a lo hi, en, st => (evalE G a en st).bind fun x s1 => (evalE G lo en s1).bind fun l s2 => match partV lo l with
    | none => .bad
    | some l' => (evalE G hi en s2).bind fun h s3 => match partV hi h with
      | none => .bad
      | some h' => sliceV m x l' h' s3
  | .tup es, en, st => (evalEs G es en st).bind fun xs s1 => .ok (.tup xs) s1
  | .lst m es, en, st => (evalEs G es en st).bind fun xs s1 => newL m xs s1
  | .comp m elt p k es c own, en, st => (evalEs G es en st).bind fun xs s1 => (iterV k xs s1).bind fun v s2 => need (v.items.length ≤ sizeLine)
    ((compL (fun x s => match bindP p x (wipeE en own) with
      | none => .bad
      | some en' => match c with
        | .gap => (evalE G elt en' s).bind fun y s'' => .ok (some y) s''
        | c => (evalE G c en' s).bind fun b s' => match truthD s' b with
          | some true => (evalE G elt en' s').bind fun y s'' => .ok (some y) s''
          | some false => .ok none s'
          | none => .bad) v v.items [] s2).calm.bind fun ys s3 => newL m ys s3)
  | .attr e f, en, st => (evalE G e en st).bind fun x s1 => match x with
    | .ref n => match s1[n]? with
      | some (.ins _ fs) => match fs.lookup f with
        | some d => .ok d s1
        | none => .bad
      | _ => .bad
    | _ => .bad
  | .call f es, en, st => (evalEs G es en st).bind fun xs s1 => G.cl f (xs ++ G.fill f xs.length) s1
  | .meth _ _ _ _, _, _ => .bad
  | .new _ _, _, _ => .bad
  | .bi m b es, en, st => (evalEs G es en st).bind fun xs s1 => biV m b xs s1
  | .bm o b es, en, st => (evalE G o en st).bind fun x s1 => need (recvOk b s1 x) ((evalEs G es en s1).bind fun xs s2 => bmV b x xs s2)
noncomputable def evalEs (G : Gm) : List E → Ev → Sto → Out (List D)
  | [], _, st => .ok [] st
  | e :: es, en, st => (evalE G e en st).bind fun x s1 => (evalEs G es en s1).bind fun xs s2 => .ok (x :: xs) s2
end
/-- a test -/
noncomputable def evalT (G : Gm) (e : E) (en : Ev) (st : Sto) : Out Bool := (evalE G e en st).bind fun x s1 => match truthD s1 x with
  | some b => .ok b s1
  | none => .bad

noncomputable def whileL (c : Ev → Sto → Out Bool) (b : Ev → Sto → Out Fl) : Nat → Ev → Sto → Out Fl
  | 0, _, _ => .bad
  | n + 1, en, st => (c en st).lift (fun c fs => .exc c fs en) fun t s1 => match t with
    | false => .ok (.nx en) s1
    | true => (b en s1).bind fun fl s2 => match fl with
      | .nx en' => whileL c b n en' s2
      | .cont en' => whileL c b n en' s2
      | .brk en' => .ok (.nx en') s2
      | .ret d => .ok (.ret d) s2
      | .exc c fs en' => .ok (.exc c fs en') s2
noncomputable def eachL (p : Pat) (b : Ev → Sto → Out Fl) (v : Itv) : List D → Ev → Sto → Out Fl
  | [], en, st => need (v.stays st) (.ok (.nx en) st)
  | x :: xs, en, st => need (v.stays st) (match bindP p x en with
    | none => .bad
    | some en1 => (b en1 st).bind fun fl s2 => match fl with
      | .nx en' => eachL p b v xs en' s2
      | .cont en' => eachL p b v xs en' s2
      | .brk en' => .ok (.nx en') s2
      | .ret d => .ok (.ret d) s2
      | .exc c fs en' => .ok (.exc c fs en') s2)
def setIxV (o i x : D) (st : Sto) : Out Unit :=
  match o, i with
  | .ref n, .int k => match st[n]? with
    | some (.lst ys) => match ixN ys.length k with
      | some j => .ok () (st.set n (.lst (ys.set j x)))
      | none => .bad
    | _ => .bad
  | _, _ => .bad
mutual
noncomputable def execS (G : Gm) : S → Ev → Sto → Out Fl
  | .asg p e, en, st => (evalE G e en st).lift (fun c fs => .exc c fs en) fun x s1 => match bindP p x en with
    | some en' => .ok (.nx en') s1
    | none => .bad
  | .par i j a b, en, st => ((evalE G a en st).bind fun x s1 => (evalE G b en s1).bind fun y s2 => .ok (x, y) s2).lift (fun c fs => .exc c fs en) fun r s2 => .ok (.nx ((en.set i (some r.1)).set j (some r.2))) s2
  | .setIx o i e, en, st => ((evalE G e en st).bind fun x s1 => (evalE G o en s1).bind fun y s2 => (evalE G i en s2).bind fun k s3 => setIxV y k x s3).lift (fun c fs => .exc c fs en) fun _ s4 => .ok (.nx en) s4
  | .setAttr _ _ _, _, _ => .bad
  | .ex e, en, st => (evalE G e en st).lift (fun c fs => .exc c fs en) fun _ s1 => .ok (.nx en) s1
  | .ret e, en, st => (evalE G e en st).lift (fun c fs => .exc c fs en) fun x s1 => .ok (.ret x) s1
  | .ifs c a b, en, st => (evalT G c en st).lift (fun c fs => .exc c fs en) fun t s1 => match t with
    | true => execSs G a en s1
    | false => execSs G b en s1
  | .loop c b, en, st => whileL (fun en st => evalT G c en st) (fun en st => execSs G b en st) G.N en st
  | .each p k es b, en, st => ((evalEs G es en st).bind fun xs s1 => iterV k xs s1).lift (fun c fs => .exc c fs en) fun v s2 => eachL p (fun en st => execSs G b en st) v v.items en s2
  | .pass, en, st => .ok (.nx en) st
  | .brk, en, st => .ok (.brk en) st
  | .cont, en, st => .ok (.cont en) st
noncomputable def execSs (G : Gm) : List S → Ev → Sto → Out Fl
  | [], en, st => .ok (.nx en) st
  | s :: ss, en, st => (execS G s en st).bind fun fl s1 => match fl with
    | .nx en' => execSs G ss en' s1
    | fl => .ok fl s1
end

/-! ### a call: the cells that the callee made and nobody sees go -/
mutual
def below (n : Nat) : D → Prop
  | .tup xs => belowL n xs
  | .lst xs => belowL n xs
  | .ref k => k < n
  | _ => True
def belowL (n : Nat) : List D → Prop
  | [] => True
  | x :: xs => below n x ∧ belowL n xs
end
def belowC (n : Nat) : Cell → Prop
  | .lst xs => belowL n xs
  | .ins _ fs => ∀ p ∈ fs, below n p.2
  | .dead => True
/-- st' may be cut to the cells of st -/
def cutOk (st : Sto) (d : D) (st' : Sto) : Prop := below st.length d ∧ ∀ i c, i < st.length → st'[i]? = some c → st[i]? = some c ∨ belowC st.length c
noncomputable def gc (st : Sto) (d : D) (st' : Sto) : Sto := open Classical in if cutOk st d st' then st'.take st.length else st'

structure Df where
  np : Nat
  nn : Nat
  body : List S
noncomputable def runD (G : Gm) (f : Df) (xs : List D) (st : Sto) : Out D :=
  need (xs.length = f.np) (match execSs G f.body (xs.map some ++ List.replicate (f.nn - xs.length) none) st with
    | .ok (.nx _) st' => .ok .non (gc st .non st')
    | .ok (.ret d) st' => .ok d (gc st d st')
    | .ok (.exc c fs _) st' => .exc c fs st'
    | _ => .bad)
structure Tb where
  df : Str → Option Df
  gl : Str → Option D
  fill : Str → Nat → List D
  fns : List Str
noncomputable def callK (T : Tb) (N : Nat) : Nat → Str → List D → Sto → Out D
  | 0 => fun _ _ _ => .bad
  | k + 1 => fun f xs st => match T.df f with
    | some d => runD ⟨callK T N k, T.gl, T.fill, N, T.fns⟩ d xs st
    | none => .bad
end PI

/-! PI, part B: how data lie in the abstract heap. -/
namespace PI
open PySem PySem.Spec PyProof.Rows L2

/-- io: where the cells stand; F: what never changes any more; P: what another one holds meanwhile -/
structure Wd where
  io : List Addr
  F : Hp
  P : Hp
mutual
inductive DR (K : PySem.W.Frag) (W : Wd) : D → V → Prop
  | non : DR K W .non .non
  | bl (b : Bool) : DR K W (.bl b) (.bl b)
  | int (i : Int) : DR K W (.int i) (.int i)
  | str (x : Str) (h : x.length ≤ sizeLine) : DR K W (.str x) (.str x)
  | tup {a : Addr} {xs : List D} {vs : List V} (h : SqT K W.F a vs) (l : xs.length ≤ sizeLine) (r : DRs K W xs vs) : DR K W (.tup xs) (.ref a)
  | lst {a : Addr} {xs : List D} {vs : List V} (h : W.F a = some (.lst vs)) (l : xs.length ≤ sizeLine) (r : DRs K W xs vs) : DR K W (.lst xs) (.ref a)
  | scr {a : Addr} {ns : List Int} (h : SqL K W.F a (ns.map V.int)) (l : ns.length ≤ sizeLine) : DR K W (.scr ns) (.ref a)
  | ref {n : Nat} {a : Addr} (h : W.io[n]? = some a) : DR K W (.ref n) (.ref a)
inductive DRs (K : PySem.W.Frag) (W : Wd) : List D → List V → Prop
  | nil : DRs K W [] []
  | cons {d : D} {v : V} {ds : List D} {vs : List V} (h : DR K W d v) (r : DRs K W ds vs) : DRs K W (d :: ds) (v :: vs)
end
structure Wd.le (W W' : Wd) : Prop where
  io : ∃ t, W'.io = W.io ++ t
  F : ∀ a o, W.F a = some o → W'.F a = some o
  P : W'.P = W.P
/-- the same but for P -/
structure Wd.leD (W W' : Wd) : Prop where
  io : ∃ t, W'.io = W.io ++ t
  F : ∀ a o, W.F a = some o → W'.F a = some o
theorem Wd.leD.trans {A B C : Wd} (h : A.leD B) (k : B.leD C) : A.leD C := by
  obtain ⟨⟨s, e1⟩, f1⟩ := h
  obtain ⟨⟨t, e2⟩, f2⟩ := k
  exact ⟨⟨s ++ t, by rw [e2, e1, List.append_assoc]⟩, fun a o q => f2 a o (f1 a o q)⟩
theorem Wd.le.D {W W' : Wd} (h : W.le W') : W.leD W' := ⟨h.io, h.F⟩
theorem Wd.le.refl (W : Wd) : W.le W := ⟨⟨[], by simp⟩, fun _ _ h => h, rfl⟩
theorem Wd.le.trans {A B C : Wd} (h : A.le B) (k : B.le C) : A.le C := by
  obtain ⟨⟨s, e1⟩, f1, p1⟩ := h
  obtain ⟨⟨t, e2⟩, f2, p2⟩ := k
  exact ⟨⟨s ++ t, by rw [e2, e1, List.append_assoc]⟩, fun a o q => f2 a o (f1 a o q), p2.trans p1⟩
theorem Wd.leD.at {W W' : Wd} (h : W.leD W') {n : Nat} {a : Addr} (q : W.io[n]? = some a) : W'.io[n]? = some a := by
  obtain ⟨⟨t, e⟩, _⟩ := h
  obtain ⟨hn, _⟩ := List.getElem?_eq_some_iff.mp q
  rw [e, List.getElem?_append_left hn]
  exact q
theorem sqT_mono {K : PySem.W.Frag} {F F' : Hp} (h : ∀ a o, F a = some o → F' a = some o) {a : Addr} {vs : List V} (q : SqT K F a vs) : SqT K F' a vs := by
  rcases q with (q | ⟨o, q⟩) | q
  · exact .inl (.inl (h _ _ q))
  · exact .inl (.inr ⟨o, h _ _ q⟩)
  · exact .inr q
theorem sqL_mono {K : PySem.W.Frag} {F F' : Hp} (h : ∀ a o, F a = some o → F' a = some o) {a : Addr} {vs : List V} (q : SqL K F a vs) : SqL K F' a vs := by
  rcases q with (q | ⟨o, q⟩) | q
  · exact .inl (.inl (h _ _ q))
  · exact .inl (.inr ⟨o, h _ _ q⟩)
  · exact .inr q
section
variable {K : PySem.W.Frag} {W W' : Wd}
mutual
theorem DR.monoD (le : W.leD W') : ∀ {d : D} {v : V}, DR K W d v → DR K W' d v
  | _, _, .non => .non
  | _, _, .bl b => .bl b
  | _, _, .int i => .int i
  | _, _, .str x h => .str x h
  | _, _, .tup h l r => .tup (sqT_mono le.F h) l (DRs.monoD le r)
  | _, _, .lst h l r => .lst (le.F _ _ h) l (DRs.monoD le r)
  | _, _, .scr h l => .scr (sqL_mono le.F h) l
  | _, _, .ref h => .ref (le.at h)
theorem DRs.monoD (le : W.leD W') : ∀ {ds : List D} {vs : List V}, DRs K W ds vs → DRs K W' ds vs
  | _, _, .nil => .nil
  | _, _, .cons h r => .cons (DR.monoD le h) (DRs.monoD le r)
end
theorem DR.mono (le : W.le W') {d : D} {v : V} (h : DR K W d v) : DR K W' d v := h.monoD le.D
theorem DRs.mono (le : W.le W') {d : List D} {v : List V} (h : DRs K W d v) : DRs K W' d v := h.monoD le.D
theorem DRs.length : ∀ {ds : List D} {vs : List V}, DRs K W ds vs → ds.length = vs.length
  | _, _, .nil => rfl
  | _, _, .cons _ r => by rw [List.length_cons, List.length_cons, DRs.length r]
theorem DRs.get : ∀ {ds : List D} {vs : List V} {i : Nat} {d : D}, DRs K W ds vs → ds[i]? = some d → ∃ v, vs[i]? = some v ∧ DR K W d v
  | _, _, _, _, .nil, e => by simp at e
  | _, _, 0, _, .cons h _, e => by simp at e; subst e; exact ⟨_, rfl, h⟩
  | _, _, i + 1, d, .cons _ r, e => by
    obtain ⟨v, h1, h2⟩ := DRs.get (i := i) (d := d) r (by simpa using e)
    exact ⟨v, by simpa using h1, h2⟩
theorem DRs.back : ∀ {ds : List D} {vs : List V} {i : Nat} {v : V}, DRs K W ds vs → vs[i]? = some v → ∃ d, ds[i]? = some d ∧ DR K W d v
  | _, _, _, _, .nil, e => by simp at e
  | _, _, 0, _, .cons h _, e => by simp at e; subst e; exact ⟨_, rfl, h⟩
  | _, _, i + 1, v, .cons _ r, e => by
    obtain ⟨d, h1, h2⟩ := DRs.back (i := i) (v := v) r (by simpa using e)
    exact ⟨d, by simpa using h1, h2⟩
theorem DRs.append : ∀ {ds es : List D} {vs ws : List V}, DRs K W ds vs → DRs K W es ws → DRs K W (ds ++ es) (vs ++ ws)
  | _, _, _, _, .nil, s => s
  | _, _, _, _, .cons h r, s => .cons h (DRs.append r s)
theorem DRs.take : ∀ {ds : List D} {vs : List V} (n : Nat), DRs K W ds vs → DRs K W (ds.take n) (vs.take n)
  | _, _, 0, _ => .nil
  | _, _, _ + 1, .nil => .nil
  | _, _, n + 1, .cons h r => .cons h (DRs.take n r)
theorem DRs.drop : ∀ {ds : List D} {vs : List V} (n : Nat), DRs K W ds vs → DRs K W (ds.drop n) (vs.drop n)
  | _, _, 0, r => r
  | _, _, _ + 1, .nil => .nil
  | _, _, n + 1, .cons _ r => DRs.drop n r
theorem DRs.set {d : D} {v : V} (h : DR K W d v) : ∀ {ds : List D} {vs : List V} (n : Nat), DRs K W ds vs → DRs K W (ds.set n d) (vs.set n v)
  | _, _, _, .nil => .nil
  | _, _, 0, .cons _ r => .cons h r
  | _, _, n + 1, .cons q r => .cons q (DRs.set h n r)
theorem DRs.one {d : D} {v : V} (h : DR K W d v) : DRs K W [d] [v] := .cons h .nil
theorem DRs.two {d e : D} {v w : V} (h : DR K W d v) (k : DR K W e w) : DRs K W [d, e] [v, w] := .cons h (.cons k .nil)
theorem DRs.rep {ds : List D} {vs : List V} (h : DRs K W ds vs) : ∀ k : Nat, DRs K W (List.replicate k ds).flatten (List.replicate k vs).flatten
  | 0 => .nil
  | k + 1 => by
    rw [List.replicate_succ, List.replicate_succ, List.flatten_cons, List.flatten_cons]
    exact h.append (DRs.rep h k)
theorem DRs.ints : ∀ ns : List Int, DRs K W (ns.map .int) (ns.map V.int)
  | [] => .nil
  | n :: ns => .cons (.int n) (DRs.ints ns)
theorem DRs.int_inv : ∀ {ns : List Int} {vs : List V}, DRs K W (ns.map .int) vs → vs = ns.map V.int
  | [], _, .nil => rfl
  | n :: ns, _, .cons h r => by
    cases h
    rw [DRs.int_inv r]
    rfl
end

/-! ### the store -/
theorem nodup_at {α : Type} {N : List α} (hN : N.Nodup) {i j : Nat} {x : α} (a : N[i]? = some x) (b : N[j]? = some x) : i = j := by
  obtain ⟨h1, e1⟩ := List.getElem?_eq_some_iff.mp a
  obtain ⟨h2, e2⟩ := List.getElem?_eq_some_iff.mp b
  exact (List.getElem_inj hN).mp (e1.trans e2.symm)
section
variable (K : PySem.W.Frag) (cm : Str → Option Addr)
def CellR (W : Wd) (H : Hp) (a : Addr) : Cell → Prop
  | .lst xs => ∃ vs, H a = some (.lst vs) ∧ xs.length ≤ sizeLine ∧ DRs K W xs vs
  | .ins C fs => ∃ CA dx fvs, cm C = some CA ∧ H a = some (.ins CA dx fvs) ∧ Paired (fun (p : Str × D) (q : Str × V) => p.1 = q.1 ∧ DR K W p.2 q.2) fs fvs
  | .dead => ∃ o, H a = some o
structure SR (W : Wd) (st : Sto) (H : Hp) : Prop where
  sub : ∀ a o, W.F a = some o → H a = some o
  len : W.io.length = st.length
  nd : W.io.Nodup
  cell : ∀ (i : Nat) c a, st[i]? = some c → W.io[i]? = some a → CellR K cm W H a c
  sep : ∀ (i : Nat) c a, st[i]? = some c → W.io[i]? = some a → c ≠ .dead → W.F a = none
  held : ∀ a o, W.P a = some o → H a = some o ∧ W.F a = none ∧ a ∉ W.io
end
section
variable {K : PySem.W.Frag} {cm : Str → Option Addr} {W W' : Wd} {st : Sto} {H H' : Hp}
theorem CellR.there {a : Addr} {c : Cell} (h : CellR K cm W H a c) : ∃ o, H a = some o := by
  cases c with
  | lst xs => obtain ⟨vs, h, _⟩ := h; exact ⟨_, h⟩
  | ins C fs => obtain ⟨_, _, _, _, h, _⟩ := h; exact ⟨_, h⟩
  | dead => exact h
theorem CellR.monoD {a : Addr} {c : Cell} (le : W.leD W') (hH : ∀ o, H a = some o → H' a = some o) (h : CellR K cm W H a c) : CellR K cm W' H' a c := by
  cases c with
  | lst xs => obtain ⟨vs, h, l, r⟩ := h; exact ⟨vs, hH _ h, l, r.monoD le⟩
  | ins C fs => obtain ⟨CA, dx, fvs, e, h, r⟩ := h; exact ⟨CA, dx, fvs, e, hH _ h, Paired.mapP r fun p q z => ⟨z.1, z.2.monoD le⟩⟩
  | dead => obtain ⟨o, h⟩ := h; exact ⟨o, hH _ h⟩
theorem CellR.mono {a : Addr} {c : Cell} (le : W.le W') (hH : ∀ o, H a = some o → H' a = some o) (h : CellR K cm W H a c) : CellR K cm W' H' a c := CellR.monoD le.D hH h
theorem SR.has (s : SR K cm W st H) {i : Nat} {a : Addr} (h : W.io[i]? = Option.some a) : ∃ c, st[i]? = Option.some c := by
  obtain ⟨hi, _⟩ := List.getElem?_eq_some_iff.mp h
  rw [s.len] at hi
  exact ⟨st[i], List.getElem?_eq_getElem hi⟩
theorem SR.addr (s : SR K cm W st H) {i : Nat} {c : Cell} (h : st[i]? = Option.some c) : ∃ a, W.io[i]? = Option.some a := by
  obtain ⟨hi, _⟩ := List.getElem?_eq_some_iff.mp h
  rw [← s.len] at hi
  exact ⟨W.io[i], List.getElem?_eq_getElem hi⟩
theorem SR.fresh (s : SR K cm W st H) {p : Addr} (hp : H p = Option.none) : p ∉ W.io := fun hm => by
  obtain ⟨i, hi, e⟩ := List.getElem_of_mem hm
  have h : W.io[i]? = Option.some p := by rw [List.getElem?_eq_getElem hi, e]
  obtain ⟨c, hc⟩ := s.has h
  obtain ⟨o, ho⟩ := (CellR.there (s.cell i c p hc h))
  rw [hp] at ho
  cases ho
theorem SR.freshF (s : SR K cm W st H) {p : Addr} (hp : H p = Option.none) : W.F p = Option.none := by
  cases e : W.F p with
  | none => rfl
  | some o =>
    have := s.sub _ _ e
    rw [hp] at this
    cases this
/-- a new thing that never changes -/
def Wd.frz (W : Wd) (p : Addr) (o : HO) : Wd := { W with F := upd W.F p o }
theorem Wd.le_frz {p : Addr} {o : HO} (h : W.F p = Option.none) : W.le (W.frz p o) := ⟨⟨[], by simp [Wd.frz]⟩, fun a u q => by
  have : a ≠ p := fun e => by rw [e, h] at q; cases q
  show upd W.F p o a = Option.some u
  rw [upd_ne this]
  exact q, rfl⟩
theorem SR.frz (s : SR K cm W st H) {p : Addr} {o : HO} (hp : H p = Option.none) : W.le (W.frz p o) ∧ SR K cm (W.frz p o) st (upd H p o) := by
  have le := Wd.le_frz (o := o) (s.freshF hp)
  refine ⟨le, ⟨fun a u q => ?_, s.len, s.nd, fun i c a hc ha => ?_, fun i c a hc ha nd => ?_, fun a u q => ?_⟩⟩
  · by_cases e : a = p
    · subst e
      have q' : upd W.F a o a = Option.some u := q
      rw [upd_same] at q' ⊢
      exact q'
    · have q' : upd W.F p o a = Option.some u := q
      rw [upd_ne e] at q' ⊢
      exact s.sub _ _ q'
  · refine CellR.mono le (fun u q => ?_) (s.cell i c a hc ha)
    rw [upd_ne (ne_of_none q hp)]
    exact q
  · have e : a ≠ p := fun e => s.fresh hp (e ▸ List.mem_of_getElem? ha)
    show upd W.F p o a = Option.none
    rw [upd_ne e]
    exact s.sep i c a hc ha nd
  · obtain ⟨h1, h2, h3⟩ := s.held a u q
    have e : a ≠ p := ne_of_none h1 hp
    exact ⟨by rw [upd_ne e]; exact h1, (show upd W.F p o a = Option.none by rw [upd_ne e]; exact h2), h3⟩
/-- a thing that nobody of ours sees -/
theorem SR.temp (s : SR K cm W st H) {p : Addr} {o : HO} (hp : H p = Option.none) : SR K cm W st (upd H p o) :=
  ⟨fun a u q => by rw [upd_ne (ne_of_none (s.sub _ _ q) hp)]; exact s.sub _ _ q, s.len, s.nd, fun i c a hc ha => CellR.mono (.refl W) (fun u q => by rw [upd_ne (ne_of_none q hp)]; exact q) (s.cell i c a hc ha), s.sep, fun a u q => by
    obtain ⟨h1, h2, h3⟩ := s.held a u q
    exact ⟨by rw [upd_ne (ne_of_none h1 hp)]; exact h1, h2, h3⟩⟩
/-- a new cell -/
def Wd.add (W : Wd) (p : Addr) : Wd := { W with io := W.io ++ [p] }
theorem Wd.le_add {p : Addr} : W.le (W.add p) := ⟨⟨[p], rfl⟩, fun _ _ q => q, rfl⟩
theorem SR.add (s : SR K cm W st H) {p : Addr} {o : HO} {c : Cell} (hp : H p = Option.none) (hc : CellR K cm W (upd H p o) p c) : SR K cm (W.add p) (st ++ [c]) (upd H p o) := by
  refine ⟨fun a u q => ?_, ?_, ?_, fun i c' a h1 h2 => ?_, fun i c' a h1 h2 nd => ?_, fun a u q => ?_⟩
  · have q' : W.F a = Option.some u := q
    rw [upd_ne (ne_of_none (s.sub _ _ q') hp)]
    exact s.sub _ _ q'
  · show (W.io ++ [p]).length = _
    rw [List.length_append, List.length_append, s.len]
    rfl
  · show (W.io ++ [p]).Nodup
    rw [List.nodup_append]
    refine ⟨s.nd, by simp, fun a ha b hb => ?_⟩
    have : b = p := by simpa using hb
    subst this
    intro e
    subst e
    exact s.fresh hp ha
  · have h2' : (W.io ++ [p])[i]? = Option.some a := h2
    by_cases hi : i < st.length
    · rw [List.getElem?_append_left hi] at h1
      rw [List.getElem?_append_left (by rw [s.len]; exact hi)] at h2'
      exact CellR.mono Wd.le_add (fun u q => by rw [upd_ne (ne_of_none q hp)]; exact q) (s.cell i c' a h1 h2')
    · have hi' : i = st.length := by
        have := (List.getElem?_eq_some_iff.mp h1).1
        rw [List.length_append] at this
        simp at this
        omega
      subst hi'
      rw [List.getElem?_append_right (Nat.le_refl _)] at h1
      rw [← s.len, List.getElem?_append_right (Nat.le_refl _)] at h2'
      simp at h1 h2'
      subst h1 h2'
      exact CellR.mono Wd.le_add (fun _ q => q) hc
  · have h2' : (W.io ++ [p])[i]? = Option.some a := h2
    show W.F a = Option.none
    by_cases hi : i < st.length
    · rw [List.getElem?_append_left hi] at h1
      rw [List.getElem?_append_left (by rw [s.len]; exact hi)] at h2'
      exact s.sep i c' a h1 h2' nd
    · have hi' : i = st.length := by
        have := (List.getElem?_eq_some_iff.mp h1).1
        rw [List.length_append] at this
        simp at this
        omega
      subst hi'
      rw [← s.len, List.getElem?_append_right (Nat.le_refl _)] at h2'
      simp at h2'
      subst h2'
      exact s.freshF hp
  · obtain ⟨h1, h2, h3⟩ := s.held a u q
    have e : a ≠ p := ne_of_none h1 hp
    refine ⟨by rw [upd_ne e]; exact h1, h2, fun z => ?_⟩
    rcases List.mem_append.mp (show a ∈ W.io ++ [p] from z) with z | z
    · exact h3 z
    · exact e (by simpa using z)
/-- a cell is changed -/
theorem SR.set (s : SR K cm W st H) {n : Nat} {a : Addr} {c₀ c : Cell} {o : HO} (h0 : st[n]? = Option.some c₀) (nd0 : c₀ ≠ .dead) (ha : W.io[n]? = Option.some a) (hc : CellR K cm W (upd H a o) a c) :
    SR K cm W (st.set n c) (upd H a o) := by
  have hF := s.sep n c₀ a h0 ha nd0
  have hn := (List.getElem?_eq_some_iff.mp h0).1
  refine ⟨fun b u q => ?_, by rw [List.length_set]; exact s.len, s.nd, fun i c' b h1 h2 => ?_, fun i c' b h1 h2 nd => ?_, fun b u q => ?_⟩
  · have : b ≠ a := fun e => by rw [e, hF] at q; cases q
    rw [upd_ne this]
    exact s.sub _ _ q
  · by_cases hi : n = i
    · subst hi
      rw [ha] at h2
      cases h2
      rw [List.getElem?_set_self hn] at h1
      cases h1
      exact hc
    · rw [List.getElem?_set_ne hi] at h1
      have : b ≠ a := fun e => by
        subst e
        exact hi (nodup_at s.nd ha h2)
      exact CellR.mono (.refl W) (fun u q => by rw [upd_ne this]; exact q) (s.cell i c' b h1 h2)
  · by_cases hi : n = i
    · subst hi
      rw [ha] at h2
      cases h2
      exact hF
    · rw [List.getElem?_set_ne hi] at h1
      exact s.sep i c' b h1 h2 nd
  · obtain ⟨h1, h2, h3⟩ := s.held b u q
    have e : b ≠ a := fun e => h3 (e ▸ List.mem_of_getElem? ha)
    exact ⟨by rw [upd_ne e]; exact h1, h2, h3⟩
/-- a list is frozen -/
theorem SR.freeze (s : SR K cm W st H) {n : Nat} {a : Addr} {xs : List D} {vs : List V} (h0 : st[n]? = Option.some (.lst xs)) (ha : W.io[n]? = Option.some a) (hv : H a = Option.some (.lst vs)) :
    W.le (W.frz a (.lst vs)) ∧ SR K cm (W.frz a (.lst vs)) (st.set n .dead) H := by
  have hF := s.sep n _ a h0 ha (fun e => nomatch e)
  have hn := (List.getElem?_eq_some_iff.mp h0).1
  have le := Wd.le_frz (o := .lst vs) hF
  refine ⟨le, ⟨fun b u q => ?_, by rw [List.length_set]; exact s.len, s.nd, fun i c' b h1 h2 => ?_, fun i c' b h1 h2 nd => ?_, fun b u q => ?_⟩⟩
  · have q' : upd W.F a (.lst vs) b = Option.some u := q
    by_cases e : b = a
    · subst e
      rw [upd_same] at q'
      cases q'
      exact hv
    · rw [upd_ne e] at q'
      exact s.sub _ _ q'
  · have h2' : W.io[i]? = Option.some b := h2
    by_cases hi : n = i
    · subst hi
      rw [ha] at h2'
      cases h2'
      rw [List.getElem?_set_self hn] at h1
      cases h1
      exact ⟨_, hv⟩
    · rw [List.getElem?_set_ne hi] at h1
      exact CellR.mono le (fun u q => q) (s.cell i c' b h1 h2')
  · have h2' : W.io[i]? = Option.some b := h2
    by_cases hi : n = i
    · subst hi
      rw [List.getElem?_set_self hn] at h1
      cases h1
      exact absurd rfl nd
    · rw [List.getElem?_set_ne hi] at h1
      have : b ≠ a := fun e => by
        subst e
        exact hi (nodup_at s.nd ha h2')
      show upd W.F a _ b = Option.none
      rw [upd_ne this]
      exact s.sep i c' b h1 h2' nd
  · obtain ⟨h1, h2, h3⟩ := s.held b u q
    have e : b ≠ a := fun e => h3 (e ▸ List.mem_of_getElem? ha)
    exact ⟨h1, (show upd W.F a _ b = Option.none by rw [upd_ne e]; exact h2), h3⟩
/-- a thing is held meanwhile -/
def Wd.hold (W : Wd) (p : Addr) (o : HO) : Wd := { W with P := upd W.P p o }
theorem Wd.leD_hold {p : Addr} {o : HO} : W.leD (W.hold p o) := ⟨⟨[], by simp [Wd.hold]⟩, fun _ _ h => h⟩
theorem SR.hold (s : SR K cm W st H) {p : Addr} {o : HO} (hp : H p = Option.none) : SR K cm (W.hold p o) st (upd H p o) := by
  have t := s.temp (o := o) hp
  refine ⟨t.sub, t.len, t.nd, fun i c a h1 h2 => CellR.monoD Wd.leD_hold (fun _ q => q) (t.cell i c a h1 h2), t.sep, fun a u q => ?_⟩
  have q' : upd W.P p o a = Option.some u := q
  by_cases e : a = p
  · subst e
    rw [upd_same] at q'
    cases q'
    exact ⟨upd_same, s.freshF hp, s.fresh hp⟩
  · rw [upd_ne e] at q'
    exact t.held a u q'
theorem Wd.leD_P (W : Wd) (P : Hp) : W.leD { W with P := P } := ⟨⟨[], by simp⟩, fun _ _ h => h⟩
/-- what is held is changed -/
theorem SR.reheld {W1 : Wd} {p : Addr} {o o' : HO} (s : SR K cm W st H) (hP : W.P = upd W1.P p o) : SR K cm { W with P := upd W1.P p o' } st (upd H p o') := by
  obtain ⟨hp, hF, hi⟩ := s.held p o (by rw [hP, upd_same])
  refine ⟨fun a u q => ?_, s.len, s.nd, fun i c a h1 h2 => ?_, s.sep, fun a u q => ?_⟩
  · have e : a ≠ p := fun e => by
      have q' : W.F a = Option.some u := q
      rw [e, hF] at q'
      cases q'
    rw [upd_ne e]
    exact s.sub a u q
  · have e : a ≠ p := fun e => hi (e ▸ List.mem_of_getElem? h2)
    exact CellR.monoD (Wd.leD_P W _) (fun u q => by rw [upd_ne e]; exact q) (s.cell i c a h1 h2)
  · have q' : upd W1.P p o' a = Option.some u := q
    by_cases e : a = p
    · subst e
      rw [upd_same] at q'
      cases q'
      exact ⟨upd_same, hF, hi⟩
    · rw [upd_ne e] at q'
      obtain ⟨z1, z2, z3⟩ := s.held a u (by rw [hP, upd_ne e]; exact q')
      exact ⟨by rw [upd_ne e]; exact z1, z2, z3⟩
/-- what is held is let go -/
theorem SR.letgo {W1 : Wd} {p : Addr} {o : HO} (s : SR K cm W st H) (hP : W.P = upd W1.P p o) (hn : W1.P p = Option.none) : SR K cm { W with P := W1.P } st H ∧ H p = Option.some o ∧ W.F p = Option.none ∧ p ∉ W.io := by
  refine ⟨⟨s.sub, s.len, s.nd, fun i c a h1 h2 => CellR.monoD (Wd.leD_P W _) (fun _ q => q) (s.cell i c a h1 h2), s.sep, fun a u q => ?_⟩, s.held p o (by rw [hP, upd_same])⟩
  have q' : W1.P a = Option.some u := q
  have e : a ≠ p := fun e => by rw [e, hn] at q'; cases q'
  exact s.held a u (by rw [hP, upd_ne e]; exact q')
/-- a thing of nobody's becomes a tree, or a cell -/
theorem SR.own (s : SR K cm W st H) {m : Bool} {xs : List D} {vs : List V} {d : D} {st' : Sto} {p : Addr} (h : newL m xs st = .ok d st') (r : DRs K W xs vs) (l : xs.length ≤ sizeLine) (hp : H p = Option.some (.lst vs)) (hF : W.F p = Option.none) (hi : p ∉ W.io) (hP : W.P p = Option.none) :
    ∃ W', W.le W' ∧ SR K cm W' st' H ∧ DR K W' d (.ref p) := by
  cases m with
  | false =>
    cases h
    have le := Wd.le_frz (o := .lst vs) hF
    refine ⟨_, le, ⟨fun a u q => ?_, s.len, s.nd, fun i c a h1 h2 => CellR.mono le (fun _ q => q) (s.cell i c a h1 h2), fun i c a h1 h2 nd => ?_, fun a u q => ?_⟩, .lst (show upd W.F p _ p = _ from upd_same) l (r.mono le)⟩
    · have q' : upd W.F p (.lst vs) a = Option.some u := q
      by_cases e : a = p
      · subst e
        rw [upd_same] at q'
        cases q'
        exact hp
      · rw [upd_ne e] at q'
        exact s.sub a u q'
    · have e : a ≠ p := fun e => hi (e ▸ List.mem_of_getElem? h2)
      show upd W.F p _ a = Option.none
      rw [upd_ne e]
      exact s.sep i c a h1 h2 nd
    · obtain ⟨z1, z2, z3⟩ := s.held a u q
      have e : a ≠ p := fun e => by
        have q' : W.P a = Option.some u := q
        rw [e, hP] at q'
        cases q'
      exact ⟨z1, (show upd W.F p _ a = Option.none by rw [upd_ne e]; exact z2), z3⟩
  | true =>
    cases h
    refine ⟨W.add p, Wd.le_add, ⟨s.sub, ?_, ?_, fun i c' a h1 h2 => ?_, fun i c' a h1 h2 nd => ?_, fun a u q => ?_⟩, .ref ?_⟩
    · show (W.io ++ [p]).length = _
      rw [List.length_append, List.length_append, s.len]
      rfl
    · show (W.io ++ [p]).Nodup
      rw [List.nodup_append]
      refine ⟨s.nd, by simp, fun a ha b hb => ?_⟩
      have : b = p := by simpa using hb
      subst this
      intro e
      subst e
      exact hi ha
    · have h2' : (W.io ++ [p])[i]? = Option.some a := h2
      by_cases hj : i < st.length
      · rw [List.getElem?_append_left hj] at h1
        rw [List.getElem?_append_left (by rw [s.len]; exact hj)] at h2'
        exact CellR.mono Wd.le_add (fun _ q => q) (s.cell i c' a h1 h2')
      · have hi' : i = st.length := by
          have := (List.getElem?_eq_some_iff.mp h1).1
          rw [List.length_append] at this
          simp at this
          omega
        subst hi'
        rw [List.getElem?_append_right (Nat.le_refl _)] at h1
        rw [← s.len, List.getElem?_append_right (Nat.le_refl _)] at h2'
        simp at h1 h2'
        subst h1 h2'
        exact ⟨vs, hp, l, r.mono Wd.le_add⟩
    · have h2' : (W.io ++ [p])[i]? = Option.some a := h2
      show W.F a = Option.none
      by_cases hj : i < st.length
      · rw [List.getElem?_append_left hj] at h1
        rw [List.getElem?_append_left (by rw [s.len]; exact hj)] at h2'
        exact s.sep i c' a h1 h2' nd
      · have hi' : i = st.length := by
          have := (List.getElem?_eq_some_iff.mp h1).1
          rw [List.length_append] at this
          simp at this
          omega
        subst hi'
        rw [← s.len, List.getElem?_append_right (Nat.le_refl _)] at h2'
        simp at h2'
        subst h2'
        exact hF
    · obtain ⟨z1, z2, z3⟩ := s.held a u q
      refine ⟨z1, z2, fun z => ?_⟩
      rcases List.mem_append.mp (show a ∈ W.io ++ [p] from z) with z | z
      · exact z3 z
      · have : a = p := by simpa using z
        have q' : W.P a = Option.some u := q
        rw [this, hP] at q'
        cases q'
    · show (W.io ++ [p])[st.length]? = some p
      rw [← s.len, List.getElem?_append_right (Nat.le_refl _)]
      simp
end

/-! ### sequences as HandS reads them -/
section
variable {K : PySem.W.Frag} {cm : Str → Option Addr} {W : Wd} {st : Sto} {H : Hp}
/-- a list to be read -/
theorem DR.seqL (s : SR K cm W st H) {d : D} {v : V} {xs : List D} (r : DR K W d v) (h : seqOf st d = some xs) :
    ∃ a vs, v = .ref a ∧ DRs K W xs vs ∧ xs.length ≤ sizeLine ∧ ((SqL K H a vs ∧ ∀ ys, d ≠ .tup ys) ∨ (SqT K H a vs ∧ d = .tup xs)) := by
  cases r with
  | non => cases h
  | bl => cases h
  | int => cases h
  | str => cases h
  | tup h1 l r =>
    cases h
    exact ⟨_, _, rfl, r, l, .inr ⟨sqT_mono s.sub h1, rfl⟩⟩
  | lst h1 l r =>
    cases h
    exact ⟨_, _, rfl, r, l, .inl ⟨.inl (.inl (s.sub _ _ h1)), fun _ e => nomatch e⟩⟩
  | @scr a ns h1 l =>
    cases h
    exact ⟨_, _, rfl, DRs.ints ns, by rw [List.length_map]; exact l, .inl ⟨sqL_mono s.sub h1, fun _ e => nomatch e⟩⟩
  | @ref n a h1 =>
    dsimp only [seqOf] at h
    cases e : st[n]? with
    | none => rw [e] at h; cases h
    | some c =>
      rw [e] at h
      cases c with
      | lst ys =>
        cases h
        obtain ⟨vs, q, l, r⟩ := s.cell n _ a e h1
        exact ⟨_, vs, rfl, r, l, .inl ⟨.inl (.inl q), fun _ e => nomatch e⟩⟩
      | ins C fs => cases h
      | dead => cases h
theorem DR.seq (s : SR K cm W st H) {d : D} {v : V} {xs : List D} (r : DR K W d v) (h : seqOf st d = some xs) : ∃ a vs, v = .ref a ∧ DRs K W xs vs ∧ xs.length ≤ sizeLine ∧ (SqL K H a vs ∨ SqT K H a vs) := by
  obtain ⟨a, vs, e, r', l, q⟩ := r.seqL s h
  exact ⟨a, vs, e, r', l, q.elim (fun z => .inl z.1) fun z => .inr z.1⟩
/-- a tracked list -/
theorem DR.lstL (s : SR K cm W st H) {d : D} {v : V} {xs : List D} (r : DR K W d v) (h : lstOf st d = some xs) :
    ∃ a vs, v = .ref a ∧ DRs K W xs vs ∧ xs.length ≤ sizeLine ∧ H a = some (.lst vs) := by
  cases r with
  | non => cases h
  | bl => cases h
  | int => cases h
  | str => cases h
  | tup h1 l r => cases h
  | lst h1 l r =>
    cases h
    exact ⟨_, _, rfl, r, l, s.sub _ _ h1⟩
  | scr => cases h
  | @ref n a h1 =>
    dsimp only [lstOf] at h
    cases e : st[n]? with
    | none => rw [e] at h; cases h
    | some c =>
      rw [e] at h
      cases c with
      | lst ys =>
        cases h
        obtain ⟨vs, q, l, r⟩ := s.cell n _ a e h1
        exact ⟨_, vs, rfl, r, l, q⟩
      | ins C fs => cases h
      | dead => cases h
/-- a cell's list -/
theorem SR.lstAt (s : SR K cm W st H) {n : Nat} {xs : List D} {v : V} (r : DR K W (.ref n) v) (h : st[n]? = some (.lst xs)) : ∃ a vs, v = .ref a ∧ W.io[n]? = some a ∧ DRs K W xs vs ∧ xs.length ≤ sizeLine ∧ H a = some (.lst vs) := by
  cases r with
  | @ref n a h1 =>
    obtain ⟨vs, q, l, r⟩ := s.cell n _ a h h1
    exact ⟨_, vs, rfl, h1, r, l, q⟩
/-- a new list, kept as a tree or as a cell -/
theorem SR.newList (s : SR K cm W st H) {m : Bool} {xs : List D} {vs : List V} {d : D} {st' : Sto} (h : newL m xs st = .ok d st') (r : DRs K W xs vs) (l : xs.length ≤ sizeLine) {p : Addr} (hp : H p = none) :
    ∃ W', W.le W' ∧ SR K cm W' st' (upd H p (.lst vs)) ∧ DR K W' d (.ref p) := by
  cases m with
  | false =>
    cases h
    obtain ⟨le, s'⟩ := s.frz (o := .lst vs) hp
    exact ⟨_, le, s', .lst (show upd W.F p _ p = _ from upd_same) l (r.mono le)⟩
  | true =>
    cases h
    refine ⟨_, Wd.le_add, s.add hp ⟨vs, upd_same, l, r⟩, .ref ?_⟩
    show (W.io ++ [p])[st.length]? = some p
    rw [← s.len, List.getElem?_append_right (Nat.le_refl _)]
    simp
theorem SR.newTup (s : SR K cm W st H) {xs : List D} {vs : List V} (r : DRs K W xs vs) (l : xs.length ≤ sizeLine) {p : Addr} (hp : H p = none) :
    ∃ W', W.le W' ∧ SR K cm W' st (upd H p (.tup vs)) ∧ DR K W' (.tup xs) (.ref p) := by
  obtain ⟨le, s'⟩ := s.frz (o := .tup vs) hp
  exact ⟨_, le, s', .tup (.inl (.inl (show upd W.F p _ p = _ from upd_same))) l (r.mono le)⟩
end

/-! ### the names -/
structure ER (K : PySem.W.Frag) (W : Wd) (en : Ev) (σ : L2.St) : Prop where
  len : en.length = σ.length
  get : ∀ (i : Nat) d, en[i]? = some (some d) → ∃ v, σ[i]? = some (some v) ∧ DR K W d v
section
variable {K : PySem.W.Frag} {W W' : Wd} {en : Ev} {σ : L2.St}
theorem ER.mono (le : W.le W') (h : ER K W en σ) : ER K W' en σ := ⟨h.len, fun i d e => let ⟨v, a, b⟩ := h.get i d e; ⟨v, a, b.mono le⟩⟩
theorem ER.monoD' (h : ER K W en σ) (le : W.leD W') : ER K W' en σ := ⟨h.len, fun i d e => let ⟨v, a, b⟩ := h.get i d e; ⟨v, a, b.monoD le⟩⟩
theorem ER.set (h : ER K W en σ) (i : Nat) {d : D} {v : V} (r : DR K W d v) : ER K W (en.set i (some d)) (σ.set i (some v)) := by
  refine ⟨by rw [List.length_set, List.length_set]; exact h.len, fun j e q => ?_⟩
  by_cases hj : i = j
  · subst hj
    by_cases hi : i < en.length
    · rw [List.getElem?_set_self hi] at q
      cases q
      exact ⟨v, by rw [List.getElem?_set_self (by rw [← h.len]; exact hi)], r⟩
    · rw [List.getElem?_eq_none (by rw [List.length_set]; omega)] at q
      cases q
  · rw [List.getElem?_set_ne hj] at q ⊢
    exact h.get j e q
theorem ER.wipe1 (h : ER K W en σ) (i : Nat) : ER K W (en.set i none) (σ.set i none) := by
  refine ⟨by rw [List.length_set, List.length_set]; exact h.len, fun j e q => ?_⟩
  by_cases hj : i = j
  · subst hj
    by_cases hi : i < en.length
    · rw [List.getElem?_set_self hi] at q
      cases q
    · rw [List.getElem?_eq_none (by rw [List.length_set]; omega)] at q
      cases q
  · rw [List.getElem?_set_ne hj] at q ⊢
    exact h.get j e q
theorem ER.wipe (h : ER K W en σ) : ∀ vs : List Nat, ER K W (wipeE en vs) (L2.wipe σ vs)
  | [] => h
  | v :: vs => (ER.wipe h vs).wipe1 v
theorem ER.start {np nn : Nat} {xs : List D} {vs : List V} {N : List Str} (r : DRs K W xs vs) (hn : N.length = nn) : ER K W (xs.map some ++ List.replicate (nn - xs.length) none) (L2.start N vs) := by
  have hl := r.length
  refine ⟨by unfold L2.start; simp [hl, hn], fun i d q => ?_⟩
  unfold L2.start
  by_cases hi : i < xs.length
  · rw [List.getElem?_append_left (by simpa using hi), List.getElem?_map] at q
    have q' : xs[i]? = some d := by
      cases e : xs[i]? with
      | none => rw [e] at q; cases q
      | some z => rw [e] at q; cases q; rfl
    obtain ⟨v, h1, h2⟩ := r.get q'
    refine ⟨v, ?_, h2⟩
    rw [List.getElem?_append_left (by simpa [← hl] using hi), List.getElem?_map, h1]
    rfl
  · rw [List.getElem?_append_right (by simpa using Nat.le_of_not_lt hi), List.getElem?_replicate] at q
    split at q <;> cases q
end
end PI

/-! PI, part C: what an evaluation promises; operators. -/
namespace PI
open PySem PySem.Spec PyProof.Rows L2

section
variable (K : PySem.W.Frag) (cm : Str → Option Addr)
/-- an exception as it lies -/
def XR (W : Wd) (c : Str) (fs : List (Str × D)) (cls : Value) (dd : Option Addr) (H : Hp) : Prop :=
  ∃ C d fvs, cm c = some C ∧ cls = .ref C ∧ dd = some d ∧ H d = some (.xd fvs) ∧ Paired (fun (p : Str × D) (q : Str × V) => p.1 = q.1 ∧ DR K W p.2 q.2) fs fvs
/-- what is wanted behind an evaluation -/
def Post {α : Type} (W : Wd) (o : Out α) (Q : Wd → α → Sto → Hp → Prop) (E : XK) : Prop :=
  match o with
  | .ok a st => ∀ W' H, W.le W' → SR K cm W' st H → Q W' a st H
  | .exc c fs st => ∀ W' H cls dd, W.le W' → SR K cm W' st H → XR K cm W' c fs cls dd H → E cls dd H
  | .bad => False
end
section
variable {K : PySem.W.Frag} {cm : Str → Option Addr} {α β : Type} {W W' : Wd} {o : Out α} {Q Q' : Wd → α → Sto → Hp → Prop} {E : XK}
theorem Post.mono (le : W.le W') (h : Post K cm W o Q E) : Post K cm W' o Q E := by
  cases o with
  | ok a st => exact fun W2 H l s => h W2 H (le.trans l) s
  | exc c fs st => exact fun W2 H cls dd l s x => h W2 H cls dd (le.trans l) s x
  | bad => exact h
theorem Post.imp (h : Post K cm W o Q E) (k : ∀ W' a st H, W.le W' → SR K cm W' st H → Q W' a st H → Q' W' a st H) : Post K cm W o Q' E := by
  cases o with
  | ok a st => exact fun W2 H l s => k W2 a st H l s (h W2 H l s)
  | exc c fs st => exact h
  | bad => exact h
theorem Post.bind {f : α → Sto → Out β} {R : Wd → β → Sto → Hp → Prop} (h : Post K cm W (o.bind f) R E) : Post K cm W o (fun W' a st _ => Post K cm W' (f a st) R E) E := by
  cases o with
  | ok a st => exact fun W2 H l s => Post.mono l h
  | exc c fs st => exact h
  | bad => exact h
theorem Post.at {a : α} {st : Sto} {H : Hp} (h : Post K cm W (.ok a st) Q E) (s : SR K cm W st H) : Q W a st H := h W H (.refl W) s
/-- nothing is raised -/
def NoX (o : Out α) : Prop := ∀ c fs st, o ≠ .exc c fs st
theorem NoX.ok {a : α} {st : Sto} : NoX (.ok a st : Out α) := fun _ _ _ h => nomatch h
theorem NoX.bad : NoX (.bad : Out α) := fun _ _ _ h => nomatch h
theorem NoX.need {p : Prop} (h : NoX o) : NoX (need p o) := fun c fs st e => h c fs st (need_exc e).2
theorem NoX.newL {m : Bool} {xs : List D} {st : Sto} : NoX (newL m xs st) := fun c fs s e => by cases m <;> cases e
theorem Post.ok_of (h : Post K cm W o Q E) (n : NoX o) : ∃ a st, o = .ok a st ∧ ∀ W' H, W.le W' → SR K cm W' st H → Q W' a st H := by
  cases o with
  | ok a st => exact ⟨a, st, rfl, h⟩
  | exc c fs st => exact absurd rfl (n c fs st)
  | bad => exact h.elim
theorem Post.calm (h : Post K cm W o.calm Q E) : ∃ a st, o = .ok a st ∧ ∀ W' H, W.le W' → SR K cm W' st H → Q W' a st H := by
  cases o with
  | ok a st => exact ⟨a, st, rfl, h⟩
  | exc c fs st => exact h.elim
  | bad => exact h.elim
end

/-! ### operators by values -/
section
variable (K : PySem.W.Frag) (cm : Str → Option Addr)
def rV2 (f : D → D → Sto → Out D) : R2 := fun x y H Q => ∃ W d e st r st', SR K cm W st H ∧ DR K W d x ∧ DR K W e y ∧ f d e st = .ok r st' ∧
  ∀ W' v H', W.le W' → SR K cm W' st' H' → DR K W' r v → Q v H'
/-- comparisons -/
def rC2 (f : D → D → Sto → Out Bool) : R2 := fun x y H Q => ∃ W d e st r st', SR K cm W st H ∧ DR K W d x ∧ DR K W e y ∧ f d e st = .ok r st' ∧
  ∀ W' H', W.le W' → SR K cm W' st' H' → Q (.bl r) H'
end
theorem intBits_lt {a : Int} {m : Nat} (h : a.natAbs < 2 ^ m) : Builtin.Int.intBits a ≤ m := by
  unfold Builtin.Int.intBits
  split
  · exact Nat.zero_le _
  · rename_i hn
    have h0 : a.natAbs ≠ 0 := by
      intro e
      exact hn (by simpa using e)
    have := (Nat.log2_lt h0).mpr h
    omega
theorem mulOk.ok {a b : Int} (h : mulOk a b) : IntMulOk a b := by
  rcases h with h | h | ⟨m, n, h1, h2, h3⟩
  · exact IntMulOk.of_left (intBits_lt h)
  · exact IntMulOk.of_right (intBits_lt h)
  exact IntMulOk.of_le (intBits_lt h1) (intBits_lt h2) (by omega)
section
variable {X : Cx} {cm : Str → Option Addr}
theorem DR.int_inv {K : PySem.W.Frag} {W : Wd} {i : Int} {v : V} (h : DR K W (.int i) v) : v = .int i := by cases h; rfl
theorem DR.str_inv {K : PySem.W.Frag} {W : Wd} {i : Str} {v : V} (h : DR K W (.str i) v) : v = .str i ∧ i.length ≤ sizeLine := by cases h; exact ⟨rfl, by assumption⟩
theorem DR.tup_inv {K : PySem.W.Frag} {cm : Str → Option Addr} {W : Wd} {st : Sto} {H : Hp} {ds : List D} {v : V} (s : SR K cm W st H) (h : DR K W (.tup ds) v) : ∃ a vs, v = .ref a ∧ SqT K H a vs ∧ DRs K W ds vs ∧ ds.length ≤ sizeLine := by
  cases h with
  | tup h1 l r => exact ⟨_, _, rfl, sqT_mono s.sub h1, r, l⟩
theorem vs_nil {K : PySem.W.Frag} {W : Wd} {ds : List D} {vs : List V} (r : DRs K W ds vs) : vs = [] ↔ ds = [] := by cases r <;> simp

theorem op_addP (m : Bool) : OpR X (binaryOp .Add) (rV2 X.K cm (addV m)) := by
  intro pins s σ H x y v u Q I rx ry h
  obtain ⟨W, d, e, st, r, st', sr, r1, r2, he, q⟩ := h
  unfold addV at he
  split at he
  · cases he
    cases r1
    cases r2
    exact op_add pins s σ H _ _ v u Q I rx ry ⟨_, _, rfl, rfl, q W _ _ (.refl W) sr (.int _)⟩
  · obtain ⟨hl, he⟩ := need_ok he
    cases he
    cases r1
    cases r2
    exact op_add_str pins s σ H _ _ v u Q I rx ry ⟨_, _, rfl, rfl, hl, q W _ _ (.refl W) sr (.str _ (by rw [PySem.strLen_append]; exact hl))⟩
  · obtain ⟨hl, he⟩ := need_ok he
    cases he
    obtain ⟨a, vs, rfl, q1, t1, l1⟩ := r1.tup_inv sr
    obtain ⟨b, ws, rfl, q2, t2, l2⟩ := r2.tup_inv sr
    refine op_catA pins s σ H _ _ v u Q I rx ry ⟨a, b, vs, ws, rfl, rfl, q1, q2, by rw [← t1.length, ← t2.length]; exact hl, fun e => ?_, fun _ e => ?_, fun _ _ p hp => ?_⟩
    · rw [(vs_nil t1).mp e] at q
      exact q W _ _ (.refl W) sr r2
    · rw [(vs_nil t2).mp e, List.append_nil] at q
      exact q W _ _ (.refl W) sr r1
    · obtain ⟨W', le, s', r'⟩ := sr.newTup (t1.append t2) (by rw [List.length_append]; exact hl) hp
      exact q W' _ _ le s' r'
  · split at he
    · rename_i e1 e2
      obtain ⟨hl, he⟩ := need_ok he
      obtain ⟨a, vs, rfl, t1, l1, q1⟩ := r1.lstL sr e1
      obtain ⟨b, ws, rfl, t2, l2, q2⟩ := r2.lstL sr e2
      refine op_cat pins s σ H _ _ v u Q I rx ry ⟨a, b, vs, ws, rfl, rfl, q1, q2, by rw [← t1.length, ← t2.length]; exact hl, fun p hp => ?_⟩
      obtain ⟨W', le, s', r'⟩ := sr.newList he (t1.append t2) (by rw [List.length_append]; exact hl) hp
      exact q W' _ _ le s' r'
    · cases he
theorem op_subP : OpR X (binaryOp .Sub) (rV2 X.K cm subV) := by
  intro pins s σ H x y v u Q I rx ry h
  obtain ⟨W, d, e, st, r, st', sr, r1, r2, he, q⟩ := h
  unfold subV at he
  split at he
  · cases he
    cases r1
    cases r2
    exact op_sub pins s σ H _ _ v u Q I rx ry ⟨_, _, rfl, rfl, q W _ _ (.refl W) sr (.int _)⟩
  · cases he
theorem op_mulP (m : Bool) : OpR X (binaryOp .Mult) (rV2 X.K cm (mulV m)) := by
  intro pins s σ H x y v u Q I rx ry h
  obtain ⟨W, d, e, st, r, st', sr, r1, r2, he, q⟩ := h
  unfold mulV at he
  split at he
  · obtain ⟨hm, he⟩ := need_ok he
    cases he
    cases r1
    cases r2
    have op : OpR X (binaryOp .Mult) (rI (fun i j => IntMulOk i j) fun i j => .int (i * j)) := opI fun _ _ _ _ _ _ _ hc q => mul_int q hc
    exact op pins s σ H _ _ v u Q I rx ry ⟨_, _, rfl, rfl, hm.ok, q W _ _ (.refl W) sr (.int _)⟩
  · obtain ⟨⟨h0, h1, h2, h3⟩, he⟩ := need_ok he
    cases he
    cases r2
    obtain ⟨a, vs, rfl, q1, t1, l1⟩ := r1.tup_inv sr
    refine op_repT pins s σ H _ _ v u Q I rx ry ⟨a, _, vs, rfl, rfl, q1, fun e => h0 ((vs_nil t1).mp e), h1, h2, by rw [← t1.length]; exact h3, fun p hp => ?_⟩
    have hz : ∀ k : Int, k ≤ 1000 → ∀ xs : List D, xs.length ≤ 1000 → (List.replicate k.toNat xs).flatten.length ≤ sizeLine := fun k hk xs hx => by
      rw [List.length_flatten, List.map_replicate, List.sum_replicate_nat]
      have h4 : k.toNat ≤ 1000 := by omega
      have h5 := Nat.mul_le_mul h4 hx
      have h6 : 1000 * 1000 ≤ sizeLine := by rw [sizeLine_eq]; decide
      exact Nat.le_trans h5 h6
    obtain ⟨W', le, s', r'⟩ := sr.newTup (t1.rep _) (hz _ h2 _ h3) hp
    exact q W' _ _ le s' r'
  · split at he
    · rename_i e1
      obtain ⟨⟨h0, h1, h2⟩, he⟩ := need_ok he
      obtain ⟨a, vs, rfl, t1, l1, q1⟩ := r1.lstL sr e1
      cases r2
      refine op_rep pins s σ H _ _ v u Q I rx ry ⟨a, _, vs, rfl, rfl, q1, by omega, by omega, by rw [← t1.length]; exact h2, fun p hp => ?_⟩
      obtain ⟨W', le, s', r'⟩ := sr.newList he (t1.rep _) (by
        rw [List.length_flatten, List.map_replicate, List.sum_replicate_nat, Nat.mul_comm]
        exact h2) hp
      exact q W' _ _ le s' r'
    · cases he
  · cases he
theorem op_fdivP : OpR X (binaryOp .FloorDiv) (rV2 X.K cm fdivV) := by
  intro pins s σ H x y v u Q I rx ry h
  obtain ⟨W, d, e, st, r, st', sr, r1, r2, he, q⟩ := h
  unfold fdivV at he
  split at he
  · obtain ⟨⟨h0, h1⟩, he⟩ := need_ok he
    cases he
    cases r1
    cases r2
    have op : OpR X (binaryOp .FloorDiv) (rI (fun _ j => j ≠ 0 ∧ j.natAbs < 2 ^ 9000) fun i j => .int (i.fdiv j)) := opI fun _ j _ _ _ _ _ hc q => floordiv_int hc.1 q (.inl (PyProof.noPylong_of_log2 (by
      exact (Nat.log2_lt (by have := hc.1; omega)).mpr hc.2)))
    exact op pins s σ H _ _ v u Q I rx ry ⟨_, _, rfl, rfl, ⟨h0, h1⟩, q W _ _ (.refl W) sr (.int _)⟩
  · cases he
theorem op_modP : OpR X (binaryOp .Mod) (rV2 X.K cm modV) := by
  intro pins s σ H x y v u Q I rx ry h
  obtain ⟨W, d, e, st, r, st', sr, r1, r2, he, q⟩ := h
  unfold modV at he
  split at he
  · obtain ⟨h0, he⟩ := need_ok he
    cases he
    cases r1
    cases r2
    exact op_modN pins s σ H _ _ v u Q I rx ry ⟨_, _, rfl, rfl, h0, q W _ _ (.refl W) sr (.int _)⟩
  · cases he
theorem op_powP : OpR X (binaryOp .Pow) (rV2 X.K cm powV) := by
  intro pins s σ H x y v u Q I rx ry h
  obtain ⟨W, d, e, st, r, st', sr, r1, r2, he, q⟩ := h
  unfold powV at he
  split at he
  · obtain ⟨h0, he⟩ := need_ok he
    cases he
    cases r1
    cases r2
    exact op_pow pins s σ H _ _ v u Q I rx ry ⟨_, _, rfl, rfl, h0, q W _ _ (.refl W) sr (.int _)⟩
  · cases he
def opB : Operator → Bool
  | .Add => true
  | .Sub => true
  | .Mult => true
  | .FloorDiv => true
  | .Mod => true
  | .Pow => true
  | _ => false
theorem op_binP (m : Bool) (op : Operator) : OpR X (binaryOp op) (rV2 X.K cm (binV m op)) := by
  cases op
  case Add => exact op_addP m
  case Sub => exact op_subP
  case Mult => exact op_mulP m
  case FloorDiv => exact op_fdivP
  case Mod => exact op_modP
  case Pow => exact op_powP
  all_goals
    intro pins s σ H x y v u Q I rx ry h
    obtain ⟨W, d, e, st, r, st', sr, r1, r2, he, q⟩ := h
    cases he
theorem binV_nox (m : Bool) (op : Operator) (x y : D) (st : Sto) : NoX (binV m op x y st) := by
  unfold binV
  split
  · unfold addV
    split
    · exact .ok
    · exact NoX.ok.need
    · exact NoX.ok.need
    · split
      · exact NoX.newL.need
      · exact .bad
  · unfold subV
    split
    · exact .ok
    · exact .bad
  · unfold mulV
    split
    · exact NoX.ok.need
    · exact NoX.ok.need
    · split
      · exact NoX.newL.need
      · exact .bad
    · exact .bad
  · unfold fdivV
    split
    · exact NoX.ok.need
    · exact .bad
  · unfold modV
    split
    · exact NoX.ok.need
    · exact .bad
  · unfold powV
    split
    · exact NoX.ok.need
    · exact .bad
  · exact .bad
end
end PI

/-! PI, part D: comparisons, subscripts, built-ins by values. -/
namespace PI
open PySem PySem.Spec PyProof.Rows L2
section
variable {K : PySem.W.Frag} {cm : Str → Option Addr} {W : Wd} {st : Sto} {H : Hp}
mutual
theorem DR.dp (sub : ∀ a o, W.F a = some o → H a = some o) : ∀ {d : D} {v : V}, DR K W d v → plain d = true → Dp K H v (toPy d)
  | _, _, .non, _ => .non
  | _, _, .bl b, _ => .bl b
  | _, _, .int i, _ => .int i
  | _, _, .str x _, _ => .str x
  | _, _, .tup h _ r, p => by
    have p' : plainL _ = true := p
    exact .tup (sqT_mono sub h) (DRs.dp sub r p')
  | _, _, .lst h _ r, p => by
    have p' : plainL _ = true := p
    exact .lst (.inl (.inl (sub _ _ h))) (DRs.dp sub r p')
  | _, _, .scr _ _, p => by cases p
  | _, _, .ref _, p => by cases p
theorem DRs.dp (sub : ∀ a o, W.F a = some o → H a = some o) : ∀ {ds : List D} {vs : List V}, DRs K W ds vs → plainL ds = true → DpAll K H vs (toPyL ds)
  | _, _, .nil, _ => .nil
  | _, _, .cons h r, p => by
    have p' : (plain _ && plainL _) = true := p
    rw [Bool.and_eq_true] at p'
    exact .cons (DR.dp sub h p'.1) (DRs.dp sub r p'.2)
end
theorem toPyL_ints : ∀ ns : List Int, toPyL (ns.map .int) = ns.map .int
  | [] => rfl
  | n :: ns => by
    show PyData.int n :: toPyL (ns.map .int) = _
    rw [toPyL_ints ns]
    rfl
theorem dpAll_ints : ∀ ns : List Int, DpAll K H (ns.map V.int) (ns.map .int)
  | [] => .nil
  | n :: ns => .cons (.int n) (dpAll_ints ns)
theorem DR.dpN (s : SR K cm W st H) {d : D} {v : V} (r : DR K W d v) (p : plain (norm st d) = true) : Dp K H v (toPy (norm st d)) := by
  cases r with
  | non => exact .non
  | bl b => exact .bl b
  | int i => exact .int i
  | str x h => exact .str x
  | tup h l r => exact DR.dp s.sub (.tup h l r) p
  | lst h l r => exact DR.dp s.sub (.lst h l r) p
  | @scr a ns h l =>
    show Dp K H _ (.list (toPyL (ns.map .int)))
    rw [toPyL_ints]
    exact .lst (sqL_mono s.sub h) (dpAll_ints ns)
  | @ref n a h =>
    cases e : st[n]? with
    | none =>
      have : norm st (.ref n) = .ref n := by unfold norm; simp only [e]
      rw [this] at p
      cases p
    | some c =>
      cases c with
      | lst xs =>
        have en : norm st (.ref n) = .lst xs := by unfold norm; simp only [e]
        rw [en] at p ⊢
        obtain ⟨vs, q, l, r⟩ := s.cell n _ a e h
        have p' : plainL xs = true := p
        exact .lst (.inl (.inl q)) (DRs.dp s.sub r p')
      | ins C fs =>
        have : norm st (.ref n) = .ref n := by unfold norm; simp only [e]
        rw [this] at p
        cases p
      | dead =>
        have : norm st (.ref n) = .ref n := by unfold norm; simp only [e]
        rw [this] at p
        cases p
theorem flat_DR {d : D} {v : V} (r : DR K W d v) (f : flatD d = true) : flatV v = true := by
  cases r <;> first | rfl | exact (Bool.false_ne_true (show false = true from f)).elim
theorem flat_DRs : ∀ {ds : List D} {vs : List V}, DRs K W ds vs → ds.all flatD = true → vs.all flatV = true
  | _, _, .nil, _ => rfl
  | _, _, .cons h r, f => by
    rw [List.all_cons, Bool.and_eq_true] at f ⊢
    exact ⟨flat_DR h f.1, flat_DRs r f.2⟩
theorem eqV_DR {d e : D} {v u : V} (r : DR K W d v) (q : DR K W e u) (f : flatD d = true) (g : flatD e = true) : eqV v u = eqD d e := by
  cases r <;> first | exact (Bool.false_ne_true (show false = true from f)).elim | skip
  all_goals (cases q <;> first | exact (Bool.false_ne_true (show false = true from g)).elim | (unfold eqD; simp only [toPy, PyData.eqv, eqV]))
theorem any_DRs {x : D} {v : V} (hx : DR K W x v) (f : flatD x = true) : ∀ {ds : List D} {vs : List V}, DRs K W ds vs → ds.all flatD = true → (vs.any fun y => eqV y v) = ds.any fun z => eqD z x
  | _, _, .nil, _ => rfl
  | _, _, .cons h r, g => by
    rw [List.all_cons, Bool.and_eq_true] at g
    rw [List.any_cons, List.any_cons, any_DRs hx f r g.2, eqV_DR h hx g.1 f]
end
section
variable {X : Cx} {cm : Str → Option Addr}
theorem op_cmpP (hu : X.A.units + 64 < cLine) (op : CmpOp) : OpR X (compareOp op) (rC2 X.K cm (cmpV op)) := by
  intro pins s σ H x y v u Q I rx ry h
  obtain ⟨W, d, e, st, r, st', sr, r1, r2, he, q⟩ := h
  cases op
  case Eq =>
    dsimp only [cmpV] at he
    split at he
    · cases he
      cases r1
      cases r2
      refine op_eq pins s σ H _ _ v u Q I rx ry ⟨rfl, ?_⟩
      have q' := q W _ (.refl W) sr
      simpa using q'
    · obtain ⟨⟨⟨p1, s1⟩, p2, s2⟩, he⟩ := need_ok he
      cases he
      exact op_eqD hu pins s σ H x y v u Q I rx ry ⟨_, _, r1.dpN sr p1, r2.dpN sr p2, s1, s2, q W _ (.refl W) sr⟩
  case NotEq =>
    dsimp only [cmpV] at he
    split at he
    · cases he
      cases r1
      cases r2
      refine op_ne pins s σ H _ _ v u Q I rx ry ⟨rfl, ?_⟩
      have q' := q W _ (.refl W) sr
      simpa using q'
    · obtain ⟨⟨⟨p1, s1⟩, p2, s2⟩, he⟩ := need_ok he
      cases he
      exact op_neD hu pins s σ H x y v u Q I rx ry ⟨_, _, r1.dpN sr p1, r2.dpN sr p2, s1, s2, q W _ (.refl W) sr⟩
  case Lt =>
    dsimp only [cmpV] at he
    split at he
    · cases he
      cases r1
      cases r2
      exact op_lt pins s σ H _ _ v u Q I rx ry ⟨_, _, rfl, rfl, q W _ (.refl W) sr⟩
    · cases he
  case LtE =>
    dsimp only [cmpV] at he
    split at he
    · cases he
      cases r1
      cases r2
      exact op_le pins s σ H _ _ v u Q I rx ry ⟨_, _, rfl, rfl, q W _ (.refl W) sr⟩
    · cases he
  case Gt =>
    dsimp only [cmpV] at he
    split at he
    · cases he
      cases r1
      cases r2
      exact op_gt pins s σ H _ _ v u Q I rx ry ⟨_, _, rfl, rfl, q W _ (.refl W) sr⟩
    · cases he
  case GtE =>
    dsimp only [cmpV] at he
    split at he
    · cases he
      cases r1
      cases r2
      exact op_ge pins s σ H _ _ v u Q I rx ry ⟨_, _, rfl, rfl, q W _ (.refl W) sr⟩
    · cases he
  case Is =>
    cases r2
    case non =>
      have q' := q
      refine op_isN pins s σ H _ _ v u Q I rx ry ⟨rfl, ?_⟩
      cases r1 <;> (cases he; exact q W _ (.refl W) sr)
    all_goals cases he
  case IsNot =>
    cases r2
    case non =>
      refine op_notN pins s σ H _ _ v u Q I rx ry ⟨rfl, ?_⟩
      cases r1 <;> (cases he; exact q W _ (.refl W) sr)
    all_goals cases he
  case In =>
    dsimp only [cmpV] at he
    split at he
    · rename_i ys e1
      obtain ⟨⟨f1, f2⟩, he⟩ := need_ok he
      cases he
      obtain ⟨a, vs, rfl, t, l, q1⟩ := r2.seq sr e1
      refine op_in_seq pins s σ H _ _ v u Q I rx ry ⟨a, vs, rfl, q1, flat_DR r1 f1, flat_DRs t f2, ?_⟩
      have e2 : inV x vs = ys.any fun z => eqD z d := any_DRs r1 f1 t f2
      rw [if_neg (by decide), e2]
      exact q W _ (.refl W) sr
    · cases he
  case NotIn =>
    dsimp only [cmpV] at he
    split at he
    · rename_i ys e1
      obtain ⟨⟨f1, f2⟩, he⟩ := need_ok he
      cases he
      obtain ⟨a, vs, rfl, t, l, q1⟩ := r2.seq sr e1
      refine op_notIn_seq pins s σ H _ _ v u Q I rx ry ⟨a, vs, rfl, q1, flat_DR r1 f1, flat_DRs t f2, ?_⟩
      have e2 : inV x vs = ys.any fun z => eqD z d := any_DRs r1 f1 t f2
      rw [if_pos rfl, e2]
      exact q W _ (.refl W) sr
    · cases he
theorem cmpV_nox (op : CmpOp) (x y : D) (st : Sto) : NoX (cmpV op x y st) := by
  cases op <;> dsimp only [cmpV]
  all_goals (split <;> first | exact .ok | exact .bad | exact NoX.ok.need)

/-! ### truth -/
theorem DR.truth {K : PySem.W.Frag} {W : Wd} {st : Sto} {H : Hp} (s : SR K cm W st H) {d : D} {v : V} (r : DR K W d v) {b : Bool} (h : truthD st d = some b) : TruV K v H b := by
  have z : ∀ {n : Nat}, ((n : Int) != 0) = (n != 0) := fun {n} => by
    cases n with
    | zero => rfl
    | succ k =>
      have h1 : ((k + 1 : Nat) : Int) ≠ 0 := by omega
      have h2 : (k + 1) ≠ 0 := by omega
      rw [bne_iff_ne.mpr h1, bne_iff_ne.mpr h2]
  have sq : ∀ {d : D} {v : V}, DR K W d v → (seqOf st d).map (fun xs => !xs.isEmpty) = some b → TruV K v H b := fun {d v} r h => by
    obtain ⟨xs, hx, hb⟩ := Option.map_eq_some_iff.mp h
    obtain ⟨a, vs, rfl, t, l, q⟩ := r.seq s hx
    subst hb
    have e : (!xs.isEmpty) = !vs.isEmpty := by cases t <;> rfl
    rcases q with q | q
    · exact .inl ⟨vs, q, e⟩
    · exact .inr (.inl ⟨vs, q, e⟩)
  cases r with
  | non => cases h; rfl
  | bl b => cases h; rfl
  | int i => cases h; rfl
  | str x hx => cases h; exact ⟨hx, z.symm⟩
  | tup h1 l r => exact sq (.tup h1 l r) h
  | lst h1 l r => exact sq (.lst h1 l r) h
  | scr h1 l => exact sq (.scr h1 l) h
  | ref h1 => exact sq (.ref h1) h

/-! ### subscripts -/
theorem atI_DRs {K : PySem.W.Frag} {W : Wd} {ds : List D} {vs : List V} (r : DRs K W ds vs) {i : Int} {d : D} (h : atI ds i = some d) : ∃ v, atI vs i = some v ∧ DR K W d v := by
  unfold atI at h ⊢
  rw [← r.length]
  cases e : ixN ds.length i with
  | none => rw [e] at h; cases h
  | some j =>
    rw [e] at h
    exact r.get h
theorem ix_P : IxR X (rV2 X.K cm ixV) := by
  intro value slice pins s σ H x y v u Q I rx ry h hs
  obtain ⟨W, d, e, st, r, st', sr, r1, r2, he, q⟩ := h
  unfold ixV at he
  split at he
  · split at he
    · split at he
      · rename_i e1 _ _ e2
        cases he
        obtain ⟨a, vs, rfl, t, l, q1⟩ := r1.seq sr e1
        obtain ⟨w, h1, h2⟩ := atI_DRs t e2
        cases r2
        refine ix_seq value slice pins s σ H _ _ v u Q I rx ry ?_ hs
        rcases q1 with q1 | q1
        · exact .inl ⟨a, vs, _, w, rfl, rfl, q1, h1, q W _ _ (.refl W) sr h2⟩
        · exact .inr (.inl ⟨a, vs, _, w, rfl, rfl, q1, h1, q W _ _ (.refl W) sr h2⟩)
      · cases he
    · cases he
  · cases he
theorem ixV_nox (x y : D) (st : Sto) : NoX (ixV x y st) := by
  unfold ixV
  split
  · split
    · split
      · exact .ok
      · exact .bad
    · exact .bad
  · exact .bad
def rSlP (K : PySem.W.Frag) (cm : Str → Option Addr) (m : Bool) : V → Option Int → Option Int → Hp → VK → Prop := fun x lo hi H Q => ∃ W d st r st', SR K cm W st H ∧ DR K W d x ∧ sliceV m d lo hi st = .ok r st' ∧
  ∀ W' v H', W.le W' → SR K cm W' st' H' → DR K W' r v → Q v H'
theorem cut_DRs {K : PySem.W.Frag} {W : Wd} {ds : List D} {vs : List V} (r : DRs K W ds vs) (lo hi : Option Int) : DRs K W (cutD ds lo hi) (cutV vs lo hi) := by
  unfold cutD cutV
  rw [← r.length]
  exact (r.drop _).take _
theorem cutD_length (xs : List D) (lo hi : Option Int) : (cutD xs lo hi).length ≤ xs.length := by
  unfold cutD
  rw [List.length_take, List.length_drop]
  omega
theorem sl_P (m : Bool) : SlR X (rSlP X.K cm m) := by
  intro pins s σ H x v vl vu lo hi sl Q I rx hs pl pu hh
  obtain ⟨W, d, st, r, st', sr, r1, he, q⟩ := hh
  unfold sliceV at he
  split at he
  · cases he
    rename_i xs
    have r0 := r1
    obtain ⟨a, vs, rfl, q1, t1, l1⟩ := r1.tup_inv sr
    refine sl_tupA pins s σ H _ v vl vu lo hi sl Q I rx hs pl pu ⟨a, vs, rfl, q1, fun e => ?_, fun _ p hp => ?_⟩
    · have ec : cutD xs lo hi = xs := by
        unfold cutD
        rw [← t1.length] at e
        rw [e.1, e.2, List.drop_zero, Nat.sub_zero, List.take_length]
      rw [ec] at q
      exact q W _ _ (.refl W) sr r0
    · obtain ⟨W', le, s', r'⟩ := sr.newTup (cut_DRs t1 lo hi) (Nat.le_trans (cutD_length _ _ _) l1) hp
      exact q W' _ _ le s' r'
  · split at he
    · rename_i e1
      obtain ⟨a, vs, rfl, t, l, q1⟩ := r1.lstL sr e1
      refine sl_list pins s σ H _ v vl vu lo hi sl Q I rx hs pl pu ⟨a, vs, rfl, .inl (.inl q1), fun p hp => ?_⟩
      obtain ⟨W', le, s', r'⟩ := sr.newList he (cut_DRs t lo hi) (Nat.le_trans (cutD_length _ _ _) l) hp
      exact q W' _ _ le s' r'
    · cases he
theorem sliceV_nox (m : Bool) (x : D) (lo hi : Option Int) (st : Sto) : NoX (sliceV m x lo hi st) := by
  unfold sliceV
  split
  · exact .ok
  · split
    · exact NoX.newL
    · exact .bad
end
end PI

/-! PI, part E: built-ins and methods by values. -/
namespace PI
open PySem PySem.Spec PyProof.Rows L2
section
variable (K : PySem.W.Frag) (cm : Str → Option Addr)
def rVs (f : List D → Sto → Out D) : List V → Hp → VK → Prop := fun vs H Q => ∃ W ds st r st', SR K cm W st H ∧ DRs K W ds vs ∧ f ds st = .ok r st' ∧
  ∀ W' v H', W.le W' → SR K cm W' st' H' → DR K W' r v → Q v H'
end
section
variable {K : PySem.W.Frag} {cm : Str → Option Addr} {W : Wd} {st : Sto} {H : Hp}
theorem DRs.one_inv {d : D} {vs : List V} (h : DRs K W [d] vs) : ∃ v, vs = [v] ∧ DR K W d v := by
  cases h with
  | cons h r => cases r; exact ⟨_, rfl, h⟩
theorem DRs.two_inv {d e : D} {vs : List V} (h : DRs K W [d, e] vs) : ∃ v w, vs = [v, w] ∧ DR K W d v ∧ DR K W e w := by
  cases h with
  | cons h r =>
    obtain ⟨w, e, q⟩ := r.one_inv
    subst e
    exact ⟨_, _, rfl, h, q⟩
theorem DRs.nil_inv {vs : List V} (h : DRs K W [] vs) : vs = [] := by cases h; rfl
theorem ints_DRs : ∀ {ds : List D} {vs : List V} {ns : List Int}, DRs K W ds vs → intsOf ds = some ns → vs = ns.map V.int
  | _, _, _, .nil, e => by cases e; rfl
  | d :: ds, v :: vs, ns, .cons h r, e => by
    cases h with
    | int i =>
      obtain ⟨ms, h1, h2⟩ := Option.map_eq_some_iff.mp (show (intsOf ds).map (i :: ·) = some ns from e)
      rw [ints_DRs r h1, ← h2]
      rfl
    | _ => cases e
theorem bls_DRs : ∀ {ds : List D} {vs : List V} {ns : List Bool}, DRs K W ds vs → blsOf ds = some ns → vs = ns.map V.bl
  | _, _, _, .nil, e => by cases e; rfl
  | d :: ds, v :: vs, ns, .cons h r, e => by
    cases h with
    | bl i =>
      obtain ⟨ms, h1, h2⟩ := Option.map_eq_some_iff.mp (show (blsOf ds).map (i :: ·) = some ns from e)
      rw [bls_DRs r h1, ← h2]
      rfl
    | _ => cases e
theorem DR.ty (s : SR K cm W st H) {d : D} {v : V} (r : DR K W d v) {a : String} (h : tyD st d = some a) : TyX K H v (.type a) := by
  cases r with
  | non => cases h; exact .base .non
  | bl b => cases h; exact .base (.bl b)
  | int i => cases h; exact .base (.int i)
  | str x hx => cases h; exact .base (.str x)
  | tup h1 l r =>
    cases h
    rcases sqT_mono s.sub h1 with (q | ⟨o, q⟩) | ⟨o, its, n, q, c, _⟩
    · exact .base (.tup q)
    · exact .fTuple q
    · exact .kTuple q c
  | lst h1 l r => cases h; exact .base (.lst (s.sub _ _ h1))
  | scr h1 l =>
    cases h
    rcases sqL_mono s.sub h1 with (q | ⟨o, q⟩) | ⟨o, its, n, q, c, _⟩
    · exact .base (.lst q)
    · exact .base (.frz q)
    · exact .kList q c
  | @ref n a h1 =>
    unfold tyD at h
    dsimp only at h
    cases e : st[n]? with
    | none => rw [e] at h; cases h
    | some c =>
      rw [e] at h
      cases c with
      | lst ys =>
        cases h
        obtain ⟨vs, q, _⟩ := s.cell n _ a e h1
        exact .base (.lst q)
      | ins C fs => cases h
      | dead => cases h
end
def isTs : List String := ["int", "bool", "tuple", "list", "str"]
def tyTs : List String := ["NoneType", "bool", "int", "str", "tuple", "list"]
theorem kitB_all : (tyTs.all fun a => isTs.all fun t => decide (kitB a t = some (isTy a t))) = true := by decide +kernel
theorem kitB_at {a t : String} (ha : a ∈ tyTs) (ht : t ∈ isTs) : kitB a t = some (isTy a t) := by
  have h := kitB_all
  rw [List.all_eq_true] at h
  have h2 := h a ha
  rw [List.all_eq_true] at h2
  exact of_decide_eq_true (h2 t ht)
theorem tyD_mem {st : Sto} {d : D} {a : String} (h : tyD st d = some a) : a ∈ tyTs := by
  unfold tyD at h
  split at h
  all_goals first | (cases h; decide) | skip
  split at h
  · cases h; decide
  · cases h
section
variable {X : Cx} {cm : Str → Option Addr}
theorem ci_len : CallR X (.builtin "len") (rVs X.K cm lenV) := by
  intro pins s σ H xs us Q I r h
  obtain ⟨W, ds, st, d, st', sr, rd, he, q⟩ := h
  unfold lenV at he
  split at he
  · rename_i x
    split at he
    · rename_i n e2
      cases he
      obtain ⟨v, rfl, rx⟩ := rd.one_inv
      have go : ∀ {x : D} {v : V} , DR X.K W x v → (seqOf st x).map List.length = some n → L2.Vals [v] us → wpAny (model X.prog X.w) X.A (PySem.call (.builtin "len") us) (EP X pins σ Q) X.xe s := fun {x v} rx e2 r => by
        obtain ⟨ys, h1, h2⟩ := Option.map_eq_some_iff.mp e2
        obtain ⟨a, vs, rfl, t, l, q1⟩ := rx.seq sr h1
        refine call_len_seq pins s σ H _ us Q I r ⟨a, vs, rfl, q1, ?_⟩
        rw [← t.length, h2]
        exact q W _ _ (.refl W) sr (.int _)
      cases rx with
      | str x hx =>
        cases e2
        exact call_len_str pins s σ H _ us Q I r ⟨x, rfl, hx, q W _ _ (.refl W) sr (.int _)⟩
      | non => cases e2
      | bl => cases e2
      | int => cases e2
      | tup h1 l t => exact go (.tup h1 l t) e2 r
      | lst h1 l t => exact go (.lst h1 l t) e2 r
      | scr h1 l => exact go (.scr h1 l) e2 r
      | ref h1 => exact go (.ref h1) e2 r
    · cases he
  · cases he
theorem ci_tuple : CallR X (.type "tuple") (rVs X.K cm tupleV) := by
  intro pins s σ H xs us Q I r h
  obtain ⟨W, ds, st, d, st', sr, rd, he, q⟩ := h
  unfold tupleV at he
  split at he
  · rename_i x
    split at he
    · rename_i n e2
      cases he
      obtain ⟨v, rfl, rx⟩ := rd.one_inv
      obtain ⟨a, vs, rfl, t, l, q1⟩ := rx.seqL sr e2
      refine call_tuple_of pins s σ H _ us Q I r ⟨a, vs, rfl, ?_⟩
      rcases q1 with ⟨q1, _⟩ | ⟨q1, e⟩
      · refine .inl ⟨q1, fun p hp => ?_⟩
        obtain ⟨W', le, s', r'⟩ := sr.newTup t l hp
        exact q W' _ _ le s' r'
      · subst e
        exact .inr ⟨q1, q W _ _ (.refl W) sr rx⟩
    · cases he
  · cases he
theorem ci_list {m : Bool} : CallR X (.type "list") (rVs X.K cm (listV m)) := by
  intro pins s σ H xs us Q I r h
  obtain ⟨W, ds, st, d, st', sr, rd, he, q⟩ := h
  unfold listV at he
  split at he
  · rename_i x
    split at he
    · rename_i n e2
      obtain ⟨v, rfl, rx⟩ := rd.one_inv
      obtain ⟨a, vs, rfl, t, l, q1⟩ := rx.seq sr e2
      refine call_list_of pins s σ H _ us Q I r ⟨a, vs, rfl, q1, fun p hp => ?_⟩
      obtain ⟨W', le, s', r'⟩ := sr.newList he t l hp
      exact q W' _ _ le s' r'
    · cases he
  · cases he
theorem ci_int : CallR X (.type "int") (rVs X.K cm intV) := by
  intro pins s σ H xs us Q I r h
  obtain ⟨W, ds, st, d, st', sr, rd, he, q⟩ := h
  unfold intV at he
  split at he
  · cases he
    obtain ⟨v, rfl, rx⟩ := rd.one_inv
    cases rx
    exact call_int1 pins s σ H _ us Q I r (.inl ⟨_, rfl, q W _ _ (.refl W) sr (.int _)⟩)
  · cases he
    obtain ⟨v, rfl, rx⟩ := rd.one_inv
    cases rx
    exact call_int1 pins s σ H _ us Q I r (.inr ⟨_, rfl, q W _ _ (.refl W) sr (.int _)⟩)
  · cases he
theorem ci_abs : CallR X (.builtin "abs") (rVs X.K cm absV') := by
  intro pins s σ H xs us Q I r h
  obtain ⟨W, ds, st, d, st', sr, rd, he, q⟩ := h
  unfold absV' at he
  split at he
  · rename_i i
    cases he
    obtain ⟨v, rfl, rx⟩ := rd.one_inv
    cases rx
    refine call_abs pins s σ H _ us Q I r ⟨_, rfl, ?_⟩
    have e : (if i < 0 then -i else i) = (i.natAbs : Int) := by split <;> omega
    rw [e]
    exact q W _ _ (.refl W) sr (.int _)
  · cases he
theorem ci_sum (hc : X.calm = true) : CallR X (.builtin "sum") (rVs X.K cm sumV) := by
  intro pins s σ H xs us Q I r h
  obtain ⟨W, ds, st, d, st', sr, rd, he, q⟩ := h
  unfold sumV at he
  split at he
  · split at he
    · rename_i e2
      split at he
      · rename_i e3
        cases he
        obtain ⟨v, rfl, rx⟩ := rd.one_inv
        obtain ⟨a, vs, rfl, t, l, q1⟩ := rx.lstL sr e2
        have e4 := ints_DRs t e3
        subst e4
        exact cr_sum hc pins s σ H _ us Q I r ⟨a, _, rfl, .inl (.inl q1), q W _ _ (.refl W) sr (.int _)⟩
      · cases he
    · cases he
  · cases he
theorem ci_all (hc : X.calm = true) : CallR X (.builtin "all") (rVs X.K cm allV) := by
  intro pins s σ H xs us Q I r h
  obtain ⟨W, ds, st, d, st', sr, rd, he, q⟩ := h
  unfold allV at he
  split at he
  · split at he
    · rename_i e2
      split at he
      · rename_i e3
        cases he
        obtain ⟨v, rfl, rx⟩ := rd.one_inv
        obtain ⟨a, vs, rfl, t, l, q1⟩ := rx.lstL sr e2
        have e4 := bls_DRs t e3
        subst e4
        exact cr_all hc pins s σ H _ us Q I r ⟨a, _, rfl, .inl (.inl q1), q W _ _ (.refl W) sr (.bl _)⟩
      · cases he
    · cases he
  · cases he
theorem ci_any (hc : X.calm = true) : CallR X (.builtin "any") (rVs X.K cm anyV) := by
  intro pins s σ H xs us Q I r h
  obtain ⟨W, ds, st, d, st', sr, rd, he, q⟩ := h
  unfold anyV at he
  split at he
  · split at he
    · rename_i e2
      split at he
      · rename_i e3
        cases he
        obtain ⟨v, rfl, rx⟩ := rd.one_inv
        obtain ⟨a, vs, rfl, t, l, q1⟩ := rx.lstL sr e2
        have e4 := bls_DRs t e3
        subst e4
        exact cr_any hc pins s σ H _ us Q I r ⟨a, _, rfl, .inl (.inl q1), q W _ _ (.refl W) sr (.bl _)⟩
      · cases he
    · cases he
  · cases he
theorem ci_max2 (hc : X.calm = true) : CallR X (.builtin "max") (rVs X.K cm max2V) := by
  intro pins s σ H xs us Q I r h
  obtain ⟨W, ds, st, d, st', sr, rd, he, q⟩ := h
  unfold max2V at he
  split at he
  · cases he
    obtain ⟨v, w', rfl, rx, ry⟩ := rd.two_inv
    cases rx
    cases ry
    exact call_max2 hc pins s σ H _ us Q I r ⟨_, _, rfl, q W _ _ (.refl W) sr (.int _)⟩
  · cases he
theorem ci_min2 (hc : X.calm = true) : CallR X (.builtin "min") (rVs X.K cm min2V) := by
  intro pins s σ H xs us Q I r h
  obtain ⟨W, ds, st, d, st', sr, rd, he, q⟩ := h
  unfold min2V at he
  split at he
  · cases he
    obtain ⟨v, w', rfl, rx, ry⟩ := rd.two_inv
    cases rx
    cases ry
    exact call_min2 hc pins s σ H _ us Q I r ⟨_, _, rfl, q W _ _ (.refl W) sr (.int _)⟩
  · cases he
theorem noDict : ∀ d : D, (toPy d).hasDict = false := by
  intro d
  have all : ∀ n : Nat, (∀ d : D, sizeOf d ≤ n → (toPy d).hasDict = false) ∧ (∀ ds : List D, sizeOf ds ≤ n → PyData.hasDictAll (toPyL ds) = false) := by
    intro n
    induction n with
    | zero =>
      refine ⟨fun d h => ?_, fun ds h => ?_⟩
      · cases d <;> simp at h
      · cases ds with
        | nil => simp only [toPyL, PyData.hasDictAll]
        | cons a b => simp at h
    | succ n ih =>
      refine ⟨fun d h => ?_, fun ds h => ?_⟩
      · cases d with
        | tup xs =>
          simp only [toPy, PyData.hasDict]
          exact ih.2 xs (by simp at h; omega)
        | lst xs =>
          simp only [toPy, PyData.hasDict]
          exact ih.2 xs (by simp at h; omega)
        | _ => simp only [toPy, PyData.hasDict]
      · cases ds with
        | nil => simp only [toPyL, PyData.hasDictAll]
        | cons a b =>
          simp only [toPyL, PyData.hasDictAll, Bool.or_eq_false_iff]
          simp at h
          exact ⟨ih.1 a (by omega), ih.2 b (by omega)⟩
  exact (all (sizeOf d)).1 d (Nat.le_refl _)
theorem ci_repr (hg : X.A.guards = some []) (hu : X.A.units + 64 < cLine) : CallR X (.builtin "repr") (rVs X.K cm reprV) := by
  intro pins s σ H xs us Q I r h
  obtain ⟨W, ds, st, d, st', sr, rd, he, q⟩ := h
  unfold reprV at he
  split at he
  · rename_i x
    obtain ⟨⟨p1, p2, p3, p4⟩, he⟩ := need_ok he
    cases he
    obtain ⟨v, rfl, rx⟩ := rd.one_inv
    have dp := rx.dpN sr p1
    obtain ⟨u, rfl, ru⟩ := vals1 r
    obtain ⟨as, rr⟩ := Dp.reads I _ v u dp ru
    have fin : ∀ (h' : Heap) (uu tk : Nat), (∀ b o, s.heap.get? b = some o → h'.get? b = some o) → EP X pins σ Q (.str (toPy (norm st x)).shown uu) { s with heap := h', toks := tk } := fun h' uu tk k =>
      ⟨.str _, H, I.kept (t' := tk) k, ⟨_, rfl⟩, q W _ _ (.refl W) sr (.str _ p4)⟩
    have fin0 : ∀ (uu tk : Nat), EP X pins σ Q (.str (toPy (norm st x)).shown uu) { s with toks := tk } := fun uu tk => fin s.heap uu tk fun _ _ e => e
    have nd : (toPy (norm st x)).hasDict = false := noDict _
    revert rr p2 p3 p4 fin fin0 nd
    generalize toPy (norm st x) = py
    intro p2 p3 p4 rr fin fin0 nd
    cases rr with
    | none => exact PySem.P.repr_of_none (fin0 _ _)
    | bool b => exact PySem.P.repr_of_bool (by have := fin0 s.toks (s.toks + 1); simp only [PyData.shown] at this; exact this)
    | int i t => exact PySem.P.repr_of_int (by simpa [PyData.showable] using p2) (by have := fin0 s.toks (s.toks + 1); simp only [PyData.shown] at this; exact this)
    | str z t => exact PySem.P.repr_of_str (by have := fin0 s.toks (s.toks + 1); simp only [PyData.shown] at this; exact this) (by simpa only [PyData.shown] using p4)
    | list h1 h2 h3 h4 => exact repr_of_reads' (.list h1 h2 h3 h4) p2 (PyData.noDict_hsm nd) hg (by omega) (fun _ _ e => e) (fun h' u tk k => fin h' u tk k) p4
    | tuple h1 h2 h3 h4 => exact repr_of_reads' (.tuple h1 h2 h3 h4) p2 (PyData.noDict_hsm nd) hg (by omega) (fun _ _ e => e) (fun h' u tk k => fin h' u tk k) p4
    | dict => simp [PyData.hasDict] at nd
  · cases he
theorem ci_isI {t : String} (ht : t ∈ isTs) : CallR X (.builtin "isinstance") (fun xs H Q => ∃ v, xs = [v, .ty t] ∧ rVs X.K cm (isV t) [v] H Q) := by
  intro pins s σ H xs us Q I r h
  obtain ⟨v, rfl, W, ds, st, d, st', sr, rd, he, q⟩ := h
  unfold isV at he
  split at he
  · split at he
    · rename_i a e1
      cases he
      obtain ⟨v', e, rx⟩ := rd.one_inv
      cases e
      exact call_isi pins s σ H _ us Q I r ⟨v, .ty t, .type a, .type t, _, rfl, .ty t, rx.ty sr e1, kit_ty (kitB_at (tyD_mem e1) ht), q W _ _ (.refl W) sr (.bl _)⟩
    · cases he
  · cases he
theorem biV_nox (m : Bool) (b : BI) (xs : List D) (st : Sto) : NoX (biV m b xs st) := by
  cases b <;> dsimp only [biV]
  case len => unfold lenV; split <;> first | exact .bad | (split <;> first | exact .ok | exact .bad)
  case tuple => unfold tupleV; split <;> first | exact .bad | (split <;> first | exact .ok | exact .bad)
  case list => unfold listV; split <;> first | exact .bad | (split <;> first | exact NoX.newL | exact .bad)
  case int => unfold intV; split <;> first | exact .ok | exact .bad
  case abs => unfold absV'; split <;> first | exact .ok | exact .bad
  case isI => unfold isV; split <;> first | exact .bad | (split <;> first | exact .ok | exact .bad)
  case sum => unfold sumV; split <;> first | exact .bad | (split <;> first | exact .bad | (split <;> first | exact .ok | exact .bad))
  case all => unfold allV; split <;> first | exact .bad | (split <;> first | exact .bad | (split <;> first | exact .ok | exact .bad))
  case any => unfold anyV; split <;> first | exact .bad | (split <;> first | exact .bad | (split <;> first | exact .ok | exact .bad))
  case repr => unfold reprV; split <;> first | exact .bad | exact NoX.ok.need
  case max2 => unfold max2V; split <;> first | exact .ok | exact .bad
  case min2 => unfold min2V; split <;> first | exact .ok | exact .bad
  all_goals exact .bad
end

/-! ### methods -/
section
variable (K : PySem.W.Frag) (cm : Str → Option Addr)
def rVm (f : D → List D → Sto → Out D) : V → List V → Hp → VK → Prop := fun x vs H Q => ∃ W o ds st r st', SR K cm W st H ∧ DR K W o x ∧ DRs K W ds vs ∧ f o ds st = .ok r st' ∧
  ∀ W' v H', W.le W' → SR K cm W' st' H' → DR K W' r v → Q v H'
end
section
variable {X : Cx} {cm : Str → Option Addr}
theorem mi_append : MtR X "list.append" (rVm X.K cm appendV) := by
  intro pins s σ H x vs v us Q I rx rv h
  obtain ⟨W, o, ds, st, d, st', sr, ro, rd, he, q⟩ := h
  unfold appendV at he
  split at he
  · split at he
    · rename_i e1
      obtain ⟨hl, he⟩ := need_ok he
      cases he
      obtain ⟨y, rfl, ry⟩ := rd.one_inv
      obtain ⟨a, ws, rfl, hi, t, l, hH⟩ := sr.lstAt ro e1
      refine mt_append pins s σ H _ _ v us Q I rx rv ⟨a, ws, y, rfl, rfl, hH, by rw [← t.length]; exact hl, ?_⟩
      refine q W _ _ (.refl W) (sr.set e1 (fun z => nomatch z) hi ⟨_, upd_same, ?_, t.append (.one ry)⟩) .non
      rw [List.length_append]
      exact hl
    · cases he
  · cases he
theorem mi_extend : MtR X "list.extend" (rVm X.K cm extendV) := by
  intro pins s σ H x vs v us Q I rx rv h
  obtain ⟨W, o, ds, st, d, st', sr, ro, rd, he, q⟩ := h
  unfold extendV at he
  split at he
  · split at he
    · rename_i e1 e2
      obtain ⟨hl, he⟩ := need_ok he
      cases he
      obtain ⟨y, rfl, ry⟩ := rd.one_inv
      obtain ⟨a, ws, rfl, hi, t, l, hH⟩ := sr.lstAt ro e1
      obtain ⟨b, zs, rfl, t2, l2, hH2⟩ := ry.lstL sr e2
      refine mt_extend pins s σ H _ _ v us Q I rx rv ⟨a, b, ws, zs, rfl, rfl, hH, hH2, by rw [← t.length, ← t2.length]; exact hl, ?_⟩
      refine q W _ _ (.refl W) (sr.set e1 (fun z => nomatch z) hi ⟨_, upd_same, ?_, t.append t2⟩) .non
      rw [List.length_append]
      exact hl
    · cases he
  · cases he
theorem mi_insert : MtR X "list.insert" (rVm X.K cm insertV) := by
  intro pins s σ H x vs v us Q I rx rv h
  obtain ⟨W, o, ds, st, d, st', sr, ro, rd, he, q⟩ := h
  unfold insertV at he
  split at he
  · split at he
    · rename_i e1
      obtain ⟨⟨hl, h0, h1⟩, he⟩ := need_ok he
      cases he
      obtain ⟨i, y, rfl, ri, ry⟩ := rd.two_inv
      cases ri
      obtain ⟨a, ws, rfl, hi, t, l, hH⟩ := sr.lstAt ro e1
      refine mt_insert pins s σ H _ _ v us Q I rx rv ⟨a, ws, _, y, rfl, rfl, hH, by rw [← t.length]; exact hl, h0, by omega, ?_⟩
      refine q W _ _ (.refl W) (sr.set e1 (fun z => nomatch z) hi ⟨_, upd_same, ?_, ((t.take _).append (.one ry)).append (t.drop _)⟩) .non
      rw [List.length_append, List.length_append, List.length_take, List.length_drop, List.length_singleton]
      omega
    · cases he
  · cases he
theorem bmV_nox (b : BM) (o : D) (xs : List D) (st : Sto) : NoX (bmV b o xs st) := by
  cases b <;> dsimp only [bmV]
  case append => unfold appendV; split <;> first | exact .bad | (split <;> first | exact NoX.ok.need | exact .bad)
  case extend => unfold extendV; split <;> first | exact .bad | (split <;> first | exact NoX.ok.need | exact .bad)
  case insert => unfold insertV; split <;> first | exact .bad | (split <;> first | exact NoX.ok.need | exact .bad)
  all_goals exact .bad
end
end PI

/-! PI, part F: where a def's body stands; the readings; expressions. -/
namespace PI
open PySem PySem.Spec PyProof.Rows L2

/-! ### what defs keep -/
structure FnG (P : Program) (w : World) (K : PySem.W.Frag) (mg : Str → Option Value) (base : Heap) (k : Nat) (f : Addr) (fd : FuncData) (ps : List Str) (sp : Sp) : Prop where
  run : ∀ (A : Around) (outer : List PySem.Env) (s : Shared) (H : Hp) (args : Args) (us : List Value) (vs : List V) (Q : VK) (E : XK), Room k A → A.guards = some [] → Env0 P w K mg base A outer s H → BindsTo s fd args (ps.zip us) → Vals vs us →
    vs.length = ps.length → sp vs H Q E → codeAny (model P w) A (.call (.ref f) args) (CR (L2.CX P w) outer P w H s Q E) s
def W0 : Wd := ⟨[], fun _ => none, fun _ => none⟩
theorem W0.le (W : Wd) : W0.leD W := ⟨⟨W.io, rfl⟩, fun _ _ h => nomatch h⟩
def spG (K : PySem.W.Frag) (cm : Str → Option Addr) (f : List D → Sto → Out D) : Sp := fun vs H Q E => ∃ W st ds, DRs K W ds vs ∧ SR K cm W st H ∧ Post K cm W (f ds st) (fun W' d _ H' => ∀ v, DR K W' d v → Q v H') E
structure ClAt (P : Program) (w : World) (K : PySem.W.Frag) (mg : Str → Option Value) (base : Heap) (cm : Str → Option Addr) (G : Gm) (k : Nat) (f : Str) (fa : Addr) (fd : FuncData) (ps : List Str) : Prop where
  gl : mg f = some (.ref fa)
  kp : PySem.W.keepIn K (.ref fa) = true
  ok : FnG P w K mg base k fa fd ps (spG K cm (G.cl f))
  len : ∀ ds st, G.cl f ds st ≠ .bad → ds.length = ps.length
  bind : ∀ m, ∃ vs us, DRs K W0 (G.fill f m) vs ∧ Vals vs us ∧ ∀ (s : Shared) (as : List Value), K.In s.heap → as.length = m → (as ++ us).length = ps.length → BindsTo s fd ⟨as, []⟩ (ps.zip (as ++ us))
structure GOk (P : Program) (w : World) (K : PySem.W.Frag) (mg : Str → Option Value) (base : Heap) (cm : Str → Option Addr) (G : Gm) (k : Nat) : Prop where
  gl : ∀ x d, G.gl x = some d → ∃ u v, mg x = some u ∧ RelV v u ∧ DR K W0 d v
  cl : ∀ f ∈ G.fns, ∃ fa fd ps, ClAt P w K mg base cm G k f fa fd ps
  bl : ∀ x ∈ (["len", "range", "tuple", "int", "isinstance", "abs", "enumerate", "list", "zip", "all", "sum", "repr", "min", "any", "str", "max", "bool"] : List Str), mg x = none

/-! ### the context -/
structure CtxOk (X : Cx) (cm : Str → Option Addr) (G : Gm) (N : List Str) (sc : Scope) (Wx : WX) : Prop where
  XN : X.N = N
  nd : N.Nodup
  vis : ∀ x, Vis sc x → Vis X.env.scope x
  loc : ∀ x, Loc sc x → Loc X.env.scope x ∧ (X.fn x = true ∨ X.env.scope.names.lookup x = some .local)
  cf : ∀ x, (sc.names.lookup x = some .cell ∨ sc.names.lookup x = some .free) → X.env.scope.names.lookup x = some .cell ∨ X.env.scope.names.lookup x = some .free
  gl : ∀ x, sc.names.lookup x = some .globalImplicit → Gl X x
  calm : X.calm = true
  gd : X.A.guards = some []
  st : ∃ k, Room k X.A ∧ GOk X.prog X.w X.K X.mg X.base cm G k
  tk : Takes X Wx
theorem CtxOk.un {X : Cx} {cm : Str → Option Addr} {G : Gm} {N : List Str} {sc : Scope} {Wx : WX} (C : CtxOk X cm G N sc Wx) : X.A.units + 64 < cLine := let ⟨_, r, _⟩ := C.st; r.units
theorem CtxOk.bl {X : Cx} {cm : Str → Option Addr} {G : Gm} {N : List Str} {sc : Scope} {Wx : WX} (C : CtxOk X cm G N sc Wx) : ∀ x ∈ (["len", "range", "tuple", "int", "isinstance", "abs", "enumerate", "list", "zip", "all", "sum", "repr", "min", "any", "str", "max", "bool"] : List Str), X.mg x = none := let ⟨_, _, g⟩ := C.st; g.bl

/-! ### readings -/
section
variable (K : PySem.W.Frag) (cm : Str → Option Addr) (G : Gm) (Wx : WX)
def RE (e : E) : TE := fun σ H Q => ∃ W en st, ER K W en σ ∧ SR K cm W st H ∧ Post K cm W (evalE G e en st) (fun W' d _ H' => ∀ v, DR K W' d v → Q v H') fun c d H' => Wx c d σ H'
def RT (e : E) : TT := fun σ H Q => ∃ W en st, ER K W en σ ∧ SR K cm W st H ∧ Post K cm W (evalT G e en st) (fun _ b _ H' => Q b H') fun c d H' => Wx c d σ H'
def RA (es : List E) : TA := fun σ H Q => ∃ W en st, ER K W en σ ∧ SR K cm W st H ∧ Post K cm W (evalEs G es en st) (fun W' ds _ H' => ∀ vs, DRs K W' ds vs → Q vs H') fun c d H' => Wx c d σ H'
end
theorem _root_.L2.PE.weak {X : Cx} {e : Expr} {t t' : TE} (h : PE X e t) (k : ∀ σ H Q, t' σ H Q → t σ H Q) : PE X e t' := ⟨fun pins s σ H Q I q => h.run pins s σ H Q I (k σ H Q q)⟩
theorem _root_.L2.PT.weak {X : Cx} {e : Expr} {t t' : TT} (h : PT X e t) (k : ∀ σ H Q, t' σ H Q → t σ H Q) : PT X e t' := ⟨fun pins s σ H Q I q => h.run pins s σ H Q I (k σ H Q q)⟩
theorem _root_.L2.PW.weak {X : Cx} {e : Expr} {t t' : TT} (h : PW X e t) (k : ∀ σ H Q, t' σ H Q → t σ H Q) : PW X e t' := ⟨fun whole pins s σ H Q I q => h.run whole pins s σ H Q I (k σ H Q q)⟩
theorem _root_.L2.PA.weak {X : Cx} {e : List Expr} {t t' : TA} (h : PA X e t) (k : ∀ σ H Q, t' σ H Q → t σ H Q) : PA X e t' := ⟨fun pos pins s σ H Q I q => h.run pos pins s σ H Q I (k σ H Q q)⟩
theorem _root_.L2.PS.weak {X : Cx} {e : Stmt} {t t' : TS} (h : PS X e t) (k : ∀ D σ H, t' D σ H → t D σ H) : PS X e t' := ⟨fun pins s σ H D I q => h.run pins s σ H D I (k D σ H q)⟩
theorem _root_.L2.PSs.weak {X : Cx} {e : List Stmt} {t t' : TS} (h : PSs X e t) (k : ∀ D σ H, t' D σ H → t D σ H) : PSs X e t' := ⟨fun pins s σ H D I q => h.run pins s σ H D I (k D σ H q)⟩

section
variable {X : Cx} {cm : Str → Option Addr} {G : Gm} {N : List Str} {sc : Scope} {Wx : WX}

theorem x_var {i : Nat} {x : Str} {pos : Pos} (C : CtxOk X cm G N sc Wx) (hN : N[i]? = some x) (hv : Vis sc x) (hd : (x == ("__debug__" : Str)) = false) (hcd : (x == ("__classdict__" : Str)) = false) :
    PE X (.Name x pos) (RE X.K cm G Wx (.var i)) := by
  refine (pe_var (i := i) (by rw [C.XN]; exact hN) (C.vis x hv) hd hcd).weak fun σ H Q h => ?_
  obtain ⟨W, en, st, er, sr, p⟩ := h
  simp only [evalE] at p
  split at p
  · rename_i d e
    obtain ⟨v, h1, h2⟩ := er.get i d e
    exact ⟨v, h1, p.at sr v h2⟩
  · exact p.elim
theorem x_fz {i : Nat} {x : Str} {pos : Pos} (C : CtxOk X cm G N sc Wx) (hN : N[i]? = some x) (hv : Vis sc x) (hd : (x == ("__debug__" : Str)) = false) (hcd : (x == ("__classdict__" : Str)) = false) :
    PE X (.Name x pos) (RE X.K cm G Wx (.fz i)) := by
  refine (pe_var (i := i) (by rw [C.XN]; exact hN) (C.vis x hv) hd hcd).weak fun σ H Q h => ?_
  obtain ⟨W, en, st, er, sr, p⟩ := h
  simp only [evalE] at p
  split at p
  · rename_i n e
    split at p
    · rename_i xs e1
      obtain ⟨v, h1, h2⟩ := er.get i _ e
      obtain ⟨a, vs, rfl, hi, t, l, hH⟩ := sr.lstAt h2 e1
      obtain ⟨le, sr'⟩ := sr.freeze e1 hi hH
      exact ⟨_, h1, p _ _ le sr' _ (.lst (show upd W.F a _ a = _ from upd_same) l (t.mono le))⟩
    · exact p.elim
  · exact p.elim
theorem x_glob {x : Str} {pos : Pos} (C : CtxOk X cm G N sc Wx) (hg : sc.names.lookup x = some .globalImplicit) (hd : (x == ("__debug__" : Str)) = false) : PE X (.Name x pos) (RE X.K cm G Wx (.glob x)) := by
  obtain ⟨k, _, g⟩ := C.st
  cases e : G.gl x with
  | none =>
    refine ⟨fun pins s σ H Q I h => ?_⟩
    obtain ⟨W, en, st, er, sr, p⟩ := h
    simp only [evalE, e] at p
    exact p.elim
  | some d =>
    obtain ⟨u, v, h1, h2, h3⟩ := g.gl x d e
    refine (pe_glob (C.gl x hg) h1 h2 hd).weak fun σ H Q h => ?_
    obtain ⟨W, en, st, er, sr, p⟩ := h
    simp only [evalE, e] at p
    exact p.at sr v (h3.monoD (W0.le W))
theorem x_int {i j pos} : PE X (.Constant (.int i) j pos) (RE X.K cm G Wx (.int i)) := pe_int.weak fun σ H Q h => by
  obtain ⟨W, en, st, er, sr, p⟩ := h
  simp only [evalE] at p
  exact p.at sr _ (.int i)
theorem x_bl {i j pos} : PE X (.Constant (.bool i) j pos) (RE X.K cm G Wx (.bl i)) := pe_bl.weak fun σ H Q h => by
  obtain ⟨W, en, st, er, sr, p⟩ := h
  simp only [evalE] at p
  exact p.at sr _ (.bl i)
theorem x_non {j pos} : PE X (.Constant .none j pos) (RE X.K cm G Wx .non) := pe_non.weak fun σ H Q h => by
  obtain ⟨W, en, st, er, sr, p⟩ := h
  simp only [evalE] at p
  exact p.at sr _ .non
theorem x_str {i j pos} (hl : i.length ≤ 1000) : PE X (.Constant (.str i) j pos) (RE X.K cm G Wx (.str i)) := pe_str.weak fun σ H Q h => by
  obtain ⟨W, en, st, er, sr, p⟩ := h
  simp only [evalE] at p
  exact p.at sr _ (.str i (Nat.le_trans hl (by rw [sizeLine_eq]; decide)))
/-- what is known of an evaluation's outcome -/
theorem Post.with {K : PySem.W.Frag} {cm : Str → Option Addr} {α : Type} {W : Wd} {o : Out α} {Q : Wd → α → Sto → Hp → Prop} {E : XK} (h : Post K cm W o Q E) : Post K cm W o (fun W' a st H => o = .ok a st ∧ Q W' a st H) E := by
  cases o with
  | ok a st => exact fun W' H le s => ⟨rfl, h W' H le s⟩
  | exc => exact h
  | bad => exact h
/-- two parts, one behind another -/
theorem RE.bin {a b : E} {σ : L2.St} {H : Hp} {α : Type} {f : D → D → Sto → Out α} {Z : Wd → α → Sto → Hp → Prop} {W : Wd} {en : Ev} {st : Sto} {k : V → V → Hp → Prop}
    (er : ER X.K W en σ) (sr : SR X.K cm W st H) (p : Post X.K cm W ((evalE G a en st).bind fun x s1 => (evalE G b en s1).bind fun y s2 => f x y s2) Z fun c d H' => Wx c d σ H')
    (h : ∀ W2 d1 d2 s2 v1 v2 H2, W.le W2 → SR X.K cm W2 s2 H2 → DR X.K W2 d1 v1 → DR X.K W2 d2 v2 → Post X.K cm W2 (f d1 d2 s2) Z (fun c d H' => Wx c d σ H') → k v1 v2 H2) :
    RE X.K cm G Wx a σ H fun v1 H1 => RE X.K cm G Wx b σ H1 fun v2 H2 => k v1 v2 H2 :=
  ⟨W, en, st, er, sr, p.bind.imp fun W1 d1 s1 H1 le1 sr1 p1 v1 r1 => ⟨W1, en, s1, er.mono le1, sr1, p1.bind.imp fun W2 d2 s2 H2 le2 sr2 p2 v2 r2 => h W2 d1 d2 s2 v1 v2 H2 (le1.trans le2) sr2 (r1.mono le2) r2 p2⟩⟩
theorem x_bin {m : Bool} {op : Operator} {a b : Expr} {a' b' : E} {pos : Pos} (ha : PE X a (RE X.K cm G Wx a')) (hb : PE X b (RE X.K cm G Wx b')) : PE X (.BinOp a op b pos) (RE X.K cm G Wx (.bin m op a' b')) := by
  refine (pe_op (op_binP (cm := cm) m op) ha hb).weak fun σ H Q h => ?_
  obtain ⟨W, en, st, er, sr, p⟩ := h
  simp only [evalE] at p
  refine RE.bin er sr p fun W2 d1 d2 s2 v1 v2 H2 le sr2 r1 r2 p2 => ?_
  obtain ⟨d, st', e, q⟩ := p2.ok_of (binV_nox _ _ _ _ _)
  exact ⟨W2, d1, d2, s2, d, st', sr2, r1, r2, e, fun W' v H' le' s' r' => q W' H' le' s' v r'⟩
theorem x_neg {a : Expr} {a' : E} {pos : Pos} (ha : PE X a (RE X.K cm G Wx a')) : PE X (.UnaryOp .USub a pos) (RE X.K cm G Wx (.neg a')) := by
  refine (pe_un un_neg ha).weak fun σ H Q h => ?_
  obtain ⟨W, en, st, er, sr, p⟩ := h
  simp only [evalE] at p
  refine ⟨W, en, st, er, sr, p.bind.imp fun W1 d1 s1 H1 le1 sr1 p1 v1 r1 => ?_⟩
  split at p1
  · cases r1
    exact ⟨_, rfl, p1.at sr1 _ (.int _)⟩
  · exact p1.elim
theorem x_cmp {op : CmpOp} {a b : Expr} {a' b' : E} {pos : Pos} (C : CtxOk X cm G N sc Wx) (hm : behindInMarks op b = false) (ha : PE X a (RE X.K cm G Wx a')) (hb : PE X b (RE X.K cm G Wx b')) :
    PE X (.Compare a [op] [b] pos) (RE X.K cm G Wx (.cmp op a' b')) := by
  refine (pe_cmpR (op_cmpP (cm := cm) C.un op) ha hb hm).weak fun σ H Q h => ?_
  obtain ⟨W, en, st, er, sr, p⟩ := h
  simp only [evalE] at p
  refine RE.bin er sr p fun W2 d1 d2 s2 v1 v2 H2 le sr2 r1 r2 p2 => ?_
  obtain ⟨d, st', e, q⟩ := p2.bind.ok_of (cmpV_nox _ _ _ _)
  exact ⟨W2, d1, d2, s2, d, st', sr2, r1, r2, e, fun W' H' le' s' => (q W' H' le' s').at s' _ (.bl d)⟩
theorem evalT_cmp (G : Gm) (op : CmpOp) (a b : E) (en : Ev) (st : Sto) : evalT G (.cmp op a b) en st = (evalE G a en st).bind fun x s1 => (evalE G b en s1).bind fun y s2 => cmpV op x y s2 := by
  simp only [evalT, evalE, Out.bind_assoc]
  congr 1; funext x s1; congr 1; funext y s2
  cases cmpV op x y s2 <;> rfl
theorem y_cmp {op : CmpOp} {a b : Expr} {a' b' : E} {pos : Pos} (C : CtxOk X cm G N sc Wx) (hm : behindInMarks op b = false) (ha : PE X a (RE X.K cm G Wx a')) (hb : PE X b (RE X.K cm G Wx b')) :
    PT X (.Compare a [op] [b] pos) (RT X.K cm G Wx (.cmp op a' b')) := by
  refine (pt_cmpR (op_cmpP (cm := cm) C.un op) ha hb hm).weak fun σ H Q h => ?_
  obtain ⟨W, en, st, er, sr, p⟩ := h
  rw [evalT_cmp] at p
  refine RE.bin er sr p fun W2 d1 d2 s2 v1 v2 H2 le sr2 r1 r2 p2 => ?_
  obtain ⟨d, st', e, q⟩ := p2.ok_of (cmpV_nox _ _ _ _)
  exact ⟨W2, d1, d2, s2, d, st', sr2, r1, r2, e, fun W' H' le' s' => ⟨d, rfl, q W' H' le' s'⟩⟩
theorem x_chain {o1 o2 : CmpOp} {a b c : Expr} {a' b' c' : E} {pos : Pos} (C : CtxOk X cm G N sc Wx) (hm : lastMarks [o1, o2] [b, c] = false) (ha : PE X a (RE X.K cm G Wx a')) (hb : PE X b (RE X.K cm G Wx b')) (hc : PE X c (RE X.K cm G Wx c')) :
    PE X (.Compare a [o1, o2] [b, c] pos) (RE X.K cm G Wx (.chain o1 o2 a' b' c')) := by
  refine (pe_chain (op_cmpP (cm := cm) C.un o1) (op_cmpP (cm := cm) C.un o2) ha hb hc hm).weak fun σ H Q h => ?_
  obtain ⟨W, en, st, er, sr, p⟩ := h
  simp only [evalE] at p
  refine ⟨W, en, st, er, sr, p.bind.imp fun W1 d1 s1 H1 le1 sr1 p1 v1 r1 => ⟨W1, en, s1, er.mono le1, sr1, p1.bind.imp fun W2 d2 s2 H2 le2 sr2 p2 v2 r2 => ?_⟩⟩
  obtain ⟨d, st', e, q⟩ := p2.bind.ok_of (cmpV_nox _ _ _ _)
  refine ⟨W2, d1, d2, s2, d, st', sr2, r1.mono le2, r2, e, fun W3 H3 le3 s3 => ⟨d, rfl, ?_⟩⟩
  have q3 := q W3 H3 le3 s3
  cases d with
  | false => exact iteF (q3.at s3 _ (.bl false))
  | true =>
    refine iteT ⟨W3, en, st', ((er.mono le1).mono le2).mono le3, s3, q3.bind.imp fun W4 d4 s4 H4 le4 sr4 p4 v4 r4 => ?_⟩
    obtain ⟨d', st5, e', q'⟩ := p4.bind.ok_of (cmpV_nox _ _ _ _)
    exact ⟨W4, d2, d4, s4, d', st5, sr4, (r2.mono le3).mono le4, r4, e', fun W' H' le' s' => (q' W' H' le' s').at s' _ (.bl d')⟩
/-- the whole chain as a test -/
theorem y_val {e : Expr} {e' : E} (he : PE X e (RE X.K cm G Wx e')) (hp : ∀ whole, isTrue e X.env whole = (do let v ← whole; standAt e.pos; holding [v] (truthy v))) : PT X e (RT X.K cm G Wx e') := by
  refine (pt_truth he hp).weak fun σ H Q h => ?_
  obtain ⟨W, en, st, er, sr, p⟩ := h
  refine ⟨W, en, st, er, sr, p.bind.imp fun W1 d1 s1 H1 le1 sr1 p1 v1 r1 => ?_⟩
  split at p1
  · rename_i b e
    exact ⟨b, r1.truth sr1 e, p1.at sr1⟩
  · exact p1.elim
theorem y_chain {o1 o2 : CmpOp} {a b c : Expr} {a' b' c' : E} {pos : Pos} (C : CtxOk X cm G N sc Wx) (hm : lastMarks [o1, o2] [b, c] = false) (ha : PE X a (RE X.K cm G Wx a')) (hb : PE X b (RE X.K cm G Wx b')) (hc : PE X c (RE X.K cm G Wx c')) :
    PT X (.Compare a [o1, o2] [b, c] pos) (RT X.K cm G Wx (.chain o1 o2 a' b' c')) := by
  refine (pt_chain (op_cmpP (cm := cm) C.un o1) (op_cmpP (cm := cm) C.un o2) ha hb hc hm).weak fun σ H Q h => ?_
  obtain ⟨W, en, st, er, sr, p⟩ := h
  simp only [evalT, evalE, Out.bind_assoc] at p
  refine ⟨W, en, st, er, sr, p.bind.imp fun W1 d1 s1 H1 le1 sr1 p1 v1 r1 => ⟨W1, en, s1, er.mono le1, sr1, p1.bind.imp fun W2 d2 s2 H2 le2 sr2 p2 v2 r2 => ?_⟩⟩
  obtain ⟨d, st', e, q⟩ := p2.bind.ok_of (cmpV_nox _ _ _ _)
  refine ⟨W2, d1, d2, s2, d, st', sr2, r1.mono le2, r2, e, fun W3 H3 le3 s3 => ⟨d, rfl, ?_⟩⟩
  have q3 := q W3 H3 le3 s3
  cases d with
  | false => exact iteF ⟨false, rfl, q3.at s3⟩
  | true =>
    simp only [Out.bind_assoc] at q3
    refine iteT ⟨W3, en, st', ((er.mono le1).mono le2).mono le3, s3, q3.bind.imp fun W4 d4 s4 H4 le4 sr4 p4 v4 r4 => ?_⟩
    obtain ⟨d', st5, e', q'⟩ := p4.bind.ok_of (cmpV_nox _ _ _ _)
    exact ⟨W4, d2, d4, s4, d', st5, sr4, (r2.mono le3).mono le4, r4, e', fun W' H' le' s' => ⟨d', rfl, (q' W' H' le' s').at s'⟩⟩

/-! ### and, or, not, if -/
theorem x_not {a : Expr} {a' : E} {pos : Pos} (ha : PE X a (RE X.K cm G Wx a')) : PE X (.UnaryOp .Not a pos) (RE X.K cm G Wx (.not a')) := by
  refine (pe_notT ha).weak fun σ H Q h => ?_
  obtain ⟨W, en, st, er, sr, p⟩ := h
  simp only [evalE] at p
  refine ⟨W, en, st, er, sr, p.bind.imp fun W1 d1 s1 H1 le1 sr1 p1 v1 r1 => ?_⟩
  split at p1
  · rename_i b e
    exact ⟨b, r1.truth sr1 e, p1.at sr1 _ (.bl _)⟩
  · exact p1.elim
theorem evalT_not (G : Gm) (a : E) (en : Ev) (st : Sto) : evalT G (.not a) en st = (evalT G a en st).bind fun t s1 => .ok (!t) s1 := by
  simp only [evalT, evalE, Out.bind_assoc]
  congr 1; funext x s1
  cases truthD s1 x <;> rfl
theorem evalT_and (G : Gm) (a b : E) (en : Ev) (st : Sto) : evalT G (.and a b) en st = (evalT G a en st).bind fun t s1 => if t then evalT G b en s1 else .ok false s1 := by
  simp only [evalT, evalE, Out.bind_assoc]
  congr 1; funext x s1
  cases h : truthD s1 x with
  | none => rfl
  | some t => cases t <;> simp [h]
theorem evalT_or (G : Gm) (a b : E) (en : Ev) (st : Sto) : evalT G (.or a b) en st = (evalT G a en st).bind fun t s1 => if t then .ok true s1 else evalT G b en s1 := by
  simp only [evalT, evalE, Out.bind_assoc]
  congr 1; funext x s1
  cases h : truthD s1 x with
  | none => rfl
  | some t => cases t <;> simp [h]
theorem y_not {a : Expr} {a' : E} {pos : Pos} (ha : PT X a (RT X.K cm G Wx a')) : PT X (.UnaryOp .Not a pos) (RT X.K cm G Wx (.not a')) := by
  refine (pt_not ha).weak fun σ H Q h => ?_
  obtain ⟨W, en, st, er, sr, p⟩ := h
  rw [evalT_not] at p
  exact ⟨W, en, st, er, sr, p.bind.imp fun W1 d1 s1 H1 le1 sr1 p1 => p1.at sr1⟩
theorem w_and1 {a : Expr} {a' : E} {pos : Pos} (ha : PT X a (RT X.K cm G Wx a')) : PW X (.BoolOp .And [a] pos) (RT X.K cm G Wx a') := pw_and1 ha
theorem w_or1 {a : Expr} {a' : E} {pos : Pos} (ha : PT X a (RT X.K cm G Wx a')) : PW X (.BoolOp .Or [a] pos) (RT X.K cm G Wx a') := pw_or1 ha
theorem w_and {a b : Expr} {rest : List Expr} {a' b' : E} {pos : Pos} (ha : PT X a (RT X.K cm G Wx a')) (hb : PW X (.BoolOp .And (b :: rest) pos) (RT X.K cm G Wx b')) : PW X (.BoolOp .And (a :: b :: rest) pos) (RT X.K cm G Wx (.and a' b')) := by
  refine (pw_and ha hb).weak fun σ H Q h => ?_
  obtain ⟨W, en, st, er, sr, p⟩ := h
  rw [evalT_and] at p
  refine ⟨W, en, st, er, sr, p.bind.imp fun W1 d1 s1 H1 le1 sr1 p1 => ?_⟩
  cases d1 with
  | false => exact iteF (p1.at sr1)
  | true => exact iteT ⟨W1, en, s1, er.mono le1, sr1, p1⟩
theorem w_or {a b : Expr} {rest : List Expr} {a' b' : E} {pos : Pos} (ha : PT X a (RT X.K cm G Wx a')) (hb : PW X (.BoolOp .Or (b :: rest) pos) (RT X.K cm G Wx b')) : PW X (.BoolOp .Or (a :: b :: rest) pos) (RT X.K cm G Wx (.or a' b')) := by
  refine (pw_or ha hb).weak fun σ H Q h => ?_
  obtain ⟨W, en, st, er, sr, p⟩ := h
  rw [evalT_or] at p
  refine ⟨W, en, st, er, sr, p.bind.imp fun W1 d1 s1 H1 le1 sr1 p1 => ?_⟩
  cases d1 with
  | true => exact iteT (p1.at sr1)
  | false => exact iteF ⟨W1, en, s1, er.mono le1, sr1, p1⟩
theorem x_one {a : Expr} {op : BoolOp} {a' : E} {pos : Pos} (ha : PE X a (RE X.K cm G Wx a')) : PE X (.BoolOp op [a] pos) (RE X.K cm G Wx a') := pe_one ha
theorem x_and {a b : Expr} {rest : List Expr} {a' b' : E} {pos : Pos} (ha : PE X a (RE X.K cm G Wx a')) (hb : PE X (.BoolOp .And (b :: rest) pos) (RE X.K cm G Wx b')) : PE X (.BoolOp .And (a :: b :: rest) pos) (RE X.K cm G Wx (.and a' b')) := by
  refine (pe_andT ha hb).weak fun σ H Q h => ?_
  obtain ⟨W, en, st, er, sr, p⟩ := h
  simp only [evalE] at p
  refine ⟨W, en, st, er, sr, p.bind.imp fun W1 d1 s1 H1 le1 sr1 p1 v1 r1 => ?_⟩
  split at p1
  · rename_i e
    exact ⟨true, r1.truth sr1 e, iteT ⟨W1, en, s1, er.mono le1, sr1, p1⟩⟩
  · rename_i e
    exact ⟨false, r1.truth sr1 e, iteF (p1.at sr1 _ r1)⟩
  · exact p1.elim
theorem x_or {a b : Expr} {rest : List Expr} {a' b' : E} {pos : Pos} (ha : PE X a (RE X.K cm G Wx a')) (hb : PE X (.BoolOp .Or (b :: rest) pos) (RE X.K cm G Wx b')) : PE X (.BoolOp .Or (a :: b :: rest) pos) (RE X.K cm G Wx (.or a' b')) := by
  refine (pe_orT ha hb).weak fun σ H Q h => ?_
  obtain ⟨W, en, st, er, sr, p⟩ := h
  simp only [evalE] at p
  refine ⟨W, en, st, er, sr, p.bind.imp fun W1 d1 s1 H1 le1 sr1 p1 v1 r1 => ?_⟩
  split at p1
  · rename_i e
    exact ⟨true, r1.truth sr1 e, iteT (p1.at sr1 _ r1)⟩
  · rename_i e
    exact ⟨false, r1.truth sr1 e, iteF ⟨W1, en, s1, er.mono le1, sr1, p1⟩⟩
  · exact p1.elim
theorem evalE_ite (G : Gm) (c a b : E) (en : Ev) (st : Sto) : evalE G (.ite c a b) en st = (evalT G c en st).bind fun t s1 => if t then evalE G a en s1 else evalE G b en s1 := by
  simp only [evalT, evalE, Out.bind_assoc]
  congr 1; funext x s1
  cases h : truthD s1 x with
  | none => rfl
  | some t => cases t <;> rfl
theorem x_ite {c a b : Expr} {c' a' b' : E} {pos : Pos} (hc : PT X c (RT X.K cm G Wx c')) (ha : PE X a (RE X.K cm G Wx a')) (hb : PE X b (RE X.K cm G Wx b')) : PE X (.IfExp c a b pos) (RE X.K cm G Wx (.ite c' a' b')) := by
  refine (pe_ifExp hc ha hb).weak fun σ H Q h => ?_
  obtain ⟨W, en, st, er, sr, p⟩ := h
  rw [evalE_ite] at p
  refine ⟨W, en, st, er, sr, p.bind.imp fun W1 d1 s1 H1 le1 sr1 p1 => ?_⟩
  cases d1 with
  | true => exact iteT ⟨W1, en, s1, er.mono le1, sr1, p1⟩
  | false => exact iteF ⟨W1, en, s1, er.mono le1, sr1, p1⟩

/-! ### subscripts, displays -/
theorem x_ix {a b : Expr} {a' b' : E} {pos : Pos} (ha : PE X a (RE X.K cm G Wx a')) (hb : PE X b (RE X.K cm G Wx b')) (hp : PlainIx b) : PE X (.Subscript a b pos) (RE X.K cm G Wx (.ix a' b')) := by
  refine (pe_ix (ix_P (cm := cm)) ha hb hp).weak fun σ H Q h => ?_
  obtain ⟨W, en, st, er, sr, p⟩ := h
  simp only [evalE] at p
  refine RE.bin er sr p fun W2 d1 d2 s2 v1 v2 H2 le sr2 r1 r2 p2 => ?_
  obtain ⟨d, st', e, q⟩ := p2.ok_of (ixV_nox _ _ _)
  exact ⟨W2, d1, d2, s2, d, st', sr2, r1, r2, e, fun W' v H' le' s' r' => q W' H' le' s' v r'⟩
/-- a slice's part -/
def RO (K : PySem.W.Frag) (cm : Str → Option Addr) (G : Gm) (Wx : WX) (e : E) : TO := fun σ H Q => ∃ W en st, ER K W en σ ∧ SR K cm W st H ∧ Post K cm W (evalE G e en st) (fun W' d st' H' => ∀ o, partV e d = some o → Q o H') (fun c d H' => Wx c d σ H') ∧ ∀ d st', evalE G e en st = .ok d st' → ∃ o, partV e d = some o
theorem o_none : PO X none (RO X.K cm G Wx .gap) := by
  have h0 : PO X none tNoPart := po_none
  refine ⟨fun pins s σ H Q I h => h0.run pins s σ H Q I ?_⟩
  obtain ⟨W, en, st, er, sr, p, _⟩ := h
  simp only [evalE] at p
  exact p.at sr none (by simp [partV])
theorem o_some {a : Expr} {a' : E} (ha : PE X a (RE X.K cm G Wx a')) (ho : ∀ d, partV a' d = match d with | .int i => some (some i) | _ => none) : PO X (some a) (RO X.K cm G Wx a') := by
  have h0 := po_some ha
  refine ⟨fun pins s σ H Q I h => h0.run pins s σ H Q I ?_⟩
  obtain ⟨W, en, st, er, sr, p, pe⟩ := h
  refine ⟨W, en, st, er, sr, (Post.with p).imp fun W1 d1 s1 H1 le1 sr1 ⟨e1, p1⟩ v1 r1 => ?_⟩
  obtain ⟨o, eo⟩ := pe _ _ e1
  have q := p1 o eo
  rw [ho] at eo
  cases r1 with
  | int i => cases eo; exact ⟨i, rfl, q⟩
  | _ => cases eo
theorem x_slice {m : Bool} {a : Expr} {lo hi : Option Expr} {a' lo' hi' : E} {p2 pos : Pos} (ha : PE X a (RE X.K cm G Wx a')) (hl : PO X lo (RO X.K cm G Wx lo')) (hh : PO X hi (RO X.K cm G Wx hi')) :
    PE X (.Subscript a (.Slice lo hi none p2) pos) (RE X.K cm G Wx (.slice m a' lo' hi')) := by
  refine (pe_slice (sl_P (cm := cm) m) ha hl hh).weak fun σ H Q h => ?_
  obtain ⟨W, en, st, er, sr, p⟩ := h
  simp only [evalE] at p
  refine ⟨W, en, st, er, sr, p.bind.imp fun W1 d1 s1 H1 le1 sr1 p1 v1 r1 => ⟨W1, en, s1, er.mono le1, sr1, p1.bind.imp fun W2 d2 s2 H2 le2 sr2 p2 o2 e2 => ?_, fun d st' e => ?_⟩⟩
  · rw [e2] at p2
    refine ⟨W2, en, s2, (er.mono le1).mono le2, sr2, p2.bind.imp fun W3 d3 s3 H3 le3 sr3 p3 o3 e3 => ?_, fun d st' e => ?_⟩
    · rw [e3] at p3
      obtain ⟨d, st', e, q⟩ := p3.ok_of (sliceV_nox _ _ _ _ _)
      exact ⟨W3, d1, s3, d, st', sr3, (r1.mono le2).mono le3, e, fun W' v H' le' s' r' => q W' H' le' s' v r'⟩
    · rw [e] at p2
      simp only [Out.bind_ok] at p2
      split at p2
      · exact p2.elim
      · exact ⟨_, by assumption⟩
  · rw [e] at p1
    simp only [Out.bind_ok] at p1
    split at p1
    · exact p1.elim
    · exact ⟨_, by assumption⟩
theorem evalEs_length {G : Gm} : ∀ {es : List E} {en : Ev} {st st' : Sto} {ds : List D}, evalEs G es en st = .ok ds st' → ds.length = es.length
  | [], _, _, _, _, h => by
    simp only [evalEs] at h
    cases h
    rfl
  | e :: es, en, st, st', ds, h => by
    simp only [evalEs] at h
    cases h1 : evalE G e en st with
    | ok d s1 =>
      rw [h1] at h
      simp only [Out.bind_ok] at h
      cases h2 : evalEs G es en s1 with
      | ok ds2 s2 =>
        rw [h2] at h
        simp only [Out.bind_ok] at h
        cases h
        rw [List.length_cons, List.length_cons, evalEs_length h2]
      | exc => rw [h2] at h; cases h
      | bad => rw [h2] at h; cases h
    | exc => rw [h1] at h; cases h
    | bad => rw [h1] at h; cases h
theorem a_nil : PA X [] (RA X.K cm G Wx []) := pa_nil.weak fun σ H Q h => by
  obtain ⟨W, en, st, er, sr, p⟩ := h
  simp only [evalEs] at p
  exact p.at sr _ .nil
theorem a_cons {e : Expr} {es : List Expr} {e' : E} {es' : List E} (he : PE X e (RE X.K cm G Wx e')) (hs : starEach (e :: es) X.env = (false, eval e X.env) :: starEach es X.env) (hes : PA X es (RA X.K cm G Wx es')) : PA X (e :: es) (RA X.K cm G Wx (e' :: es')) := by
  refine (pa_cons he hes hs).weak fun σ H Q h => ?_
  obtain ⟨W, en, st, er, sr, p⟩ := h
  simp only [evalEs] at p
  refine ⟨W, en, st, er, sr, p.bind.imp fun W1 d1 s1 H1 le1 sr1 p1 v1 r1 => ⟨W1, en, s1, er.mono le1, sr1, p1.bind.imp fun W2 d2 s2 H2 le2 sr2 p2 v2 r2 => ?_⟩⟩
  exact p2.at sr2 _ (.cons (r1.mono le2) r2)
theorem small {n : Nat} (h : n ≤ 1000) : n ≤ sizeLine := Nat.le_trans h (by rw [sizeLine_eq]; decide)
theorem x_tup {es : List Expr} {es' : List E} {k : Nat} {pos : Pos} (hl : es'.length ≤ 1000) (h : PA X es (RA X.K cm G Wx es')) : PE X (.Tuple es k pos) (RE X.K cm G Wx (.tup es')) := by
  refine (pe_tup h).weak fun σ H Q h => ?_
  obtain ⟨W, en, st, er, sr, p⟩ := h
  simp only [evalE] at p
  refine ⟨W, en, st, er, sr, p.bind.with.imp fun W1 d1 s1 H1 le1 sr1 ⟨e1, p1⟩ v1 r1 => ?_⟩
  have hd : d1.length ≤ sizeLine := small (by rw [evalEs_length e1]; exact hl)
  refine ⟨by rw [← r1.length]; exact hd, fun a ha => ?_⟩
  obtain ⟨W', le, s', r'⟩ := sr1.newTup r1 hd ha
  exact p1 W' _ le s' _ r'
theorem x_lst {m : Bool} {es : List Expr} {es' : List E} {pos : Pos} (hl : es'.length ≤ 1000) (h : PA X es (RA X.K cm G Wx es')) : PE X (.List es pos) (RE X.K cm G Wx (.lst m es')) := by
  refine (pe_lst h).weak fun σ H Q h => ?_
  obtain ⟨W, en, st, er, sr, p⟩ := h
  simp only [evalE] at p
  refine ⟨W, en, st, er, sr, p.bind.with.imp fun W1 d1 s1 H1 le1 sr1 ⟨e1, p1⟩ v1 r1 => ?_⟩
  have hd : d1.length ≤ sizeLine := small (by rw [evalEs_length e1]; exact hl)
  refine ⟨by rw [← r1.length]; exact hd, fun a ha => ?_⟩
  obtain ⟨d, st', e, q⟩ := p1.ok_of NoX.newL
  obtain ⟨W', le, s', r'⟩ := sr1.newList e r1 hd ha
  exact q W' _ le s' _ r'
end
end PI

/-! PI, part G: calls, iterables, comprehensions. -/
namespace PI
open PySem PySem.Spec PyProof.Rows L2
section
variable {X : Cx} {cm : Str → Option Addr} {G : Gm} {N : List Str} {sc : Scope} {Wx : WX}

/-! ### the form of arguments -/
def noStar : Expr → Bool
  | .Starred _ _ => false
  | _ => true
theorem star_cons {e : Expr} {es : List Expr} {env : PySem.Env} (h : noStar e = true) : starEach (e :: es) env = (false, eval e env) :: starEach es env := by
  cases e <;> first | rfl | cases h
theorem star_any {env : PySem.Env} {pos : Pos} : ∀ {es : List Expr}, es.all noStar = true → (backTo pos (starEach es env)).any (·.1) = false
  | [], _ => rfl
  | e :: es, h => by
    rw [List.all_cons, Bool.and_eq_true] at h
    rw [star_cons h.1]
    show (false || (backTo pos (starEach es env)).any (·.1)) = false
    rw [star_any h.2]
    rfl
theorem star_len {env : PySem.Env} : ∀ {es : List Expr}, es.all noStar = true → (starEach es env).length = es.length
  | [], _ => rfl
  | e :: es, h => by
    rw [List.all_cons, Bool.and_eq_true] at h
    rw [star_cons h.1, List.length_cons, List.length_cons, star_len h.2]
theorem star_all {env : PySem.Env} {pos : Pos} : ∀ {es : List Expr}, es.all noStar = true → (backTo pos (starEach es env)).all (fun x => !x.1) = true
  | [], _ => rfl
  | e :: es, h => by
    rw [List.all_cons, Bool.and_eq_true] at h
    rw [star_cons h.1]
    show (!false && (backTo pos (starEach es env)).all (fun x => !x.1)) = true
    rw [star_all h.2]
    rfl

/-! ### a call of an own def -/
theorem x_call {f : Str} {es : List Expr} {es' : List E} {p pos : Pos} (C : CtxOk X cm G N sc Wx) (hf : f ∈ G.fns) (hg : sc.names.lookup f = some .globalImplicit) (hd : (f == ("__debug__" : Str)) = false)
    (hns : es.all noStar = true) (hl : es.length = es'.length) (ha : PA X es (RA X.K cm G Wx es')) : PE X (.Call (.Name f p) es [] pos) (RE X.K cm G Wx (.call f es')) := by
  obtain ⟨k, hr, g⟩ := C.st
  obtain ⟨fa, fd, ps, A⟩ := g.cl f hf
  refine ⟨fun pins s σ H Q I h => ?_⟩
  obtain ⟨W, en, st, er, sr, p⟩ := h
  simp only [evalE] at p
  obtain ⟨dvs, ds, rd, rv, hb⟩ := A.bind es'.length
  -- what the arguments are to reach
  have hA : RA X.K cm G Wx es' σ H fun vs H1 => vs.length = es'.length ∧ (vs ++ dvs).length = ps.length ∧ spG X.K cm (G.cl f) (vs ++ dvs) H1 Q (fun c d H' => Wx c d σ H') := by
    refine ⟨W, en, st, er, sr, (Post.with p.bind).imp fun W1 d1 s1 H1 le1 sr1 ⟨e1, p1⟩ vs r1 => ?_⟩
    have hn := evalEs_length e1
    rw [hn] at p1
    have r2 : DRs X.K W1 (d1 ++ G.fill f es'.length) (vs ++ dvs) := r1.append (rd.monoD (W0.le W1))
    refine ⟨by rw [← r1.length]; exact hn, ?_, ⟨W1, s1, _, r2, sr1, p1⟩⟩
    rw [← r2.length]
    exact A.len _ s1 (fun z => by rw [z] at p1; exact p1)
  have go : ∀ {us : List Value} {vs : List V} {s1 : Shared} {H1 : Hp}, Inv X pins σ H1 s1 → Vals vs us → vs.length = es'.length → (vs ++ dvs).length = ps.length → spG X.K cm (G.cl f) (vs ++ dvs) H1 Q (fun c d H' => Wx c d σ H') →
      wpAny (model X.prog X.w) X.A (PySem.call (.ref fa) us) (EP X pins σ Q) X.xe s1 := fun {us vs s1 H1} I1 r1 l1 l2 q1 => by
    have r2 : Vals (vs ++ dvs) (us ++ ds) := r1.append rv
    refine wpAny_call (codeAny_mono (A.ok.run X.A X.stack s1 H1 ⟨us, []⟩ (us ++ ds) (vs ++ dvs) Q _ hr C.gd I1.env0 (hb s1 us I1.kIn (r1.length.symm.trans l1) (r2.length.symm.trans l2)) r2 l2 q1) fun r s' hq => ?_)
    cases r with
    | error e => exact C.tk e s' (XE.of_call I1 (fun _ _ _ h => h) hq)
    | ok fl =>
      cases fl with
      | ret u => exact I1.after hq
      | next => exact False.elim hq
      | brk => exact False.elim hq
      | cont => exact False.elim hq
  refine wpAny_Call_Name_kw (ld_glob I (C.gl f hg) A.gl ?_ hd)
  cases es with
  | nil =>
    have e0 : es' = [] := List.length_eq_zero_iff.mp hl.symm
    subst e0
    obtain ⟨W, en, st, er, sr, p⟩ := hA
    simp only [evalEs] at p
    obtain ⟨l1, l2, q1⟩ := p.at sr [] .nil
    exact PySem.W.callWith_K0 I.kIn A.kp (go (us := []) (vs := []) I .nil l1 l2 q1)
  | cons e es =>
    rw [List.all_cons, Bool.and_eq_true] at hns
    refine PySem.W.callWith_K (h₀ := X.base) I.ok.mod.kin A.kp (thn (ha.run pos pins s σ H _ I hA) fun us s1 ⟨vs, H1, I1, r, l1, l2, q1⟩ => ⟨I1.kIn, ?_⟩) (star_cons hns.1) (star_any hns.2)
    exact go I1 r l1 l2 q1

/-! ### built-ins by name -/
theorem x_biB {m : Bool} {b : BI} {x : Str} {id : String} {f : List D → Sto → Out D} {e : Expr} {es : List Expr} {es' : List E} {p pos : Pos} (C : CtxOk X cm G N sc Wx) (hb : ∀ xs st, biV m b xs st = f xs st) (hc : CallR X (.builtin id) (rVs X.K cm f)) (hg : sc.names.lookup x = some .globalImplicit)
    (hm : X.mg x = none) (hv : bootBuiltins x = some (.builtin id)) (hns : (e :: es).all noStar = true) (ha : PA X (e :: es) (RA X.K cm G Wx es')) (hn : x ≠ "__name__") (hd : (x == ("__debug__" : Str)) = false) :
    PE X (.Call (.Name x p) (e :: es) [] pos) (RE X.K cm G Wx (.bi m b es')) := by
  rw [List.all_cons, Bool.and_eq_true] at hns
  refine (pe_callB hc (C.gl x hg) hm hv ha hn hd (star_cons hns.1) (star_any hns.2)).weak fun σ H Q h => ?_
  obtain ⟨W, en, st, er, sr, p⟩ := h
  simp only [evalE] at p
  refine ⟨W, en, st, er, sr, p.bind.imp fun W1 d1 s1 H1 le1 sr1 p1 vs r1 => ?_⟩
  obtain ⟨d, st', e1, q⟩ := p1.ok_of (biV_nox _ _ _ _)
  rw [hb] at e1
  exact ⟨W1, d1, s1, d, st', sr1, r1, e1, fun W' v H' le' s' r' => q W' H' le' s' v r'⟩
theorem x_biT {m : Bool} {b : BI} {x : Str} {id : String} {f : List D → Sto → Out D} {e : Expr} {es : List Expr} {es' : List E} {p pos : Pos} (C : CtxOk X cm G N sc Wx) (hb : ∀ xs st, biV m b xs st = f xs st) (hc : CallR X (.type id) (rVs X.K cm f)) (hg : sc.names.lookup x = some .globalImplicit)
    (hm : X.mg x = none) (hv : bootBuiltins x = some (.type id)) (hns : (e :: es).all noStar = true) (ha : PA X (e :: es) (RA X.K cm G Wx es')) (hn : x ≠ "__name__") (hd : (x == ("__debug__" : Str)) = false) :
    PE X (.Call (.Name x p) (e :: es) [] pos) (RE X.K cm G Wx (.bi m b es')) := by
  rw [List.all_cons, Bool.and_eq_true] at hns
  refine (pe_callTy hc (C.gl x hg) hm hv ha hn hd (star_cons hns.1) (star_any hns.2)).weak fun σ H Q h => ?_
  obtain ⟨W, en, st, er, sr, p⟩ := h
  simp only [evalE] at p
  refine ⟨W, en, st, er, sr, p.bind.imp fun W1 d1 s1 H1 le1 sr1 p1 vs r1 => ?_⟩
  obtain ⟨d, st', e1, q⟩ := p1.ok_of (biV_nox _ _ _ _)
  rw [hb] at e1
  exact ⟨W1, d1, s1, d, st', sr1, r1, e1, fun W' v H' le' s' r' => q W' H' le' s' v r'⟩
theorem x_isI {m : Bool} {t : String} {x T : Str} {e : Expr} {e' : E} {p p2 pos : Pos} (C : CtxOk X cm G N sc Wx) (ht : t ∈ isTs) (hg : sc.names.lookup x = some .globalImplicit) (hx : x = "isinstance") (hT : sc.names.lookup T = some .globalImplicit) (hmT : X.mg T = none)
    (hv : bootBuiltins T = some (.type t)) (hns : noStar e = true) (ha : PE X e (RE X.K cm G Wx e')) (hn : T ≠ "__name__") (hd : (T == ("__debug__" : Str)) = false) : PE X (.Call (.Name x p) [e, .Name T p2] [] pos) (RE X.K cm G Wx (.bi m (.isI t) [e'])) := by
  subst hx
  have hm : X.mg "isinstance" = none := C.bl _ (by decide +kernel)
  have pT : PE X (.Name T p2) (tC (.ty t)) := pe_bltn (C.gl T hT) hmT hv rfl hn hd
  refine (pe_callB (ci_isI (cm := cm) ht) (C.gl _ hg) hm PyProof.Rows.boot_isinstance (pa_cons ha (pa_cons pT pa_nil) (star_cons hns)) (by decide) (by decide) (star_cons hns) rfl).weak fun σ H Q h => ?_
  obtain ⟨W, en, st, er, sr, p⟩ := h
  simp only [evalE, evalEs, Out.bind_assoc] at p
  refine ⟨W, en, st, er, sr, p.bind.imp fun W1 d1 s1 H1 le1 sr1 p1 v r1 => ?_⟩
  simp only [Out.bind_ok] at p1
  obtain ⟨d, st', e1, q⟩ := p1.ok_of (biV_nox _ _ _ _)
  exact ⟨v, rfl, W1, [d1], s1, d, st', sr1, .one r1, e1, fun W' v H' le' s' r' => q W' H' le' s' v r'⟩

/-! ### methods of lists -/
def plainBase : Expr → Bool
  | .Call (.Name _ _) [] [] _ => false
  | _ => true
theorem base_plain {o : Expr} {f : Str} {env : PySem.Env} (h : plainBase o = true) : attributeBase o f env (eval o env) = eval o env := by
  unfold attributeBase
  split
  · cases h
  · rfl
theorem x_bm {b : BM} {m : Str} {id : String} {f : D → List D → Sto → Out D} {o e : Expr} {es : List Expr} {o' : E} {es' : List E} {ap pos : Pos} (C : CtxOk X cm G N sc Wx) (hb : ∀ d xs st, bmV b d xs st = f d xs st) (hc : MtR X id (rVm X.K cm f))
    (hrec : ∀ st d, recvOk b st d → (lstOf st d).isSome = true) (slot : Slot "list" m id) (hty : typeOf (.builtin id) = pure (.type "method_descriptor")) (hns : (e :: es).all noStar = true) (hl : (e :: es).length < 20) (hp : plainBase o = true) (hln : (ap.endLine == pos.line) = true)
    (ho : PE X o (RE X.K cm G Wx o')) (ha : PA X (e :: es) (RA X.K cm G Wx es')) : PE X (.Call (.Attribute o m ap) (e :: es) [] pos) (RE X.K cm G Wx (.bm o' b es')) := by
  have hns' := hns
  rw [List.all_cons, Bool.and_eq_true] at hns
  refine (pe_bm PySem.F.plainAttrs_list slot hty hc ho ha (base_plain hp) ?_ hln (star_cons hns.1) (star_any hns.2)).weak fun σ H Q h => ?_
  · rw [star_all hns']
    have h2 : decide ((e :: es).length + ([] : List Keyword).length + (if ([] : List Keyword).isEmpty then 0 else 1) < 30) = true := decide_eq_true (by
      show (e :: es).length + 0 + 0 < 30
      omega)
    rw [h2]
    rfl
  · obtain ⟨W, en, st, er, sr, p⟩ := h
    simp only [evalE] at p
    refine ⟨W, en, st, er, sr, p.bind.imp fun W1 d1 s1 H1 le1 sr1 p1 v1 r1 => ?_⟩
    have hro : recvOk b s1 d1 := by
      unfold need at p1
      split at p1
      · assumption
      · exact p1.elim
    rw [need_pos hro] at p1
    obtain ⟨ys, e1⟩ := Option.isSome_iff_exists.mp (hrec _ _ hro)
    obtain ⟨a, vs, ev, t, l, q1⟩ := r1.lstL sr1 e1
    subst ev
    refine ⟨.inl ⟨rfl, vs, .inl (.inl q1)⟩, ⟨W1, en, s1, er.mono le1, sr1, p1.bind.imp fun W2 d2 s2 H2 le2 sr2 p2 v2 r2 => ?_⟩⟩
    obtain ⟨d, st', e2, q⟩ := p2.ok_of (bmV_nox _ _ _ _)
    rw [hb] at e2
    exact ⟨W2, d1, d2, s2, d, st', sr2, r1.mono le2, r2, e2, fun W' v H' le' s' r' => q W' H' le' s' v r'⟩
end
end PI

/-! PI, part Z: zip of two sequences of any kinds. -/
namespace PI
open PySem PySem.Spec PyProof.Rows L2
/-- t: a tuple, else a list -/
def SqK (K : PySem.W.Frag) (t : Bool) (H : Hp) (a : Addr) (xs : List V) : Prop := match t with
  | true => SqT K H a xs
  | false => SqL K H a xs
def ItK (t : Bool) (h : Heap) (it l : Addr) (i : Nat) : Prop := match t with
  | true => h.IsTupleIter it l i
  | false => h.IsListIter it l i
def IsK (t : Bool) (h : Heap) (l : Addr) (items : Array Value) : Prop := match t with
  | true => h.IsTuple l items
  | false => h.IsList l items
def begO (t : Bool) (l : Addr) : Obj := match t with
  | true => { cls := .type "tuple_iterator", data := .fields #[.ref l, .int 0 0] }
  | false => { cls := .type "list_iterator", data := .fields #[.ref l, .int 0 0] }
theorem drawsK {prog : Program} {w : World} {A : Around} (t : Bool) (hh : A.handled = none) (it l : Addr) (hne : l ≠ it) (its : Array Value) : Draws prog w A it [it, l] its.size (fun i v => its[i]? = some v) (fun i h => ItK t h it l i ∧ IsK t h l its) := by
  cases t with
  | true => exact Draws.tuple hh it l hne its
  | false => exact Draws.list hh it l hne its
theorem begK (t : Bool) (l : Addr) (its : Array Value) : Begins (.ref l) (begO t l) fun h => IsK t h l its := by
  cases t with
  | true => exact begins_tuple l its
  | false => exact begins_list l its
theorem ItK.at {t : Bool} {h h' : Heap} {it l : Addr} {i : Nat} (q : ItK t h it l i) (k : ∀ o, h.get? it = some o → h'.get? it = some o) : ItK t h' it l i := by
  cases t with
  | true => exact Heap.IsTupleIter.at q k
  | false => exact Heap.IsListIter.at q k
theorem ItK.obj {t : Bool} {h : Heap} {it l : Addr} {i : Nat} (q : ItK t h it l i) : ∃ o, h.get? it = some o ∧ ∀ v, o.data ≠ .cell v := by
  cases t with
  | true => exact let ⟨o, e, _, d⟩ := q; ⟨o, e, fun v z => by rw [d] at z; cases z⟩
  | false => exact let ⟨o, e, _, d⟩ := q; ⟨o, e, fun v z => by rw [d] at z; cases z⟩
theorem ItK.new {t : Bool} {h : Heap} {it l : Addr} (q : h.get? it = some (begO t l)) : ItK t h it l 0 := by
  cases t with
  | true => exact ⟨_, q, rfl, rfl⟩
  | false => exact ⟨_, q, rfl, rfl⟩
theorem IsK.at {t : Bool} {h h' : Heap} {l : Addr} {its : Array Value} (q : IsK t h l its) (k : ∀ o, h.get? l = some o → h'.get? l = some o) : IsK t h' l its := by
  cases t with
  | true => exact Heap.IsTuple.at q k
  | false => exact Heap.IsList.at q k
theorem IsK.lt {t : Bool} {h : Heap} {l : Addr} {its : Array Value} (q : IsK t h l its) : l < h.objs.size := by
  cases t with
  | true => exact let ⟨_, e, _⟩ := q; Heap.lt_size e
  | false => exact let ⟨_, e, _⟩ := q; Heap.lt_size e
section
variable {X : Cx} {pins : List (Addr × Obj)} {σ : L2.St} {H : Hp} {s : Shared} {a : Addr} {xs ys : List V} {t : Bool}
theorem seqK (I : Inv X pins σ H s) (h : SqK X.K t H a xs) : ∃ its : List Value, Vals xs its ∧ IsK t s.heap a its.toArray := by
  cases t with
  | true => exact let ⟨its, r, p, _⟩ := I.tuple h; ⟨its, r, p⟩
  | false => exact let ⟨its, r, p, _⟩ := I.list h; ⟨its, r, p.isList⟩
theorem injK (I : Inv X pins σ H s) (h : SqK X.K t H a xs) (h' : SqK X.K t H a ys) : xs = ys := by
  cases t with
  | true => exact I.tuple_inj h h'
  | false => exact I.list_inj h h'
end
def ItzM (K : PySem.W.Frag) (t u : Bool) (a b : Addr) : It :=
  ⟨fun i H => ∃ xs ys x y, SqK K t H a xs ∧ SqK K u H b ys ∧ xs[i]? = some x ∧ ys[i]? = some y,
    fun i H v H' => ∃ T x y, v = .ref T ∧ H T = none ∧ H' = upd H T (.tup [x, y]) ∧ (∀ xs, SqK K t H a xs → xs[i]? = some x) ∧ ∀ ys, SqK K u H b ys → ys[i]? = some y,
    fun i H => ∃ xs ys, SqK K t H a xs ∧ SqK K u H b ys ∧ i ≤ xs.length ∧ i ≤ ys.length ∧ (i = xs.length ∨ i = ys.length)⟩
theorem sepM {z TI TO i1 i2 a b : Addr} (D : ZipApart z TI TO i1 i2 a b) : ZipSep2 z TI TO i1 i2 [i1, a] [i2, b] where
  TIz := D.TIz
  TOz := D.TOz
  TITO := D.TITO
  TIi1 := D.TIi1
  mem1 := by simp
  zf1 := by simp [D.i1z.symm, D.l1z.symm]
  Tf1 := by simp [D.TOi1, D.l1TO.symm]
  TIi2 := D.TIi2
  mem2 := by simp
  zf2 := by simp [D.i2z.symm, D.l2z.symm]
  Tf2 := by simp [D.TOi2, D.l2TO.symm]
  sep1_2 := by simp [D.i12, D.l2i1.symm]
  sep2_1 := by simp [D.i12.symm, D.l1i2.symm]
theorem turn_zipM {P : Program} {w : World} {K : PySem.W.Frag} {t u : Bool} {elts : List Expr} {kk : Nat} {tpos : Pos} {a b z TI TO i1 i2 : Addr} (D : ZipApart z TI TO i1 i2 a b) :
    Turn P w K (.Tuple elts kk tpos) (ItzM K t u a b) [z, TI, TO, i1, i2] z (fun i h => IsZip h z TI TO .none ∧ IsPair h TI (.ref i1) (.ref i2) ∧ (∃ x y, IsPair h TO x y) ∧ ItK t h i1 a i ∧ ItK u h i2 b i) where
  mem := by simp
  obj := by
    rintro i h ⟨hz, hTI, ⟨x, y, hTO⟩, q1, q2⟩ c hc
    simp only [List.mem_cons, List.not_mem_nil, or_false] at hc
    rcases hc with rfl | rfl | rfl | rfl | rfl
    · exact ⟨_, hz, fun v q => nomatch q⟩
    · exact ⟨_, hTI, fun v q => nomatch q⟩
    · exact ⟨_, hTO, fun v q => nomatch q⟩
    · exact q1.obj
    · exact q2.obj
  keep := by
    rintro i h h' ⟨hz, hTI, ⟨x, y, hTO⟩, q1, q2⟩ k
    exact ⟨k z (by simp) _ hz, k TI (by simp) _ hTI, ⟨x, y, k TO (by simp) _ hTO⟩, q1.at fun o q => k i1 (by simp) o q, q2.at fun o q => k i2 (by simp) o q⟩
  item := by
    rintro X rfl rfl rfl hc i pins s σ H E I hf ⟨hz, hTI, ⟨x0, y0, hTO⟩, q1, q2⟩ ⟨xs, ys, x, y, hqx, hqy, hx, hy⟩
    obtain ⟨its, rv, p1⟩ := seqK I hqx
    obtain ⟨jts, rv2, p2⟩ := seqK I hqy
    obtain ⟨v1, hv1, ru⟩ := rv.get hx
    obtain ⟨v2, hv2, ru2⟩ := rv2.get hy
    have zl : z < s.heap.objs.size := Heap.lt_size hz
    have hh := I.ok.hd hc
    have b1 : i < its.toArray.size := by rw [List.size_toArray]; exact (List.getElem?_eq_some_iff.mp hv1).1
    have b2 : i < jts.toArray.size := by rw [List.size_toArray]; exact (List.getElem?_eq_some_iff.mp hv2).1
    refine wpAny_pyNext_zipD2_item (sepM D) (drawsK t (A := X.A.in1) hh i1 a D.l1i1 its.toArray) (drawsK u (A := X.A.in1) hh i2 b D.l2i2 jts.toArray) hz hTI hTO ⟨q1, p1⟩ ⟨q2, p2⟩ b1 b2 fun w1 w2 h' tk g1 g2 z' TO' n1 n2 hT hsz hk => ?_
    obtain rfl : w1 = v1 := by
      have g1' : its[i]? = some w1 := by simpa using g1
      rw [hv1] at g1'
      exact (Option.some.inj g1').symm
    obtain rfl : w2 = v2 := by
      have g2' : jts[i]? = some w2 := by simpa using g2
      rw [hv2] at g2'
      exact (Option.some.inj g2').symm
    refine ⟨_, rfl, wpAny_letOwnedTupleGo_zip (s := { s with heap := h', toks := tk }) z' fun h2 z2 sb => ?_⟩
    have nT : h2.get? s.heap.objs.size = some { cls := .type "tuple", data := .seq #[w1, w2] } := (sb.2 _ (Nat.ne_of_gt zl)).trans hT
    have nok : ObjOk X.prog X.w (upd H s.heap.objs.size (.tup [x, y])) h2 s.heap.objs.size (.tup [x, y]) := ⟨by show 2 ≤ sizeLine; decide, [w1, w2], .cons ru (.cons ru2 .nil), ⟨_, nT, rfl, _, rfl⟩⟩
    have J : Inv X pins σ (upd H s.heap.objs.size (.tup [x, y])) { s with heap := h2, toks := tk } := I.turnedNew (t' := tk) (ch := [z, TI, TO, i1, i2]) (fun c o hb q => by
      simp only [List.mem_cons, List.not_mem_nil, or_false, not_or] at hb
      exact (sb.2 c hb.1).trans (hk c o hb.1 hb.2.2.1 hb.2.2.2.1 hb.2.2.2.2 q)) hf (Nat.le_refl _) nok
    refine ⟨.ref s.heap.objs.size, _, J, rfl, ⟨_, x, y, rfl, I.hok.fresh (Nat.le_refl _), rfl, fun l hl => by rw [injK I hl hqx]; exact hx, fun l hl => by rw [injK I hl hqy]; exact hy⟩, ⟨z2, ?_, ⟨w1, w2, ?_⟩, ?_, ?_⟩, fun c hcm => ?_⟩
    · exact (sb.2 _ D.TIz).trans (hk _ _ D.TIz D.TITO D.TIi1 D.TIi2 hTI)
    · exact (sb.2 _ D.TOz).trans TO'
    · exact n1.1.at fun o q => (sb.2 _ D.i1z).trans q
    · exact n2.1.at fun o q => (sb.2 _ D.i2z).trans q
    · have lt : c < s.heap.objs.size := by
        simp only [List.mem_cons, List.not_mem_nil, or_false] at hcm
        rcases hcm with rfl | rfl | rfl | rfl | rfl
        · exact zl
        · exact Heap.lt_size hTI
        · exact Heap.lt_size hTO
        · exact let ⟨_, e, _⟩ := q1.obj; Heap.lt_size e
        · exact let ⟨_, e, _⟩ := q2.obj; Heap.lt_size e
      rw [upd_ne (Nat.ne_of_lt lt)]
      exact (hf c hcm).1
  done := by
    rintro X rfl rfl rfl hc i pins s σ H E I hf ⟨hz, hTI, ⟨x0, y0, hTO⟩, q1, q2⟩ ⟨xs, ys, hqx, hqy, l1, l2, hend⟩
    obtain ⟨its, rv, p1⟩ := seqK I hqx
    obtain ⟨jts, rv2, p2⟩ := seqK I hqy
    have hh := I.ok.hd hc
    have s1 : its.toArray.size = xs.length := by rw [List.size_toArray]; exact rv.length.symm
    have s2 : jts.toArray.size = ys.length := by rw [List.size_toArray]; exact rv2.length.symm
    refine wpAny_pyNext_zipD2_end (sepM D) (drawsK t (A := X.A.in1) hh i1 a D.l1i1 its.toArray) (drawsK u (A := X.A.in1) hh i2 b D.l2i2 jts.toArray) hz hTI hTO ⟨q1, p1⟩ ⟨q2, p2⟩ (by omega) (by omega) (by omega) fun h' tk hk => ⟨rfl, ?_⟩
    exact I.turnedL (t' := tk) (ch := [z, TI, TO, i1, i2]) (fun c o hb q => by
      simp only [List.mem_cons, List.not_mem_nil, or_false, not_or] at hb
      exact hk c o hb.1 hb.2.2.1 hb.2.2.2.1 hb.2.2.2.2 q) hf
  self := fun A i s Q E st h => wpAny_pyIter_zip st.1 h
/-- zip over any two of them -/
def iZipM (K : PySem.W.Frag) (ta : TA) : TI := fun σ H R => ta σ H fun vs H1 => ∃ t u a b xs ys, vs = [.ref a, .ref b] ∧ SqK K t H1 a xs ∧ SqK K u H1 b ys ∧ R (ItzM K t u a b) H1
theorem pi_zipM {X : Cx} {e e2 : Expr} {ta : TA} {p pos tpos : Pos} {elts : List Expr} {kk : Nat} (hg : Gl X "zip") (hm : X.mg "zip" = none) (ha : PA X [e, e2] ta)
    (hs : starEach [e, e2] X.env = (false, eval e X.env) :: starEach [e2] X.env) (hpl : (backTo pos (starEach [e2] X.env)).any (·.1) = false) :
    PI X (.Tuple elts kk tpos) (.Call (.Name "zip" p) [e, e2] [] pos) (iZipM X.K ta) := by
  refine ⟨fun pins s σ H R I h => Call_ (ld_blt I hg hm PyProof.Rows.boot_zip (PyProof.Rows.callWith_type1 (thn (ha.run pos pins s σ H _ I h) fun us s1 ⟨vs, H1, I1, r1, q1⟩ => ?_) hs hpl))⟩
  obtain ⟨t, u, a, b, xs, ys, ex, hqx, hqy, q⟩ := q1
  subst ex
  cases r1 with
  | cons r rr =>
  cases rr with
  | cons r' rr =>
  cases rr
  cases r
  cases r'
  have fr : ∀ c, c ∈ [s1.heap.objs.size + 4, s1.heap.objs.size + 2, s1.heap.objs.size + 3, s1.heap.objs.size, s1.heap.objs.size + 1] → FpOk X pins H1 c := fun c hcm => by
    have le : s1.heap.objs.size ≤ c := by
      simp only [List.mem_cons, List.not_mem_nil, or_false] at hcm
      rcases hcm with z | z | z | z | z <;> rw [z] <;> omega
    exact I1.fpOk le (I1.hok.fresh le)
  obtain ⟨its, rv, p1⟩ := seqK I1 hqx
  obtain ⟨jts, rv2, p2⟩ := seqK I1 hqy
  have apart := PySem.W.ktu_apart s1.heap.objs.size a b p1.lt p2.lt
  refine zip_begins2 (begK t a its.toArray) (begK u b jts.toArray) p1 p2 fun h' hz hTI hTO h1 h2 hsz hk => wpAny_pyIter_zip hz ?_
  have I2 : Inv X pins σ H1 { s1 with heap := h' } := I1.kept (t' := s1.toks) hk
  have tn : Turn X.prog X.w X.K (.Tuple elts kk tpos) (ItzM X.K t u a b) _ _ _ := turn_zipM (t := t) (u := u) apart
  exact ⟨s1.heap.objs.size + 4, _, _, ItzM X.K t u a b, H1, rfl, I2, tn, ⟨hz, hTI, ⟨_, _, hTO⟩, .new h1, .new h2⟩, fr, q⟩
end PI

/-! PI, part H: iterables, comprehensions. -/
namespace PI
open PySem PySem.Spec PyProof.Rows L2

/-- J walks the items of v, wherever the cells that are walked stay as they are -/
structure Wk (K : PySem.W.Frag) (cm : Str → Option Addr) (W : Wd) (v : Itv) (J : It) : Prop where
  go : ∀ (i : Nat) W' st H, W.leD W' → SR K cm W' st H → v.stays st → i < v.items.length → J.go i H
  stop : ∀ W' st H, W.leD W' → SR K cm W' st H → v.stays st → J.stop v.items.length H
  yld : ∀ (i : Nat) W' st H x H', W.leD W' → SR K cm W' st H → v.stays st → i < v.items.length → J.yld i H x H' → ∃ W2, W'.le W2 ∧ SR K cm W2 st H' ∧ ∃ d, v.items[i]? = some d ∧ DR K W2 d x
def RI (K : PySem.W.Frag) (cm : Str → Option Addr) (G : Gm) (Wx : WX) (k : IK) (es : List E) : TI := fun σ H R => ∃ W en st, ER K W en σ ∧ SR K cm W st H ∧
  Post K cm W ((evalEs G es en st).bind fun xs s1 => iterV k xs s1) (fun W' v _ H' => ∀ J, Wk K cm W' v J → R J H') fun c d H' => Wx c d σ H'
theorem iterV_nox (k : IK) (xs : List D) (st : Sto) : NoX (iterV k xs st) := by
  unfold iterV
  split
  · exact .ok
  · split
    · exact .ok
    · exact .bad
  · exact NoX.ok.need
  · exact NoX.ok.need
  · split
    · exact NoX.ok
    · exact .bad
  · split
    · exact NoX.ok.need
    · exact .bad
  · exact .bad

section
variable {K : PySem.W.Frag} {cm : Str → Option Addr} {W : Wd} {st : Sto} {H : Hp}
/-- a list or a tuple as it stands at a later turn -/
theorem DR.later {x : D} {a : Addr} {ys : List D} (s : SR K cm W st H) (r : DR K W x (.ref a)) (h : seqOf st x = some ys) {W' : Wd} {st' : Sto} {H' : Hp} (le : W.leD W') (s' : SR K cm W' st' H')
    (hk : ∀ p ∈ keepOf x ys, st'[p.1]? = some (.lst p.2)) : ∃ vs, DRs K W' ys vs ∧ ((isT x = false ∧ SqL K H' a vs) ∨ (isT x = true ∧ SqT K H' a vs)) := by
  cases r with
  | tup h1 l r =>
    cases h
    exact ⟨_, r.monoD le, .inr ⟨rfl, sqT_mono s'.sub (sqT_mono le.F h1)⟩⟩
  | lst h1 l r =>
    cases h
    exact ⟨_, r.monoD le, .inl ⟨rfl, .inl (.inl (s'.sub _ _ (le.F _ _ h1)))⟩⟩
  | @scr a ns h1 l =>
    cases h
    exact ⟨_, DRs.ints ns, .inl ⟨rfl, sqL_mono s'.sub (sqL_mono le.F h1)⟩⟩
  | @ref n a h1 =>
    have e := hk (n, ys) (by simp [keepOf])
    obtain ⟨vs, q, l, r⟩ := s'.cell n _ a e (le.at h1)
    exact ⟨vs, r, .inl ⟨rfl, .inl (.inl q)⟩⟩
theorem get_lt {α : Type} {xs : List α} {i : Nat} (h : i < xs.length) : ∃ x, xs[i]? = some x := ⟨xs[i], List.getElem?_eq_getElem h⟩
theorem wk_list {x : D} {a : Addr} {ys : List D} (s : SR K cm W st H) (r : DR K W x (.ref a)) (h : seqOf st x = some ys) (ht : isT x = false) : Wk K cm W ⟨ys, keepOf x ys⟩ (Itl K a) where
  go := fun i W' st' H' le s' hk hi => by
    obtain ⟨vs, t, q | q⟩ := r.later s h le s' hk
    · obtain ⟨d, hd⟩ := get_lt hi
      obtain ⟨v, hv, _⟩ := t.get hd
      exact ⟨vs, v, q.2, hv⟩
    · rw [ht] at q; cases q.1
  stop := fun W' st' H' le s' hk => by
    obtain ⟨vs, t, q | q⟩ := r.later s h le s' hk
    · exact ⟨vs, q.2, by rw [← t.length]; exact Nat.le_refl _⟩
    · rw [ht] at q; cases q.1
  yld := fun i W' st' H' z H2 le s' hk hi y => by
    obtain ⟨e, y⟩ := y
    subst e
    obtain ⟨vs, t, q | q⟩ := r.later s h le s' hk
    · obtain ⟨d, hd, rd⟩ := t.back (y vs q.2)
      exact ⟨W', .refl _, s', d, hd, rd⟩
    · rw [ht] at q; cases q.1
theorem wk_tup {x : D} {a : Addr} {ys : List D} (s : SR K cm W st H) (r : DR K W x (.ref a)) (h : seqOf st x = some ys) (ht : isT x = true) : Wk K cm W ⟨ys, keepOf x ys⟩ (Itt K a) where
  go := fun i W' st' H' le s' hk hi => by
    obtain ⟨vs, t, q | q⟩ := r.later s h le s' hk
    · rw [ht] at q; cases q.1
    · obtain ⟨d, hd⟩ := get_lt hi
      obtain ⟨v, hv, _⟩ := t.get hd
      exact ⟨vs, v, q.2, hv⟩
  stop := fun W' st' H' le s' hk => by
    obtain ⟨vs, t, q | q⟩ := r.later s h le s' hk
    · rw [ht] at q; cases q.1
    · exact ⟨vs, q.2, by rw [← t.length]; exact Nat.le_refl _⟩
  yld := fun i W' st' H' z H2 le s' hk hi y => by
    obtain ⟨e, y⟩ := y
    subst e
    obtain ⟨vs, t, q | q⟩ := r.later s h le s' hk
    · rw [ht] at q; cases q.1
    · obtain ⟨d, hd, rd⟩ := t.back (y vs q.2)
      exact ⟨W', .refl _, s', d, hd, rd⟩
theorem rangeL_get {lo : Int} {n i : Nat} (h : i < n) : (rangeL lo n)[i]? = some (.int (lo + (i : Nat))) := by
  unfold rangeL
  rw [List.getElem?_map, List.getElem?_range h]
  rfl
theorem rangeL_length (lo : Int) (n : Nat) : (rangeL lo n).length = n := by simp [rangeL]
theorem wk_range {lo : Int} {n : Nat} : Wk K cm W ⟨rangeL lo n, []⟩ (Itr lo n) where
  go := fun i W' st' H' le s' hk hi => by
    have : i < n := by simpa [rangeL] using hi
    exact this
  stop := fun W' st' H' le s' hk => by
    show n ≤ (rangeL lo n).length
    rw [rangeL_length]
    exact Nat.le_refl _
  yld := fun i W' st' H' z H2 le s' hk hi y => by
    obtain ⟨e, y⟩ := y
    subst e y
    have h' : i < n := by simpa [rangeL] using hi
    exact ⟨W', .refl _, s', _, rangeL_get h', .int _⟩
theorem wk_str {x : Str} : Wk K cm W ⟨strL x, []⟩ (Its x) where
  go := fun i W' st' H' le s' hk hi => by
    have : i < x.cps.size := by simpa [strL] using hi
    exact this
  stop := fun W' st' H' le s' hk => by
    show x.cps.size ≤ (strL x).length
    simp [strL]
  yld := fun i W' st' H' z H2 le s' hk hi y => by
    obtain ⟨e, c, hc, ez⟩ := y
    subst e ez
    refine ⟨W', .refl _, s', .str ⟨#[c]⟩, ?_, .str _ (by show 1 ≤ sizeLine; rw [sizeLine_eq]; decide)⟩
    show (strL x)[i]? = _
    unfold strL
    rw [List.getElem?_map, Array.getElem?_toList, hc]
    rfl
theorem wk_pair {W' : Wd} {st' : Sto} {H' : Hp} {T : Addr} {d e : D} {x y : V} (s : SR K cm W' st' H') (hT : H' T = none) (r1 : DR K W' d x) (r2 : DR K W' e y) :
    ∃ W2, W'.le W2 ∧ SR K cm W2 st' (upd H' T (.tup [x, y])) ∧ DR K W2 (.tup [d, e]) (.ref T) :=
  s.newTup (.two r1 r2) (by show 2 ≤ sizeLine; rw [sizeLine_eq]; decide) hT
theorem wk_enum {x : D} {a : Addr} {ys : List D} (s : SR K cm W st H) (r : DR K W x (.ref a)) (h : seqOf st x = some ys) (ht : isT x = false) : Wk K cm W ⟨ys.mapIdx fun i y => .tup [.int (i : Nat), y], keepOf x ys⟩ (Ite K a) where
  go := fun i W' st' H' le s' hk hi => by
    obtain ⟨vs, t, q | q⟩ := r.later s h le s' hk
    · obtain ⟨d, hd⟩ := get_lt (show i < ys.length by simpa using hi)
      obtain ⟨v, hv, _⟩ := t.get hd
      exact ⟨vs, v, q.2, hv⟩
    · rw [ht] at q; cases q.1
  stop := fun W' st' H' le s' hk => by
    obtain ⟨vs, t, q | q⟩ := r.later s h le s' hk
    · exact ⟨vs, q.2, by rw [← t.length]; simp⟩
    · rw [ht] at q; cases q.1
  yld := fun i W' st' H' z H2 le s' hk hi y => by
    obtain ⟨T, x', e1, hT, e2, hx⟩ := y
    subst e1 e2
    obtain ⟨vs, t, q | q⟩ := r.later s h le s' hk
    · obtain ⟨d, hd, rd⟩ := t.back (hx vs q.2)
      obtain ⟨W2, le2, s2, r2⟩ := wk_pair s' hT (.int (i : Nat)) rd
      exact ⟨W2, le2, s2, _, by rw [List.getElem?_mapIdx, hd]; rfl, r2⟩
    · rw [ht] at q; cases q.1
theorem zip_get {α β : Type} {xs : List α} {ys : List β} {i : Nat} {x : α} {y : β} (hx : xs[i]? = some x) (hy : ys[i]? = some y) : (xs.zip ys)[i]? = some (x, y) := by
  rw [List.getElem?_zip_eq_some]
  exact ⟨hx, hy⟩
/-- what a sequence's values are later -/
theorem laterK {x : D} {a : Addr} {ys : List D} (s : SR K cm W st H) (r : DR K W x (.ref a)) (h : seqOf st x = some ys) {W' : Wd} {st' : Sto} {H' : Hp} (le : W.leD W') (s' : SR K cm W' st' H') (hk : ∀ p ∈ keepOf x ys, st'[p.1]? = some (.lst p.2)) :
    ∃ vs, DRs K W' ys vs ∧ SqK K (isT x) H' a vs := by
  obtain ⟨vs, t, ⟨e, q⟩ | ⟨e, q⟩⟩ := r.later s h le s' hk
  · exact ⟨vs, t, by rw [e]; exact q⟩
  · exact ⟨vs, t, by rw [e]; exact q⟩
theorem wk_zipM {x y : D} {a b : Addr} {ys zs : List D} (s : SR K cm W st H) (r : DR K W x (.ref a)) (h : seqOf st x = some ys) (r2 : DR K W y (.ref b)) (h2 : seqOf st y = some zs) :
    Wk K cm W ⟨(ys.zip zs).map fun p => .tup [p.1, p.2], keepOf x ys ++ keepOf y zs⟩ (ItzM K (isT x) (isT y) a b) where
  go := fun i W' st' H' le s' hk hi => by
    obtain ⟨vs, t, q⟩ := laterK s r h le s' fun p hp => hk p (List.mem_append_left _ hp)
    obtain ⟨ws, t2, q2⟩ := laterK s r2 h2 le s' fun p hp => hk p (List.mem_append_right _ hp)
    have hi' : i < ys.length ∧ i < zs.length := by
      have : i < ((ys.zip zs).map fun p => D.tup [p.1, p.2]).length := hi
      rw [List.length_map, List.length_zip] at this
      omega
    obtain ⟨d, hd⟩ := get_lt hi'.1
    obtain ⟨d2, hd2⟩ := get_lt hi'.2
    obtain ⟨v, hv, _⟩ := t.get hd
    obtain ⟨v2, hv2, _⟩ := t2.get hd2
    exact ⟨vs, ws, v, v2, q, q2, hv, hv2⟩
  stop := fun W' st' H' le s' hk => by
    obtain ⟨vs, t, q⟩ := laterK s r h le s' fun p hp => hk p (List.mem_append_left _ hp)
    obtain ⟨ws, t2, q2⟩ := laterK s r2 h2 le s' fun p hp => hk p (List.mem_append_right _ hp)
    have e : ((ys.zip zs).map fun p => D.tup [p.1, p.2]).length = min ys.length zs.length := by rw [List.length_map, List.length_zip]
    refine ⟨vs, ws, q, q2, ?_⟩
    rw [← t.length, ← t2.length]
    show ((ys.zip zs).map fun p => D.tup [p.1, p.2]).length ≤ _ ∧ ((ys.zip zs).map fun p => D.tup [p.1, p.2]).length ≤ _ ∧ (((ys.zip zs).map fun p => D.tup [p.1, p.2]).length = _ ∨ ((ys.zip zs).map fun p => D.tup [p.1, p.2]).length = _)
    rw [e]
    omega
  yld := fun i W' st' H' z H2 le s' hk hi y' => by
    obtain ⟨T, x', y', e1, hT, e2, hx, hy⟩ := y'
    subst e1 e2
    obtain ⟨vs, t, q⟩ := laterK s r h le s' fun p hp => hk p (List.mem_append_left _ hp)
    obtain ⟨ws, t2, q2⟩ := laterK s r2 h2 le s' fun p hp => hk p (List.mem_append_right _ hp)
    obtain ⟨d, hd, rd⟩ := t.back (hx vs q)
    obtain ⟨d2, hd2, rd2⟩ := t2.back (hy ws q2)
    obtain ⟨W2, le2, s2, r2⟩ := wk_pair s' hT rd rd2
    exact ⟨W2, le2, s2, _, by rw [List.getElem?_map, zip_get hd hd2]; rfl, r2⟩
end

section
variable {X : Cx} {cm : Str → Option Addr} {G : Gm} {N : List Str} {sc : Scope} {Wx : WX}
/-- a list, a tuple or a text walked -/
theorem i_plain {tg l : Expr} {l' : E} (hl : PE X l (RE X.K cm G Wx l')) : PI X tg l (RI X.K cm G Wx .plain [l']) := by
  refine ⟨fun pins s σ H R I h => ?_⟩
  obtain ⟨W, en, st, er, sr, p⟩ := h
  simp only [evalEs, Out.bind_assoc, Out.bind_ok] at p
  have hq : RE X.K cm G Wx l' σ H fun x H1 => (∃ a, x = .ref a ∧ (((∃ xs, SqL X.K H1 a xs) ∧ R (Itl X.K a) H1) ∨ ((∃ xs, SqT X.K H1 a xs) ∧ R (Itt X.K a) H1))) ∨ ∃ z, x = .str z ∧ R (Its z) H1 := by
    refine ⟨W, en, st, er, sr, p.bind.imp fun W1 d1 s1 H1 le1 sr1 p1 v1 r1 => ?_⟩
    obtain ⟨v, st', e, q⟩ := p1.ok_of (iterV_nox _ _ _)
    unfold iterV at e
    split at e
    · rename_i e2
      cases e2
      cases e
      cases r1
      exact .inr ⟨_, rfl, q W1 H1 (.refl _) sr1 _ wk_str⟩
    · rename_i e2
      cases e2
      split at e
      · rename_i ys e3
        cases e
        obtain ⟨a, vs, ev, t, l, q1⟩ := r1.seqL sr1 e3
        subst ev
        refine .inl ⟨a, rfl, ?_⟩
        rcases q1 with ⟨q1, nt⟩ | ⟨q1, et⟩
        · refine .inl ⟨⟨vs, q1⟩, q W1 H1 (.refl _) sr1 _ (wk_list sr1 r1 e3 ?_)⟩
          cases r1 <;> first | rfl | exact absurd rfl (nt _)
        · subst et
          exact .inr ⟨⟨vs, q1⟩, q W1 H1 (.refl _) sr1 _ (wk_tup sr1 r1 e3 rfl)⟩
      · cases e
    all_goals first | (rename_i h1 h2; cases h1) | (rename_i h1; cases h1) | cases e | (rename_i h6 h5 h4 h3 h2 h1; first | exact (h1 _ rfl rfl).elim | exact (h2 _ _ rfl rfl).elim)
  refine thn (hl.run pins s σ H _ I hq) fun v s1 ⟨x, H1, I1, r1, q1⟩ => ?_
  rcases q1 with ⟨a, e, ⟨⟨xs, hq⟩, q⟩ | ⟨⟨xs, hq⟩, q⟩⟩ | ⟨z, e, q⟩
  · subst e
    obtain rfl : v = Value.ref a := r1
    obtain ⟨its, rv, pl, hz⟩ := I1.list hq
    exact wpAny_pyIter_list pl.isList (pi_one (tk := s1.toks) I1 _ (turn_list a _) ⟨_, Heap.get?_push_size _ rfl, rfl, rfl⟩ q)
  · subst e
    obtain rfl : v = Value.ref a := r1
    obtain ⟨its, rv, pl, hz⟩ := I1.tuple hq
    exact wpAny_pyIter_tuple (show s1.heap.IsTuple a its.toArray from pl) (pi_one (tk := s1.toks) I1 _ (turn_tuple a _) ⟨_, Heap.get?_push_size _ rfl, rfl, rfl⟩ q)
  · subst e
    obtain ⟨t, rfl⟩ := (show ∃ t, v = Value.str z t from r1)
    cases ha : z.cps.all (· < 128) with
    | false => exact wpAny_pyIter_wide ha (pi_one (tk := s1.toks) I1 _ (turn_str _ z t "str_iterator" (.inr rfl)) ⟨_, Heap.get?_push_size _ rfl, rfl, rfl⟩ q)
    | true => exact wpAny_pyIter_ascii ha (pi_one (tk := s1.toks) I1 _ (turn_str _ z t "str_ascii_iterator" (.inl rfl)) ⟨_, Heap.get?_push_size _ rfl, rfl, rfl⟩ q)
theorem i_range1 {tg a : Expr} {a' : E} {x : Str} {p pos : Pos} (C : CtxOk X cm G N sc Wx) (hg : sc.names.lookup x = some .globalImplicit) (hx : x = "range") (hns : noStar a = true) (ha : PE X a (RE X.K cm G Wx a')) :
    PI X tg (.Call (.Name x p) [a] [] pos) (RI X.K cm G Wx .range1 [a']) := by
  subst hx
  have h0 : PI X tg (.Call (.Name "range" p) [a] [] pos) _ := pi_range1 (C.gl _ hg) (C.bl _ (by decide +kernel)) (pa_cons ha pa_nil (star_cons hns)) (star_cons hns)
  refine ⟨fun pins s σ H R I h => h0.run pins s σ H R I ?_⟩
  obtain ⟨W, en, st, er, sr, p⟩ := h
  simp only [evalEs, Out.bind_assoc, Out.bind_ok] at p
  refine ⟨W, en, st, er, sr, p.bind.imp fun W1 d1 s1 H1 le1 sr1 p1 v1 r1 => ?_⟩
  obtain ⟨v, st', e, q⟩ := p1.ok_of (iterV_nox _ _ _)
  unfold iterV at e
  split at e
  case h_3 =>
    rename_i e2
    cases e2
    obtain ⟨hb, e⟩ := need_ok e
    cases e
    cases r1
    exact ⟨_, rfl, hb.1, hb.2, q W1 H1 (.refl _) sr1 _ wk_range⟩
  all_goals first | (rename_i h1 h2; cases h1) | (rename_i h1; cases h1) | cases e | (rename_i h6 h5 h4 h3 h2 h1; first | exact (h1 _ rfl rfl).elim | exact (h2 _ _ rfl rfl).elim)
theorem i_range2 {tg a b : Expr} {a' b' : E} {x : Str} {p pos : Pos} (C : CtxOk X cm G N sc Wx) (hg : sc.names.lookup x = some .globalImplicit) (hx : x = "range") (hns : noStar a = true) (hns2 : noStar b = true) (ha : PE X a (RE X.K cm G Wx a')) (hb : PE X b (RE X.K cm G Wx b')) :
    PI X tg (.Call (.Name x p) [a, b] [] pos) (RI X.K cm G Wx .range2 [a', b']) := by
  subst hx
  have h0 : PI X tg (.Call (.Name "range" p) [a, b] [] pos) _ := pi_range2 (C.gl _ hg) (C.bl _ (by decide +kernel)) (pa_cons ha (pa_cons hb pa_nil (star_cons hns2)) (star_cons hns)) (by rw [star_cons hns, star_cons hns2]; rfl) (star_cons hns2)
  refine ⟨fun pins s σ H R I h => h0.run pins s σ H R I ?_⟩
  obtain ⟨W, en, st, er, sr, p⟩ := h
  simp only [evalEs, Out.bind_assoc, Out.bind_ok] at p
  refine ⟨W, en, st, er, sr, p.bind.imp fun W1 d1 s1 H1 le1 sr1 p1 v1 r1 => ⟨W1, en, s1, er.mono le1, sr1, p1.bind.imp fun W2 d2 s2 H2 le2 sr2 p2 v2 r2 => ?_⟩⟩
  obtain ⟨v, st', e, q⟩ := p2.ok_of (iterV_nox _ _ _)
  unfold iterV at e
  split at e
  case h_4 =>
    rename_i e2
    cases e2
    obtain ⟨hb, e⟩ := need_ok e
    cases e
    cases r1
    cases r2
    exact ⟨_, _, rfl, hb, q W2 H2 (.refl _) sr2 _ wk_range⟩
  all_goals first | (rename_i h1 h2; cases h1) | (rename_i h1; cases h1) | cases e | (rename_i h6 h5 h4 h3 h2 h1; first | exact (h1 _ rfl rfl).elim | exact (h2 _ _ rfl rfl).elim)
theorem i_enum {a : Expr} {a' : E} {x : Str} {p pos tpos : Pos} {elts : List Expr} {kk : Nat} (C : CtxOk X cm G N sc Wx) (hg : sc.names.lookup x = some .globalImplicit) (hx : x = "enumerate") (hns : noStar a = true) (ha : PE X a (RE X.K cm G Wx a')) :
    PI X (.Tuple elts kk tpos) (.Call (.Name x p) [a] [] pos) (RI X.K cm G Wx .enum [a']) := by
  subst hx
  have h0 : PI X (.Tuple elts kk tpos) (.Call (.Name "enumerate" p) [a] [] pos) _ := pi_enum (C.gl _ hg) (C.bl _ (by decide +kernel)) (pa_cons ha pa_nil (star_cons hns)) (star_cons hns)
  refine ⟨fun pins s σ H R I h => h0.run pins s σ H R I ?_⟩
  obtain ⟨W, en, st, er, sr, p⟩ := h
  simp only [evalEs, Out.bind_assoc, Out.bind_ok] at p
  refine ⟨W, en, st, er, sr, p.bind.imp fun W1 d1 s1 H1 le1 sr1 p1 v1 r1 => ?_⟩
  obtain ⟨v, st', e, q⟩ := p1.ok_of (iterV_nox _ _ _)
  unfold iterV at e
  split at e
  case h_6 =>
    rename_i e2
    cases e2
    split at e
    · rename_i ys e3
      obtain ⟨hb, e⟩ := need_ok e
      cases e
      obtain ⟨a, vs, ev, t, l, q1⟩ := r1.seqL sr1 e3
      subst ev
      rcases q1 with ⟨q1, _⟩ | ⟨_, et⟩
      · exact ⟨a, vs, rfl, q1, q W1 H1 (.refl _) sr1 _ (wk_enum sr1 r1 e3 hb)⟩
      · subst et; cases hb
    · cases e
  all_goals first | (rename_i h1 h2; cases h1) | (rename_i h1; cases h1) | cases e | (rename_i h6 h5 h4 h3 h2 h1; first | exact (h1 _ rfl rfl).elim | exact (h2 _ _ rfl rfl).elim)
theorem i_zip {a b : Expr} {a' b' : E} {x : Str} {p pos tpos : Pos} {elts : List Expr} {kk : Nat} (C : CtxOk X cm G N sc Wx) (hg : sc.names.lookup x = some .globalImplicit) (hx : x = "zip") (hns : noStar a = true) (hns2 : noStar b = true) (ha : PE X a (RE X.K cm G Wx a')) (hb : PE X b (RE X.K cm G Wx b')) :
    PI X (.Tuple elts kk tpos) (.Call (.Name x p) [a, b] [] pos) (RI X.K cm G Wx .zip [a', b']) := by
  subst hx
  have h0 : PI X (.Tuple elts kk tpos) (.Call (.Name "zip" p) [a, b] [] pos) _ := pi_zipM (C.gl _ hg) (C.bl _ (by decide +kernel)) (pa_cons ha (pa_cons hb pa_nil (star_cons hns2)) (star_cons hns)) (star_cons hns) (star_any (by rw [List.all_cons, hns2]; rfl))
  refine ⟨fun pins s σ H R I h => h0.run pins s σ H R I ?_⟩
  obtain ⟨W, en, st, er, sr, p⟩ := h
  simp only [evalEs, Out.bind_assoc, Out.bind_ok] at p
  refine ⟨W, en, st, er, sr, p.bind.imp fun W1 d1 s1 H1 le1 sr1 p1 v1 r1 => ⟨W1, en, s1, er.mono le1, sr1, p1.bind.imp fun W2 d2 s2 H2 le2 sr2 p2 v2 r2 => ?_⟩⟩
  obtain ⟨v, st', e, q⟩ := p2.ok_of (iterV_nox _ _ _)
  unfold iterV at e
  split at e
  case h_5 =>
    rename_i e2
    cases e2
    split at e
    · rename_i ys zs e3 e4
      cases e
      have r1' := r1.mono le2
      obtain ⟨a, vs, ev, t, l, q1⟩ := r1'.seqL sr2 e3
      obtain ⟨b, ws, ev2, t2, l2, q2⟩ := r2.seqL sr2 e4
      subst ev ev2
      have k1 : SqK X.K (isT d1) H2 a vs := by
        rcases q1 with ⟨q1, n1⟩ | ⟨q1, rfl⟩
        · cases d1 <;> first | exact q1 | exact absurd rfl (n1 _)
        · exact q1
      have k2 : SqK X.K (isT d2) H2 b ws := by
        rcases q2 with ⟨q2, n2⟩ | ⟨q2, rfl⟩
        · cases d2 <;> first | exact q2 | exact absurd rfl (n2 _)
        · exact q2
      exact ⟨isT d1, isT d2, a, b, vs, ws, rfl, k1, k2, q W2 H2 (.refl _) sr2 _ (wk_zipM sr2 r1' e3 r2 e4)⟩
    · cases e
  all_goals first | (rename_i h1 h2; cases h1) | (rename_i h1; cases h1) | cases e | (rename_i h6 h5 h4 h3 h2 h1; first | exact (h1 _ rfl rfl).elim | exact (h2 _ _ rfl rfl).elim)
end
end PI

/-! PI, part J: patterns, comprehensions. -/
namespace PI
open PySem PySem.Spec PyProof.Rows L2
mutual
def slotsP : Pat → List Nat
  | .name i => [i]
  | .tup ps => slotsPs ps
def slotsPs : List Pat → List Nat
  | [] => []
  | p :: ps => slotsP p ++ slotsPs ps
end
section
variable (K : PySem.W.Frag) (cm : Str → Option Addr)
def RG (p : Pat) : TG := fun v σ H Q => ∃ W en st d en', ER K W en σ ∧ SR K cm W st H ∧ DR K W d v ∧ bindP p d en = some en' ∧
  ∀ σ', ER K W en' σ' → σ'.length = σ.length → (∀ i, i ∉ slotsP p → σ'[i]? = σ[i]?) → Q σ' H
def RGs (ps : List Pat) : TGs := fun vs σ H Q => ∃ W en st ds en', ER K W en σ ∧ SR K cm W st H ∧ DRs K W ds vs ∧ bindPs ps ds en = some en' ∧
  ∀ σ', ER K W en' σ' → σ'.length = σ.length → (∀ i, i ∉ slotsPs ps → σ'[i]? = σ[i]?) → Q σ' H
end
theorem _root_.L2.PG.weak {X : Cx} {e : Expr} {t t' : TG} (h : PG X e t) (k : ∀ v σ H Q, t' v σ H Q → t v σ H Q) : PG X e t' := ⟨fun pins s σ H v u Q I r q => h.run pins s σ H v u Q I r (k v σ H Q q)⟩
theorem _root_.L2.PGs.weak {X : Cx} {e : List Expr} {t t' : TGs} (h : PGs X e t) (k : ∀ v σ H Q, t' v σ H Q → t v σ H Q) : PGs X e t' := ⟨fun pins s σ H v u Q I r q => h.run pins s σ H v u Q I r (k v σ H Q q)⟩
section
variable {X : Cx} {cm : Str → Option Addr} {G : Gm} {N : List Str} {sc : Scope} {Wx : WX}
theorem assign_cons {e : Expr} {es : List Expr} {env : PySem.Env} (h : noStar e = true) : assignEach (e :: es) env = (false, assign e env) :: assignEach es env := by
  cases e <;> first | rfl | cases h
theorem assign_len {env : PySem.Env} : ∀ {es : List Expr}, es.all noStar = true → (assignEach es env).length = es.length
  | [], _ => rfl
  | e :: es, h => by
    rw [List.all_cons, Bool.and_eq_true] at h
    rw [assign_cons h.1, List.length_cons, List.length_cons, assign_len h.2]
theorem assign_star {env : PySem.Env} : ∀ {es : List Expr}, es.all noStar = true → (assignEach es env).findIdx? (·.1) = none
  | [], _ => rfl
  | e :: es, h => by
    rw [List.all_cons, Bool.and_eq_true] at h
    rw [assign_cons h.1, List.findIdx?_cons]
    simp only [Bool.false_eq_true, if_false]
    rw [assign_star h.2]
    rfl
theorem g_name {i : Nat} {x : Str} {pos : Pos} (C : CtxOk X cm G N sc Wx) (hN : N[i]? = some x) (hl : Loc sc x) : PG X (.Name x pos) (RG X.K cm (.name i)) := by
  obtain ⟨h1, h2⟩ := C.loc x hl
  refine (pg_name (i := i) (by rw [C.XN]; exact C.nd) (by rw [C.XN]; exact hN) h1 h2).weak fun v σ H Q h => ?_
  obtain ⟨W, en, st, d, en', er, sr, r, e, q⟩ := h
  simp only [bindP] at e
  cases e
  exact q _ (er.set i r) (by rw [List.length_set]) fun j hj => by
    rw [List.getElem?_set_ne]
    intro e
    exact hj (by simp [slotsP, e])
theorem gs_nil : PGs X [] (RGs X.K cm []) := pgs_nil.weak fun vs σ H Q h => by
  obtain ⟨W, en, st, ds, en', er, sr, r, e, q⟩ := h
  cases ds with
  | nil =>
    simp only [bindPs] at e
    cases e
    exact ⟨r.nil_inv, q σ er rfl fun _ _ => rfl⟩
  | cons a b => simp [bindPs] at e
theorem gs_cons {e : Expr} {es : List Expr} {p : Pat} {ps : List Pat} (hns : noStar e = true) (h1 : PG X e (RG X.K cm p)) (h2 : PGs X es (RGs X.K cm ps)) : PGs X (e :: es) (RGs X.K cm (p :: ps)) := by
  refine (pgs_cons h1 h2 (by rw [assign_cons hns]; rfl)).weak fun vs σ H Q h => ?_
  obtain ⟨W, en, st, ds, en', er, sr, r, e, q⟩ := h
  cases ds with
  | nil => simp [bindPs] at e
  | cons d ds =>
    simp only [bindPs] at e
    split at e
    · rename_i en1 e1
      cases r with
      | cons r1 r2 =>
        refine ⟨_, _, rfl, W, en, st, d, en1, er, sr, r1, e1, fun σ1 er1 l1 k1 => ⟨W, en1, st, ds, en', er1, sr, r2, e, fun σ2 er2 l2 k2 => ?_⟩⟩
        refine q σ2 er2 (l2.trans l1) fun i hi => ?_
        simp only [slotsPs, List.mem_append, not_or] at hi
        exact (k2 i hi.2).trans (k1 i hi.1)
    · cases e
theorem bindPs_len : ∀ {ps : List Pat} {ds : List D} {en en' : Ev}, bindPs ps ds en = some en' → ds.length = ps.length
  | [], [], _, _, _ => rfl
  | [], _ :: _, _, _, h => by simp [bindPs] at h
  | _ :: _, [], _, _, h => by simp [bindPs] at h
  | p :: ps, d :: ds, en, en', h => by
    simp only [bindPs] at h
    split at h
    · rw [List.length_cons, List.length_cons, bindPs_len h]
    · cases h
theorem g_tup {es : List Expr} {k : Nat} {pos : Pos} {ps : List Pat} (C : CtxOk X cm G N sc Wx) (hns : es.all noStar = true) (hl : es.length = ps.length) (h : PGs X es (RGs X.K cm ps)) : PG X (.Tuple es k pos) (RG X.K cm (.tup ps)) := by
  refine (pg_tup C.calm h (assign_len hns) (assign_star hns)).weak fun v σ H Q q => ?_
  obtain ⟨W, en, st, d, en', er, sr, r, e, q⟩ := q
  cases d with
  | tup ds =>
    simp only [bindP] at e
    obtain ⟨a, vs, ev, hq, t, l⟩ := r.tup_inv sr
    exact ⟨a, vs, ev, hq, by rw [← t.length, bindPs_len e, hl], W, en, st, ds, en', er, sr, t, e, fun σ' er' l' k' => q σ' er' l' fun i hi => k' i (by simpa [slotsP] using hi)⟩
  | _ => simp [bindP] at e

/-! ### a comprehension's block -/
theorem relabel_look {env : PySem.Env} : ∀ {names : List (Str × NameKind)} {x : Str} {k : NameKind}, names.lookup x = some k →
    (names.map fun (n, k) => if (k == NameKind.free && env.scope.kind == .function && env.kindOf n == some .cell) then (n, NameKind.cell) else (n, k)).lookup x = some k ∨
    (k = .free ∧ (names.map fun (n, k) => if (k == NameKind.free && env.scope.kind == .function && env.kindOf n == some .cell) then (n, NameKind.cell) else (n, k)).lookup x = some .cell)
  | [], _, _, h => by simp at h
  | (n, k₀) :: r, x, k, h => by
    have ih := @relabel_look env r x k
    show List.lookup x ((if (k₀ == NameKind.free && env.scope.kind == .function && env.kindOf n == some .cell) = true then (n, NameKind.cell) else (n, k₀)) :: _) = _ ∨ (_ ∧ List.lookup x ((if (k₀ == NameKind.free && env.scope.kind == .function && env.kindOf n == some .cell) = true then (n, NameKind.cell) else (n, k₀)) :: _) = _)
    by_cases hc : (k₀ == NameKind.free && env.scope.kind == .function && env.kindOf n == some .cell) = true
    · rw [if_pos hc]
      have hk : k₀ = .free := by
        simp only [Bool.and_eq_true, beq_iff_eq] at hc
        exact hc.1.1
      cases hx : x == n with
      | true =>
        simp only [List.lookup_cons, hx] at h ⊢
        cases h
        exact .inr ⟨hk, trivial⟩
      | false =>
        simp only [List.lookup_cons, hx] at h ⊢
        exact ih h
    · rw [if_neg hc]
      cases hx : x == n with
      | true =>
        simp only [List.lookup_cons, hx] at h ⊢
        exact .inl h
      | false =>
        simp only [List.lookup_cons, hx] at h ⊢
        exact ih h
theorem CtxOk.blk (C : CtxOk X cm G N sc Wx) {scope : Scope} (s : Shared) (H : Hp) (Cc : Addr) (cl : List (Str × Addr)) (fp : List Addr) :
    CtxOk (X.blk s H scope (compEnvC scope cl Cc X.env) fp) cm G N scope (fun _ _ _ _ => False) where
  XN := C.XN
  nd := C.nd
  vis := fun x h => by
    rcases h with h | h | h
    · rcases relabel_look (env := X.env) h with z | ⟨z, _⟩
      · exact .inl z
      · cases z
    · rcases relabel_look (env := X.env) h with z | ⟨z, _⟩
      · exact .inr (.inl z)
      · cases z
    · rcases relabel_look (env := X.env) h with z | ⟨_, z⟩
      · exact .inr (.inr z)
      · exact .inr (.inl z)
  loc := fun x h => by
    rcases h with h | h
    · rcases relabel_look (env := X.env) h with z | ⟨z, _⟩
      · exact ⟨.inl z, .inr z⟩
      · cases z
    · rcases relabel_look (env := X.env) h with z | ⟨z, _⟩
      · exact ⟨.inr z, .inl (by show (scope.names.lookup x == some .cell) = true; rw [h]; rfl)⟩
      · cases z
  cf := fun x h => by
    rcases h with h | h
    · rcases relabel_look (env := X.env) h with z | ⟨z, _⟩
      · exact .inl z
      · cases z
    · rcases relabel_look (env := X.env) h with z | ⟨_, z⟩
      · exact .inr z
      · exact .inl z
  gl := fun x h => by
    rcases relabel_look (env := X.env) h with z | ⟨z, _⟩
    · exact z
    · cases z
  calm := C.calm
  gd := C.gd
  st := C.st
  tk := takes0
theorem wipe_get {σ : L2.St} : ∀ {vs : List Nat} {i : Nat}, i ∈ vs → ∀ x, (L2.wipe σ vs)[i]? ≠ some (some x)
  | v :: vs, i, h, x => by
    unfold L2.wipe
    intro e
    by_cases hi : v = i
    · subst hi
      by_cases hl : v < (L2.wipe σ vs).length
      · rw [List.getElem?_set_self hl] at e; cases e
      · rw [List.getElem?_eq_none (by rw [List.length_set]; omega)] at e; cases e
    · rw [List.getElem?_set_ne hi] at e
      rcases List.mem_cons.mp h with z | z
      · exact hi z.symm
      · exact wipe_get z x e
theorem wipe_same {σ σ' : L2.St} {vs : List Nat} (hl : σ'.length = σ.length) (h : ∀ i, i ∉ vs → σ'[i]? = σ[i]?) : L2.wipe σ' vs = L2.wipe σ vs := by
  apply List.ext_getElem?
  intro i
  by_cases hi : i ∈ vs
  · have l1 : (L2.wipe σ' vs).length = (L2.wipe σ vs).length := by rw [wipe_length, wipe_length, hl]
    have g1 := wipe_get (σ := σ') hi
    have g2 := wipe_get (σ := σ) hi
    by_cases hlt : i < (L2.wipe σ vs).length
    · have e1 : (L2.wipe σ' vs)[i]? = some ((L2.wipe σ' vs)[i]'(by omega)) := List.getElem?_eq_getElem (by omega)
      have e2 : (L2.wipe σ vs)[i]? = some ((L2.wipe σ vs)[i]) := List.getElem?_eq_getElem hlt
      rw [e1, e2]
      cases z1 : (L2.wipe σ' vs)[i]'(by omega) with
      | some x => rw [z1] at e1; exact absurd e1 (g1 x)
      | none =>
        cases z2 : (L2.wipe σ vs)[i] with
        | some x => rw [z2] at e2; exact absurd e2 (g2 x)
        | none => rfl
    · rw [List.getElem?_eq_none (by omega), List.getElem?_eq_none (by omega)]
  · rw [wipe_out hi, wipe_out hi]
    exact h i hi
/-! ### [elt for tg in iter if c] -/
/-- one turn -/
noncomputable def turnC (G : Gm) (elt c : E) (en' : Ev) (s : Sto) : Out (Option D) := match c with
  | .gap => (evalE G elt en' s).bind fun y s'' => .ok (some y) s''
  | c => (evalE G c en' s).bind fun b s' => match truthD s' b with
    | some true => (evalE G elt en' s').bind fun y s'' => .ok (some y) s''
    | some false => .ok none s'
    | none => .bad
noncomputable def turnF (G : Gm) (elt : E) (p : Pat) (c : E) (en : Ev) : D → Sto → Out (Option D) := fun x s => match bindP p x en with
  | none => .bad
  | some en' => turnC G elt c en' s
theorem evalE_comp (G : Gm) (m : Bool) (elt : E) (p : Pat) (k : IK) (es : List E) (c : E) (own : List Nat) (en : Ev) (st : Sto) :
    evalE G (.comp m elt p k es c own) en st = ((evalEs G es en st).bind fun xs s1 => iterV k xs s1).bind fun v s2 => need (v.items.length ≤ sizeLine) ((compL (turnF G elt p c (wipeE en own)) v v.items [] s2).calm.bind fun ys s3 => newL m ys s3) := by
  rw [Out.bind_assoc]
  simp only [evalE]
  rfl
theorem turnC_gap {G : Gm} {elt : E} {en' : Ev} {s : Sto} : turnC G elt .gap en' s = (evalE G elt en' s).bind fun y s'' => .ok (some y) s'' := rfl
theorem turnC_ne {G : Gm} {elt c : E} {en' : Ev} {s : Sto} (hc : c ≠ .gap) : turnC G elt c en' s = (evalE G c en' s).bind fun b s' => match truthD s' b with
      | some true => (evalE G elt en' s').bind fun y s'' => .ok (some y) s''
      | some false => .ok none s'
      | none => .bad := by
  cases c <;> first | rfl | exact absurd rfl hc
/-- what a block's test asks -/
def condT (K : PySem.W.Frag) (cm : Str → Option Addr) (G : Gm) (c : E) : TT :=
  match c with
  | .gap => tYes
  | c => RT K cm G (fun _ _ _ _ => False) c
theorem condT_ne {K : PySem.W.Frag} {cm : Str → Option Addr} {G : Gm} {c : E} (hc : c ≠ .gap) : condT K cm G c = RT K cm G (fun _ _ _ _ => False) c := by
  cases c <;> first | rfl | exact absurd rfl hc
theorem Out.bind_inv {α β : Type} {o : Out α} {f : α → Sto → Out β} {b : β} {st : Sto} (h : o.bind f = .ok b st) : ∃ a s1, o = .ok a s1 ∧ f a s1 = .ok b st := by
  cases o with
  | ok a s1 => exact ⟨a, s1, rfl, h⟩
  | exc => cases h
  | bad => cases h
theorem Post.of_ok {K : PySem.W.Frag} {cm : Str → Option Addr} {α : Type} {W : Wd} {o : Out α} {a : α} {st : Sto} {Q : Wd → α → Sto → Hp → Prop} {E : XK} (e : o = .ok a st) (h : ∀ W' H, W.le W' → SR K cm W' st H → Q W' a st H) : Post K cm W o Q E := by
  rw [e]
  exact h
theorem compL_len {f : D → Sto → Out (Option D)} {v : Itv} : ∀ {xs acc : List D} {st st' : Sto} {ys : List D}, compL f v xs acc st = .ok ys st' → ys.length ≤ acc.length + xs.length
  | [], acc, st, st', ys, h => by
    simp only [compL] at h
    obtain ⟨_, h⟩ := need_ok h
    cases h
    simp
  | x :: xs, acc, st, st', ys, h => by
    simp only [compL] at h
    obtain ⟨_, h⟩ := need_ok h
    obtain ⟨r, s1, _, h⟩ := Out.bind_inv h
    cases r with
    | some d =>
      have := compL_len h
      rw [List.length_append, List.length_singleton] at this
      rw [List.length_cons]
      omega
    | none =>
      have := compL_len h
      rw [List.length_cons]
      omega
theorem wipe_twice {σ σ' : L2.St} {vs : List Nat} (hl : σ'.length = (L2.wipe σ vs).length) (h : ∀ i, i ∉ vs → σ'[i]? = (L2.wipe σ vs)[i]?) : L2.wipe σ' vs = L2.wipe σ vs := wipe_same (by rw [hl, wipe_length]) fun i hi => by rw [h i hi, wipe_out hi]
theorem RE_comp {m : Bool} {elt c : E} {p : Pat} {k : IK} {es : List E} {own : List Nat} (hown : ∀ i ∈ slotsP p, i ∈ own) {σ : L2.St} {H : Hp} {Q : VK} (h : RE X.K cm G Wx (.comp m elt p k es c own) σ H Q) :
    tLc (RI X.K cm G Wx k es) (RG X.K cm p) (condT X.K cm G c) (RE X.K cm G (fun _ _ _ _ => False) elt) own σ H Q := by
  obtain ⟨W, en, st, er, sr, pp⟩ := h
  rw [evalE_comp] at pp
  refine ⟨W, en, st, er, sr, pp.bind.imp fun W1 v st1 H1 le1 sr1 p1 J wk Da hD => ?_⟩
  have hlen : v.items.length ≤ sizeLine := by
    unfold need at p1
    split at p1
    · assumption
    · exact p1.elim
  rw [need_pos hlen] at p1
  obtain ⟨ys, st9, ec, pf⟩ := p1.bind.calm
  have er1 := er.mono le1
  have hP1 : W1.P Da = none := by
    cases e : W1.P Da with
    | none => rfl
    | some o =>
      have := (sr1.held Da o e).1
      rw [hD] at this
      cases this
  refine ⟨fun i mm H2 => mm = v.items.length - i ∧ i ≤ v.items.length ∧ ∃ W2 st2 acc va, W1.leD W2 ∧ W2.P = upd W1.P Da (.lst va) ∧ SR X.K cm W2 st2 H2 ∧ DRs X.K W2 acc va ∧ acc.length ≤ i ∧ compL (turnF G elt p c (wipeE en own)) v (v.items.drop i) acc st2 = .ok ys st9,
    ⟨v.items.length, by simp, Nat.zero_le _, W1.hold Da (.lst []), st1, [], [], Wd.leD_hold, rfl, sr1.hold hD, .nil, Nat.le_refl _, ec⟩, fun i mm H2 hW => ?_⟩
  obtain ⟨rfl, hi, W2, st2, acc, va, le2, hP, sr2, ra, hacc, e2⟩ := hW
  have W1_le : ∀ {W3 : Wd}, W1.leD W3 → W1.le { W3 with P := W1.P } := fun {W3} l => ⟨l.io, l.F, rfl⟩
  by_cases hlt : i < v.items.length
  · obtain ⟨x, hx⟩ := get_lt hlt
    rw [List.drop_eq_getElem_cons hlt] at e2
    have ex : v.items[i] = x := by
      rw [List.getElem?_eq_getElem hlt] at hx
      exact Option.some.inj hx
    rw [ex] at e2
    simp only [compL] at e2
    obtain ⟨hst, e2⟩ := need_ok e2
    obtain ⟨r, st3, et, e3⟩ := Out.bind_inv e2
    refine .inr ⟨wk.go i _ st2 H2 le2 sr2 hst hlt, fun H' => ∃ W4 acc' va', W1.leD W4 ∧ W4.P = upd W1.P Da (.lst va') ∧ SR X.K cm W4 st3 H' ∧ DRs X.K W4 acc' va' ∧ acc'.length ≤ i + 1 ∧ compL (turnF G elt p c (wipeE en own)) v (v.items.drop (i + 1)) acc' st3 = .ok ys st9,
      fun H' ⟨W4, acc', va', a1, a2, a3, a4, a5, a6⟩ => ⟨v.items.length - (i + 1), by omega, rfl, hlt, W4, st3, acc', va', a1, a2, a3, a4, a5, a6⟩, fun z H3 hy => ?_⟩
    obtain ⟨W3, le3, sr3, d, hd, rz⟩ := wk.yld i W2 st2 H2 z H3 le2 sr2 hst hlt hy
    rw [hx] at hd
    cases hd
    unfold turnF at et
    split at et
    · cases et
    · rename_i en1 eb
      have erw : ER X.K W3 (wipeE en own) (L2.wipe σ own) := ((er1.monoD' le2).mono le3).wipe own
      refine ⟨W3, _, st2, _, en1, erw, sr3, rz, eb, fun σ2 er2 l2 k2 => ⟨wipe_twice l2 fun j hj => k2 j fun hm => hj (hown j hm), ?_⟩⟩
      have hP3 : W3.P = upd W1.P Da (.lst va) := le3.P.trans hP
      have leA : W1.leD W3 := le2.trans le3.D
      -- an item is made
      have item : ∀ {W5 : Wd} {s5 : Sto} {H5 : Hp} {d5 : D} {s6 : Sto}, W3.le W5 → SR X.K cm W5 s5 H5 → evalE G elt en1 s5 = .ok d5 s6 → compL (turnF G elt p c (wipeE en own)) v (v.items.drop (i + 1)) (acc ++ [d5]) s6 = .ok ys st9 → s6 = st3 →
          RE X.K cm G (fun _ _ _ _ => False) elt σ2 H5 fun y H4 => ∃ acc, H4 Da = some (.lst acc) ∧ acc.length < sizeLine ∧ ∃ W4 acc' va', W1.leD W4 ∧ W4.P = upd W1.P Da (.lst va') ∧ SR X.K cm W4 st3 (upd H4 Da (.lst (acc ++ [y]))) ∧ DRs X.K W4 acc' va' ∧ acc'.length ≤ i + 1 ∧ compL (turnF G elt p c (wipeE en own)) v (v.items.drop (i + 1)) acc' st3 = .ok ys st9 := fun {W5 s5 H5 d5 s6} le5 sr5 e5 e6 es => by
        subst es
        refine ⟨W5, en1, s5, er2.mono le5, sr5, Post.of_ok e5 fun W6 H6 le6 sr6 y ry => ?_⟩
        have hP6 : W6.P = upd W1.P Da (.lst va) := (le6.P.trans le5.P).trans hP3
        obtain ⟨hDa, _, _⟩ := sr6.held Da (.lst va) (by rw [hP6, upd_same])
        have ra6 : DRs X.K W6 acc va := ((ra.mono le3).mono le5).mono le6
        refine ⟨va, hDa, by rw [← ra6.length]; omega, { W6 with P := upd W1.P Da (.lst (va ++ [y])) }, acc ++ [d5], va ++ [y], ?_, rfl, sr6.reheld hP6, (ra6.append (.one ry)).monoD (Wd.leD_P _ _), by rw [List.length_append, List.length_singleton]; omega, e6⟩
        exact (leA.trans (le5.D.trans le6.D)).trans (Wd.leD_P _ _)
      by_cases hc : c = .gap
      · subst hc
        rw [turnC_gap] at et
        obtain ⟨d5, s6, e5, e6⟩ := Out.bind_inv et
        cases e6
        dsimp only [condT, tYes]
        exact iteT (item (.refl _) sr3 e5 e3 rfl)
      · rw [condT_ne hc]
        rw [turnC_ne hc] at et
        obtain ⟨b5, s5, e5, e6⟩ := Out.bind_inv et
        refine ⟨W3, en1, st2, er2, sr3, ?_⟩
        unfold evalT
        rw [e5]
        simp only [Out.bind_ok]
        split at e6
        · rename_i e7
          rw [e7]
          obtain ⟨d6, s7, e8, e9⟩ := Out.bind_inv e6
          cases e9
          exact fun W5 H5 le5 sr5 => iteT (item le5 sr5 e8 e3 rfl)
        · rename_i e7
          cases e6
          rw [e7]
          refine fun W5 H5 le5 sr5 => iteF ?_
          have hP5 : W5.P = upd W1.P Da (.lst va) := le5.P.trans hP3
          exact ⟨W5, acc, va, leA.trans le5.D, hP5, sr5, (ra.mono le3).mono le5, by omega, e3⟩
        · cases e6
  · have hi' : i = v.items.length := by omega
    subst hi'
    rw [List.drop_length] at e2
    simp only [compL] at e2
    obtain ⟨hst, e2⟩ := need_ok e2
    obtain ⟨rfl, rfl⟩ : acc = ys ∧ st2 = st9 := by cases e2; exact ⟨rfl, rfl⟩
    obtain ⟨srP, hDa, hF, hio⟩ := sr2.letgo hP hP1
    refine .inl ⟨wk.stop _ st2 H2 le2 sr2 hst, ?_⟩
    have q := pf _ H2 (W1_le le2) srP
    obtain ⟨d, st', en', q'⟩ := q.ok_of NoX.newL
    have ra' : DRs X.K { W2 with P := W1.P } acc va := ra.monoD (Wd.leD_P W2 W1.P)
    obtain ⟨W', le', s', r'⟩ := srP.own en' ra' (Nat.le_trans hacc hlen) hDa hF hio hP1
    exact q' W' H2 le' s' _ r'
end
end PI

/-! PI, part K: statements. -/
namespace PI
open PySem PySem.Spec PyProof.Rows L2
section
variable (K : PySem.W.Frag) (cm : Str → Option Addr) (G : Gm) (Wx : WX)
/-- what is wanted behind a statement's end -/
def FlOk (W : Wd) (fl : Fl) (H : Hp) (D : Ends) : Prop :=
  match fl with
  | .nx en => ∀ σ, ER K W en σ → D.nx σ H
  | .brk en => ∀ σ, ER K W en σ → D.bk σ H
  | .cont en => ∀ σ, ER K W en σ → D.ct σ H
  | .ret d => ∀ v, DR K W d v → D.rt v H
  | .exc c fs en => ∀ σ cls dd, ER K W en σ → XR K cm W c fs cls dd H → Wx cls dd σ H
def PostF (W : Wd) (o : Out Fl) (D : Ends) : Prop :=
  match o with
  | .ok fl st => ∀ W' H, W.le W' → SR K cm W' st H → FlOk K cm Wx W' fl H D
  | _ => False
def RS (s : S) : TS := fun D σ H => ∃ W en st, ER K W en σ ∧ SR K cm W st H ∧ PostF K cm Wx W (execS G s en st) D
def RSs (ss : List S) : TS := fun D σ H => ∃ W en st, ER K W en σ ∧ SR K cm W st H ∧ PostF K cm Wx W (execSs G ss en st) D
end
section
variable {K : PySem.W.Frag} {cm : Str → Option Addr} {Wx : WX} {W W' : Wd} {D D' : Ends}
theorem PostF.mono {o : Out Fl} (le : W.le W') (h : PostF K cm Wx W o D) : PostF K cm Wx W' o D := by
  cases o with
  | ok a st => exact fun W2 H l s => h W2 H (le.trans l) s
  | exc => exact h
  | bad => exact h
theorem PostF.lift {α : Type} {o : Out α} {f : α → Sto → Out Fl} {en : Ev} {σ : L2.St} (er : ER K W en σ) (h : PostF K cm Wx W (o.lift (fun c fs => .exc c fs en) f) D) :
    Post K cm W o (fun W' a st _ => PostF K cm Wx W' (f a st) D) fun c d H' => Wx c d σ H' := by
  cases o with
  | ok a st => exact fun W2 H l s => PostF.mono l h
  | exc c fs st => exact fun W2 H cls dd l s x => h W2 H l s σ cls dd (er.mono l) x
  | bad => exact h
theorem PostF.at {fl : Fl} {st : Sto} {H : Hp} (h : PostF K cm Wx W (.ok fl st) D) (s : SR K cm W st H) : FlOk K cm Wx W fl H D := h W H (.refl W) s
/-- behind a statement comes what follows -/
theorem PostF.bind {o : Out Fl} {f : Fl → Sto → Out Fl} (h : PostF K cm Wx W (o.bind f) D)
    (k : ∀ fl st, o = .ok fl st → ∀ W' H, W.le W' → SR K cm W' st H → PostF K cm Wx W' (f fl st) D → FlOk K cm Wx W' fl H D') : PostF K cm Wx W o D' := by
  cases o with
  | ok fl st => exact fun W2 H l s => k fl st rfl W2 H l s (PostF.mono l h)
  | exc => exact h
  | bad => exact h
end

section
variable {X : Cx} {cm : Str → Option Addr} {G : Gm} {N : List Str} {sc : Scope} {Wx : WX}
theorem ss_nil : PSs X [] (RSs X.K cm G Wx []) := pss_nil.weak fun D σ H h => by
  obtain ⟨W, en, st, er, sr, p⟩ := h
  simp only [execSs] at p
  exact p.at sr σ er
theorem ss_cons {st : Stmt} {sts : List Stmt} {s : S} {ss : List S} (h1 : PS X st (RS X.K cm G Wx s)) (h2 : PSs X sts (RSs X.K cm G Wx ss)) : PSs X (st :: sts) (RSs X.K cm G Wx (s :: ss)) := by
  refine (pss_cons h1 h2).weak fun D σ H h => ?_
  obtain ⟨W, en, st, er, sr, p⟩ := h
  simp only [execSs] at p
  refine ⟨W, en, st, er, sr, p.bind fun fl s1 e W1 H1 le1 sr1 p1 => ?_⟩
  cases fl with
  | nx en1 => exact fun σ1 er1 => ⟨W1, en1, s1, er1, sr1, p1⟩
  | brk en1 => exact p1.at sr1
  | cont en1 => exact p1.at sr1
  | ret d => exact p1.at sr1
  | exc c fs en1 => exact p1.at sr1
theorem s_pass {pos : Pos} : PS X (.Pass pos) (RS X.K cm G Wx .pass) := ps_pass.weak fun D σ H h => by
  obtain ⟨W, en, st, er, sr, p⟩ := h
  simp only [execS] at p
  exact p.at sr σ er
theorem s_brk {pos : Pos} : PS X (.Break pos) (RS X.K cm G Wx .brk) := ps_break.weak fun D σ H h => by
  obtain ⟨W, en, st, er, sr, p⟩ := h
  simp only [execS] at p
  exact p.at sr σ er
theorem s_cont {pos : Pos} : PS X (.Continue pos) (RS X.K cm G Wx .cont) := ps_continue.weak fun D σ H h => by
  obtain ⟨W, en, st, er, sr, p⟩ := h
  simp only [execS] at p
  exact p.at sr σ er
theorem s_ret {e : Expr} {e' : E} {pos : Pos} (he : PE X e (RE X.K cm G Wx e')) : PS X (.Return (some e) pos) (RS X.K cm G Wx (.ret e')) := (ps_ret he).weak fun D σ H h => by
  obtain ⟨W, en, st, er, sr, p⟩ := h
  simp only [execS] at p
  exact ⟨W, en, st, er, sr, (p.lift er).imp fun W1 d1 s1 H1 le1 sr1 p1 v r => p1.at sr1 v r⟩
theorem s_retN {pos : Pos} : PS X (.Return none pos) (RS X.K cm G Wx (.ret .non)) := ps_retN.weak fun D σ H h => by
  obtain ⟨W, en, st, er, sr, p⟩ := h
  simp only [execS, evalE] at p
  exact p.at sr _ .non
def notComp : Expr → Bool
  | .ListComp _ _ _ _ => false
  | .SetComp _ _ _ _ => false
  | .DictComp _ _ _ _ _ => false
  | _ => true
theorem swap_no {e : Expr} {t : Option Expr} {l : Nat} {env : PySem.Env} (h : notComp e = true) : swapsWith e t l env = pure false := by
  cases e <;> first | rfl | cases h
theorem s_ex {e : Expr} {e' : E} {pos : Pos} (hn : notComp e = true) (he : PE X e (RE X.K cm G Wx e')) : PS X (.Expr e pos) (RS X.K cm G Wx (.ex e')) := (ps_expr he (swap_no hn)).weak fun D σ H h => by
  obtain ⟨W, en, st, er, sr, p⟩ := h
  simp only [execS] at p
  exact ⟨W, en, st, er, sr, (p.lift er).imp fun W1 d1 s1 H1 le1 sr1 p1 v r => p1.at sr1 σ (er.mono le1)⟩
theorem s_doc {x : Str} {j : Nat} {pos pos' : Pos} : PS X (.Expr (.Constant (.str x) j pos) pos') (RS X.K cm G Wx .pass) := ps_doc.weak fun D σ H h => by
  obtain ⟨W, en, st, er, sr, p⟩ := h
  simp only [execS] at p
  exact p.at sr σ er
theorem s_if {c : Expr} {a b : List Stmt} {c' : E} {a' b' : List S} {pos : Pos} (hc : PT X c (RT X.K cm G Wx c')) (ha : PSs X a (RSs X.K cm G Wx a')) (hb : PSs X b (RSs X.K cm G Wx b')) : PS X (.If c a b pos) (RS X.K cm G Wx (.ifs c' a' b')) :=
  (ps_if hc ha hb).weak fun D σ H h => by
    obtain ⟨W, en, st, er, sr, p⟩ := h
    simp only [execS] at p
    refine ⟨W, en, st, er, sr, (p.lift er).imp fun W1 t s1 H1 le1 sr1 p1 => ?_⟩
    cases t with
    | true => exact iteT ⟨W1, en, s1, er.mono le1, sr1, p1⟩
    | false => exact iteF ⟨W1, en, s1, er.mono le1, sr1, p1⟩
/-! ### assignments -/
def notTup : Expr → Bool
  | .Tuple _ _ _ => false
  | _ => true
theorem swapped_no {t e : Expr} {env : PySem.Env} (h : notTup e = true) : swappedStores [t] e env = pure none := by
  unfold swappedStores
  cases e <;> first | (cases t <;> rfl) | cases h
theorem swapped_no' {t e : Expr} {env : PySem.Env} (h : notTup t = true) (h2 : ∀ es p, t ≠ .List es p) : swappedStores [t] e env = pure none := by
  unfold swappedStores
  cases t <;> first | (cases e <;> rfl) | exact absurd rfl (h2 _ _) | cases h
theorem s_asg {t e : Expr} {p : Pat} {e' : E} {pos : Pos} (hs : swapsWithSole [t] e pos.line X.env = pure false) (hw : swappedStores [t] e X.env = pure none) (hst : noStar t = true) (he : PE X e (RE X.K cm G Wx e')) (hg : PG X t (RG X.K cm p)) :
    PS X (.Assign [t] e pos) (RS X.K cm G Wx (.asg p e')) := (ps_asg he hg hs hw (by rw [assign_cons hst]; rfl)).weak fun D σ H h => by
  obtain ⟨W, en, st, er, sr, pp⟩ := h
  simp only [execS] at pp
  refine ⟨W, en, st, er, sr, (pp.lift er).imp fun W1 d1 s1 H1 le1 sr1 p1 v r => ?_⟩
  split at p1
  · rename_i en1 e1
    exact ⟨W1, en, s1, d1, en1, er.mono le1, sr1, r, e1, fun σ' er' _ _ => p1.at sr1 σ' er'⟩
  · exact p1.elim
theorem s_par {x y : Str} {a b : Expr} {i j : Nat} {a' b' : E} {px py pt pt2 pos : Pos} {kt k2 : Nat} (C : CtxOk X cm G N sc Wx) (hi : N[i]? = some x) (hj : N[j]? = some y) (hij : i ≠ j) (hx : X.env.scope.names.lookup x = some .local) (hy : X.env.scope.names.lookup y = some .local)
    (hw : swappedStores [.Tuple [.Name x px, .Name y py] kt pt] (.Tuple [a, b] k2 pt2) X.env = pure (some [x, y])) (hna : noStar a = true) (hnb : noStar b = true) (ha : PE X a (RE X.K cm G Wx a')) (hb : PE X b (RE X.K cm G Wx b')) :
    PS X (.Assign [.Tuple [.Name x px, .Name y py] kt pt] (.Tuple [a, b] k2 pt2) pos) (RS X.K cm G Wx (.par i j a' b')) :=
  (ps_par C.calm (by rw [C.XN]; exact C.nd) (by rw [C.XN]; exact hi) (by rw [C.XN]; exact hj) hij hx hy (pa_cons ha (pa_cons hb pa_nil (star_cons hnb)) (star_cons hna)) hw rfl).weak fun D σ H h => by
    obtain ⟨W, en, st, er, sr, pp⟩ := h
    simp only [execS] at pp
    have q := (pp.lift er).bind
    refine ⟨W, en, st, er, sr, q.imp fun W1 d1 s1 H1 le1 sr1 p1 v r => ⟨W1, en, s1, er.mono le1, sr1, p1.bind.imp fun W2 d2 s2 H2 le2 sr2 p2 v2 r2 => ⟨v, v2, rfl, ?_⟩⟩⟩
    exact (p2.at sr2).at sr2 _ ((((er.mono le1).mono le2).set i (r.mono le2)).set j r2)
def plainI : Expr → Bool
  | .Slice _ _ _ _ => false
  | _ => true
theorem setList_P : PSet X (fun o i v H Q => ∃ W n k d st st', SR X.K cm W st H ∧ DR X.K W n o ∧ DR X.K W k i ∧ DR X.K W d v ∧ setIxV n k d st = .ok () st' ∧ ∀ W' H', W.le W' → SR X.K cm W' st' H' → Q H') := by
  intro pins s σ H o i v ov iv u Q I r1 r2 r3 h
  obtain ⟨W, n, k, d, st, st', sr, ro, ri, rd, e, q⟩ := h
  unfold setIxV at e
  split at e
  · split at e
    · split at e
      · rename_i ys e1 _ j e2
        cases e
        obtain ⟨a, vs, rfl, hi, t, l, hH⟩ := sr.lstAt ro e1
        cases ri
        refine set_list pins s σ H _ _ v ov iv u Q I r1 r2 r3 ⟨a, vs, _, j, rfl, rfl, hH, by rw [← t.length]; exact e2, ?_⟩
        exact q W _ (.refl W) (sr.set e1 (fun z => nomatch z) hi ⟨_, upd_same, by rw [List.length_set]; exact l, t.set rd j⟩)
      · cases e
    · cases e
  · cases e
theorem setIxV_nox (o i x : D) (st : Sto) : NoX (setIxV o i x st) := by
  unfold setIxV
  split
  · split
    · split
      · exact .ok
      · exact .bad
    · exact .bad
  · exact .bad
theorem swap_sub {e o i : Expr} {p : Pos} {l : Nat} {env : PySem.Env} : swapsWith e (some (.Subscript o i p)) l env = pure false := by
  cases e <;> rfl
theorem swap_tup {e : Expr} {ts : List Expr} {k : Nat} {p : Pos} {l : Nat} {env : PySem.Env} : swapsWith e (some (.Tuple ts k p)) l env = pure false := by
  cases e <;> rfl
theorem s_setIx {o i e : Expr} {o' i' e' : E} {p pos : Pos} (hpl : plainI i = true) (ho : PE X o (RE X.K cm G Wx o')) (hi : PE X i (RE X.K cm G Wx i')) (he : PE X e (RE X.K cm G Wx e')) :
    PS X (.Assign [.Subscript o i p] e pos) (RS X.K cm G Wx (.setIx o' i' e')) := by
  have hg := pg_sub (pos := p) ho hi (setList_P (X := X) (cm := cm)) (by intro v; cases i <;> first | rfl | cases hpl)
  refine (ps_asg he hg (show swapsWith e (some (.Subscript o i p)) pos.line X.env = pure false from swap_sub) (swapped_no' rfl (fun _ _ z => nomatch z)) rfl).weak fun D σ H h => ?_
  obtain ⟨W, en, st, er, sr, pp⟩ := h
  simp only [execS] at pp
  have q := (pp.lift er).bind
  refine ⟨W, en, st, er, sr, q.imp fun W1 d1 s1 H1 le1 sr1 p1 v1 r1 => ⟨W1, en, s1, er.mono le1, sr1, p1.bind.imp fun W2 d2 s2 H2 le2 sr2 p2 v2 r2 => ⟨W2, en, s2, (er.mono le1).mono le2, sr2, p2.bind.imp fun W3 d3 s3 H3 le3 sr3 p3 v3 r3 => ?_⟩⟩⟩
  obtain ⟨u, st', e1, q1⟩ := p3.ok_of (setIxV_nox _ _ _ _)
  refine ⟨W3, d2, d3, d1, s3, st', sr3, r2.mono le3, r3, (r1.mono le2).mono le3, e1, fun W4 H4 le4 s4 => ?_⟩
  exact (q1 W4 H4 le4 s4).at s4 σ ((((er.mono le1).mono le2).mono le3).mono le4)

/-! ### loops -/
theorem s_while {c : Expr} {body : List Stmt} {c' : E} {b' : List S} {pos : Pos} (hp : PassesOwn (model X.prog X.w) X.A X.env X.xe) (hc : PT X c (RT X.K cm G Wx c')) (hb : PSs X body (RSs X.K cm G Wx b')) : PS X (.While c body [] pos) (RS X.K cm G Wx (.loop c' b')) := by
  refine (ps_while hp hc hb).weak fun D σ H h => ?_
  obtain ⟨W, en, st, er, sr, p⟩ := h
  simp only [execS] at p
  refine ⟨fun m σ H => ∃ W en st, ER X.K W en σ ∧ SR X.K cm W st H ∧ PostF X.K cm Wx W (whileL (fun en st => evalT G c' en st) (fun en st => execSs G b' en st) m en st) D, ⟨G.N, W, en, st, er, sr, p⟩, fun m σ H hW => ?_⟩
  obtain ⟨W, en, st, er, sr, p⟩ := hW
  cases m with
  | zero => exact p.elim
  | succ m =>
    simp only [whileL] at p
    refine ⟨W, en, st, er, sr, (p.lift er).imp fun W1 t s1 H1 le1 sr1 p1 => ?_⟩
    cases t with
    | false => exact iteF (p1.at sr1 σ (er.mono le1))
    | true =>
      refine iteT ⟨fun σ' H' => ∃ W en st, ER X.K W en σ' ∧ SR X.K cm W st H' ∧ PostF X.K cm Wx W (whileL (fun en st => evalT G c' en st) (fun en st => execSs G b' en st) m en st) D, fun σ' H' q => ⟨m, Nat.lt_succ_self m, q⟩, ?_⟩
      refine ⟨W1, en, s1, er.mono le1, sr1, p1.bind fun fl s2 e W2 H2 le2 sr2 p2 => ?_⟩
      cases fl with
      | nx en2 => exact fun σ2 er2 => ⟨W2, en2, s2, er2, sr2, p2⟩
      | cont en2 => exact fun σ2 er2 => ⟨W2, en2, s2, er2, sr2, p2⟩
      | brk en2 => exact fun σ2 er2 => p2.at sr2 σ2 er2
      | ret d => exact fun v r => p2.at sr2 v r
      | exc c fs en2 => exact fun σ2 cls dd er2 x => p2.at sr2 σ2 cls dd er2 x
theorem s_each {tg iter : Expr} {body : List Stmt} {p : Pat} {k : IK} {es : List E} {b' : List S} {pos : Pos} (hp : PassesOwn (model X.prog X.w) X.A X.env X.xe) (hc : X.calm = true) (hi : PI X tg iter (RI X.K cm G Wx k es)) (hg : PG X tg (RG X.K cm p)) (hb : PSs X body (RSs X.K cm G Wx b'))
    (hf : ∀ x, foldedSetIterable iter X.env x = pure x) : PS X (.For tg iter body [] pos) (RS X.K cm G Wx (.each p k es b')) := by
  refine (ps_for hp hc hi hg hb hf).weak fun D σ H h => ?_
  obtain ⟨W, en, st, er, sr, pp⟩ := h
  simp only [execS] at pp
  refine ⟨W, en, st, er, sr, (pp.lift er).imp fun W1 v st1 H1 le1 sr1 p1 J wk => ?_⟩
  refine ⟨fun i m σ H => m = v.items.length - i ∧ i ≤ v.items.length ∧ ∃ W2 en2 st2, W1.le W2 ∧ ER X.K W2 en2 σ ∧ SR X.K cm W2 st2 H ∧ PostF X.K cm Wx W2 (eachL p (fun en st => execSs G b' en st) v (v.items.drop i) en2 st2) D,
    ⟨v.items.length, by simp, Nat.zero_le _, W1, en, st1, .refl W1, er.mono le1, sr1, p1⟩, fun i m σ2 H2 hW => ?_⟩
  obtain ⟨rfl, hi, W2, en2, st2, le2, er2, sr2, p2⟩ := hW
  by_cases hlt : i < v.items.length
  · obtain ⟨x, hx⟩ := get_lt hlt
    rw [List.drop_eq_getElem_cons hlt] at p2
    have ex : v.items[i] = x := by
      rw [List.getElem?_eq_getElem hlt] at hx
      exact Option.some.inj hx
    rw [ex] at p2
    simp only [eachL] at p2
    have hst : v.stays st2 := by
      unfold need at p2
      split at p2
      · assumption
      · exact p2.elim
    rw [need_pos hst] at p2
    split at p2
    · exact p2.elim
    · rename_i en3 eb
      refine .inr ⟨wk.go i W2 st2 H2 le2.D sr2 hst hlt, fun σ' H' => ∃ W3 en4 st4, W1.le W3 ∧ ER X.K W3 en4 σ' ∧ SR X.K cm W3 st4 H' ∧ PostF X.K cm Wx W3 (eachL p (fun en st => execSs G b' en st) v (v.items.drop (i + 1)) en4 st4) D,
        fun σ' H' q => ⟨v.items.length - (i + 1), by omega, rfl, hlt, q⟩, fun z H3 hy => ?_⟩
      obtain ⟨W3, le3, sr3, d, hd, rz⟩ := wk.yld i W2 st2 H2 z H3 le2.D sr2 hst hlt hy
      rw [hx] at hd
      cases hd
      refine ⟨W3, en2, st2, x, en3, er2.mono le3, sr3, rz, eb, fun σ' er' _ _ => ⟨W3, en3, st2, er', sr3, (p2.mono le3).bind fun fl s4 e W4 H4 le4 sr4 p4 => ?_⟩⟩
      have leA : W1.le W4 := (le2.trans le3).trans le4
      cases fl with
      | nx en4 => exact fun σ4 er4 => ⟨W4, en4, s4, leA, er4, sr4, p4⟩
      | cont en4 => exact fun σ4 er4 => ⟨W4, en4, s4, leA, er4, sr4, p4⟩
      | brk en4 => exact fun σ4 er4 => p4.at sr4 σ4 er4
      | ret d => exact fun v r => p4.at sr4 v r
      | exc c fs en4 => exact fun σ4 cls dd er4 x => p4.at sr4 σ4 cls dd er4 x
  · have hi' : i = v.items.length := by omega
    subst hi'
    rw [List.drop_length] at p2
    simp only [eachL] at p2
    have hst : v.stays st2 := by
      unfold need at p2
      split at p2
      · assumption
      · exact p2.elim
    rw [need_pos hst] at p2
    exact .inl ⟨wk.stop W2 st2 H2 le2.D sr2 hst, p2.at sr2 σ2 er2⟩
end
end PI

/-! PI, part L: from the model's syntax to ours, with the proofs. -/
namespace PI
open PySem PySem.Spec PyProof.Rows L2
structure Cc where
  N : List Str
  sc : Scope
  mu : List (Nat × Nat)
  fz : List (Nat × Nat)
  fns : List Str
def OKE (c : Cc) (e : Expr) (e' : E) : Prop := ∀ {X : Cx} {cm : Str → Option Addr} {G : Gm} {Wx : WX}, CtxOk X cm G c.N c.sc Wx → (∀ f ∈ c.fns, f ∈ G.fns) → PE X e (RE X.K cm G Wx e')
def OKT (c : Cc) (e : Expr) (e' : E) : Prop := ∀ {X : Cx} {cm : Str → Option Addr} {G : Gm} {Wx : WX}, CtxOk X cm G c.N c.sc Wx → (∀ f ∈ c.fns, f ∈ G.fns) → PT X e (RT X.K cm G Wx e')
def OKW (c : Cc) (e : Expr) (e' : E) : Prop := ∀ {X : Cx} {cm : Str → Option Addr} {G : Gm} {Wx : WX}, CtxOk X cm G c.N c.sc Wx → (∀ f ∈ c.fns, f ∈ G.fns) → PW X e (RT X.K cm G Wx e')
structure OKA (c : Cc) (es : List Expr) (es' : List E) : Prop where
  len : es.length = es'.length
  ns : es.all noStar = true
  ok : ∀ {X : Cx} {cm : Str → Option Addr} {G : Gm} {Wx : WX}, CtxOk X cm G c.N c.sc Wx → (∀ f ∈ c.fns, f ∈ G.fns) → PA X es (RA X.K cm G Wx es')
def OKI (c : Cc) (tg iter : Expr) (k : IK) (es : List E) : Prop := ∀ {X : Cx} {cm : Str → Option Addr} {G : Gm} {Wx : WX}, CtxOk X cm G c.N c.sc Wx → (∀ f ∈ c.fns, f ∈ G.fns) → PI X tg iter (RI X.K cm G Wx k es)
def OKG (c : Cc) (t : Expr) (p : Pat) : Prop := ∀ {X : Cx} {cm : Str → Option Addr} {G : Gm} {Wx : WX}, CtxOk X cm G c.N c.sc Wx → PG X t (RG X.K cm p)
structure OKGs (c : Cc) (ts : List Expr) (ps : List Pat) : Prop where
  len : ts.length = ps.length
  ns : ts.all noStar = true
  ok : ∀ {X : Cx} {cm : Str → Option Addr} {G : Gm} {Wx : WX}, CtxOk X cm G c.N c.sc Wx → PGs X ts (RGs X.K cm ps)
section
variable {X : Cx} {cm : Str → Option Addr} {G : Gm} {N : List Str} {sc : Scope} {Wx : WX}
theorem blk_ok (C : CtxOk X cm G N sc Wx) {scope : Scope} {own : List (Str × Nat)} (h : blkC N sc scope own = true) : BlkOk X.N X.env.scope scope own := by
  have b := blkOk_by h
  rw [C.XN]
  exact ⟨b.kind, b.uniq, b.ix, fun y hy e => C.cf _ (b.free y hy e), b.own⟩
theorem x_comp {m : Bool} {elt tg iter : Expr} {ifs : List Expr} {scope : Scope} {pos : Pos} {own : List (Str × Nat)} {elt' c' : E} {p : Pat} {k : IK} {es : List E} (C : CtxOk X cm G N sc Wx) (hb : blkC N sc scope own = true) (hown : ∀ i ∈ slotsP p, i ∈ own.map (·.2))
    (hi : PI X tg iter (RI X.K cm G Wx k es)) (hf : ∀ x, foldedSetIterable iter X.env x = pure x)
    (hg : ∀ {X' : Cx} {Wx'}, CtxOk X' cm G N scope Wx' → PG X' tg (RG X'.K cm p)) (ht : ∀ {X' : Cx}, CtxOk X' cm G N scope (fun _ _ _ _ => False) → PTs X' ifs (condT X'.K cm G c')) (he : ∀ {X' : Cx}, CtxOk X' cm G N scope (fun _ _ _ _ => False) → PE X' elt (RE X'.K cm G (fun _ _ _ _ => False) elt')) :
    PE X (.ListComp elt [⟨tg, iter, ifs, 0⟩] scope pos) (RE X.K cm G Wx (.comp m elt' p k es c' (own.map (·.2)))) :=
  (pe_lc (g := RG X.K cm p) (tt := condT X.K cm G c') (te := RE X.K cm G (fun _ _ _ _ => False) elt') C.calm (by rw [C.XN]; exact C.nd) hi (blk_ok C hb) (fun s H Cc cl fp => hg (C.blk s H Cc cl fp)) (fun s H Cc cl fp => ht (C.blk s H Cc cl fp)) (fun s H Cc cl fp => he (C.blk s H Cc cl fp)) hf).weak fun σ H Q h => RE_comp hown h
theorem s_comp {m : Bool} {elt tg iter : Expr} {ifs : List Expr} {scope : Scope} {pos spos py : Pos} {y : Str} {i : Nat} {own : List (Str × Nat)} {elt' c' : E} {p : Pat} {k : IK} {es : List E} (C : CtxOk X cm G N sc Wx) (hb : blkC N sc scope own = true) (hown : ∀ i ∈ slotsP p, i ∈ own.map (·.2))
    (hy : N[i]? = some y) (hyl : X.env.scope.names.lookup y = some .local) (hsw : swapsWith (.ListComp elt [⟨tg, iter, ifs, 0⟩] scope pos) (some (.Name y py)) spos.line X.env = pure true)
    (hi : PI X tg iter (RI X.K cm G Wx k es)) (hf : ∀ x, foldedSetIterable iter X.env x = pure x)
    (hg : ∀ {X' : Cx} {Wx'}, CtxOk X' cm G N scope Wx' → PG X' tg (RG X'.K cm p)) (ht : ∀ {X' : Cx}, CtxOk X' cm G N scope (fun _ _ _ _ => False) → PTs X' ifs (condT X'.K cm G c')) (he : ∀ {X' : Cx}, CtxOk X' cm G N scope (fun _ _ _ _ => False) → PE X' elt (RE X'.K cm G (fun _ _ _ _ => False) elt')) :
    PS X (.Assign [.Name y py] (.ListComp elt [⟨tg, iter, ifs, 0⟩] scope pos) spos) (RS X.K cm G Wx (.asg (.name i) (.comp m elt' p k es c' (own.map (·.2))))) := by
  refine (ps_setLc (g := RG X.K cm p) (tt := condT X.K cm G c') (te := RE X.K cm G (fun _ _ _ _ => False) elt') C.calm (by rw [C.XN]; exact C.nd) (by rw [C.XN]; exact hy) hyl hsw hi (blk_ok C hb) (fun s H Cc cl fp => hg (C.blk s H Cc cl fp)) (fun s H Cc cl fp => ht (C.blk s H Cc cl fp)) (fun s H Cc cl fp => he (C.blk s H Cc cl fp)) hf).weak fun D σ H h => ?_
  obtain ⟨W, en, st, er, sr, pp⟩ := h
  simp only [execS] at pp
  show tLc _ _ _ _ _ σ H fun x H1 => gName i x σ H1 D.nx
  refine RE_comp hown ⟨W, en, st, er, sr, (pp.lift er).imp fun W1 d1 s1 H1 le1 sr1 p1 v r => ?_⟩
  simp only [bindP] at p1
  exact p1.at sr1 _ ((er.mono le1).set i r)
end
/-! ### small checks -/
def ixOf (N : List Str) (x : Str) : Option Nat := N.findIdx? (· == x)
theorem ixOf_get {N : List Str} {x : Str} {i : Nat} (h : ixOf N x = some i) : N[i]? = some x := by
  obtain ⟨hi, h1, _⟩ := List.findIdx?_eq_some_iff_getElem.mp h
  rw [List.getElem?_eq_getElem hi]
  exact congrArg some (beq_iff_eq.mp h1)
def kindB (sc : Scope) (x : Str) : Option NameKind := sc.names.lookup x
def dbgOk (x : Str) : Bool := !(x == ("__debug__" : Str)) && !(x == ("__classdict__" : Str)) && !(x == ("__name__" : Str))
theorem dbgOk.a {x : Str} (h : dbgOk x = true) : (x == ("__debug__" : Str)) = false := by
  unfold dbgOk at h
  simp only [Bool.and_eq_true, Bool.not_eq_true'] at h
  exact h.1.1
theorem dbgOk.b {x : Str} (h : dbgOk x = true) : (x == ("__classdict__" : Str)) = false := by
  unfold dbgOk at h
  simp only [Bool.and_eq_true, Bool.not_eq_true'] at h
  exact h.1.2
theorem dbgOk.n {x : Str} (h : dbgOk x = true) : x ≠ "__name__" := by
  unfold dbgOk at h
  simp only [Bool.and_eq_true, Bool.not_eq_true'] at h
  intro e
  rw [e] at h
  exact absurd h.2 (by decide +kernel)
def visB : Option NameKind → Bool
  | some .local => true
  | some .cell => true
  | some .free => true
  | _ => false
theorem visB.ok {sc : Scope} {x : Str} (h : visB (kindB sc x) = true) : Vis sc x := by
  unfold kindB at h
  unfold Vis
  cases e : sc.names.lookup x with
  | none => rw [e] at h; cases h
  | some k => rw [e] at h; cases k <;> first | exact .inl rfl | exact .inr (.inl rfl) | exact .inr (.inr rfl) | cases h
def locB : Option NameKind → Bool
  | some .local => true
  | some .cell => true
  | _ => false
theorem locB.ok {sc : Scope} {x : Str} (h : locB (kindB sc x) = true) : L2.Loc sc x := by
  unfold kindB at h
  unfold L2.Loc
  cases e : sc.names.lookup x with
  | none => rw [e] at h; cases h
  | some k => rw [e] at h; cases k <;> first | exact .inl rfl | exact .inr rfl | cases h
def glB : Option NameKind → Bool
  | some .globalImplicit => true
  | _ => false
theorem glB.ok {sc : Scope} {x : Str} (h : glB (kindB sc x) = true) : sc.names.lookup x = some .globalImplicit := by
  unfold kindB at h
  cases e : sc.names.lookup x with
  | none => rw [e] at h; cases h
  | some k => rw [e] at h; cases k <;> first | rfl | cases h
def notSet : Expr → Bool
  | .Set _ _ _ => false
  | _ => true
theorem mark_no {op : CmpOp} {b : Expr} (h : notSet b = true) : behindInMarks op b = false := by
  cases b <;> first | rfl | cases h
theorem fold_no {e : Expr} {env : PySem.Env} (h : notSet e = true) (x : Value) : foldedSetIterable e env x = pure x := by
  cases e <;> first | rfl | cases h
theorem ix_plain {b : Expr} (h : plainI b = true) : PlainIx b := by
  intro o i
  cases b <;> first | rfl | cases h
/-- an expression whose test is its value's truth -/
def plainT : Expr → Bool
  | .UnaryOp .Not _ _ => false
  | .BoolOp _ _ _ => false
  | .IfExp _ _ _ _ => false
  | .Compare _ _ _ _ => false
  | _ => true
theorem test_plain {e : Expr} {env : PySem.Env} (h : plainT e = true) (whole : Sem Value) : isTrue e env whole = (do let v ← whole; standAt e.pos; holding [v] (truthy v)) := by
  cases e <;> first | rfl | cases h | skip
  rename_i op a pos
  cases op <;> first | rfl | cases h
def notGap : E → Bool
  | .gap => false
  | _ => true
theorem notGap.ne {e : E} (h : notGap e = true) : e ≠ .gap := fun z => by rw [z] at h; cases h
theorem part_ok {e : E} (h : notGap e = true) (d : D) : partV e d = match d with | .int i => some (some i) | _ => none := by
  cases e <;> first | (cases d <;> rfl) | cases h

/-! ### the compiler -/
mutual
def cPat : Nat → (c : Cc) → (t : Expr) → Option {p : Pat // OKG c t p}
  | n + 1, c, .Name x pos =>
    match h : ixOf c.N x with
    | some i => if hl : locB (kindB c.sc x) = true then some ⟨.name i, fun C => g_name C (ixOf_get h) (locB.ok hl)⟩ else none
    | none => none
  | n + 1, c, .Tuple ts k pos =>
    match cPats n c ts with
    | some ⟨ps, h⟩ => some ⟨.tup ps, fun C => g_tup C h.ns h.len (h.ok C)⟩
    | none => none
  | _, _, _ => none
def cPats : Nat → (c : Cc) → (ts : List Expr) → Option {ps : List Pat // OKGs c ts ps}
  | _, c, [] => some ⟨[], ⟨rfl, rfl, fun _ => gs_nil⟩⟩
  | n + 1, c, t :: ts =>
    if hs : noStar t = true then
      match cPat n c t, cPats n c ts with
      | some ⟨p, h1⟩, some ⟨ps, h2⟩ => some ⟨p :: ps, ⟨by rw [List.length_cons, List.length_cons, h2.len], by rw [List.all_cons, hs, h2.ns]; rfl, fun C => gs_cons hs (h1 C) (h2.ok C)⟩⟩
      | _, _ => none
    else none
  | _, _, _ => none
end

def BiOk (f : Str) (m : Bool) (b : BI) : Prop := ∀ {X : Cx} {cm : Str → Option Addr} {G : Gm} {N : List Str} {sc : Scope} {Wx : WX} {e : Expr} {es : List Expr} {es' : List E} {p pos : Pos}, CtxOk X cm G N sc Wx → sc.names.lookup f = some .globalImplicit →
  (e :: es).all noStar = true → PA X (e :: es) (RA X.K cm G Wx es') → PE X (.Call (.Name f p) (e :: es) [] pos) (RE X.K cm G Wx (.bi m b es'))
def biOf (f : Str) (m : Bool) : Option {b : BI // BiOk f m b} :=
  if h : f = "len" then some ⟨.len, by subst h; exact fun C hg hns ha => x_biB C (fun _ _ => rfl) ci_len hg (C.bl _ (by decide +kernel)) PySem.boot_len hns ha (by decide) (by decide)⟩
  else if h : f = "tuple" then some ⟨.tuple, by subst h; exact fun C hg hns ha => x_biT C (fun _ _ => rfl) ci_tuple hg (C.bl _ (by decide +kernel)) (by decide +kernel) hns ha (by decide) (by decide)⟩
  else if h : f = "list" then some ⟨.list, by subst h; exact fun C hg hns ha => x_biT C (fun _ _ => rfl) ci_list hg (C.bl _ (by decide +kernel)) (by decide +kernel) hns ha (by decide) (by decide)⟩
  else if h : f = "int" then some ⟨.int, by subst h; exact fun C hg hns ha => x_biT C (fun _ _ => rfl) ci_int hg (C.bl _ (by decide +kernel)) (by decide +kernel) hns ha (by decide) (by decide)⟩
  else if h : f = "abs" then some ⟨.abs, by subst h; exact fun C hg hns ha => x_biB C (fun _ _ => rfl) ci_abs hg (C.bl _ (by decide +kernel)) PyProof.Rows.boot_abs hns ha (by decide) (by decide)⟩
  else if h : f = "sum" then some ⟨.sum, by subst h; exact fun C hg hns ha => x_biB C (fun _ _ => rfl) (ci_sum C.calm) hg (C.bl _ (by decide +kernel)) PyProof.Rows.boot_sum hns ha (by decide) (by decide)⟩
  else if h : f = "all" then some ⟨.all, by subst h; exact fun C hg hns ha => x_biB C (fun _ _ => rfl) (ci_all C.calm) hg (C.bl _ (by decide +kernel)) PyProof.Rows.boot_all hns ha (by decide) (by decide)⟩
  else if h : f = "any" then some ⟨.any, by subst h; exact fun C hg hns ha => x_biB C (fun _ _ => rfl) (ci_any C.calm) hg (C.bl _ (by decide +kernel)) PyProof.Rows.boot_any hns ha (by decide) (by decide)⟩
  else if h : f = "repr" then some ⟨.repr, by subst h; exact fun C hg hns ha => x_biB C (fun _ _ => rfl) (ci_repr C.gd C.un) hg (C.bl _ (by decide +kernel)) PyProof.Rows.boot_repr hns ha (by decide) (by decide)⟩
  else if h : f = "max" then some ⟨.max2, by subst h; exact fun C hg hns ha => x_biB C (fun _ _ => rfl) (ci_max2 C.calm) hg (C.bl _ (by decide +kernel)) PyProof.Rows.boot_max hns ha (by decide) (by decide)⟩
  else if h : f = "min" then some ⟨.min2, by subst h; exact fun C hg hns ha => x_biB C (fun _ _ => rfl) (ci_min2 C.calm) hg (C.bl _ (by decide +kernel)) PyProof.Rows.boot_min hns ha (by decide) (by decide)⟩
  else none
/-- a built-in class by its name -/
def TyOk (T : Str) (t : String) : Prop := t ∈ isTs ∧ bootBuiltins T = some (.type t) ∧ T ∈ (["len", "range", "tuple", "int", "isinstance", "abs", "enumerate", "list", "zip", "all", "sum", "repr", "min", "any", "str", "max", "bool"] : List Str) ∧ T ≠ "__name__" ∧ (T == ("__debug__" : Str)) = false
def tyOf (T : Str) : Option {t : String // TyOk T t} :=
  if h : T = "int" then some ⟨"int", by subst h; exact ⟨by decide, by decide +kernel, by decide +kernel, by decide, by decide⟩⟩
  else if h : T = "bool" then some ⟨"bool", by subst h; exact ⟨by decide, by decide +kernel, by decide +kernel, by decide, by decide⟩⟩
  else if h : T = "tuple" then some ⟨"tuple", by subst h; exact ⟨by decide, by decide +kernel, by decide +kernel, by decide, by decide⟩⟩
  else if h : T = "list" then some ⟨"list", by subst h; exact ⟨by decide, by decide +kernel, by decide +kernel, by decide, by decide⟩⟩
  else if h : T = "str" then some ⟨"str", by subst h; exact ⟨by decide, by decide +kernel, by decide +kernel, by decide, by decide⟩⟩
  else none
def BmOk (m : Str) (b : BM) : Prop := ∀ {X : Cx} {cm : Str → Option Addr} {G : Gm} {N : List Str} {sc : Scope} {Wx : WX} {o e : Expr} {es : List Expr} {o' : E} {es' : List E} {ap pos : Pos}, CtxOk X cm G N sc Wx → (e :: es).all noStar = true → (e :: es).length < 20 → plainBase o = true → (ap.endLine == pos.line) = true →
  PE X o (RE X.K cm G Wx o') → PA X (e :: es) (RA X.K cm G Wx es') → PE X (.Call (.Attribute o m ap) (e :: es) [] pos) (RE X.K cm G Wx (.bm o' b es'))
def bmOf (m : Str) : Option {b : BM // BmOk m b} :=
  if h : m = "append" then some ⟨.append, by subst h; exact fun C hns hl hp hln ho ha => x_bm C (fun _ _ _ => rfl) mi_append (fun _ _ h => h) PySem.F.slot_list_append PySem.F.type_list_append hns hl hp hln ho ha⟩
  else if h : m = "extend" then some ⟨.extend, by subst h; exact fun C hns hl hp hln ho ha => x_bm C (fun _ _ _ => rfl) mi_extend (fun _ _ h => h) PySem.F.slot_list_extend PySem.F.type_list_extend hns hl hp hln ho ha⟩
  else if h : m = "insert" then some ⟨.insert, by subst h; exact fun C hns hl hp hln ho ha => x_bm C (fun _ _ _ => rfl) mi_insert (fun _ _ h => h) PySem.F.slot_list_insert PySem.F.type_list_insert hns hl hp hln ho ha⟩
  else none
def at_ (l : List (Nat × Nat)) (pos : Pos) : Bool := l.any fun p => p.1 == pos.line && p.2 == pos.col
def ownOf (N : List Str) (scope : Scope) : List (Str × Nat) := scope.names.filterMap fun y => match y.2 with
  | .local => (ixOf N y.1).map fun i => (y.1, i)
  | .cell => (ixOf N y.1).map fun i => (y.1, i)
  | _ => none
theorem pts_of {X : Cx} {cm : Str → Option Addr} {G : Gm} {c : Expr} {c' : E} (h : notGap c' = true) (hc : PT X c (RT X.K cm G (fun _ _ _ _ => False) c')) : PTs X [c] (condT X.K cm G c') := by
  rw [condT_ne (notGap.ne h)]
  exact pts_one hc
mutual
def cE : Nat → (c : Cc) → (e : Expr) → Option {e' : E // OKE c e e'}
  | 0, _, _ => none
  | n + 1, c, .Name x pos =>
    if hd : dbgOk x = true then
      if hg : glB (kindB c.sc x) = true then some ⟨.glob x, fun C _ => x_glob C (glB.ok hg) (dbgOk.a hd)⟩
      else match h : ixOf c.N x with
        | some i => if hv : visB (kindB c.sc x) = true then
            if at_ c.fz pos then some ⟨.fz i, fun C _ => x_fz C (ixOf_get h) (visB.ok hv) (dbgOk.a hd) (dbgOk.b hd)⟩ else some ⟨.var i, fun C _ => x_var C (ixOf_get h) (visB.ok hv) (dbgOk.a hd) (dbgOk.b hd)⟩
          else none
        | none => none
    else none
  | n + 1, c, .Constant (.int i) j pos => some ⟨.int i, fun _ _ => x_int⟩
  | n + 1, c, .Constant (.bool i) j pos => some ⟨.bl i, fun _ _ => x_bl⟩
  | n + 1, c, .Constant .none j pos => some ⟨.non, fun _ _ => x_non⟩
  | n + 1, c, .Constant (.str x) j pos => if h : x.length ≤ 1000 then some ⟨.str x, fun _ _ => x_str h⟩ else none
  | n + 1, c, .BinOp a op b pos =>
    match cE n c a, cE n c b with
    | some ⟨a', ha⟩, some ⟨b', hb⟩ => some ⟨.bin (at_ c.mu pos) op a' b', fun C hf => x_bin (ha C hf) (hb C hf)⟩
    | _, _ => none
  | n + 1, c, .UnaryOp .USub a pos =>
    match cE n c a with
    | some ⟨a', ha⟩ => some ⟨.neg a', fun C hf => x_neg (ha C hf)⟩
    | none => none
  | n + 1, c, .UnaryOp .Not a pos =>
    match cE n c a with
    | some ⟨a', ha⟩ => some ⟨.not a', fun C hf => x_not (ha C hf)⟩
    | none => none
  | n + 1, c, .BoolOp op (a :: es) pos => cB n c op a es pos
  | n + 1, c, .IfExp t a b pos =>
    match cT n c t, cE n c a, cE n c b with
    | some ⟨t', ht⟩, some ⟨a', ha⟩, some ⟨b', hb⟩ => some ⟨.ite t' a' b', fun C hf => x_ite (ht C hf) (ha C hf) (hb C hf)⟩
    | _, _, _ => none
  | n + 1, c, .Compare a [op] [b] pos =>
    if hm : notSet b = true then
      match cE n c a, cE n c b with
      | some ⟨a', ha⟩, some ⟨b', hb⟩ => some ⟨.cmp op a' b', fun C hf => x_cmp C (mark_no hm) (ha C hf) (hb C hf)⟩
      | _, _ => none
    else none
  | n + 1, c, .Compare a [o1, o2] [b, d] pos =>
    if hm : notSet d = true then
      match cE n c a, cE n c b, cE n c d with
      | some ⟨a', ha⟩, some ⟨b', hb⟩, some ⟨d', hd⟩ => some ⟨.chain o1 o2 a' b' d', fun C hf => x_chain C (mark_no hm) (ha C hf) (hb C hf) (hd C hf)⟩
      | _, _, _ => none
    else none
  | n + 1, c, .Subscript a (.Slice lo hi none p2) pos =>
    match cE n c a, cO n c lo, cO n c hi with
    | some ⟨a', ha⟩, some ⟨l', hl⟩, some ⟨h', hh⟩ => some ⟨.slice (at_ c.mu pos) a' l' h', fun C hf => x_slice (ha C hf) (hl C hf) (hh C hf)⟩
    | _, _, _ => none
  | n + 1, c, .Subscript a i pos =>
    if hp : plainI i = true then
      match cE n c a, cE n c i with
      | some ⟨a', ha⟩, some ⟨i', hi⟩ => some ⟨.ix a' i', fun C hf => x_ix (ha C hf) (hi C hf) (ix_plain hp)⟩
      | _, _ => none
    else none
  | n + 1, c, .Tuple es k pos =>
    match cEs n c es with
    | some ⟨es', h⟩ => if hl : es'.length ≤ 1000 then some ⟨.tup es', fun C hf => x_tup hl (h.ok C hf)⟩ else none
    | none => none
  | n + 1, c, .List es pos =>
    match cEs n c es with
    | some ⟨es', h⟩ => if hl : es'.length ≤ 1000 then some ⟨.lst (at_ c.mu pos) es', fun C hf => x_lst hl (h.ok C hf)⟩ else none
    | none => none
  | n + 1, c, .ListComp elt [⟨tg, iter, [], 0⟩] scope pos =>
    if hb : blkC c.N c.sc scope (ownOf c.N scope) = true ∧ notSet iter = true then
      match cPat n { c with sc := scope } tg, cIt n c tg iter, cE n { c with sc := scope } elt with
      | some ⟨p, hp⟩, some ⟨(k, es), hi⟩, some ⟨elt', he⟩ =>
        if hown : (slotsP p).all (fun i => ((ownOf c.N scope).map (·.2)).contains i) = true then
          some ⟨.comp (at_ c.mu pos) elt' p k es .gap ((ownOf c.N scope).map (·.2)), fun C hf => x_comp C hb.1 (fun i hi => by simpa using List.all_eq_true.mp hown i hi) (hi C hf) (fun x => fold_no hb.2 x) (fun C' => hp C') (fun C' => pts_nil) (fun C' => he C' hf)⟩
        else none
      | _, _, _ => none
    else none
  | n + 1, c, .ListComp elt [⟨tg, iter, [t], 0⟩] scope pos =>
    if hb : blkC c.N c.sc scope (ownOf c.N scope) = true ∧ notSet iter = true then
      match cPat n { c with sc := scope } tg, cIt n c tg iter, cE n { c with sc := scope } elt, cT n { c with sc := scope } t with
      | some ⟨p, hp⟩, some ⟨(k, es), hi⟩, some ⟨elt', he⟩, some ⟨t', ht⟩ =>
        if hown : (slotsP p).all (fun i => ((ownOf c.N scope).map (·.2)).contains i) = true ∧ notGap t' = true then
          some ⟨.comp (at_ c.mu pos) elt' p k es t' ((ownOf c.N scope).map (·.2)), fun C hf => x_comp C hb.1 (fun i hi => by simpa using List.all_eq_true.mp hown.1 i hi) (hi C hf) (fun x => fold_no hb.2 x) (fun C' => hp C') (fun C' => pts_of hown.2 (ht C' hf)) (fun C' => he C' hf)⟩
        else none
      | _, _, _, _ => none
    else none
  | n + 1, c, .Call (.Name f p) args [] pos =>
    if hd : dbgOk f = true ∧ glB (kindB c.sc f) = true then
      if hi : f = "isinstance" then
        match args with
        | [e, .Name T p2] =>
          match tyOf T, cE n c e with
          | some ⟨t, ht⟩, some ⟨e', he⟩ =>
            if hx : noStar e = true ∧ glB (kindB c.sc T) = true then some ⟨.bi false (.isI t) [e'], fun C hf => x_isI C ht.1 (glB.ok hd.2) hi (glB.ok hx.2) (C.bl T ht.2.2.1) ht.2.1 hx.1 (he C hf) ht.2.2.2.1 ht.2.2.2.2⟩ else none
          | _, _ => none
        | _ => none
      else match cEs n c args with
        | some ⟨es', h⟩ =>
          if hf : f ∈ c.fns then some ⟨.call f es', fun C hF => x_call C (hF f hf) (glB.ok hd.2) (dbgOk.a hd.1) h.ns h.len (h.ok C hF)⟩
          else match args, h with
            | e :: es, h => match biOf f (at_ c.mu pos) with
              | some ⟨b, hb⟩ => some ⟨.bi (at_ c.mu pos) b es', fun C hF => hb C (glB.ok hd.2) h.ns (h.ok C hF)⟩
              | none => none
            | [], _ => none
        | none => none
    else none
  | n + 1, c, .Call (.Attribute o m ap) (e :: es) [] pos =>
    match bmOf m, cE n c o, cEs n c (e :: es) with
    | some ⟨b, hb⟩, some ⟨o', ho⟩, some ⟨es', h⟩ =>
      if hx : (e :: es).length < 20 ∧ plainBase o = true ∧ (ap.endLine == pos.line) = true then some ⟨.bm o' b es', fun C hF => hb C h.ns hx.1 hx.2.1 hx.2.2 (ho C hF) (h.ok C hF)⟩ else none
    | _, _, _ => none
  | _, _, _ => none
def cB : Nat → (c : Cc) → (op : BoolOp) → (a : Expr) → (es : List Expr) → (pos : Pos) → Option {e' : E // OKE c (.BoolOp op (a :: es) pos) e'}
  | 0, _, _, _, _, _ => none
  | n + 1, c, op, a, [], pos =>
    match cE n c a with
    | some ⟨a', ha⟩ => some ⟨a', fun C hf => x_one (ha C hf)⟩
    | none => none
  | n + 1, c, .And, a, b :: rest, pos =>
    match cE n c a, cB n c .And b rest pos with
    | some ⟨a', ha⟩, some ⟨b', hb⟩ => some ⟨.and a' b', fun C hf => x_and (ha C hf) (hb C hf)⟩
    | _, _ => none
  | n + 1, c, .Or, a, b :: rest, pos =>
    match cE n c a, cB n c .Or b rest pos with
    | some ⟨a', ha⟩, some ⟨b', hb⟩ => some ⟨.or a' b', fun C hf => x_or (ha C hf) (hb C hf)⟩
    | _, _ => none
def cW : Nat → (c : Cc) → (op : BoolOp) → (a : Expr) → (es : List Expr) → (pos : Pos) → Option {e' : E // OKW c (.BoolOp op (a :: es) pos) e'}
  | 0, _, _, _, _, _ => none
  | n + 1, c, .And, a, [], pos =>
    match cT n c a with
    | some ⟨a', ha⟩ => some ⟨a', fun C hf => w_and1 (ha C hf)⟩
    | none => none
  | n + 1, c, .Or, a, [], pos =>
    match cT n c a with
    | some ⟨a', ha⟩ => some ⟨a', fun C hf => w_or1 (ha C hf)⟩
    | none => none
  | n + 1, c, .And, a, b :: rest, pos =>
    match cT n c a, cW n c .And b rest pos with
    | some ⟨a', ha⟩, some ⟨b', hb⟩ => some ⟨.and a' b', fun C hf => w_and (ha C hf) (hb C hf)⟩
    | _, _ => none
  | n + 1, c, .Or, a, b :: rest, pos =>
    match cT n c a, cW n c .Or b rest pos with
    | some ⟨a', ha⟩, some ⟨b', hb⟩ => some ⟨.or a' b', fun C hf => w_or (ha C hf) (hb C hf)⟩
    | _, _ => none
def cT : Nat → (c : Cc) → (e : Expr) → Option {e' : E // OKT c e e'}
  | 0, _, _ => none
  | n + 1, c, .UnaryOp .Not a pos =>
    match cT n c a with
    | some ⟨a', ha⟩ => some ⟨.not a', fun C hf => y_not (ha C hf)⟩
    | none => none
  | n + 1, c, .BoolOp op (a :: es) pos =>
    match cW n c op a es pos with
    | some ⟨a', ha⟩ => some ⟨a', fun C hf => (ha C hf).pt⟩
    | none => none
  | n + 1, c, .Compare a [op] [b] pos =>
    if hm : notSet b = true then
      match cE n c a, cE n c b with
      | some ⟨a', ha⟩, some ⟨b', hb⟩ => some ⟨.cmp op a' b', fun C hf => y_cmp C (mark_no hm) (ha C hf) (hb C hf)⟩
      | _, _ => none
    else none
  | n + 1, c, .Compare a [o1, o2] [b, d] pos =>
    if hm : notSet d = true then
      match cE n c a, cE n c b, cE n c d with
      | some ⟨a', ha⟩, some ⟨b', hb⟩, some ⟨d', hd⟩ => some ⟨.chain o1 o2 a' b' d', fun C hf => y_chain C (mark_no hm) (ha C hf) (hb C hf) (hd C hf)⟩
      | _, _, _ => none
    else none
  | n + 1, c, e =>
    if ht : plainT e = true then
      match cE n c e with
      | some ⟨e', he⟩ => some ⟨e', fun C hf => y_val (he C hf) (test_plain ht)⟩
      | none => none
    else none
def cEs : Nat → (c : Cc) → (es : List Expr) → Option {es' : List E // OKA c es es'}
  | 0, _, _ => none
  | n + 1, c, [] => some ⟨[], ⟨rfl, rfl, fun _ _ => a_nil⟩⟩
  | n + 1, c, e :: es =>
    if hs : noStar e = true then
      match cE n c e, cEs n c es with
      | some ⟨e', he⟩, some ⟨es', h⟩ => some ⟨e' :: es', ⟨by rw [List.length_cons, List.length_cons, h.len], by rw [List.all_cons, hs, h.ns]; rfl, fun C hf => a_cons (he C hf) (star_cons hs) (h.ok C hf)⟩⟩
      | _, _ => none
    else none
def cO : Nat → (c : Cc) → (o : Option Expr) → Option {e' : E // ∀ {X : Cx} {cm : Str → Option Addr} {G : Gm} {Wx : WX}, CtxOk X cm G c.N c.sc Wx → (∀ f ∈ c.fns, f ∈ G.fns) → PO X o (RO X.K cm G Wx e')}
  | 0, _, _ => none
  | n + 1, c, none => some ⟨.gap, fun _ _ => o_none⟩
  | n + 1, c, some e =>
    match cE n c e with
    | some ⟨e', he⟩ => if hg : notGap e' = true then some ⟨e', fun C hf => o_some (he C hf) (part_ok hg)⟩ else none
    | none => none
def cIt : Nat → (c : Cc) → (tg iter : Expr) → Option {r : IK × List E // OKI c tg iter r.1 r.2}
  | 0, _, _, _ => none
  | n + 1, c, tg, .Call (.Name f p) args [] pos =>
    if hr : f = "range" ∧ glB (kindB c.sc f) = true then
      match args with
      | [a] => if hs : noStar a = true then
          match cE n c a with
          | some ⟨a', ha⟩ => some ⟨(.range1, [a']), fun C hf => i_range1 C (glB.ok hr.2) hr.1 hs (ha C hf)⟩
          | none => none
        else none
      | [a, b] => if hs : noStar a = true ∧ noStar b = true then
          match cE n c a, cE n c b with
          | some ⟨a', ha⟩, some ⟨b', hb⟩ => some ⟨(.range2, [a', b']), fun C hf => i_range2 C (glB.ok hr.2) hr.1 hs.1 hs.2 (ha C hf) (hb C hf)⟩
          | _, _ => none
        else none
      | _ => none
    else if hr : f = "enumerate" ∧ glB (kindB c.sc f) = true then
      match tg, args with
      | .Tuple elts kk tpos, [a] => if hs : noStar a = true then
          match cE n c a with
          | some ⟨a', ha⟩ => some ⟨(.enum, [a']), fun C hf => i_enum C (glB.ok hr.2) hr.1 hs (ha C hf)⟩
          | none => none
        else none
      | _, _ => none
    else if hr : f = "zip" ∧ glB (kindB c.sc f) = true then
      match tg, args with
      | .Tuple elts kk tpos, [a, b] => if hs : noStar a = true ∧ noStar b = true then
          match cE n c a, cE n c b with
          | some ⟨a', ha⟩, some ⟨b', hb⟩ => some ⟨(.zip, [a', b']), fun C hf => i_zip C (glB.ok hr.2) hr.1 hs.1 hs.2 (ha C hf) (hb C hf)⟩
          | _, _ => none
        else none
      | _, _ => none
    else match cE n c (.Call (.Name f p) args [] pos) with
      | some ⟨e', he⟩ => some ⟨(.plain, [e']), fun C hf => i_plain (he C hf)⟩
      | none => none
  | n + 1, c, tg, iter =>
    match cE n c iter with
    | some ⟨e', he⟩ => some ⟨(.plain, [e']), fun C hf => i_plain (he C hf)⟩
    | none => none
end
end PI

/-! PI, part M: statements, from the model's syntax to ours. -/
namespace PI
open PySem PySem.Spec PyProof.Rows L2
structure CtxS (X : Cx) (cm : Str → Option Addr) (G : Gm) (N : List Str) (sc : Scope) (Wx : WX) : Prop extends CtxOk X cm G N sc Wx where
  scp : X.env.scope = sc
  kd : X.env.blockKind = .function
  po : PassesOwn (model X.prog X.w) X.A X.env X.xe
def OKS (c : Cc) (e : Stmt) (e' : S) : Prop := ∀ {X : Cx} {cm : Str → Option Addr} {G : Gm} {Wx : WX}, CtxS X cm G c.N c.sc Wx → (∀ f ∈ c.fns, f ∈ G.fns) → PS X e (RS X.K cm G Wx e')
def OKSs (c : Cc) (e : List Stmt) (e' : List S) : Prop := ∀ {X : Cx} {cm : Str → Option Addr} {G : Gm} {Wx : WX}, CtxS X cm G c.N c.sc Wx → (∀ f ∈ c.fns, f ∈ G.fns) → PSs X e (RSs X.K cm G Wx e')
def swB (sc : Scope) (scope : Scope) (t : Str) (pl el : Nat) : Bool := sc.names.lookup t == some .local && pl == el && !(scope.names.any fun (n, k) => n == t && (k == .local || k == .cell))
theorem swB_ok {elt : Expr} {gs : List Comprehension} {scope : Scope} {pos p : Pos} {t : Str} {l : Nat} {env : PySem.Env} {sc : Scope} (h1 : env.scope = sc) (h2 : env.blockKind = .function) :
    swapsWith (.ListComp elt gs scope pos) (some (.Name t p)) l env = pure (swB sc scope t p.line pos.line) := by
  subst h1
  unfold swapsWith swB
  simp only [h2, Env.kindOf]
  rfl
def isStar : Expr → Bool
  | .Starred _ _ => true
  | _ => false
/-- the names that a parallel assignment stores one by one; none: it is not told -/
def swRes (sc : Scope) (ts vs : List Expr) : Option (Option (List Str)) :=
  if !(ts.length == 2 || ts.length == 3) || vs.length != ts.length then some none
  else if vs.any isStar then some none
  else
    let ln : Nat := (ts.head?.map fun t => t.pos.line).getD 0
    let names := ts.filterMap fun
      | .Name id pos => if sc.names.lookup id == some .local && pos.line == ln then some id else none
      | _ => none
    if names.length != ts.length || names.eraseDups.length != names.length then some none
    else if vs.all (foldedForSure 8) then some none
    else if vs.all (constantsAlone 8) then none
    else some (some names)
theorem swRes_ok {ts vs : List Expr} {k k2 : Nat} {p p2 : Pos} {env : PySem.Env} {sc : Scope} {r : Option (List Str)} (h1 : env.scope = sc) (h2 : env.blockKind = .function) (h : swRes sc ts vs = some r) :
    swappedStores [.Tuple ts k p] (.Tuple vs k2 p2) env = pure r := by
  subst h1
  unfold swappedStores
  unfold swRes at h
  simp only [h2, Env.kindOf]
  have e : (fun x : Expr => match x with | .Starred .. => true | _ => false) = isStar := by
    funext x
    cases x <;> rfl
  split at h
  · rename_i h3
    cases h
    simp only [bne_self_eq_false, Bool.or_false, h3, if_true]
  · rename_i h3
    simp only [bne_self_eq_false, Bool.or_false, h3]
    simp only [Bool.false_eq_true, if_false]
    split at h
    · rename_i h4
      cases h
      exact if_pos ((congrArg (fun f => vs.any f) e).trans h4)
    · rename_i h4
      refine (if_neg fun z => h4 ((congrArg (fun f => vs.any f) e).symm.trans z)).trans ?_
      dsimp only at h
      split at h
      · rename_i h5
        cases h
        exact if_pos h5
      · rename_i h5
        refine (if_neg h5).trans ?_
        split at h
        · rename_i h6
          cases h
          exact if_pos h6
        · rename_i h6
          refine (if_neg h6).trans ?_
          split at h
          · cases h
          · rename_i h7
            cases h
            exact if_neg h7
theorem soleT {e : Expr} {ts : List Expr} {k : Nat} {p : Pos} {l : Nat} {env : PySem.Env} : swapsWithSole [.Tuple ts k p] e l env = pure false := swap_tup (e := e) (ts := ts) (k := k) (p := p) (l := l) (env := env)
theorem soleN {e : Expr} {t : Expr} {l : Nat} {env : PySem.Env} (h : notComp e = true) : swapsWithSole [t] e l env = pure false := swap_no (e := e) (t := some t) (l := l) (env := env) h
theorem soleL {elt : Expr} {gs : List Comprehension} {scope : Scope} {pos p : Pos} {x : Str} {l : Nat} {env : PySem.Env} {sc : Scope} (h1 : env.scope = sc) (h2 : env.blockKind = .function) (h : swB sc scope x p.line pos.line = false) :
    swapsWithSole [.Name x p] (.ListComp elt gs scope pos) l env = pure false := (swB_ok (elt := elt) (gs := gs) (l := l) h1 h2).trans (by rw [h])
theorem ss_oks {c : Cc} : OKSs c [] [] := fun _ _ => ss_nil
mutual
def cS : Nat → (c : Cc) → (st : Stmt) → Option {s : S // OKS c st s}
  | 0, _, _ => none
  | n + 1, c, .Pass pos => some ⟨.pass, fun _ _ => s_pass⟩
  | n + 1, c, .Break pos => some ⟨.brk, fun _ _ => s_brk⟩
  | n + 1, c, .Continue pos => some ⟨.cont, fun _ _ => s_cont⟩
  | n + 1, c, .Return none pos => some ⟨.ret .non, fun _ _ => s_retN⟩
  | n + 1, c, .Return (some e) pos =>
    match cE n c e with
    | some ⟨e', he⟩ => some ⟨.ret e', fun C hf => s_ret (he C.toCtxOk hf)⟩
    | none => none
  | n + 1, c, .Expr (.Constant (.str x) j p) pos => some ⟨.pass, fun _ _ => s_doc⟩
  | n + 1, c, .Expr e pos =>
    if hn : notComp e = true then
      match cE n c e with
      | some ⟨e', he⟩ => some ⟨.ex e', fun C hf => s_ex hn (he C.toCtxOk hf)⟩
      | none => none
    else none
  | n + 1, c, .If t a b pos =>
    match cT n c t, cSs n c a, cSs n c b with
    | some ⟨t', ht⟩, some ⟨a', ha⟩, some ⟨b', hb⟩ => some ⟨.ifs t' a' b', fun C hf => s_if (ht C.toCtxOk hf) (ha C hf) (hb C hf)⟩
    | _, _, _ => none
  | n + 1, c, .While t b [] pos =>
    match cT n c t, cSs n c b with
    | some ⟨t', ht⟩, some ⟨b', hb⟩ => some ⟨.loop t' b', fun C hf => s_while C.po (ht C.toCtxOk hf) (hb C hf)⟩
    | _, _ => none
  | n + 1, c, .For tg iter b [] pos =>
    if hi : notSet iter = true then
      match cPat n c tg, cIt n c tg iter, cSs n c b with
      | some ⟨p, hp⟩, some ⟨(k, es), hit⟩, some ⟨b', hb⟩ => some ⟨.each p k es b', fun C hf => s_each C.po C.calm (hit C.toCtxOk hf) (hp C.toCtxOk) (hb C hf) fun x => fold_no hi x⟩
      | _, _, _ => none
    else none
  | n + 1, c, .Assign [.Subscript o i p] e pos =>
    if hp : plainI i = true then
      match cE n c o, cE n c i, cE n c e with
      | some ⟨o', ho⟩, some ⟨i', hi⟩, some ⟨e', he⟩ => some ⟨.setIx o' i' e', fun C hf => s_setIx hp (ho C.toCtxOk hf) (hi C.toCtxOk hf) (he C.toCtxOk hf)⟩
      | _, _, _ => none
    else none
  | n + 1, c, .Assign [.Name y py] (.ListComp elt [⟨tg, iter, [], 0⟩] scope pos) spos =>
    if hb : blkC c.N c.sc scope (ownOf c.N scope) = true ∧ notSet iter = true ∧ swB c.sc scope y py.line pos.line = true ∧ c.sc.names.lookup y = some .local then
      match h : ixOf c.N y with
      | none => none
      | some iy =>
      match cPat n { c with sc := scope } tg, cIt n c tg iter, cE n { c with sc := scope } elt with
      | some ⟨p, hp⟩, some ⟨(k, es), hi⟩, some ⟨elt', he⟩ =>
        if hown : (slotsP p).all (fun i => ((ownOf c.N scope).map (·.2)).contains i) = true then
          some ⟨.asg (.name iy) (.comp (at_ c.mu pos) elt' p k es .gap ((ownOf c.N scope).map (·.2))), fun C hf => s_comp C.toCtxOk hb.1 (fun i hi => by simpa using List.all_eq_true.mp hown i hi) (ixOf_get h) (by rw [C.scp]; exact hb.2.2.2) (by rw [swB_ok C.scp C.kd, hb.2.2.1]) (hi C.toCtxOk hf) (fun x => fold_no hb.2.1 x) (fun C' => hp C') (fun C' => pts_nil) (fun C' => he C' hf)⟩
        else none
      | _, _, _ => none
    else if hs : swB c.sc scope y py.line pos.line = false then
      match cPat n c (.Name y py), cE n c (.ListComp elt [⟨tg, iter, [], 0⟩] scope pos) with
      | some ⟨p, hp⟩, some ⟨e', he⟩ => some ⟨.asg p e', fun C hf => s_asg (soleL C.scp C.kd hs) (swapped_no' rfl fun _ _ z => nomatch z) rfl (he C.toCtxOk hf) (hp C.toCtxOk)⟩
      | _, _ => none
    else none
  | n + 1, c, .Assign [.Name y py] (.ListComp elt [⟨tg, iter, [t], 0⟩] scope pos) spos =>
    if hb : blkC c.N c.sc scope (ownOf c.N scope) = true ∧ notSet iter = true ∧ swB c.sc scope y py.line pos.line = true ∧ c.sc.names.lookup y = some .local then
      match h : ixOf c.N y with
      | none => none
      | some iy =>
      match cPat n { c with sc := scope } tg, cIt n c tg iter, cE n { c with sc := scope } elt, cT n { c with sc := scope } t with
      | some ⟨p, hp⟩, some ⟨(k, es), hi⟩, some ⟨elt', he⟩, some ⟨t', ht⟩ =>
        if hown : (slotsP p).all (fun i => ((ownOf c.N scope).map (·.2)).contains i) = true ∧ notGap t' = true then
          some ⟨.asg (.name iy) (.comp (at_ c.mu pos) elt' p k es t' ((ownOf c.N scope).map (·.2))), fun C hf => s_comp C.toCtxOk hb.1 (fun i hi => by simpa using List.all_eq_true.mp hown.1 i hi) (ixOf_get h) (by rw [C.scp]; exact hb.2.2.2) (by rw [swB_ok C.scp C.kd, hb.2.2.1]) (hi C.toCtxOk hf) (fun x => fold_no hb.2.1 x) (fun C' => hp C') (fun C' => pts_of hown.2 (ht C' hf)) (fun C' => he C' hf)⟩
        else none
      | _, _, _, _ => none
    else if hs : swB c.sc scope y py.line pos.line = false then
      match cPat n c (.Name y py), cE n c (.ListComp elt [⟨tg, iter, [t], 0⟩] scope pos) with
      | some ⟨p, hp⟩, some ⟨e', he⟩ => some ⟨.asg p e', fun C hf => s_asg (soleL C.scp C.kd hs) (swapped_no' rfl fun _ _ z => nomatch z) rfl (he C.toCtxOk hf) (hp C.toCtxOk)⟩
      | _, _ => none
    else none
  | n + 1, c, .Assign [.Tuple ts kt pt] (.Tuple vs k2 p2) pos =>
    match hr : swRes c.sc ts vs with
    | none => none
    | some none =>
      if hs : noStar (.Tuple ts kt pt) = true then
        match cPat n c (.Tuple ts kt pt), cE n c (.Tuple vs k2 p2) with
        | some ⟨p, hp⟩, some ⟨e', he⟩ => some ⟨.asg p e', fun C hf => s_asg soleT (swRes_ok C.scp C.kd hr) hs (he C.toCtxOk hf) (hp C.toCtxOk)⟩
        | _, _ => none
      else none
    | some (some l) =>
      match ts, vs, hr with
      | [.Name x px, .Name y py], [a, b], hr =>
        if hq : l = [x, y] ∧ c.sc.names.lookup x = some .local ∧ c.sc.names.lookup y = some .local ∧ noStar a = true ∧ noStar b = true then
          match hx : ixOf c.N x, hy : ixOf c.N y, cE n c a, cE n c b with
          | some i, some j, some ⟨a', ha⟩, some ⟨b', hb⟩ =>
            if hij : i ≠ j then some ⟨.par i j a' b', fun C hf => s_par C.toCtxOk (ixOf_get hx) (ixOf_get hy) hij (by rw [C.scp]; exact hq.2.1) (by rw [C.scp]; exact hq.2.2.1) (by rw [swRes_ok C.scp C.kd hr, hq.1]) hq.2.2.2.1 hq.2.2.2.2 (ha C.toCtxOk hf) (hb C.toCtxOk hf)⟩ else none
          | _, _, _, _ => none
        else none
      | _, _, _ => none
  | n + 1, c, .Assign [.Name y py] e pos =>
    if hn : notComp e = true then
      match cPat n c (.Name y py), cE n c e with
      | some ⟨p, hp⟩, some ⟨e', he⟩ => some ⟨.asg p e', fun C hf => s_asg (soleN hn) (swapped_no' rfl fun _ _ z => nomatch z) rfl (he C.toCtxOk hf) (hp C.toCtxOk)⟩
      | _, _ => none
    else none
  | n + 1, c, .Assign [.Tuple ts kt pt] e pos =>
    if hn : notTup e = true then
      match cPat n c (.Tuple ts kt pt), cE n c e with
      | some ⟨p, hp⟩, some ⟨e', he⟩ => some ⟨.asg p e', fun C hf => s_asg soleT (swapped_no hn) rfl (he C.toCtxOk hf) (hp C.toCtxOk)⟩
      | _, _ => none
    else none
  | _, _, _ => none
def cSs : Nat → (c : Cc) → (sts : List Stmt) → Option {ss : List S // OKSs c sts ss}
  | 0, _, _ => none
  | n + 1, c, [] => some ⟨[], ss_oks⟩
  | n + 1, c, st :: sts =>
    match cS n c st, cSs n c sts with
    | some ⟨s, h1⟩, some ⟨ss, h2⟩ => some ⟨s :: ss, fun C hf => ss_cons (h1 C hf) (h2 C hf)⟩
    | _, _ => none
end
end PI

/-! PI, part N: bodies of defs, levels of calls, the law's end. -/
namespace PI
open PySem PySem.Spec PyProof.Rows L2
section
variable {K : PySem.W.Frag} {cm : Str → Option Addr} {W W' W2 : Wd}
mutual
theorem DR.bel : ∀ {d : D} {v : V}, DR K W d v → PI.below W.io.length d
  | _, _, .non => trivial
  | _, _, .bl _ => trivial
  | _, _, .int _ => trivial
  | _, _, .str _ _ => trivial
  | _, _, .tup h l r => by
    simp only [PI.below]
    exact DRs.bel r
  | _, _, .lst h l r => by
    simp only [PI.below]
    exact DRs.bel r
  | _, _, .scr _ _ => trivial
  | _, _, .ref h => by
    simp only [PI.below]
    exact (List.getElem?_eq_some_iff.mp h).1
theorem DRs.bel : ∀ {d : List D} {v : List V}, DRs K W d v → PI.belowL W.io.length d
  | _, _, .nil => trivial
  | _, _, .cons h r => by
    simp only [PI.belowL]
    exact ⟨DR.bel h, DRs.bel r⟩
end
mutual
theorem DR.cut {n : Nat} (hF : W2.F = W'.F) (hio : ∀ k a, k < n → W'.io[k]? = some a → W2.io[k]? = some a) : ∀ {d : D} {v : V}, DR K W' d v → PI.below n d → DR K W2 d v
  | _, _, .non, _ => .non
  | _, _, .bl _, _ => .bl _
  | _, _, .int _, _ => .int _
  | _, _, .str _ h, _ => .str _ h
  | _, _, .tup h l r, b => .tup (by rw [hF]; exact h) l (DRs.cut hF hio r (by simpa only [PI.below] using b))
  | _, _, .lst h l r, b => .lst (by rw [hF]; exact h) l (DRs.cut hF hio r (by simpa only [PI.below] using b))
  | _, _, .scr h l, _ => .scr (by rw [hF]; exact h) l
  | _, _, .ref h, b => .ref (hio _ _ (by simpa only [PI.below] using b) h)
theorem DRs.cut {n : Nat} (hF : W2.F = W'.F) (hio : ∀ k a, k < n → W'.io[k]? = some a → W2.io[k]? = some a) : ∀ {d : List D} {v : List V}, DRs K W' d v → PI.belowL n d → DRs K W2 d v
  | _, _, .nil, _ => .nil
  | _, _, .cons h r, b => by
    simp only [PI.belowL] at b
    exact .cons (DR.cut hF hio h b.1) (DRs.cut hF hio r b.2)
end
theorem paired_below {fs : List (Str × D)} {fvs : List (Str × V)} (h : Paired (fun (p : Str × D) (q : Str × V) => p.1 = q.1 ∧ DR K W p.2 q.2) fs fvs) : ∀ p ∈ fs, PI.below W.io.length p.2 := by
  induction h with
  | nil => exact fun p hp => nomatch hp
  | cons r _ ih =>
    intro p hp
    rcases List.mem_cons.mp hp with e | hp
    · rw [e]
      exact r.2.bel
    · exact ih p hp
theorem paired_cut {n : Nat} (hF : W2.F = W'.F) (hio : ∀ k a, k < n → W'.io[k]? = some a → W2.io[k]? = some a) {fs : List (Str × D)} {fvs : List (Str × V)} (h : Paired (fun (p : Str × D) (q : Str × V) => p.1 = q.1 ∧ DR K W' p.2 q.2) fs fvs) (b : ∀ p ∈ fs, PI.below n p.2) :
    Paired (fun (p : Str × D) (q : Str × V) => p.1 = q.1 ∧ DR K W2 p.2 q.2) fs fvs := by
  induction h with
  | nil => exact .nil
  | cons r _ ih => exact .cons ⟨r.1, r.2.cut hF hio (b _ (List.mem_cons_self ..))⟩ (ih fun p hp => b p (List.mem_cons_of_mem _ hp))
theorem CellR.bel {H : Hp} {a : Addr} {c : Cell} (h : CellR K cm W H a c) : belowC W.io.length c := by
  cases c with
  | lst xs => obtain ⟨vs, _, _, r⟩ := h; exact r.bel
  | ins C fs => obtain ⟨_, _, _, _, _, r⟩ := h; exact paired_below r
  | dead => trivial
theorem CellR.cut {n : Nat} {H : Hp} {a : Addr} {c : Cell} (hF : W2.F = W'.F) (hio : ∀ k a, k < n → W'.io[k]? = some a → W2.io[k]? = some a) (h : CellR K cm W' H a c) (b : belowC n c) : CellR K cm W2 H a c := by
  cases c with
  | lst xs => obtain ⟨vs, e, l, r⟩ := h; exact ⟨vs, e, l, r.cut hF hio b⟩
  | ins C fs => obtain ⟨CA, dx, fvs, e, e2, r⟩ := h; exact ⟨CA, dx, fvs, e, e2, paired_cut hF hio r b⟩
  | dead => exact h
theorem SR.gc {st st' : Sto} {H H' : Hp} {d : D} (s : SR K cm W st H) (le : W.le W') (sr : SR K cm W' st' H') : ∃ W2, W.le W2 ∧ SR K cm W2 (gc st d st') H' ∧ ∀ v, DR K W' d v → DR K W2 d v := by
  unfold PI.gc
  split
  · rename_i hc
    obtain ⟨hd, hst⟩ := hc
    obtain ⟨⟨t, ht⟩, hF, hP⟩ := le
    have hlen := s.len
    have hl2 := sr.len
    have hio : ∀ k a, k < st.length → W'.io[k]? = some a → W.io[k]? = some a := fun k a hk e => by
      rw [ht, List.getElem?_append_left (by rw [hlen]; exact hk)] at e
      exact e
    have hio' : ∀ {k : Nat} {a : Addr}, W.io[k]? = some a → W'.io[k]? = some a := fun {k a} e => by
      rw [ht, List.getElem?_append_left (List.getElem?_eq_some_iff.mp e).1]
      exact e
    refine ⟨⟨W.io, W'.F, W'.P⟩, ⟨⟨[], by simp⟩, hF, hP⟩, ⟨sr.sub, ?_, s.nd, fun i c a h1 h2 => ?_, fun i c a h1 h2 => ?_, fun a o h => ?_⟩, fun v r => DR.cut (W' := W') (W2 := ⟨W.io, W'.F, W'.P⟩) rfl hio r hd⟩
    · show W.io.length = _
      rw [List.length_take, ← hl2, ht, List.length_append]
      omega
    · have hi : i < st.length := by
        have := (List.getElem?_eq_some_iff.mp h2).1
        show i < st.length
        rw [← hlen]
        exact this
      rw [List.getElem?_take_of_lt hi] at h1
      have q := sr.cell i c a h1 (hio' h2)
      refine CellR.cut (W' := W') (W2 := ⟨W.io, W'.F, W'.P⟩) rfl hio q ?_
      rcases hst i c hi h1 with e | e
      · rw [← hlen]
        exact (s.cell i c a e h2).bel
      · exact e
    · have hi : i < st.length := by
        have := (List.getElem?_eq_some_iff.mp h2).1
        show i < st.length
        rw [← hlen]
        exact this
      rw [List.getElem?_take_of_lt hi] at h1
      exact sr.sep i c a h1 (hio' h2)
    · obtain ⟨e1, e2, e3⟩ := sr.held a o h
      exact ⟨e1, e2, fun z => e3 (by rw [ht]; exact List.mem_append_left _ z)⟩
  · exact ⟨W', le, sr, fun v r => r⟩
/-- a body, from its promise -/
theorem run_P {G : Gm} {f : Df} {ds : List D} {st : Sto} {H : Hp} {Q : VK} {E : XK} (s : SR K cm W st H) (h : Post K cm W (runD G f ds st) (fun W' d _ H' => ∀ v, DR K W' d v → Q v H') E) :
    ds.length = f.np ∧ PostF K cm (fun cls d _ H => E cls d H) W (execSs G f.body (ds.map some ++ List.replicate (f.nn - ds.length) none) st) { nx := fun _ H' => Q .non H', rt := Q } := by
  unfold runD at h
  by_cases hl : ds.length = f.np
  · refine ⟨hl, ?_⟩
    rw [need_pos hl] at h
    cases e : execSs G f.body (ds.map some ++ List.replicate (f.nn - ds.length) none) st with
    | bad => rw [e] at h; exact h
    | exc c fs st' => rw [e] at h; exact h
    | ok fl st' =>
      rw [e] at h
      cases fl with
      | nx en =>
        intro W1 H1 le1 sr1 σ er
        obtain ⟨W2, le2, sr2, r2⟩ := s.gc (d := .non) le1 sr1
        exact h W2 H1 le2 sr2 _ .non
      | ret d =>
        intro W1 H1 le1 sr1 v r
        obtain ⟨W2, le2, sr2, r2⟩ := s.gc (d := d) le1 sr1
        exact h W2 H1 le2 sr2 v (r2 v r)
      | brk en => exact h.elim
      | cont en => exact h.elim
      | exc c fs en => exact fun W1 H1 le1 sr1 σ cls dd er x => h W1 H1 cls dd le1 sr1 x
  · unfold need at h
    rw [if_neg hl] at h
    exact h.elim
end
/-- the context of a def's body -/
theorem ctx_of {P : Program} {w : World} {K : PySem.W.Frag} {mg : Str → Option Value} {base : Heap} {k : Nat} {f : Addr} {qual : Str} {scope : Scope} {cdv : Value} {N ps : List Str} {A : Around} {outer : List PySem.Env} {s : Shared} {H : Hp} {E : XK} {cm : Str → Option Addr} {G : Gm}
    (S : FnScope N ps scope) (g : GOk P w K mg base cm G k) (hr : Room (k + 1) A) (hg : A.guards = some []) :
    CtxS (cxOf (L2.CX P w) P w K mg base N qual scope f cdv A outer s H E) cm G N scope (fun cls d _ H => E cls d H) where
  XN := rfl
  nd := S.nd
  vis := fun _ h => h
  loc := fun _ h => ⟨h, .inl rfl⟩
  cf := fun _ h => h
  gl := fun _ h => h
  calm := rfl
  gd := hg
  st := ⟨k, hr.deeper _, g⟩
  tk := takes_of (E := E) rfl rfl rfl rfl
  scp := rfl
  kd := by
    show (envOfC qual scope s.heap.objs.size f cdv).blockKind = _
    unfold PySem.Env.blockKind
    show (if scope.kind.isAnnotationScope then ScopeKind.function else scope.kind) = _
    rw [S.kind]
    rfl
  po := passes_of (K := fun e s'' => L2.CX P w outer H s E e s'') rfl
/-- a def keeps what its compiled body tells -/
theorem fnG_of {P : Program} {w : World} {K : PySem.W.Frag} {mg : Str → Option Value} {base : Heap} {k : Nat} {f : Addr} {name qual : Str} {params : Arguments} {body : List Stmt} {scope : Scope} {dV kV doc pm cdv ct oc : Value} {an od : Option Addr} {osl : Array (Option Value)} {N ps : List Str}
    {mu fz : List (Nat × Nat)} {fns : List Str} {ss : List S} {cm : Str → Option Addr} {G : Gm} (lk : K.lookup f = some ⟨oc, od, .func (PySem.W.fnOf name qual params body scope dV kV doc pm an cdv ct), osl⟩) (hcd : PySem.W.codeIn K cdv qual = true) (SC : FnScope N ps scope)
    (comp : OKSs ⟨N, scope, mu, fz, fns⟩ body ss) (hf : ∀ x ∈ fns, x ∈ G.fns) (g : GOk P w K mg base cm G k) :
    FnG P w K mg base (k + 1) f (PySem.W.fnOf name qual params body scope dV kV doc pm an cdv ct) ps (spG K cm (runD G ⟨ps.length, N.length, ss⟩)) := by
  refine ⟨fun A outer s H args us vs Q E hr hgd e0 hb r hl hsp => ?_⟩
  have KX : K.In s.heap := e0.mod.kin.keeps fun b o e => (e0.bs b o e).1
  have lim : s.heap.NoLimit := e0.mod.nolimit.keeps fun b o e => (e0.bs b o e).1
  have parK : ∀ y ∈ ps.zip us, scope.names.lookup y.1 = some .local ∨ (scope.names.lookup y.1 = some .cell ∧ ((cellsFrom (s.heap.objs.size + 1) scope.names []).lookup y.1).isSome = true) := by
    rintro ⟨n, v⟩ hy
    rcases SC.par n (List.of_mem_zip hy).1 with q | q
    · exact .inl q
    · exact .inr ⟨q, PySem.W.cellsFrom_some _ _ _ (.inl q)⟩
  refine codeAny_call_function hr.depth (KX _ _ lk) rfl SC.co SC.gen rfl (PySem.W.codeRec_of KX hcd) (hb _ _ _ _ ?_)
  refine wpAny_newFunctionEnv_cells SC.kind parK fun env he s1 x => ?_
  subst he
  refine ⟨lim.keeps x.toInCall.keep, codeAny_func ?_⟩
  obtain ⟨W, st, ds, rd, sr, p⟩ := hsp
  obtain ⟨hn, pf⟩ := run_P sr p
  have C := ctx_of (P := P) (w := w) (qual := qual) (f := f) (cdv := cdv) (outer := outer) (s := s) (H := H) (E := E) SC g hr hgd
  have I : Inv (cxOf (L2.CX P w) P w K mg base N qual scope f cdv A outer s H E) [] (L2.start N vs) H s1 := inv_start SC hr.hd e0 hl r x
  refine wpAny_mono ((comp C hf).run [] s1 (L2.start N vs) H _ I ⟨W, _, st, ER.start (np := ds.length) rd rfl, sr, pf⟩) (fun fl s' hs => ?_) fun e s' hs => hs
  have fin : ∀ {σ' : L2.St} {H' : Hp} {v : V} {u : Value}, Inv (cxOf (L2.CX P w) P w K mg base N qual scope f cdv A outer s H E) [] σ' H' s' → RelV v u → Q v H' → CE outer P w H s Q u s' := fun {_ H' v _} J rv q => ⟨v, H', J.os, J.bare, J.base, J.hok, rv, q⟩
  cases fl with
  | ret u => exact let ⟨v, σ', H', J, rv, q⟩ := hs; fin J rv q
  | next => exact let ⟨σ', H', J, q⟩ := hs; fin (v := V.non) (u := Value.none) J rfl q
  | brk => exact let ⟨_, _, _, q⟩ := hs; False.elim q
  | cont => exact let ⟨_, _, _, q⟩ := hs; False.elim q
/-! ### the levels -/
/-- a def of the text and its compiled body -/
structure DefOk (P : Program) (w : World) (K : PySem.W.Frag) (mg : Str → Option Value) (T : Tb) (f : Str) : Prop where
  ex : ∃ (fa : Addr) (fd : FuncData) (ps : List Str) (df : Df), mg f = some (.ref fa) ∧ PySem.W.keepIn K (.ref fa) = true ∧ T.df f = some df ∧ df.np = ps.length ∧
    (∀ (base : Heap) (cm : Str → Option Addr) (k : Nat) (G : Gm), (∀ x ∈ T.fns, x ∈ G.fns) → GOk P w K mg base cm G k → FnG P w K mg base (k + 1) fa fd ps (spG K cm (runD G df))) ∧
    ∀ m, ∃ vs us, DRs K W0 (T.fill f m) vs ∧ Vals vs us ∧ ∀ (s : Shared) (as : List Value), K.In s.heap → as.length = m → (as ++ us).length = ps.length → BindsTo s fd ⟨as, []⟩ (ps.zip (as ++ us))
/-- the names of built-ins that no module name hides -/
def blNames : List Str := ["len", "range", "tuple", "int", "isinstance", "abs", "enumerate", "list", "zip", "all", "sum", "repr", "min", "any", "str", "max", "bool"]
structure ModOk (P : Program) (w : World) (K : PySem.W.Frag) (mg : Str → Option Value) (T : Tb) : Prop where
  fn : ∀ f ∈ T.fns, DefOk P w K mg T f
  gl : ∀ x d, T.gl x = some d → ∃ u v, mg x = some u ∧ RelV v u ∧ DR K W0 d v
  bl : ∀ x ∈ blNames, mg x = none
noncomputable def gmK (T : Tb) (N k : Nat) : Gm := ⟨callK T N k, T.gl, T.fill, N, T.fns⟩
theorem ModOk.lev {P : Program} {w : World} {K : PySem.W.Frag} {mg : Str → Option Value} {T : Tb} (M : ModOk P w K mg T) (base : Heap) (cm : Str → Option Addr) (N : Nat) : ∀ k, GOk P w K mg base cm (gmK T N k) k
  | 0 => by
    refine ⟨M.gl, fun f hf => ?_, M.bl⟩
    obtain ⟨fa, fd, ps, df, h1, h2, h3, h4, h5, h6⟩ := (M.fn f hf).ex
    exact ⟨fa, fd, ps, h1, h2, ⟨fun A outer s H args us vs Q E _ _ _ _ _ _ hsp => let ⟨_, _, _, _, _, p⟩ := hsp; False.elim p⟩, fun ds st h => absurd rfl h, h6⟩
  | k + 1 => by
    refine ⟨M.gl, fun f hf => ?_, M.bl⟩
    obtain ⟨fa, fd, ps, df, h1, h2, h3, h4, h5, h6⟩ := (M.fn f hf).ex
    have e : (gmK T N (k + 1)).cl f = runD (gmK T N k) df := by
      funext xs st
      show callK T N (k + 1) f xs st = _
      simp only [callK, h3]
      rfl
    refine ⟨fa, fd, ps, h1, h2, ?_, fun ds st h => ?_, h6⟩
    · rw [e]
      exact h5 base cm k (gmK T N k) (fun _ h => h) (ModOk.lev M base cm N k)
    · rw [e] at h
      rw [← h4]
      unfold runD at h
      unfold need at h
      split at h
      · assumption
      · exact absurd rfl h
/-! ### the law -/
theorem law_callG {P : Program} {w : World} {K : PySem.W.Frag} {mg mb : Str → Option Value} {k : Nat} {fa a : Addr} {fd : FuncData} {x : Str} {sp : Sp} {s₁ : Shared} {vs : List Value} {ns : List Int}
    (KX : K.In s₁.heap) (hns : s₁.heap.Ns mainGlobals mg) (hb : s₁.heap.Ns builtinsNs mb) (hbb : ∀ x : Str, x ≠ "__name__" → mb x = bootBuiltins x) (hlim : s₁.heap.NoLimit) (hg : s₁.gens = #[])
    (ha : s₁.heap.get? a = some { cls := .type "list", data := .seq vs.toArray }) (hi : IntsAre vs ns) (hl : ns.length ≤ sizeLine) (hr : Room k callerA)
    (F : ∀ base : Heap, FnG P w K mg base k fa fd [x] sp) (hbind : BindsTo s₁ fd ⟨[.ref a], []⟩ [(x, .ref a)])
    (hsp : ∀ H : Hp, SqL K H a (ns.map V.int) → sp [.ref a] H (fun v _ => v = .bl true) fun _ _ _ => False) :
    codeAny (model P w) callerA (.call (.ref fa) ⟨[.ref a], []⟩) (fun r s' => r = .ok (.ret (.bool true)) ∧ OldK s₁.heap s'.heap ∧ s'.os = s₁.os ∧ AllBare s'.gens) s₁ := by
  have rv := vals_ints hi
  have lenV := hi.length
  have main : ∀ H : Hp, (∀ b, H b = none ∨ ∃ o xs, H b = some (.frz o (.lst xs))) → SqL K H a (ns.map V.int) → HOk P w H s₁.heap → (∀ b, H b ≠ none → b = a ∧ K.lookup a = none) →
      codeAny (model P w) callerA (.call (.ref fa) ⟨[.ref a], []⟩) (fun r s' => r = .ok (.ret (.bool true)) ∧ OldK s₁.heap s'.heap ∧ s'.os = s₁.os ∧ AllBare s'.gens) s₁ := by
    intro H hO hS hok hA
    have notD : ∀ {b : Addr} {o : Obj} {es : Array DictEntry} {ep : Nat}, s₁.heap.get? b = some o → o.data = .dict es ep → H b = none := by
      intro b o es ep e d
      cases q : H b with
      | none => rfl
      | some u =>
        obtain ⟨e', _⟩ := hA b (by rw [q]; exact fun z => nomatch z)
        rw [e', ha] at e
        cases e
        cases (show Data.seq vs.toArray _ = Data.dict es ep from d)
    have nsK : ∀ {b : Addr} {m : Str → Option Value}, s₁.heap.Ns b m → (hidT s₁.heap H).Ns b m := by
      rintro b m ⟨o, es, ep, e, d, r⟩
      exact ⟨o, es, ep, hidT_get e (notD e d), d, r⟩
    have inK : K.In (hidT s₁.heap H) := by
      intro b o e
      refine hidT_get (KX b o e) ?_
      cases q : H b with
      | none => rfl
      | some u =>
        obtain ⟨e', z⟩ := hA b (by rw [q]; exact fun z => nomatch z)
        rw [e', z] at e
        cases e
    obtain ⟨mc, l1, l2⟩ := hlim
    have e0 : Env0 P w K mg (hidT s₁.heap H) callerA [] s₁ H := ⟨rfl, ⟨inK, nsK hns, ⟨mb, nsK hb, hbb⟩, ⟨mc, nsK l1, l2⟩⟩, fun b o e => of_hidT e, Nat.le_of_eq (hidT_size _ _), trivial, fun b hb => (by cases (show b ∈ ([] : List Addr) from hb)), hok, .of_eq hg⟩
    refine codeAny_mono ((F _).run callerA [] s₁ H ⟨[.ref a], []⟩ [.ref a] [.ref a] _ _ hr rfl e0 hbind (.cons rfl .nil) rfl (hsp H hS)) fun r s' h => ?_
    cases r with
    | error e => exact let ⟨_, _, _, _, _, _, _, _, _, _, _, _, z⟩ := h; False.elim z
    | ok fl =>
      cases fl with
      | ret u =>
        obtain ⟨v, H', os, bare, un, hok', r', q⟩ := h
        obtain rfl : v = .bl true := q
        obtain rfl : u = Value.bool true := r'
        refine ⟨rfl, OldK.of_keep fun b o e => ?_, os, bare⟩
        rcases hO b with z | ⟨ob, xs, z⟩
        · exact un.keep b o e z (fun y => nomatch (show b ∈ ([] : List Addr) from y)) (by simp)
        · have e1 := (hok b _ z).1
          have e2 := (hok' b _ (un.frzs b ob _ z)).1
          rw [e] at e1
          cases e1
          exact e2
      | next => exact False.elim h
      | brk => exact False.elim h
      | cont => exact False.elim h
  cases hk : K.lookup a with
  | some o =>
    have e := KX a o hk
    rw [ha] at e
    cases e
    exact main (fun _ => none) (fun _ => .inl rfl) (.inr ⟨_, vs.toArray, _, hk, rfl, rfl, rfl, by rw [List.size_toArray, lenV]; exact hl, by simpa using rv⟩) (fun b u z => nomatch (show (none : Option HO) = some u from z)) (fun b z => absurd rfl z)
  | none =>
    refine main (upd (fun _ => none) a (.frz { cls := .type "list", data := .seq vs.toArray } (.lst (ns.map V.int)))) (fun b => ?_) (.inl (.inr ⟨_, upd_same⟩)) (fun b u z => ?_) (fun b z => ?_)
    · by_cases hb : b = a
      · exact .inr ⟨_, _, by rw [hb]; exact upd_same⟩
      · exact .inl (by rw [upd_ne hb])
    · by_cases hb : b = a
      · rw [hb, upd_same] at z
        cases z
        rw [hb]
        exact ⟨ha, by rw [List.length_map]; exact hl, vs, _, rv, ha⟩
      · rw [upd_ne hb] at z
        cases z
    · by_cases hb : b = a
      · exact ⟨hb, hk⟩
      · rw [upd_ne hb] at z
        exact absurd rfl z
/-- the goal behind k_head, from the evaluator's answer -/
theorem law_end {l : PySem.W.OpenLaw} {n k : Nat} {q : Program} {loose : List Str} {XP : (Str → Option Value) → Heap → Prop} {YP : World → Heap → Prop} {d : DefRec} {K : Params → PySem.W.Frag} {T : Tb}
    (hn : l.most = some n) (hn2 : n ≤ sizeLine) (hdf : d.params.defaults = []) (hr : Room k callerA)
    (hY : ∀ (w : World) (h : Heap), YP w h → (K w.params).In h) (hfn : d.name ∈ T.fns)
    (F : ∀ (w : World) (mg : Str → Option Value) (h : Heap), (K w.params).In h → h.Ns mainGlobals mg → ModOk l.prog w (K w.params) mg T)
    (hlaw : ∀ ns : List Int, ns.length ≤ n → ∃ N st, callK T N k d.name [.scr ns] [] = .ok (.bl true) st)
    (hfill : T.fill d.name 1 = []) :
    PySem.W.WalkO q loose XP YP l.row.toRowW d [] (fun f vs => PySem.call f vs) := by
  refine Att.attach_call hn hdf fun w s₀ s₁ mg mb fa o pm cd doc a vs ns G Y ho hd hcd hmg hobj hints hlen hg => ?_
  have KX := hY w _ Y
  have M := F w mg _ KX G.T.g
  obtain ⟨N, st', hres⟩ := hlaw ns hlen
  have L := fun base => M.lev base (fun _ => none) N k
  obtain ⟨fa', fd, ps, df, h1, h2, h3, h4, h5, h6⟩ := (M.fn d.name hfn).ex
  obtain rfl : fa = fa' := by
    rw [hmg] at h1
    cases h1
    rfl
  have FG : ∀ base, FnG l.prog w (K w.params) mg base k fa fd ps (spG (K w.params) (fun _ => none) (callK T N k d.name)) := fun base => by
    obtain ⟨fb, fdb, psb, C⟩ := (L base).cl d.name hfn
    cases k with
    | zero => cases hres
    | succ k =>
      have e : callK T N (k + 1) d.name = runD (gmK T N k) df := by
        funext xs st
        simp only [callK, h3]
        rfl
      rw [e]
      exact h5 base _ k (gmK T N k) (fun _ h => h) (M.lev base _ N k)
  have hps : ps.length = 1 := by
    cases k with
    | zero => cases hres
    | succ k =>
      rw [← h4]
      simp only [callK, h3] at hres
      exact (need_ok hres).1.symm
  obtain ⟨x, rfl⟩ : ∃ x, ps = [x] := by
    match ps, hps with
    | [x], _ => exact ⟨x, rfl⟩
  obtain ⟨vs', us, b1, b2, b3⟩ := h6 1
  rw [hfill] at b1
  cases b1
  cases b2
  refine law_callG KX G.T.g G.T.b G.T.builtins G.T.nolimit hg hobj hints (Nat.le_trans hlen hn2) hr FG (b3 s₁ [.ref a] KX rfl rfl) fun H hS => ?_
  refine ⟨⟨[], H, fun _ => none⟩, [], [.scr ns], .one (.scr hS (Nat.le_trans hlen hn2)), ⟨fun _ _ h => h, rfl, .nil, fun i c a h => by simp at h, fun i c a h => by simp at h, fun a o h => nomatch h⟩, ?_⟩
  rw [hres]
  intro W' H' le sr v r
  cases r
  rfl
end PI

/-! PI, part O: equality of the own syntax; a def from its facts. -/
namespace PI
open PySem PySem.Spec PyProof.Rows L2
mutual
def eqP : Pat → Pat → Bool
  | .name a0, .name b0 => decide (a0 = b0)
  | .tup a0, .tup b0 => eqPs a0 b0
  | _, _ => false
def eqPs : List Pat → List Pat → Bool
  | [], [] => true
  | a :: s, b :: t => eqP a b && eqPs s t
  | _, _ => false
end
mutual
theorem eqP_s : ∀ {a b : Pat}, eqP a b = true → a = b
  | .name a0, x, h => by
    cases x
    case name b0 =>
      simp only [eqP, Bool.and_eq_true, decide_eq_true_eq] at h
      have e0 := h
      subst e0
      rfl
    all_goals exact absurd (show false = true from h) Bool.false_ne_true
  | .tup a0, x, h => by
    cases x
    case tup b0 =>
      simp only [eqP, Bool.and_eq_true, decide_eq_true_eq] at h
      have e0 := eqPs_s (h)
      subst e0
      rfl
    all_goals exact absurd (show false = true from h) Bool.false_ne_true
theorem eqPs_s : ∀ {a b : List Pat}, eqPs a b = true → a = b
  | [], [], _ => rfl
  | a :: s, b :: t, h => by
    simp only [eqPs, Bool.and_eq_true] at h
    rw [eqP_s h.1, eqPs_s h.2]
  | [], _ :: _, h => absurd (show false = true from h) Bool.false_ne_true
  | _ :: _, [], h => absurd (show false = true from h) Bool.false_ne_true
end
mutual
def eqE : E → E → Bool
  | .var a0, .var b0 => decide (a0 = b0)
  | .fz a0, .fz b0 => decide (a0 = b0)
  | .glob a0, .glob b0 => decide (a0 = b0)
  | .int a0, .int b0 => decide (a0 = b0)
  | .str a0, .str b0 => decide (a0 = b0)
  | .bl a0, .bl b0 => decide (a0 = b0)
  | .non, .non => true
  | .gap, .gap => true
  | .bin a0 a1 a2 a3, .bin b0 b1 b2 b3 => decide (a0 = b0) && decide (a1 = b1) && eqE a2 b2 && eqE a3 b3
  | .neg a0, .neg b0 => eqE a0 b0
  | .not a0, .not b0 => eqE a0 b0
  | .and a0 a1, .and b0 b1 => eqE a0 b0 && eqE a1 b1
  | .or a0 a1, .or b0 b1 => eqE a0 b0 && eqE a1 b1
  | .ite a0 a1 a2, .ite b0 b1 b2 => eqE a0 b0 && eqE a1 b1 && eqE a2 b2
  | .cmp a0 a1 a2, .cmp b0 b1 b2 => decide (a0 = b0) && eqE a1 b1 && eqE a2 b2
  | .chain a0 a1 a2 a3 a4, .chain b0 b1 b2 b3 b4 => decide (a0 = b0) && decide (a1 = b1) && eqE a2 b2 && eqE a3 b3 && eqE a4 b4
  | .ix a0 a1, .ix b0 b1 => eqE a0 b0 && eqE a1 b1
  | .slice a0 a1 a2 a3, .slice b0 b1 b2 b3 => decide (a0 = b0) && eqE a1 b1 && eqE a2 b2 && eqE a3 b3
  | .tup a0, .tup b0 => eqEs a0 b0
  | .lst a0 a1, .lst b0 b1 => decide (a0 = b0) && eqEs a1 b1
  | .comp a0 a1 a2 a3 a4 a5 a6, .comp b0 b1 b2 b3 b4 b5 b6 => decide (a0 = b0) && eqE a1 b1 && eqP a2 b2 && decide (a3 = b3) && eqEs a4 b4 && eqE a5 b5 && decide (a6 = b6)
  | .attr a0 a1, .attr b0 b1 => eqE a0 b0 && decide (a1 = b1)
  | .call a0 a1, .call b0 b1 => decide (a0 = b0) && eqEs a1 b1
  | .meth a0 a1 a2 a3, .meth b0 b1 b2 b3 => decide (a0 = b0) && eqE a1 b1 && decide (a2 = b2) && eqEs a3 b3
  | .new a0 a1, .new b0 b1 => decide (a0 = b0) && eqEs a1 b1
  | .bi a0 a1 a2, .bi b0 b1 b2 => decide (a0 = b0) && decide (a1 = b1) && eqEs a2 b2
  | .bm a0 a1 a2, .bm b0 b1 b2 => eqE a0 b0 && decide (a1 = b1) && eqEs a2 b2
  | _, _ => false
def eqEs : List E → List E → Bool
  | [], [] => true
  | a :: s, b :: t => eqE a b && eqEs s t
  | _, _ => false
end
mutual
theorem eqE_s : ∀ {a b : E}, eqE a b = true → a = b
  | .var a0, x, h => by
    cases x
    case var b0 =>
      simp only [eqE, Bool.and_eq_true, decide_eq_true_eq] at h
      have e0 := h
      subst e0
      rfl
    all_goals exact absurd (show false = true from h) Bool.false_ne_true
  | .fz a0, x, h => by
    cases x
    case fz b0 =>
      simp only [eqE, Bool.and_eq_true, decide_eq_true_eq] at h
      have e0 := h
      subst e0
      rfl
    all_goals exact absurd (show false = true from h) Bool.false_ne_true
  | .glob a0, x, h => by
    cases x
    case glob b0 =>
      simp only [eqE, Bool.and_eq_true, decide_eq_true_eq] at h
      have e0 := h
      subst e0
      rfl
    all_goals exact absurd (show false = true from h) Bool.false_ne_true
  | .int a0, x, h => by
    cases x
    case int b0 =>
      simp only [eqE, Bool.and_eq_true, decide_eq_true_eq] at h
      have e0 := h
      subst e0
      rfl
    all_goals exact absurd (show false = true from h) Bool.false_ne_true
  | .str a0, x, h => by
    cases x
    case str b0 =>
      simp only [eqE, Bool.and_eq_true, decide_eq_true_eq] at h
      have e0 := h
      subst e0
      rfl
    all_goals exact absurd (show false = true from h) Bool.false_ne_true
  | .bl a0, x, h => by
    cases x
    case bl b0 =>
      simp only [eqE, Bool.and_eq_true, decide_eq_true_eq] at h
      have e0 := h
      subst e0
      rfl
    all_goals exact absurd (show false = true from h) Bool.false_ne_true
  | .non, x, h => by
    cases x
    case non  =>
      rfl
    all_goals exact absurd (show false = true from h) Bool.false_ne_true
  | .gap, x, h => by
    cases x
    case gap  =>
      rfl
    all_goals exact absurd (show false = true from h) Bool.false_ne_true
  | .bin a0 a1 a2 a3, x, h => by
    cases x
    case bin b0 b1 b2 b3 =>
      simp only [eqE, Bool.and_eq_true, decide_eq_true_eq] at h
      have e0 := h.1.1.1
      have e1 := h.1.1.2
      have e2 := eqE_s (h.1.2)
      have e3 := eqE_s (h.2)
      subst e0 e1 e2 e3
      rfl
    all_goals exact absurd (show false = true from h) Bool.false_ne_true
  | .neg a0, x, h => by
    cases x
    case neg b0 =>
      simp only [eqE, Bool.and_eq_true, decide_eq_true_eq] at h
      have e0 := eqE_s (h)
      subst e0
      rfl
    all_goals exact absurd (show false = true from h) Bool.false_ne_true
  | .not a0, x, h => by
    cases x
    case not b0 =>
      simp only [eqE, Bool.and_eq_true, decide_eq_true_eq] at h
      have e0 := eqE_s (h)
      subst e0
      rfl
    all_goals exact absurd (show false = true from h) Bool.false_ne_true
  | .and a0 a1, x, h => by
    cases x
    case and b0 b1 =>
      simp only [eqE, Bool.and_eq_true, decide_eq_true_eq] at h
      have e0 := eqE_s (h.1)
      have e1 := eqE_s (h.2)
      subst e0 e1
      rfl
    all_goals exact absurd (show false = true from h) Bool.false_ne_true
  | .or a0 a1, x, h => by
    cases x
    case or b0 b1 =>
      simp only [eqE, Bool.and_eq_true, decide_eq_true_eq] at h
      have e0 := eqE_s (h.1)
      have e1 := eqE_s (h.2)
      subst e0 e1
      rfl
    all_goals exact absurd (show false = true from h) Bool.false_ne_true
  | .ite a0 a1 a2, x, h => by
    cases x
    case ite b0 b1 b2 =>
      simp only [eqE, Bool.and_eq_true, decide_eq_true_eq] at h
      have e0 := eqE_s (h.1.1)
      have e1 := eqE_s (h.1.2)
      have e2 := eqE_s (h.2)
      subst e0 e1 e2
      rfl
    all_goals exact absurd (show false = true from h) Bool.false_ne_true
  | .cmp a0 a1 a2, x, h => by
    cases x
    case cmp b0 b1 b2 =>
      simp only [eqE, Bool.and_eq_true, decide_eq_true_eq] at h
      have e0 := h.1.1
      have e1 := eqE_s (h.1.2)
      have e2 := eqE_s (h.2)
      subst e0 e1 e2
      rfl
    all_goals exact absurd (show false = true from h) Bool.false_ne_true
  | .chain a0 a1 a2 a3 a4, x, h => by
    cases x
    case chain b0 b1 b2 b3 b4 =>
      simp only [eqE, Bool.and_eq_true, decide_eq_true_eq] at h
      have e0 := h.1.1.1.1
      have e1 := h.1.1.1.2
      have e2 := eqE_s (h.1.1.2)
      have e3 := eqE_s (h.1.2)
      have e4 := eqE_s (h.2)
      subst e0 e1 e2 e3 e4
      rfl
    all_goals exact absurd (show false = true from h) Bool.false_ne_true
  | .ix a0 a1, x, h => by
    cases x
    case ix b0 b1 =>
      simp only [eqE, Bool.and_eq_true, decide_eq_true_eq] at h
      have e0 := eqE_s (h.1)
      have e1 := eqE_s (h.2)
      subst e0 e1
      rfl
    all_goals exact absurd (show false = true from h) Bool.false_ne_true
  | .slice a0 a1 a2 a3, x, h => by
    cases x
    case slice b0 b1 b2 b3 =>
      simp only [eqE, Bool.and_eq_true, decide_eq_true_eq] at h
      have e0 := h.1.1.1
      have e1 := eqE_s (h.1.1.2)
      have e2 := eqE_s (h.1.2)
      have e3 := eqE_s (h.2)
      subst e0 e1 e2 e3
      rfl
    all_goals exact absurd (show false = true from h) Bool.false_ne_true
  | .tup a0, x, h => by
    cases x
    case tup b0 =>
      simp only [eqE, Bool.and_eq_true, decide_eq_true_eq] at h
      have e0 := eqEs_s (h)
      subst e0
      rfl
    all_goals exact absurd (show false = true from h) Bool.false_ne_true
  | .lst a0 a1, x, h => by
    cases x
    case lst b0 b1 =>
      simp only [eqE, Bool.and_eq_true, decide_eq_true_eq] at h
      have e0 := h.1
      have e1 := eqEs_s (h.2)
      subst e0 e1
      rfl
    all_goals exact absurd (show false = true from h) Bool.false_ne_true
  | .comp a0 a1 a2 a3 a4 a5 a6, x, h => by
    cases x
    case comp b0 b1 b2 b3 b4 b5 b6 =>
      simp only [eqE, Bool.and_eq_true, decide_eq_true_eq] at h
      have e0 := h.1.1.1.1.1.1
      have e1 := eqE_s (h.1.1.1.1.1.2)
      have e2 := eqP_s (h.1.1.1.1.2)
      have e3 := h.1.1.1.2
      have e4 := eqEs_s (h.1.1.2)
      have e5 := eqE_s (h.1.2)
      have e6 := h.2
      subst e0 e1 e2 e3 e4 e5 e6
      rfl
    all_goals exact absurd (show false = true from h) Bool.false_ne_true
  | .attr a0 a1, x, h => by
    cases x
    case attr b0 b1 =>
      simp only [eqE, Bool.and_eq_true, decide_eq_true_eq] at h
      have e0 := eqE_s (h.1)
      have e1 := h.2
      subst e0 e1
      rfl
    all_goals exact absurd (show false = true from h) Bool.false_ne_true
  | .call a0 a1, x, h => by
    cases x
    case call b0 b1 =>
      simp only [eqE, Bool.and_eq_true, decide_eq_true_eq] at h
      have e0 := h.1
      have e1 := eqEs_s (h.2)
      subst e0 e1
      rfl
    all_goals exact absurd (show false = true from h) Bool.false_ne_true
  | .meth a0 a1 a2 a3, x, h => by
    cases x
    case meth b0 b1 b2 b3 =>
      simp only [eqE, Bool.and_eq_true, decide_eq_true_eq] at h
      have e0 := h.1.1.1
      have e1 := eqE_s (h.1.1.2)
      have e2 := h.1.2
      have e3 := eqEs_s (h.2)
      subst e0 e1 e2 e3
      rfl
    all_goals exact absurd (show false = true from h) Bool.false_ne_true
  | .new a0 a1, x, h => by
    cases x
    case new b0 b1 =>
      simp only [eqE, Bool.and_eq_true, decide_eq_true_eq] at h
      have e0 := h.1
      have e1 := eqEs_s (h.2)
      subst e0 e1
      rfl
    all_goals exact absurd (show false = true from h) Bool.false_ne_true
  | .bi a0 a1 a2, x, h => by
    cases x
    case bi b0 b1 b2 =>
      simp only [eqE, Bool.and_eq_true, decide_eq_true_eq] at h
      have e0 := h.1.1
      have e1 := h.1.2
      have e2 := eqEs_s (h.2)
      subst e0 e1 e2
      rfl
    all_goals exact absurd (show false = true from h) Bool.false_ne_true
  | .bm a0 a1 a2, x, h => by
    cases x
    case bm b0 b1 b2 =>
      simp only [eqE, Bool.and_eq_true, decide_eq_true_eq] at h
      have e0 := eqE_s (h.1.1)
      have e1 := h.1.2
      have e2 := eqEs_s (h.2)
      subst e0 e1 e2
      rfl
    all_goals exact absurd (show false = true from h) Bool.false_ne_true
theorem eqEs_s : ∀ {a b : List E}, eqEs a b = true → a = b
  | [], [], _ => rfl
  | a :: s, b :: t, h => by
    simp only [eqEs, Bool.and_eq_true] at h
    rw [eqE_s h.1, eqEs_s h.2]
  | [], _ :: _, h => absurd (show false = true from h) Bool.false_ne_true
  | _ :: _, [], h => absurd (show false = true from h) Bool.false_ne_true
end
mutual
def eqS : S → S → Bool
  | .asg a0 a1, .asg b0 b1 => eqP a0 b0 && eqE a1 b1
  | .par a0 a1 a2 a3, .par b0 b1 b2 b3 => decide (a0 = b0) && decide (a1 = b1) && eqE a2 b2 && eqE a3 b3
  | .setIx a0 a1 a2, .setIx b0 b1 b2 => eqE a0 b0 && eqE a1 b1 && eqE a2 b2
  | .setAttr a0 a1 a2, .setAttr b0 b1 b2 => eqE a0 b0 && decide (a1 = b1) && eqE a2 b2
  | .ex a0, .ex b0 => eqE a0 b0
  | .ret a0, .ret b0 => eqE a0 b0
  | .ifs a0 a1 a2, .ifs b0 b1 b2 => eqE a0 b0 && eqSs a1 b1 && eqSs a2 b2
  | .loop a0 a1, .loop b0 b1 => eqE a0 b0 && eqSs a1 b1
  | .each a0 a1 a2 a3, .each b0 b1 b2 b3 => eqP a0 b0 && decide (a1 = b1) && eqEs a2 b2 && eqSs a3 b3
  | .pass, .pass => true
  | .brk, .brk => true
  | .cont, .cont => true
  | _, _ => false
def eqSs : List S → List S → Bool
  | [], [] => true
  | a :: s, b :: t => eqS a b && eqSs s t
  | _, _ => false
end
mutual
theorem eqS_s : ∀ {a b : S}, eqS a b = true → a = b
  | .asg a0 a1, x, h => by
    cases x
    case asg b0 b1 =>
      simp only [eqS, Bool.and_eq_true, decide_eq_true_eq] at h
      have e0 := eqP_s (h.1)
      have e1 := eqE_s (h.2)
      subst e0 e1
      rfl
    all_goals exact absurd (show false = true from h) Bool.false_ne_true
  | .par a0 a1 a2 a3, x, h => by
    cases x
    case par b0 b1 b2 b3 =>
      simp only [eqS, Bool.and_eq_true, decide_eq_true_eq] at h
      have e0 := h.1.1.1
      have e1 := h.1.1.2
      have e2 := eqE_s (h.1.2)
      have e3 := eqE_s (h.2)
      subst e0 e1 e2 e3
      rfl
    all_goals exact absurd (show false = true from h) Bool.false_ne_true
  | .setIx a0 a1 a2, x, h => by
    cases x
    case setIx b0 b1 b2 =>
      simp only [eqS, Bool.and_eq_true, decide_eq_true_eq] at h
      have e0 := eqE_s (h.1.1)
      have e1 := eqE_s (h.1.2)
      have e2 := eqE_s (h.2)
      subst e0 e1 e2
      rfl
    all_goals exact absurd (show false = true from h) Bool.false_ne_true
  | .setAttr a0 a1 a2, x, h => by
    cases x
    case setAttr b0 b1 b2 =>
      simp only [eqS, Bool.and_eq_true, decide_eq_true_eq] at h
      have e0 := eqE_s (h.1.1)
      have e1 := h.1.2
      have e2 := eqE_s (h.2)
      subst e0 e1 e2
      rfl
    all_goals exact absurd (show false = true from h) Bool.false_ne_true
  | .ex a0, x, h => by
    cases x
    case ex b0 =>
      simp only [eqS, Bool.and_eq_true, decide_eq_true_eq] at h
      have e0 := eqE_s (h)
      subst e0
      rfl
    all_goals exact absurd (show false = true from h) Bool.false_ne_true
  | .ret a0, x, h => by
    cases x
    case ret b0 =>
      simp only [eqS, Bool.and_eq_true, decide_eq_true_eq] at h
      have e0 := eqE_s (h)
      subst e0
      rfl
    all_goals exact absurd (show false = true from h) Bool.false_ne_true
  | .ifs a0 a1 a2, x, h => by
    cases x
    case ifs b0 b1 b2 =>
      simp only [eqS, Bool.and_eq_true, decide_eq_true_eq] at h
      have e0 := eqE_s (h.1.1)
      have e1 := eqSs_s (h.1.2)
      have e2 := eqSs_s (h.2)
      subst e0 e1 e2
      rfl
    all_goals exact absurd (show false = true from h) Bool.false_ne_true
  | .loop a0 a1, x, h => by
    cases x
    case loop b0 b1 =>
      simp only [eqS, Bool.and_eq_true, decide_eq_true_eq] at h
      have e0 := eqE_s (h.1)
      have e1 := eqSs_s (h.2)
      subst e0 e1
      rfl
    all_goals exact absurd (show false = true from h) Bool.false_ne_true
  | .each a0 a1 a2 a3, x, h => by
    cases x
    case each b0 b1 b2 b3 =>
      simp only [eqS, Bool.and_eq_true, decide_eq_true_eq] at h
      have e0 := eqP_s (h.1.1.1)
      have e1 := h.1.1.2
      have e2 := eqEs_s (h.1.2)
      have e3 := eqSs_s (h.2)
      subst e0 e1 e2 e3
      rfl
    all_goals exact absurd (show false = true from h) Bool.false_ne_true
  | .pass, x, h => by
    cases x
    case pass  =>
      rfl
    all_goals exact absurd (show false = true from h) Bool.false_ne_true
  | .brk, x, h => by
    cases x
    case brk  =>
      rfl
    all_goals exact absurd (show false = true from h) Bool.false_ne_true
  | .cont, x, h => by
    cases x
    case cont  =>
      rfl
    all_goals exact absurd (show false = true from h) Bool.false_ne_true
theorem eqSs_s : ∀ {a b : List S}, eqSs a b = true → a = b
  | [], [], _ => rfl
  | a :: s, b :: t, h => by
    simp only [eqSs, Bool.and_eq_true] at h
    rw [eqS_s h.1, eqSs_s h.2]
  | [], _ :: _, h => absurd (show false = true from h) Bool.false_ne_true
  | _ :: _, [], h => absurd (show false = true from h) Bool.false_ne_true
end
end PI

/-! PI, part O: a def from its facts. -/
namespace PI
open PySem PySem.Spec PyProof.Rows L2
/-- the compiled body is the written one -/
def compB (c : Cc) (body : List Stmt) (ss : List S) : Bool :=
  match cSs 200 c body with
  | some r => eqSs r.1 ss
  | none => false
theorem compB.ok {c : Cc} {body : List Stmt} {ss : List S} (h : compB c body ss = true) : OKSs c body ss := by
  unfold compB at h
  split at h
  · rename_i r e
    rw [← eqSs_s h]
    exact r.2
  · cases h
section
variable {P : Program} {w : World} {K : PySem.W.Frag} {mg : Str → Option Value} {T : Tb} {x : Str} {st : Stmt} {f T0 : Addr} {oc dV kV doc pm cdv ct clT : Value} {od an odT : Option Addr} {osl slT : Array (Option Value)} {ps N : List Str} {mu fz : List (Nat × Nat)} {fns : List Str} {ss : List S}
/-- a def without defaults -/
theorem defOk {h : Heap} (X : K.In h) (G : h.Ns mainGlobals mg) (g : PySem.W.nsIn K mainGlobals x = some (some (.ref f))) (l : K.lookup f = some ⟨oc, od, .func (PySem.W.fnOf x x (defArgs st) (defBody st) (defScope st) .none kV doc pm an cdv ct), osl⟩)
    (c : PySem.W.codeIn K cdv x = true) (k : PySem.W.keepIn K (.ref f) = true) (SC : FnScope N ps (defScope st)) (cp : compB ⟨N, defScope st, mu, fz, fns⟩ (defBody st) ss = true) (df : T.df x = some ⟨ps.length, N.length, ss⟩) (hf : ∀ y ∈ fns, y ∈ T.fns) (fl : ∀ m, T.fill x m = [])
    (hb : ∀ (kV doc pm : Value) (an : Option Addr) (cdv ct : Value) (us : List Value), us.length = ps.length → bindArgs (PySem.W.fnOf x x (defArgs st) (defBody st) (defScope st) .none kV doc pm an cdv ct) ⟨us, []⟩ = pure (ps.zip us)) : DefOk P w K mg T x := by
  refine ⟨f, _, ps, _, PySem.W.mg_of X G g, k, df, rfl, fun base cm k G hs g => fnG_of l c SC (compB.ok cp) (fun y hy => hs y (hf y hy)) g, fun m => ⟨[], [], by rw [fl]; exact .nil, .nil, fun s as _ h1 h2 => ?_⟩⟩
  rw [List.append_nil] at h2 ⊢
  exact .of_eq (hb _ _ _ _ _ _ as h2)
/-- a def with defaults: j parameters have none -/
theorem defOkD {h : Heap} {its : List Value} {dvs : List V} {dds : List D} {m0 : Nat} {j : Nat} (X : K.In h) (G : h.Ns mainGlobals mg) (g : PySem.W.nsIn K mainGlobals x = some (some (.ref f))) (l : K.lookup f = some ⟨oc, od, .func (PySem.W.fnOf x x (defArgs st) (defBody st) (defScope st) (.ref T0) kV doc pm an cdv ct), osl⟩)
    (lT : K.lookup T0 = some ⟨clT, odT, .seq its.toArray m0, slT⟩) (rT : Vals dvs its) (rD : DRs K W0 dds dvs)
    (c : PySem.W.codeIn K cdv x = true) (k : PySem.W.keepIn K (.ref f) = true) (SC : FnScope N ps (defScope st)) (cp : compB ⟨N, defScope st, mu, fz, fns⟩ (defBody st) ss = true) (df : T.df x = some ⟨ps.length, N.length, ss⟩) (hf : ∀ y ∈ fns, y ∈ T.fns) (fl : ∀ m, T.fill x m = dds.drop (m - j)) (hj : j + dds.length = ps.length)
    (hb : ∀ (kV doc pm : Value) (an : Option Addr) (cdv ct : Value) (us its : List Value), its.length = dds.length → us.length + (its.drop (us.length - j)).length = ps.length →
      ∃ k, bindArgs (PySem.W.fnOf x x (defArgs st) (defBody st) (defScope st) (.ref T0) kV doc pm an cdv ct) ⟨us, []⟩ = seqItems? (.ref T0) >>= k ∧ k (some its.toArray) = pure (ps.zip (us ++ its.drop (us.length - j)))) : DefOk P w K mg T x := by
  have hl : its.length = dds.length := rT.length.symm.trans rD.length.symm
  refine ⟨f, _, ps, _, PySem.W.mg_of X G g, k, df, rfl, fun base cm k G hs g => fnG_of l c SC (compB.ok cp) (fun y hy => hs y (hf y hy)) g, fun m => ⟨dvs.drop (m - j), its.drop (m - j), by rw [fl]; exact rD.drop _, rT.drop _, fun s as Xs h1 h2 => ?_⟩⟩
  subst h1
  rw [List.length_append] at h2
  obtain ⟨k, e1, e2⟩ := hb kV doc pm an cdv ct as its hl h2
  refine BindsTo.of_looks fun M => ?_
  rw [e1]
  exact looks_items Xs lT rfl (.of_pure e2)
end
/-- a tuple of the module -/
theorem sqT_K {K : PySem.W.Frag} {F : Hp} {a : Addr} {od : Option Addr} {its : List Value} {n : Nat} {sl : Array (Option Value)} {vs : List V} (h : K.lookup a = some ⟨.type "tuple", od, .seq its.toArray n, sl⟩) (r : Vals vs its) (hl : vs.length ≤ sizeLine) : SqT K F a vs :=
  .inr ⟨_, its.toArray, n, h, rfl, rfl, by rw [List.size_toArray, ← r.length]; exact hl, by simpa using r⟩
end PI

/-! PI, part P: small data may be shown and compared; runs. -/
namespace PI
open PySem PySem.Spec PyProof.Rows L2
/-! ### small data -/
mutual
def sm (m : Nat) : D → Prop
  | .non => True
  | .bl _ => True
  | .int i => i.natAbs < 2 ^ m
  | .str x => x.length ≤ 20 ∧ (x.cps.toList.all fun c => decide (c < 16 ^ 8)) = true ∧ x.cps.all (· < 0x110000) = true
  | .tup xs => smL m xs
  | .lst xs => smL m xs
  | .scr _ => False
  | .ref _ => False
def smL (m : Nat) : List D → Prop
  | [] => True
  | x :: xs => sm m x ∧ smL m xs
end
mutual
def cnt (m : Nat) : D → Nat
  | .int _ => m + 1
  | .str _ => 20
  | .tup xs => cntL m xs
  | .lst xs => cntL m xs
  | _ => 0
def cntL (m : Nat) : List D → Nat
  | [] => 0
  | x :: xs => cnt m x + 1 + cntL m xs
end
mutual
def dep : D → Nat
  | .tup xs => depL xs + 1
  | .lst xs => depL xs + 1
  | _ => 0
def depL : List D → Nat
  | [] => 0
  | x :: xs => max (dep x) (depL xs)
end
theorem log2_lt' {n m : Nat} (h : n < 2 ^ m) (hm : 0 < m) : n.log2 < m := by
  by_cases h0 : n = 0
  · subst h0
    exact hm
  · exact (Nat.log2_lt h0).mpr h
mutual
theorem sm_ok {m : Nat} (h0 : 6 ≤ m) (hm : m < 1920) : ∀ {d : D}, sm m d → plain d = true ∧ (toPy d).showable = true ∧ (toPy d).canLay0 = true ∧ (toPy d).leavesShort (m + 2) = true ∧ (toPy d).weight ≤ cnt m d ∧ (toPy d).depth = dep d
  | .non, _ => ⟨rfl, rfl, rfl, rfl, Nat.zero_le _, rfl⟩
  | .bl _, _ => ⟨rfl, rfl, rfl, rfl, Nat.zero_le _, rfl⟩
  | .int i, h => by
    simp only [sm] at h
    have hl := log2_lt' h (by omega)
    refine ⟨rfl, ?_, rfl, ?_, ?_, rfl⟩
    · simp only [toPy, PyData.showable, decide_eq_true_eq]
      omega
    · simp only [toPy, PyData.leavesShort, PyData.shown, decide_eq_true_eq]
      have := int_text_length_le (a := i) (k := m) (by omega) hl
      have e := PySem.ofString_length (toString i)
      exact decide_eq_true (Nat.le_trans (Nat.le_of_eq e) (by omega))
    · simp only [toPy, PyData.weight, cnt]
      split <;> omega
  | .str x, h => by
    simp only [sm] at h
    refine ⟨rfl, rfl, ?_, ?_, ?_, rfl⟩
    · simp only [toPy, PyData.canLay0]
      exact h.2.2
    · simp only [toPy, PyData.leavesShort]
      exact h.2.1
    · simp only [toPy, PyData.weight, cnt]
      exact h.1
  | .tup xs, h => by
    simp only [sm] at h
    obtain ⟨h1, h2, h3, h4, h5, h6⟩ := sm_okL h0 hm h
    simp only [toPy, plain, PyData.showable, PyData.canLay0, PyData.leavesShort, PyData.weight, cnt, PyData.depth, dep]
    exact ⟨h1, h2, h3, h4, h5, by rw [h6]⟩
  | .lst xs, h => by
    simp only [sm] at h
    obtain ⟨h1, h2, h3, h4, h5, h6⟩ := sm_okL h0 hm h
    simp only [toPy, plain, PyData.showable, PyData.canLay0, PyData.leavesShort, PyData.weight, cnt, PyData.depth, dep]
    exact ⟨h1, h2, h3, h4, h5, by rw [h6]⟩
  | .scr _, h => by simp only [sm] at h
  | .ref _, h => by simp only [sm] at h
theorem sm_okL {m : Nat} (h0 : 6 ≤ m) (hm : m < 1920) : ∀ {d : List D}, smL m d → plainL d = true ∧ PyData.showableAll (toPyL d) = true ∧ PyData.canLayAll0 (toPyL d) = true ∧ PyData.leavesShortAll (m + 2) (toPyL d) = true ∧ PyData.weightAll (toPyL d) ≤ cntL m d ∧ PyData.depthAll (toPyL d) = depL d
  | [], _ => ⟨rfl, rfl, rfl, rfl, Nat.zero_le _, rfl⟩
  | x :: xs, h => by
    simp only [smL] at h
    obtain ⟨h1, h2, h3, h4, h5, h6⟩ := sm_ok h0 hm h.1
    obtain ⟨k1, k2, k3, k4, k5, k6⟩ := sm_okL h0 hm h.2
    simp only [toPyL, plainL, PyData.showableAll, PyData.canLayAll0, PyData.leavesShortAll, PyData.weightAll, cntL, PyData.depthAll, depL, h1, h2, h3, h4, k1, k2, k3, k4, h6, k6, Bool.and_self, true_and, and_true]
    omega
end
theorem sm_show (m : Nat) {d : D} (h0 : 6 ≤ m) (hm : m < 1920) (h : sm m d) (hd : dep d ≤ 60) (hc : (m + 4) * cnt m d + (m + 2) ≤ 16777216) : showOk d := by
  obtain ⟨h1, h2, h3, h4, h5, h6⟩ := sm_ok h0 hm h
  refine ⟨h1, h2, by rw [h6]; exact hd, Nat.le_trans (PyData.shown_le (m + 2) (by omega) _ h4) ?_⟩
  rw [sizeLine_eq]
  have := Nat.mul_le_mul_left (m + 2 + 2) h5
  have e : m + 4 = m + 2 + 2 := rfl
  rw [e] at hc
  omega
theorem sm_eq (m : Nat) {d : D} (h0 : 6 ≤ m) (hm : m < 1920) (h : sm m d) (hd : dep d ≤ 64) : eqOk d := by
  obtain ⟨h1, h2, h3, h4, h5, h6⟩ := sm_ok h0 hm h
  refine ⟨h1, ?_⟩
  show (PyData.canLay0 _ && decide (PyData.depth _ ≤ 64)) = true
  rw [h3, h6, decide_eq_true hd]
  rfl
theorem sm_mono {m n : Nat} (h : m ≤ n) : (∀ {d : D}, sm m d → sm n d) := fun {d} => by
  refine @D.rec (fun d => sm m d → sm n d) (fun ds => smL m ds → smL n ds) ?_ ?_ ?_ ?_ ?_ ?_ ?_ ?_ ?_ ?_ d
  · exact fun h => h
  · exact fun _ h => h
  · intro i hi
    simp only [sm] at hi ⊢
    exact Nat.lt_of_lt_of_le hi (Nat.pow_le_pow_right (by decide) h)
  · intro x hx
    simp only [sm] at hx ⊢
    exact hx
  · intro xs ih hx
    simp only [sm] at hx ⊢
    exact ih hx
  · intro xs ih hx
    simp only [sm] at hx ⊢
    exact ih hx
  · intro ns hx
    simp only [sm] at hx
  · intro n hx
    simp only [sm] at hx
  · exact fun h => h
  · intro x xs i1 i2 hx
    simp only [smL] at hx ⊢
    exact ⟨i1 hx.1, i2 hx.2⟩
/-! ### equal data -/
mutual
theorem eqD_same : ∀ {d : D}, plain d = true → PyData.eqv (toPy d) (toPy d) = true
  | .non, _ => rfl
  | .bl b, _ => by simp only [toPy, PyData.eqv, beq_self_eq_true]
  | .int i, _ => by simp only [toPy, PyData.eqv, beq_self_eq_true]
  | .str x, _ => by simp only [toPy, PyData.eqv, beq_self_eq_true]
  | .tup xs, h => by
    simp only [plain] at h
    simp only [toPy, PyData.eqv]
    exact eqDL_same h
  | .lst xs, h => by
    simp only [plain] at h
    simp only [toPy, PyData.eqv]
    exact eqDL_same h
  | .scr _, h => by simp only [plain] at h; cases h
  | .ref _, h => by simp only [plain] at h; cases h
theorem eqDL_same : ∀ {d : List D}, plainL d = true → PyData.eqvAll (toPyL d) (toPyL d) = true
  | [], _ => rfl
  | x :: xs, h => by
    simp only [plainL, Bool.and_eq_true] at h
    simp only [toPyL, PyData.eqvAll, eqD_same h.1, eqDL_same h.2, Bool.and_self]
end
/-! ### runs -/
theorem callK_df {T : Tb} {N k : Nat} {f : Str} {d : Df} (h : T.df f = some d) (xs : List D) (st : Sto) : callK T N (k + 1) f xs st = runD (gmK T N k) d xs st := by
  simp only [callK, h]
  rfl
theorem gc_same {st : Sto} {d : D} : gc st d st = st := by
  unfold gc
  split
  · exact List.take_length
  · rfl
/-- cells that only the callee made go -/
theorem gc_app {st t : Sto} {d : D} (h : below st.length d) : gc st d (st ++ t) = st := by
  unfold gc
  rw [if_pos]
  · exact List.take_left
  · refine ⟨h, fun i c hi e => .inl ?_⟩
    rw [List.getElem?_append_left hi] at e
    exact e
theorem runD_ret {G : Gm} {f : Df} {xs : List D} {st st' : Sto} {d : D} (hl : xs.length = f.np) (h : execSs G f.body (xs.map some ++ List.replicate (f.nn - xs.length) none) st = .ok (.ret d) st') : runD G f xs st = .ok d (gc st d st') := by
  unfold runD
  rw [need_pos hl, h]
theorem runD_same {G : Gm} {f : Df} {xs : List D} {st : Sto} {d : D} (hl : xs.length = f.np) (h : execSs G f.body (xs.map some ++ List.replicate (f.nn - xs.length) none) st = .ok (.ret d) st) : runD G f xs st = .ok d st := by
  rw [runD_ret hl h, gc_same]
theorem runD_app {G : Gm} {f : Df} {xs : List D} {st t : Sto} {d : D} (hl : xs.length = f.np) (hb : below st.length d) (h : execSs G f.body (xs.map some ++ List.replicate (f.nn - xs.length) none) st = .ok (.ret d) (st ++ t)) : runD G f xs st = .ok d st := by
  rw [runD_ret hl h, gc_app hb]
@[simp] theorem gmK_cl (T : Tb) (N k : Nat) : (gmK T N k).cl = callK T N k := rfl
@[simp] theorem gmK_gl (T : Tb) (N k : Nat) : (gmK T N k).gl = T.gl := rfl
@[simp] theorem gmK_N (T : Tb) (N k : Nat) : (gmK T N k).N = N := rfl
@[simp] theorem gmK_fill (T : Tb) (N k : Nat) : (gmK T N k).fill = T.fill := rfl
/-! ### evaluation, step by step: loops stay folded -/
noncomputable def loopS (G : Gm) (c : E) (b : List S) (n : Nat) (en : Ev) (st : Sto) : Out Fl := whileL (fun en st => evalT G c en st) (fun en st => execSs G b en st) n en st
noncomputable def eachS (G : Gm) (p : Pat) (b : List S) (v : Itv) (l : List D) (en : Ev) (st : Sto) : Out Fl := eachL p (fun en st => execSs G b en st) v l en st
/-- one turn of a comprehension -/
noncomputable def turnS (G : Gm) (elt : E) (p : Pat) (c : E) (own : List Nat) (en : Ev) (x : D) (s : Sto) : Out (Option D) := match bindP p x (wipeE en own) with
  | none => .bad
  | some en' => match c with
    | .gap => (evalE G elt en' s).bind fun y s2 => .ok (some y) s2
    | c => (evalE G c en' s).bind fun b s' => match truthD s' b with
      | some true => (evalE G elt en' s').bind fun y s2 => .ok (some y) s2
      | some false => .ok none s'
      | none => .bad
noncomputable def compS (G : Gm) (elt : E) (p : Pat) (c : E) (own : List Nat) (en : Ev) (v : Itv) (l acc : List D) (st : Sto) : Out (List D) := compL (turnS G elt p c own en) v l acc st
section
variable (G : Gm) (en : Ev) (st : Sto)
@[simp] theorem ev_var (i : Nat) : evalE G (.var i) en st = match en[i]? with | some (some d) => .ok d st | _ => .bad := by simp only [evalE] <;> rfl
@[simp] theorem ev_fz (i : Nat) : evalE G (.fz i) en st = match en[i]? with
    | some (some (.ref n)) => (match st[n]? with | some (.lst xs) => .ok (.lst xs) (st.set n .dead) | _ => .bad)
    | _ => .bad := by simp only [evalE] <;> rfl
@[simp] theorem ev_glob (x : Str) : evalE G (.glob x) en st = match G.gl x with | some d => .ok d st | none => .bad := by simp only [evalE] <;> rfl
@[simp] theorem ev_int (i : Int) : evalE G (.int i) en st = .ok (.int i) st := by simp only [evalE]
@[simp] theorem ev_str (i : Str) : evalE G (.str i) en st = .ok (.str i) st := by simp only [evalE]
@[simp] theorem ev_bl (i : Bool) : evalE G (.bl i) en st = .ok (.bl i) st := by simp only [evalE]
@[simp] theorem ev_non : evalE G .non en st = .ok .non st := by simp only [evalE]
@[simp] theorem ev_gap : evalE G .gap en st = .ok .non st := by simp only [evalE]
@[simp] theorem ev_bin (m : Bool) (op : Operator) (a b : E) : evalE G (.bin m op a b) en st = (evalE G a en st).bind fun x s1 => (evalE G b en s1).bind fun y s2 => binV m op x y s2 := by simp only [evalE]
def negV (x : D) (s1 : Sto) : Out D := match x with
  | .int i => .ok (.int (-i)) s1
  | _ => .bad
@[simp] theorem negV_int (i : Int) (s : Sto) : negV (.int i) s = .ok (.int (-i)) s := rfl
@[simp] theorem ev_neg (a : E) : evalE G (.neg a) en st = (evalE G a en st).bind negV := by simp only [evalE] <;> rfl
def notV (x : D) (s1 : Sto) : Out D := match truthD s1 x with
  | some b => .ok (.bl (!b)) s1
  | none => .bad
@[simp] theorem ev_not (a : E) : evalE G (.not a) en st = (evalE G a en st).bind notV := by simp only [evalE] <;> rfl
/-- a way by a truth -/
def wayV {α : Type} (x : D) (s1 : Sto) (a b : Out α) : Out α := match truthD s1 x with
  | some true => a
  | some false => b
  | none => .bad
@[simp] theorem wayV_bl {α : Type} (t : Bool) (s : Sto) (a b : Out α) : wayV (.bl t) s a b = if t then a else b := by cases t <;> rfl
@[simp] theorem notV_bl (t : Bool) (s : Sto) : notV (.bl t) s = .ok (.bl (!t)) s := rfl
@[simp] theorem ev_and (a b : E) : evalE G (.and a b) en st = (evalE G a en st).bind fun x s1 => wayV x s1 (evalE G b en s1) (.ok x s1) := by
  simp only [evalE] <;> rfl
@[simp] theorem ev_or (a b : E) : evalE G (.or a b) en st = (evalE G a en st).bind fun x s1 => wayV x s1 (.ok x s1) (evalE G b en s1) := by
  simp only [evalE] <;> rfl
@[simp] theorem ev_ite (c a b : E) : evalE G (.ite c a b) en st = (evalE G c en st).bind fun x s1 => wayV x s1 (evalE G a en s1) (evalE G b en s1) := by
  simp only [evalE] <;> rfl
@[simp] theorem ev_cmp (op : CmpOp) (a b : E) : evalE G (.cmp op a b) en st = (evalE G a en st).bind fun x s1 => (evalE G b en s1).bind fun y s2 => (cmpV op x y s2).bind fun r s3 => .ok (.bl r) s3 := by simp only [evalE]
@[simp] theorem ev_chain (o1 o2 : CmpOp) (a b c : E) : evalE G (.chain o1 o2 a b c) en st = (evalE G a en st).bind fun x s1 => (evalE G b en s1).bind fun y s2 => (cmpV o1 x y s2).bind fun r s3 =>
    if r then (evalE G c en s3).bind fun z s4 => (cmpV o2 y z s4).bind fun r2 s5 => .ok (.bl r2) s5 else .ok (.bl false) s3 := by
  simp only [evalE]
  congr 1; funext x s1; congr 1; funext y s2; congr 1; funext r s3
  cases r <;> rfl
@[simp] theorem ev_ix (a i : E) : evalE G (.ix a i) en st = (evalE G a en st).bind fun x s1 => (evalE G i en s1).bind fun y s2 => ixV x y s2 := by simp only [evalE]
@[simp] theorem ev_slice (m : Bool) (a lo hi : E) : evalE G (.slice m a lo hi) en st = (evalE G a en st).bind fun x s1 => (evalE G lo en s1).bind fun l s2 => match partV lo l with
    | none => .bad
    | some l' => (evalE G hi en s2).bind fun h s3 => match partV hi h with
      | none => .bad
      | some h' => sliceV m x l' h' s3 := by simp only [evalE] <;> rfl
@[simp] theorem ev_tup (es : List E) : evalE G (.tup es) en st = (evalEs G es en st).bind fun xs s1 => .ok (.tup xs) s1 := by simp only [evalE]
@[simp] theorem ev_lst (m : Bool) (es : List E) : evalE G (.lst m es) en st = (evalEs G es en st).bind fun xs s1 => newL m xs s1 := by simp only [evalE]
@[simp] theorem ev_comp (m : Bool) (elt : E) (p : Pat) (k : IK) (es : List E) (c : E) (own : List Nat) : evalE G (.comp m elt p k es c own) en st = (evalEs G es en st).bind fun xs s1 => (iterV k xs s1).bind fun v s2 => need (v.items.length ≤ sizeLine)
    ((compS G elt p c own en v v.items [] s2).calm.bind fun ys s3 => newL m ys s3) := by
  simp only [evalE] <;> rfl
@[simp] theorem ev_call (f : Str) (es : List E) : evalE G (.call f es) en st = (evalEs G es en st).bind fun xs s1 => G.cl f (xs ++ G.fill f xs.length) s1 := by simp only [evalE]
@[simp] theorem ev_bi (m : Bool) (b : BI) (es : List E) : evalE G (.bi m b es) en st = (evalEs G es en st).bind fun xs s1 => biV m b xs s1 := by simp only [evalE]
@[simp] theorem ev_bm (o : E) (b : BM) (es : List E) : evalE G (.bm o b es) en st = (evalE G o en st).bind fun x s1 => need (recvOk b s1 x) ((evalEs G es en s1).bind fun xs s2 => bmV b x xs s2) := by simp only [evalE]
@[simp] theorem evs_nil : evalEs G [] en st = .ok [] st := by simp only [evalEs]
@[simp] theorem evs_cons (e : E) (es : List E) : evalEs G (e :: es) en st = (evalE G e en st).bind fun x s1 => (evalEs G es en s1).bind fun xs s2 => .ok (x :: xs) s2 := by simp only [evalEs]
@[simp] theorem et_ (e : E) : evalT G e en st = (evalE G e en st).bind fun x s1 => wayV x s1 (.ok true s1) (.ok false s1) := by
  simp only [evalT]
  congr 1; funext x s1
  unfold wayV
  split
  · rename_i b h
    cases b <;> simp only [h]
  · rename_i h
    simp only [h]
@[simp] theorem ex_asg (p : Pat) (e : E) : execS G (.asg p e) en st = (evalE G e en st).lift (fun c fs => .exc c fs en) fun x s1 => match bindP p x en with
    | some en' => .ok (.nx en') s1
    | none => .bad := by simp only [execS] <;> rfl
@[simp] theorem ex_par (i j : Nat) (a b : E) : execS G (.par i j a b) en st = ((evalE G a en st).bind fun x s1 => (evalE G b en s1).bind fun y s2 => .ok (x, y) s2).lift (fun c fs => .exc c fs en) fun r s2 => .ok (.nx ((en.set i (some r.1)).set j (some r.2))) s2 := by simp only [execS]
@[simp] theorem ex_setIx (o i e : E) : execS G (.setIx o i e) en st = ((evalE G e en st).bind fun x s1 => (evalE G o en s1).bind fun y s2 => (evalE G i en s2).bind fun k s3 => setIxV y k x s3).lift (fun c fs => .exc c fs en) fun _ s4 => .ok (.nx en) s4 := by simp only [execS]
@[simp] theorem ex_ex (e : E) : execS G (.ex e) en st = (evalE G e en st).lift (fun c fs => .exc c fs en) fun _ s1 => .ok (.nx en) s1 := by simp only [execS]
@[simp] theorem ex_ret (e : E) : execS G (.ret e) en st = (evalE G e en st).lift (fun c fs => .exc c fs en) fun x s1 => .ok (.ret x) s1 := by simp only [execS]
@[simp] theorem ex_ifs (c : E) (a b : List S) : execS G (.ifs c a b) en st = (evalT G c en st).lift (fun c fs => .exc c fs en) fun t s1 => if t then execSs G a en s1 else execSs G b en s1 := by
  simp only [execS]
  congr 1; funext t s1
  cases t <;> rfl
@[simp] theorem ex_loop (c : E) (b : List S) : execS G (.loop c b) en st = loopS G c b G.N en st := by simp only [execS] <;> rfl
@[simp] theorem ex_each (p : Pat) (k : IK) (es : List E) (b : List S) : execS G (.each p k es b) en st = ((evalEs G es en st).bind fun xs s1 => iterV k xs s1).lift (fun c fs => .exc c fs en) fun v s2 => eachS G p b v v.items en s2 := by simp only [execS] <;> rfl
@[simp] theorem ex_pass : execS G .pass en st = .ok (.nx en) st := by simp only [execS]
@[simp] theorem ex_brk : execS G .brk en st = .ok (.brk en) st := by simp only [execS]
@[simp] theorem ex_cont : execS G .cont en st = .ok (.cont en) st := by simp only [execS]
@[simp] theorem exs_nil : execSs G [] en st = .ok (.nx en) st := by simp only [execSs]
/-- what follows a statement -/
noncomputable def thenS (ss : List S) (fl : Fl) (s1 : Sto) : Out Fl := match fl with
  | .nx en' => execSs G ss en' s1
  | fl => .ok fl s1
@[simp] theorem thenS_nx (ss : List S) (en : Ev) (s : Sto) : thenS G ss (.nx en) s = execSs G ss en s := rfl
@[simp] theorem thenS_ret (ss : List S) (d : D) (s : Sto) : thenS G ss (.ret d) s = .ok (.ret d) s := rfl
@[simp] theorem thenS_brk (ss : List S) (en : Ev) (s : Sto) : thenS G ss (.brk en) s = .ok (.brk en) s := rfl
@[simp] theorem thenS_cont (ss : List S) (en : Ev) (s : Sto) : thenS G ss (.cont en) s = .ok (.cont en) s := rfl
@[simp] theorem thenS_exc (ss : List S) (c : Str) (fs : List (Str × D)) (en : Ev) (s : Sto) : thenS G ss (.exc c fs en) s = .ok (.exc c fs en) s := rfl
@[simp] theorem exs_cons (s : S) (ss : List S) : execSs G (s :: ss) en st = (execS G s en st).bind (thenS G ss) := by
  simp only [execSs] <;> rfl
end
@[simp] theorem ite_bind {α β : Type} (c : Prop) [Decidable c] (a b : Out α) (f : α → Sto → Out β) : (if c then a else b).bind f = if c then a.bind f else b.bind f := by split <;> rfl
@[simp] theorem ite_lift {α β : Type} (c : Prop) [Decidable c] (a b : Out α) (x : Str → List (Str × D) → β) (f : α → Sto → Out β) : (if c then a else b).lift x f = if c then a.lift x f else b.lift x f := by split <;> rfl
@[simp] theorem bp_name (i : Nat) (d : D) (en : Ev) : bindP (.name i) d en = some (en.set i (some d)) := by simp only [bindP]
@[simp] theorem bp_tup (ps : List Pat) (xs : List D) (en : Ev) : bindP (.tup ps) (.tup xs) en = bindPs ps xs en := by simp only [bindP]
@[simp] theorem bps_nil (en : Ev) : bindPs [] [] en = some en := by simp only [bindPs]
@[simp] theorem bps_cons (p : Pat) (ps : List Pat) (x : D) (xs : List D) (en : Ev) : bindPs (p :: ps) (x :: xs) en = match bindP p x en with
    | some en' => bindPs ps xs en'
    | none => none := by simp only [bindPs] <;> rfl
/-! ### values -/
section
variable (st : Sto)
@[simp] theorem bv_add (m : Bool) (a b : Int) : binV m .Add (.int a) (.int b) st = .ok (.int (a + b)) st := rfl
@[simp] theorem bv_sub (m : Bool) (a b : Int) : binV m .Sub (.int a) (.int b) st = .ok (.int (a - b)) st := rfl
@[simp] theorem bv_mul (m : Bool) (a b : Int) : binV m .Mult (.int a) (.int b) st = need (mulOk a b) (.ok (.int (a * b)) st) := rfl
@[simp] theorem bv_fdiv (m : Bool) (a b : Int) : binV m .FloorDiv (.int a) (.int b) st = need (b ≠ 0 ∧ b.natAbs < 2 ^ 9000) (.ok (.int (a.fdiv b)) st) := rfl
@[simp] theorem bv_mod (m : Bool) (a b : Int) : binV m .Mod (.int a) (.int b) st = need (b ≠ 0) (.ok (.int (a.fmod b)) st) := rfl
@[simp] theorem bv_pow (m : Bool) (a b : Int) : binV m .Pow (.int a) (.int b) st = need (0 ≤ b ∧ b ≤ 1000000 ∧ a.natAbs < 2 ^ 64) (.ok (.int (a ^ b.toNat)) st) := rfl
@[simp] theorem cv_lt (a b : Int) : cmpV .Lt (.int a) (.int b) st = .ok (decide (a < b)) st := rfl
@[simp] theorem cv_le (a b : Int) : cmpV .LtE (.int a) (.int b) st = .ok (decide (a ≤ b)) st := rfl
@[simp] theorem cv_gt (a b : Int) : cmpV .Gt (.int a) (.int b) st = .ok (decide (b < a)) st := rfl
@[simp] theorem cv_ge (a b : Int) : cmpV .GtE (.int a) (.int b) st = .ok (decide (b ≤ a)) st := rfl
@[simp] theorem cv_eqs (a b : Str) : cmpV .Eq (.str a) (.str b) st = .ok (decide (a = b)) st := rfl
@[simp] theorem cv_nes (a b : Str) : cmpV .NotEq (.str a) (.str b) st = .ok (!decide (a = b)) st := rfl
theorem eqOk_int (a : Int) : eqOk (.int a) := ⟨rfl, rfl⟩
@[simp] theorem cv_eq (a b : Int) : cmpV .Eq (.int a) (.int b) st = .ok (decide (a = b)) st := by
  show need (eqOk (.int a) ∧ eqOk (.int b)) _ = _
  rw [need_pos ⟨eqOk_int a, eqOk_int b⟩]
  simp only [eqD, norm, toPy, PyData.eqv]
  by_cases h : a = b <;> simp [h]
@[simp] theorem cv_ne (a b : Int) : cmpV .NotEq (.int a) (.int b) st = .ok (decide (a ≠ b)) st := by
  show need (eqOk (.int a) ∧ eqOk (.int b)) _ = _
  rw [need_pos ⟨eqOk_int a, eqOk_int b⟩]
  simp only [eqD, norm, toPy, PyData.eqv]
  by_cases h : a = b <;> simp [h]
@[simp] theorem bi_int (m : Bool) (a : Int) : biV m .int [.int a] st = .ok (.int a) st := rfl
@[simp] theorem bi_abs (m : Bool) (a : Int) : biV m .abs [.int a] st = .ok (.int a.natAbs) st := rfl
@[simp] theorem bi_len (m : Bool) (x : D) : biV m .len [x] st = match lenD st x with | some n => .ok (.int n) st | none => .bad := rfl
@[simp] theorem bi_tuple (m : Bool) (x : D) : biV m .tuple [x] st = match seqOf st x with | some n => .ok (.tup n) st | none => .bad := rfl
@[simp] theorem bi_list (m : Bool) (x : D) : biV m .list [x] st = match seqOf st x with | some n => newL m n st | none => .bad := rfl
@[simp] theorem bi_isI (m : Bool) (t : String) (x : D) : biV m (.isI t) [x] st = match tyD st x with | some a => .ok (.bl (isTy a t)) st | none => .bad := rfl
@[simp] theorem bi_repr (m : Bool) (x : D) : biV m .repr [x] st = need (showOk (norm st x)) (.ok (.str (toPy (norm st x)).shown) st) := rfl
@[simp] theorem bi_max (m : Bool) (i j : Int) : biV m .max2 [.int i, .int j] st = .ok (.int (if j > i then j else i)) st := rfl
@[simp] theorem bi_min (m : Bool) (i j : Int) : biV m .min2 [.int i, .int j] st = .ok (.int (if j < i then j else i)) st := rfl
@[simp] theorem seq_tup (xs : List D) : seqOf st (.tup xs) = some xs := rfl
@[simp] theorem seq_lst (xs : List D) : seqOf st (.lst xs) = some xs := rfl
@[simp] theorem seq_scr (ns : List Int) : seqOf st (.scr ns) = some (ns.map .int) := rfl
@[simp] theorem len_tup (xs : List D) : lenD st (.tup xs) = some xs.length := rfl
@[simp] theorem len_lst (xs : List D) : lenD st (.lst xs) = some xs.length := rfl
@[simp] theorem len_scr (ns : List Int) : lenD st (.scr ns) = some ns.length := by simp [lenD]
@[simp] theorem ty_tup (xs : List D) : tyD st (.tup xs) = some "tuple" := rfl
@[simp] theorem ty_lst (xs : List D) : tyD st (.lst xs) = some "list" := rfl
@[simp] theorem ty_scr (xs : List Int) : tyD st (.scr xs) = some "list" := rfl
@[simp] theorem ty_int (i : Int) : tyD st (.int i) = some "int" := rfl
@[simp] theorem ty_bl (i : Bool) : tyD st (.bl i) = some "bool" := rfl
@[simp] theorem ty_str (i : Str) : tyD st (.str i) = some "str" := rfl
@[simp] theorem ty_non : tyD st .non = some "NoneType" := rfl
@[simp] theorem norm_tup (xs : List D) : norm st (.tup xs) = .tup xs := rfl
@[simp] theorem norm_lst (xs : List D) : norm st (.lst xs) = .lst xs := rfl
@[simp] theorem norm_int (i : Int) : norm st (.int i) = .int i := rfl
@[simp] theorem norm_str (i : Str) : norm st (.str i) = .str i := rfl
@[simp] theorem norm_bl (i : Bool) : norm st (.bl i) = .bl i := rfl
@[simp] theorem norm_non : norm st .non = .non := rfl
/-- an item by its place -/
theorem ix_at {x : D} {xs : List D} {i : Nat} {d : D} (h : seqOf st x = some xs) (hi : xs[i]? = some d) : ixV x (.int (i : Nat)) st = .ok d st := by
  unfold ixV
  simp only [h]
  rw [atI_nat hi]
@[simp] theorem ix_t0 (a : D) (r : List D) : ixV (.tup (a :: r)) (.int 0) st = .ok a st := ix_at st (i := 0) rfl rfl
@[simp] theorem ix_t1 (a b : D) (r : List D) : ixV (.tup (a :: b :: r)) (.int 1) st = .ok b st := ix_at st (i := 1) rfl rfl
@[simp] theorem ix_t2 (a b c : D) (r : List D) : ixV (.tup (a :: b :: c :: r)) (.int 2) st = .ok c st := ix_at st (i := 2) rfl rfl
@[simp] theorem ix_t3 (a b c d : D) (r : List D) : ixV (.tup (a :: b :: c :: d :: r)) (.int 3) st = .ok d st := ix_at st (i := 3) rfl rfl
@[simp] theorem ix_l0 (a : D) (r : List D) : ixV (.lst (a :: r)) (.int 0) st = .ok a st := ix_at st (i := 0) rfl rfl
@[simp] theorem ix_l1 (a b : D) (r : List D) : ixV (.lst (a :: b :: r)) (.int 1) st = .ok b st := ix_at st (i := 1) rfl rfl
@[simp] theorem ix_l2 (a b c : D) (r : List D) : ixV (.lst (a :: b :: c :: r)) (.int 2) st = .ok c st := ix_at st (i := 2) rfl rfl
@[simp] theorem ix_l3 (a b c d : D) (r : List D) : ixV (.lst (a :: b :: c :: d :: r)) (.int 3) st = .ok d st := ix_at st (i := 3) rfl rfl
end
/-! ### loops -/
section
variable {G : Gm} {c : E} {b : List S} {n : Nat} {en en' : Ev} {st s1 s2 : Sto} {p : Pat} {v : Itv} {x : D} {xs : List D}
theorem loop_end (hc : evalT G c en st = .ok false s1) : loopS G c b (n + 1) en st = .ok (.nx en) s1 := by
  unfold loopS
  simp only [whileL, hc, Out.lift_ok]
theorem loop_step (hc : evalT G c en st = .ok true s1) (hb : execSs G b en s1 = .ok (.nx en') s2) : loopS G c b (n + 1) en st = loopS G c b n en' s2 := by
  show whileL _ _ (n + 1) en st = _
  simp only [whileL, hc, hb, Out.lift_ok, Out.bind_ok]
  rfl
theorem each_nil (hv : v.keep = []) : eachS G p b v [] en st = .ok (.nx en) st := by
  unfold eachS
  simp only [eachL]
  rw [need_pos]
  intro q hq
  rw [hv] at hq
  cases hq
theorem each_cons (hv : v.keep = []) : eachS G p b v (x :: xs) en st = match bindP p x en with
    | none => .bad
    | some en1 => (execSs G b en1 st).bind fun fl s2 => match fl with
      | .nx en' => eachS G p b v xs en' s2
      | .cont en' => eachS G p b v xs en' s2
      | .brk en' => .ok (.nx en') s2
      | .ret d => .ok (.ret d) s2
      | .exc c fs en' => .ok (.exc c fs en') s2 := by
  show eachL p _ v (x :: xs) en st = _
  simp only [eachL]
  rw [need_pos]
  · rfl
  · intro q hq
    rw [hv] at hq
    cases hq
theorem each_step {en1 : Ev} (hv : v.keep = []) (hp : bindP p x en = some en1) (hb : execSs G b en1 st = .ok (.nx en') s2) : eachS G p b v (x :: xs) en st = eachS G p b v xs en' s2 := by
  rw [each_cons hv, hp]
  simp only [hb, Out.bind_ok]
theorem each_ret {en1 : Ev} {d : D} (hv : v.keep = []) (hp : bindP p x en = some en1) (hb : execSs G b en1 st = .ok (.ret d) s2) : eachS G p b v (x :: xs) en st = .ok (.ret d) s2 := by
  rw [each_cons hv, hp]
  simp only [hb, Out.bind_ok]
end
end PI

/-! PI, part Q: the program's fractions, and the laws' own helpers. -/
namespace PI
open PySem PySem.Spec PyProof.Rows L2
theorem fmod_nat (a b : Nat) : (a : Int).fmod (b : Int) = ((a % b : Nat) : Int) := by
  rw [Int.fmod_eq_emod_of_nonneg _ (Int.natCast_nonneg b)]
  rfl
theorem fdiv_nat (a : Int) (b : Nat) : a.fdiv (b : Int) = a / (b : Int) := Int.fdiv_eq_ediv_of_nonneg _ (Int.natCast_nonneg b)
theorem gd_loop (G : Gm) (st : Sto) : ∀ (n b a : Nat), b < n → loopS G (.cmp .Gt (.var 1) (.int 0)) [.par 0 1 (.var 1) (.bin false .Mod (.var 0) (.var 1))] n [some (.int a), some (.int b)] st =
    .ok (.nx [some (.int (Nat.gcd a b : Nat)), some (.int 0)]) st
  | 0, _, _, h => absurd h (Nat.not_lt_zero _)
  | n + 1, 0, a, _ => by
    rw [loop_end (s1 := st) (by simp)]
    simp
  | n + 1, b + 1, a, h => by
    have ih := gd_loop G st n (a % (b + 1)) (b + 1) (Nat.lt_of_lt_of_le (Nat.mod_lt _ (Nat.succ_pos b)) (by omega))
    have e := fmod_nat a (b + 1)
    rw [loop_step (s1 := st) (s2 := st) (en' := [some (.int ((b + 1 : Nat) : Int)), some (.int ((a % (b + 1) : Nat) : Int))]) (by simp) (by
      simp only [exs_cons, ex_par, ev_var, ev_bin, List.getElem?_cons_succ, List.getElem?_cons_zero, Out.bind_ok, bv_mod]
      rw [need_pos (by omega)]
      simp only [Out.lift_ok, Out.bind_ok, List.set, thenS_nx, exs_nil, e]), ih, Nat.gcd_comm (b + 1), ← Nat.gcd_rec, Nat.gcd_comm]
abbrev bGd : List S := [.par 0 1 (.bi false .abs [(.var 0)]) (.bi false .abs [(.var 1)]), .loop (.cmp .Gt (.var 1) (.int 0)) [.par 0 1 (.var 1) (.bin false .Mod (.var 0) (.var 1))], .ret (.var 0)]
theorem gd_spec {T : Tb} {N k : Nat} (hk : 1 ≤ k) (h : T.df "greatest_divisor" = some ⟨2, 2, bGd⟩) (a b : Int) (st : Sto) (hN : b.natAbs < N) : callK T N k "greatest_divisor" [.int a, .int b] st = .ok (.int (Int.gcd a b)) st := by
  obtain ⟨k, rfl⟩ : ∃ j, k = j + 1 := ⟨k - 1, by omega⟩
  rw [callK_df h]
  refine runD_same rfl ?_
  have := gd_loop (gmK T N k) st N b.natAbs a.natAbs hN
  simp [bGd, this, Int.gcd]
/-- a fraction in lowest terms -/
def fr (n d : Int) : Int × Int := if d < 0 then (-n / Int.gcd n d, -d / Int.gcd n d) else (n / Int.gcd n d, d / Int.gcd n d)
def FD (p : Int × Int) : D := .tup [.int p.1, .int p.2]
theorem gcd_pos' {n d : Int} (h : d ≠ 0) : 0 < Int.gcd n d := Int.gcd_pos_of_ne_zero_right n h
theorem gcd_lt {n d : Int} {m : Nat} (h : d ≠ 0) (hm : d.natAbs < m) : Int.gcd n d < m := by
  have : Int.gcd n d ≤ d.natAbs := Nat.le_of_dvd (Int.natAbs_pos.mpr h) (Int.gcd_dvd_natAbs_right n d)
  omega
abbrev bFr : List S := [.ifs (.cmp .Lt (.var 1) (.int 0)) [.par 0 1 (.neg (.var 0)) (.neg (.var 1))] [], .asg (.name 2) (.call "greatest_divisor" [(.var 0), (.var 1)]), .ret (.tup [(.bin false .FloorDiv (.var 0) (.var 2)), (.bin false .FloorDiv (.var 1) (.var 2))])]
theorem fr_spec {T : Tb} {N k : Nat} (hk : 2 ≤ k) (h : T.df "fraction" = some ⟨2, 3, bFr⟩) (h1 : T.df "greatest_divisor" = some ⟨2, 2, bGd⟩) (hf : T.fill "greatest_divisor" 2 = []) (n d : Int) (st : Sto) (hN : d.natAbs < N) (hd : d ≠ 0) (hb : d.natAbs < 2 ^ 9000) :
    callK T N k "fraction" [.int n, .int d] st = .ok (FD (fr n d)) st := by
  obtain ⟨k, rfl⟩ : ∃ j, k = j + 2 := ⟨k - 2, by omega⟩
  rw [callK_df h]
  refine runD_same rfl ?_
  have g1 : (Int.gcd n d : Int) ≠ 0 := by have := gcd_pos' (n := n) hd; omega
  have g2 : (Int.gcd n d : Int).natAbs < 2 ^ 9000 := gcd_lt hd hb
  by_cases hneg : d < 0
  · have e := gd_spec (k := k + 1) (by omega) h1 (-n) (-d) st (by rw [Int.natAbs_neg]; exact hN)
    have e2 : Int.gcd (-n) (-d) = Int.gcd n d := by simp
    rw [e2] at e
    simp only [bFr, exs_cons, ex_ifs, et_, ev_cmp, ev_var, ev_int, List.map, List.replicate, List.length_cons, List.length_nil, List.cons_append, List.nil_append, List.getElem?_cons_succ, List.getElem?_cons_zero, Out.bind_ok, cv_lt, wayV_bl, hneg, decide_true, if_true, Out.lift_ok, ex_par, ev_neg, negV_int, List.set, exs_nil, thenS_nx, ex_asg, ev_call, evs_cons, evs_nil, gmK_cl, gmK_fill, hf, List.append_nil, e, bp_name, ex_ret, ev_tup, ev_bin, bv_fdiv, need_pos (And.intro g1 g2), fdiv_nat, thenS_ret, FD, fr, if_true, Nat.reduceAdd, Nat.reduceSub]
  · have e := gd_spec (k := k + 1) (by omega) h1 n d st hN
    simp only [bFr, exs_cons, ex_ifs, et_, ev_cmp, ev_var, ev_int, List.map, List.replicate, List.length_cons, List.length_nil, List.cons_append, List.nil_append, List.getElem?_cons_succ, List.getElem?_cons_zero, Out.bind_ok, cv_lt, wayV_bl, hneg, decide_false, Bool.false_eq_true, if_false, Out.lift_ok, ex_par, ev_neg, negV_int, List.set, exs_nil, thenS_nx, ex_asg, ev_call, evs_cons, evs_nil, gmK_cl, gmK_fill, hf, List.append_nil, e, bp_name, ex_ret, ev_tup, ev_bin, bv_fdiv, need_pos (And.intro g1 g2), fdiv_nat, thenS_ret, FD, fr, Nat.reduceAdd, Nat.reduceSub]
/-! ### the laws' gcd: a bounded number of turns -/
abbrev bCoT : List S := [.ifs (.cmp .Eq (.var 0) (.int 0)) [.ret (.var 1)] [], .par 0 1 (.bin false .Sub (.var 1) (.bin false .Mult (.bin false .FloorDiv (.var 1) (.var 0)) (.var 0))) (.var 0)]
theorem co_zero {G : Gm} {v : Itv} (hv : v.keep = []) (x : D) (xs : List D) (b : Int) (z : Option D) (st : Sto) : eachS G (.name 2) bCoT v (x :: xs) [some (.int 0), some (.int b), z] st = .ok (.ret (.int b)) st :=
  each_ret hv (en1 := [some (.int 0), some (.int b), some x]) (by simp) (by simp [bCoT])
theorem mulOk_big {a b : Int} (m n : Nat) (ha : a.natAbs < 2 ^ m) (hb : b.natAbs < 2 ^ n) (h : m + n ≤ 100000000) : mulOk a b := .inr (.inr ⟨m, n, ha, hb, h⟩)
theorem co_step {G : Gm} {v : Itv} (hv : v.keep = []) (x : D) (xs : List D) (a b : Nat) (z : Option D) (st : Sto) (h0 : 0 < a) (ha : a < 2 ^ 9000) (hb : b < 2 ^ 9000) :
    eachS G (.name 2) bCoT v (x :: xs) [some (.int a), some (.int b), z] st = eachS G (.name 2) bCoT v xs [some (.int (b % a : Nat)), some (.int a), some x] st := by
  refine each_step hv (en1 := [some (.int a), some (.int b), some x]) (by simp) ?_
  have h1 : ((a : Nat) : Int) ≠ 0 := by omega
  have h2 : ((a : Nat) : Int).natAbs < 2 ^ 9000 := ha
  have h3 : mulOk ((b : Int) / (a : Int)) (a : Int) := by
    refine mulOk_big 9000 9000 ?_ ha (by omega)
    have e : ((b : Int) / (a : Int)).natAbs = b / a := rfl
    rw [e]
    exact Nat.lt_of_le_of_lt (Nat.div_le_self b a) hb
  have h4 : (b : Int) - (b : Int) / (a : Int) * (a : Int) = ((b % a : Nat) : Int) := by
    have := Int.mul_ediv_add_emod (b : Int) (a : Int)
    rw [Int.mul_comm] at this
    have e : ((b % a : Nat) : Int) = (b : Int) % (a : Int) := rfl
    omega
  simp only [bCoT, exs_cons, ex_ifs, et_, ev_cmp, ev_var, ev_int, List.getElem?_cons_succ, List.getElem?_cons_zero, Out.bind_ok, cv_eq, wayV_bl, h1, decide_false, Bool.false_eq_true, if_false, Out.lift_ok, exs_nil, thenS_nx, ex_par, ev_bin, bv_fdiv, fdiv_nat, need_pos (And.intro h1 h2), bv_mul, need_pos h3, bv_sub, h4, List.set]
theorem co_loop {G : Gm} {v : Itv} (hv : v.keep = []) (st : Sto) : ∀ (m : Nat) (l : List D) (a b : Nat) (z : Option D), a < 2 ^ m → 2 * m + 1 ≤ l.length → a < 2 ^ 9000 → b < 2 ^ 9000 →
    eachS G (.name 2) bCoT v l [some (.int a), some (.int b), z] st = .ok (.ret (.int (Nat.gcd a b : Nat))) st
  | _, [], _, _, _, _, h, _, _ => by simp at h
  | m, x :: xs, 0, b, z, _, _, _, _ => by
    rw [Nat.gcd_zero_left]
    exact co_zero hv x xs b z st
  | 0, _ :: _, a + 1, _, _, h, _, _, _ => by simp at h
  | m + 1, [x], a + 1, _, _, _, h, _, _ => by simp at h
  | m + 1, x :: y :: xs, a + 1, b, z, h1, h2, h3, h4 => by
    rw [co_step hv x (y :: xs) (a + 1) b z st (Nat.succ_pos a) h3 h4]
    by_cases hr : b % (a + 1) = 0
    · rw [hr]
      refine (co_zero hv y xs _ _ st).trans ?_
      rw [Nat.gcd_rec, hr, Nat.gcd_zero_left]
    · have hlt : b % (a + 1) < a + 1 := Nat.mod_lt _ (Nat.succ_pos a)
      have h5 : b % (a + 1) < 2 ^ 9000 := Nat.lt_trans hlt h3
      rw [co_step hv y xs (b % (a + 1)) (a + 1) _ st (Nat.pos_of_ne_zero hr) h5 h3]
      have h6 : (a + 1) % (b % (a + 1)) < 2 ^ m := by
        generalize hq : b % (a + 1) = r at *
        have e1 : (a + 1) % r < r := Nat.mod_lt _ (Nat.pos_of_ne_zero hr)
        have e2 : (a + 1) % r + r * ((a + 1) / r) = a + 1 := Nat.mod_add_div _ _
        have e3 : 1 ≤ (a + 1) / r := (Nat.le_div_iff_mul_le (Nat.pos_of_ne_zero hr)).mpr (by omega)
        have e4 : r * 1 ≤ r * ((a + 1) / r) := Nat.mul_le_mul_left r e3
        have e5 : 2 ^ (m + 1) = 2 * 2 ^ m := by rw [Nat.pow_succ, Nat.mul_comm]
        omega
      rw [co_loop hv st m xs _ _ _ h6 (by simp at h2; omega) (Nat.lt_trans (Nat.mod_lt _ (Nat.pos_of_ne_zero hr)) h5) h5]
      rw [← Nat.gcd_rec, ← Nat.gcd_rec]
theorem range1_ok {j : Int} (st : Sto) (h : -(2 ^ 62) ≤ j ∧ j < 2 ^ 62) : iterV .range1 [.int j] st = .ok ⟨rangeL 0 j.toNat, []⟩ st := by
  show need _ _ = _
  rw [need_pos h]
abbrev bCo : List S := [.asg (.name 0) (.bi false .abs [(.var 0)]), .each (.name 2) .range1 [(.int 400)] bCoT, .ret (.var 1)]
theorem co_spec {T : Tb} {N k : Nat} (hk : 1 ≤ k) (h : T.df "_law_common" = some ⟨2, 3, bCo⟩) (a : Int) (b : Nat) (st : Sto) (ha : a.natAbs < 2 ^ 199) (hb : b < 2 ^ 9000) : callK T N k "_law_common" [.int a, .int b] st = .ok (.int (Int.gcd a b)) st := by
  obtain ⟨k, rfl⟩ : ∃ j, k = j + 1 := ⟨k - 1, by omega⟩
  rw [callK_df h]
  refine runD_same rfl ?_
  have e := co_loop (G := gmK T N k) (v := ⟨rangeL 0 400, []⟩) rfl st 199 (rangeL 0 400) a.natAbs b none ha (by simp [rangeL]) (Nat.lt_of_lt_of_le ha (Nat.pow_le_pow_right (by decide) (by decide))) hb
  have e2 := range1_ok (j := 400) st ⟨by decide, by decide⟩
  simp only [bCo, exs_cons, ex_asg, ev_bi, evs_cons, evs_nil, ev_var, ev_int, List.map, List.replicate, List.length_cons, List.length_nil, List.cons_append, List.nil_append, List.getElem?_cons_succ, List.getElem?_cons_zero, Out.bind_ok, bi_abs, Out.lift_ok, bp_name, List.set, thenS_nx, ex_each, e2, Nat.reduceAdd, Nat.reduceSub, show (400 : Int).toNat = 400 from rfl, e, thenS_ret]
  rfl
abbrev bLo : List S := [.ifs (.cmp .Lt (.var 1) (.int 0)) [.asg (.name 0) (.neg (.var 0)), .asg (.name 1) (.neg (.var 1))] [], .asg (.name 2) (.call "_law_common" [(.var 0), (.var 1)]), .ret (.tup [(.bin false .FloorDiv (.var 0) (.var 2)), (.bin false .FloorDiv (.var 1) (.var 2))])]
theorem lo_spec {T : Tb} {N k : Nat} (hk : 2 ≤ k) (h : T.df "_law_lowest" = some ⟨2, 3, bLo⟩) (h1 : T.df "_law_common" = some ⟨2, 3, bCo⟩) (hf : T.fill "_law_common" 2 = []) (n d : Int) (st : Sto) (hn : n.natAbs < 2 ^ 199) (hd : d ≠ 0) (hb : d.natAbs < 2 ^ 9000) :
    callK T N k "_law_lowest" [.int n, .int d] st = .ok (FD (fr n d)) st := by
  obtain ⟨k, rfl⟩ : ∃ j, k = j + 2 := ⟨k - 2, by omega⟩
  rw [callK_df h]
  refine runD_same rfl ?_
  have g1 : (Int.gcd n d : Int) ≠ 0 := by have := gcd_pos' (n := n) hd; omega
  have g2 : (Int.gcd n d : Int).natAbs < 2 ^ 9000 := gcd_lt hd hb
  by_cases hneg : d < 0
  · have e := co_spec (N := N) (k := k + 1) (by omega) h1 (-n) (d.natAbs) st (by rw [Int.natAbs_neg]; exact hn) hb
    have e2 : Int.gcd (-n) (d.natAbs : Int) = Int.gcd n d := by simp [Int.gcd]
    have e3 : ((d.natAbs : Nat) : Int) = -d := by omega
    rw [e2, e3] at e
    simp only [bLo, exs_cons, ex_ifs, et_, ev_cmp, ev_var, ev_int, List.map, List.replicate, List.length_cons, List.length_nil, List.cons_append, List.nil_append, List.getElem?_cons_succ, List.getElem?_cons_zero, Out.bind_ok, cv_lt, wayV_bl, hneg, decide_true, if_true, Out.lift_ok, ex_par, ev_neg, negV_int, List.set, exs_nil, thenS_nx, ex_asg, ev_call, evs_cons, evs_nil, gmK_cl, gmK_fill, hf, List.append_nil, e, bp_name, ex_ret, ev_tup, ev_bin, bv_fdiv, need_pos (And.intro g1 g2), fdiv_nat, thenS_ret, FD, fr, if_true, Nat.reduceAdd, Nat.reduceSub]
  · have e := co_spec (N := N) (k := k + 1) (by omega) h1 n d.natAbs st hn hb
    have e3 : ((d.natAbs : Nat) : Int) = d := by omega
    rw [e3] at e
    simp only [bLo, exs_cons, ex_ifs, et_, ev_cmp, ev_var, ev_int, List.map, List.replicate, List.length_cons, List.length_nil, List.cons_append, List.nil_append, List.getElem?_cons_succ, List.getElem?_cons_zero, Out.bind_ok, cv_lt, wayV_bl, hneg, decide_false, Bool.false_eq_true, if_false, Out.lift_ok, ex_par, ev_neg, negV_int, List.set, exs_nil, thenS_nx, ex_asg, ev_call, evs_cons, evs_nil, gmK_cl, gmK_fill, hf, List.append_nil, e, bp_name, ex_ret, ev_tup, ev_bin, bv_fdiv, need_pos (And.intro g1 g2), fdiv_nat, thenS_ret, FD, fr, Nat.reduceAdd, Nat.reduceSub]
end PI

/-! PI, part R: the laws' drawn numbers. -/
namespace PI
open PySem PySem.Spec PyProof.Rows L2
/-! ### cells -/
@[simp] theorem at_new (st : Sto) (c : Cell) : (st ++ [c])[st.length]? = some c := by simp
@[simp] theorem set_new (st : Sto) (c d : Cell) : (st ++ [c]).set st.length d = st ++ [d] := by
  rw [List.set_append_right _ _ (Nat.le_refl _), Nat.sub_self]
  rfl
theorem recv_app {st : Sto} {n : Nat} {ys : List D} (h : st[n]? = some (.lst ys)) : recvOk .append st (.ref n) := by
  show (lstOf st (.ref n)).isSome = true
  simp only [lstOf, h]
  rfl
theorem app_ok {st : Sto} {n : Nat} {ys : List D} {x : D} (h : st[n]? = some (.lst ys)) (hl : ys.length < sizeLine) : bmV .append (.ref n) [x] st = .ok .non (st.set n (.lst (ys ++ [x]))) := by
  show appendV (.ref n) [x] st = _
  simp only [appendV, h]
  rw [need_pos hl]
/-- x.append(e) of a cell -/
theorem ex_app {G : Gm} {i n : Nat} {e : E} {en : Ev} {st s1 : Sto} {ys : List D} {x : D} (h1 : en[i]? = some (some (.ref n))) (h2 : st[n]? = some (.lst ys)) (h3 : evalE G e en st = .ok x s1) (h4 : s1[n]? = some (.lst ys)) (hl : ys.length < sizeLine) :
    execS G (.ex (.bm (.var i) .append [e])) en st = .ok (.nx en) (s1.set n (.lst (ys ++ [x]))) := by
  rw [ex_ex, ev_bm, ev_var, h1]
  simp only [Out.bind_ok]
  rw [need_pos (recv_app h2), evs_cons, h3]
  simp only [Out.bind_ok, evs_nil]
  rw [app_ok h4 hl]
  rfl
theorem mulOk_r {a b : Int} (h : b.natAbs < 2 ^ 64) : mulOk a b := .inr (.inl h)
theorem mulOk_l {a b : Int} (h : a.natAbs < 2 ^ 64) : mulOk a b := .inl h
theorem fmod_lt {a b : Int} (h : 0 < b) : 0 ≤ a.fmod b ∧ a.fmod b < b := by
  rw [Int.fmod_eq_emod_of_nonneg _ (Int.le_of_lt h)]
  exact ⟨Int.emod_nonneg _ (by omega), Int.emod_lt_of_pos _ h⟩
theorem pow18 : (10 : Int) ^ (18 : Int).toNat = 1000000000000000000 := by decide
theorem pow9 : (10 : Int) ^ (9 : Int).toNat = 1000000000 := by decide
abbrev bRoT : List S := [.ifs (.cmp .GtE (.var 0) (.bin false .Pow (.int 10) (.int 18))) [.ex (.bm (.var 3) .append [(.bin false .Mod (.bi false .int [(.var 0)]) (.var 2))]), .asg (.name 0) (.bin false .FloorDiv (.var 0) (.var 2))] [.asg (.name 5) (.bin false .Mod (.bi false .int [(.bin false .Add (.bin false .Add (.bin false .Mult (.var 0) (.int 48271)) (.bin false .Mult (.var 4) (.int 69621))) (.int 12345))]) (.int 2147483647)), .asg (.name 5) (.bin false .Mod (.bi false .int [(.bin false .Add (.bin false .Add (.bin false .Mult (.var 5) (.var 5)) (.bin false .Mult (.int 16807) (.var 4))) (.int 7))]) (.int 998244353)), .asg (.name 5) (.bin false .Mod (.bi false .int [(.bin false .Add (.bin false .Add (.bin false .Mult (.var 5) (.var 5)) (.bin false .Mult (.int 48271) (.var 4))) (.var 0))]) (.int 2147483629)), .ex (.bm (.var 3) .append [(.bin false .Mod (.bi false .int [(.bin false .FloorDiv (.var 5) (.int 13))]) (.var 2))])]]
theorem ro_turn (G : Gm) (c n b k : Int) (z : Option D) (st : Sto) (acc : List D) (hb : 0 < b) (hb2 : b < 2 ^ 62) (ha : acc.length < sizeLine) :
    ∃ (x c' : Int) (z' : Option D), 0 ≤ x ∧ x < b ∧ execSs G bRoT [some (.int c), some (.int n), some (.int b), some (.ref st.length), some (.int k), z] (st ++ [.lst acc]) =
      .ok (.nx [some (.int c'), some (.int n), some (.int b), some (.ref st.length), some (.int k), z']) (st ++ [.lst (acc ++ [.int x])]) := by
  have b0 : b ≠ 0 := by omega
  have bd : b ≠ 0 ∧ b.natAbs < 2 ^ 9000 := ⟨b0, Nat.lt_of_lt_of_le (show b.natAbs < 2 ^ 62 by omega) (Nat.pow_le_pow_right (by decide) (by decide))⟩
  have p18 : (0 : Int) ≤ 18 ∧ (18 : Int) ≤ 1000000 ∧ (10 : Int).natAbs < 2 ^ 64 := by decide
  by_cases hc : (1000000000000000000 : Int) ≤ c
  · refine ⟨c.fmod b, c.fdiv b, z, (fmod_lt hb).1, (fmod_lt hb).2, ?_⟩
    simp only [bRoT, exs_cons, ex_ifs, et_, ev_cmp, ev_var, ev_int, ev_bin, List.getElem?_cons_succ, List.getElem?_cons_zero, Out.bind_ok, bv_pow, need_pos p18, pow18, cv_ge, wayV_bl, hc, decide_true, if_true, Out.lift_ok]
    rw [ex_app (n := st.length) (ys := acc) (x := .int (c.fmod b)) (s1 := st ++ [.lst acc]) rfl (at_new _ _) (by
      simp only [ev_bin, ev_bi, evs_cons, evs_nil, ev_var, List.getElem?_cons_succ, List.getElem?_cons_zero, Out.bind_ok, bi_int, bv_mod, need_pos b0]) (at_new _ _) ha]
    simp only [set_new, Out.bind_ok, thenS_nx, exs_cons, ex_asg, ev_bin, ev_var, List.getElem?_cons_succ, List.getElem?_cons_zero, bv_fdiv, need_pos bd, Out.lift_ok, bp_name, List.set, exs_nil]
  · have m1 : mulOk c 48271 := mulOk_r (by decide)
    have m2 : mulOk k 69621 := mulOk_r (by decide)
    have m4 : mulOk 16807 k := mulOk_l (by decide)
    have m6 : mulOk 48271 k := mulOk_l (by decide)
    have n1 : (2147483647 : Int) ≠ 0 := by decide
    have n2 : (998244353 : Int) ≠ 0 := by decide
    have n3 : (2147483629 : Int) ≠ 0 := by decide
    have n4 : (13 : Int) ≠ 0 ∧ (13 : Int).natAbs < 2 ^ 9000 := ⟨by decide, Nat.lt_of_lt_of_le (show (13 : Int).natAbs < 2 ^ 62 by decide) (Nat.pow_le_pow_right (by decide) (by decide))⟩
    have f1 := fmod_lt (a := c * 48271 + k * 69621 + 12345) (b := 2147483647) (by decide)
    generalize e1 : (c * 48271 + k * 69621 + 12345).fmod 2147483647 = y1 at f1
    have m3 : mulOk y1 y1 := mulOk_l (by omega)
    have f2 := fmod_lt (a := y1 * y1 + 16807 * k + 7) (b := 998244353) (by decide)
    generalize e2 : (y1 * y1 + 16807 * k + 7).fmod 998244353 = y2 at f2
    have m5 : mulOk y2 y2 := mulOk_l (by omega)
    generalize e3 : (y2 * y2 + 48271 * k + c).fmod 2147483629 = y3
    refine ⟨(y3.fdiv 13).fmod b, c, some (.int y3), (fmod_lt hb).1, (fmod_lt hb).2, ?_⟩
    simp only [bRoT, exs_cons, ex_ifs, et_, ev_cmp, ev_var, ev_int, ev_bin, ev_bi, evs_cons, evs_nil, bi_int, List.getElem?_cons_succ, List.getElem?_cons_zero, Out.bind_ok, bv_pow, need_pos p18, pow18, cv_ge, wayV_bl, hc, decide_false, Bool.false_eq_true, if_false, Out.lift_ok, ex_asg, bv_mul, bv_add, bv_mod, need_pos m1, need_pos m2, need_pos m3, need_pos m4, need_pos m5, need_pos m6, need_pos n1, need_pos n2, need_pos n3, e1, e2, e3, bp_name, List.set, thenS_nx]
    rw [ex_app (n := st.length) (ys := acc) (x := .int ((y3.fdiv 13).fmod b)) (s1 := st ++ [.lst acc]) rfl (at_new _ _) (by
      simp only [ev_bin, ev_bi, evs_cons, evs_nil, ev_var, ev_int, List.getElem?_cons_succ, List.getElem?_cons_zero, Out.bind_ok, bi_int, bv_fdiv, need_pos n4, bv_mod, need_pos b0]) (at_new _ _) ha]
    simp only [set_new, Out.bind_ok, thenS_nx, exs_nil]
theorem ro_loop (G : Gm) (n b : Int) (st : Sto) (hb : 0 < b) (hb2 : b < 2 ^ 62) {v : Itv} (hv : v.keep = []) : ∀ (ks : List Int) (c : Int) (z1 z2 : Option D) (acc : List D), acc.length + ks.length < sizeLine →
    ∃ (xs : List Int) (c' : Int) (z1' z2' : Option D), xs.length = ks.length ∧ (∀ x ∈ xs, 0 ≤ x ∧ x < b) ∧ eachS G (.name 4) bRoT v (ks.map .int) [some (.int c), some (.int n), some (.int b), some (.ref st.length), z1, z2] (st ++ [.lst acc]) =
      .ok (.nx [some (.int c'), some (.int n), some (.int b), some (.ref st.length), z1', z2']) (st ++ [.lst (acc ++ xs.map .int)])
  | [], c, z1, z2, acc, _ => ⟨[], c, z1, z2, rfl, (fun _ h => nomatch h), by rw [List.map_nil, List.append_nil]; exact each_nil hv⟩
  | k :: ks, c, z1, z2, acc, h => by
    rw [List.length_cons] at h
    obtain ⟨x, c1, z, hx0, hx1, e⟩ := ro_turn G c n b k z2 st acc hb hb2 (by omega)
    obtain ⟨xs, c', z1', z2', hl, hxs, e'⟩ := ro_loop G n b st hb hb2 hv ks c1 (some (.int k)) z (acc ++ [.int x]) (by rw [List.length_append, List.length_singleton]; omega)
    refine ⟨x :: xs, c', z1', z2', by rw [List.length_cons, List.length_cons, hl], fun y hy => ?_, ?_⟩
    · rcases List.mem_cons.mp hy with e | hy
      · rw [e]
        exact ⟨hx0, hx1⟩
      · exact hxs y hy
    · rw [List.map_cons, each_step hv (bp_name _ _ _) e, e', List.map_cons, List.append_assoc]
      rfl
theorem rangeL_ints (lo : Int) (n : Nat) : rangeL lo n = ((List.range n).map fun i => lo + (i : Nat)).map D.int := by simp [rangeL]
abbrev bRo : List S := [.asg (.name 3) (.lst true []), .each (.name 4) .range1 [(.var 1)] bRoT, .ret (.fz 3)]
theorem belowL_ints (n : Nat) : ∀ xs : List Int, belowL n (xs.map .int)
  | [] => by simp only [List.map_nil, belowL]
  | x :: xs => by
    simp only [List.map_cons, belowL, below, true_and]
    exact belowL_ints n xs
theorem ro_spec {T : Tb} {N k : Nat} (hk : 1 ≤ k) (h : T.df "_law_row" = some ⟨3, 6, bRo⟩) (c n b : Int) (st : Sto) (hn : 0 ≤ n ∧ n < 10000) (hb : 0 < b) (hb2 : b < 2 ^ 62) :
    ∃ xs : List Int, xs.length = n.toNat ∧ (∀ x ∈ xs, 0 ≤ x ∧ x < b) ∧ callK T N k "_law_row" [.int c, .int n, .int b] st = .ok (.lst (xs.map .int)) st := by
  obtain ⟨k, rfl⟩ : ∃ j, k = j + 1 := ⟨k - 1, by omega⟩
  obtain ⟨xs, c', z1, z2, hl, hx, e⟩ := ro_loop (gmK T N k) n b st hb hb2 (v := ⟨rangeL 0 n.toNat, []⟩) rfl ((List.range n.toNat).map fun i => (0 : Int) + (i : Nat)) c none none [] (by simp [sizeLine_eq]; omega)
  refine ⟨xs, by simpa using hl, hx, ?_⟩
  rw [callK_df h]
  refine runD_app (t := [.dead]) rfl (by simp only [below]; exact belowL_ints _ xs) ?_
  have e2 := range1_ok (j := n) (st ++ [.lst []]) ⟨by omega, by omega⟩
  rw [← rangeL_ints] at e
  simp only [bRo, exs_cons, ex_asg, ev_lst, evs_nil, Out.bind_ok, newL_t, Out.lift_ok, bp_name, List.map, List.replicate, List.length_cons, List.length_nil, List.cons_append, List.nil_append, List.set, thenS_nx, ex_each, evs_cons, ev_var, List.getElem?_cons_succ, List.getElem?_cons_zero, e2, Nat.reduceAdd, Nat.reduceSub, e, ex_ret, ev_fz, at_new, set_new, thenS_ret]
/-! ### the script's cells, numbers and fractions -/
def cellZ (ns : List Int) (j : Nat) : Int := ns.getD j 0
abbrev bCe : List S := [.ifs (.cmp .Lt (.var 1) (.bi false .len [(.var 0)])) [.ret (.ix (.var 0) (.var 1))] [], .ret (.int 0)]
theorem ce_spec {T : Tb} {N k : Nat} (hk : 1 ≤ k) (h : T.df "_law_cell" = some ⟨2, 2, bCe⟩) (ns : List Int) (j : Nat) (st : Sto) : callK T N k "_law_cell" [.scr ns, .int (j : Nat)] st = .ok (.int (cellZ ns j)) st := by
  obtain ⟨k, rfl⟩ : ∃ j, k = j + 1 := ⟨k - 1, by omega⟩
  rw [callK_df h]
  refine runD_same rfl ?_
  by_cases hj : j < ns.length
  · have e : (ns.map D.int)[j]? = some (.int (cellZ ns j)) := by
      rw [List.getElem?_map, List.getElem?_eq_getElem hj]
      simp [cellZ, hj]
    have hj' : ((j : Nat) : Int) < ((ns.length : Nat) : Int) := by omega
    simp only [bCe, exs_cons, ex_ifs, et_, ev_cmp, ev_var, ev_bi, evs_cons, evs_nil, List.map, List.replicate, List.length_cons, List.length_nil, List.cons_append, List.nil_append, List.getElem?_cons_succ, List.getElem?_cons_zero, Out.bind_ok, bi_len, len_scr, cv_lt, wayV_bl, hj', decide_true, if_true, Out.lift_ok, ex_ret, ev_ix, Nat.reduceAdd, Nat.reduceSub, ix_at st (seq_scr st ns) e, thenS_ret]
  · have e : cellZ ns j = 0 := by
      unfold cellZ
      rw [List.getD_eq_getElem?_getD, List.getElem?_eq_none (by omega)]
      rfl
    have hj' : ¬ ((j : Nat) : Int) < ((ns.length : Nat) : Int) := by omega
    simp only [bCe, exs_cons, ex_ifs, et_, ev_cmp, ev_var, ev_int, ev_bi, evs_cons, evs_nil, List.map, List.replicate, List.length_cons, List.length_nil, List.cons_append, List.nil_append, List.getElem?_cons_succ, List.getElem?_cons_zero, Out.bind_ok, bi_len, len_scr, cv_lt, wayV_bl, hj', decide_false, Bool.false_eq_true, if_false, Out.lift_ok, exs_nil, thenS_nx, ex_ret, Nat.reduceAdd, Nat.reduceSub, thenS_ret, e]
theorem small9000 {b : Int} (h0 : b ≠ 0) (h : b.natAbs < 2 ^ 64) : b ≠ 0 ∧ b.natAbs < 2 ^ 9000 := ⟨h0, Nat.lt_of_lt_of_le h (Nat.pow_le_pow_right (by decide) (by decide))⟩
theorem up9000 {n m : Nat} (h : n < 2 ^ m) (hm : m ≤ 9000) : n < 2 ^ 9000 := Nat.lt_of_lt_of_le h (Nat.pow_le_pow_right (by decide) hm)
abbrev bNu : List S := [.asg (.name 2) (.call "_law_row" [(.bin false .Add (.bin false .FloorDiv (.bi false .int [(.var 0)]) (.int 5)) (.bin false .Mult (.int 1009) (.var 1))), (.int 4), (.bin false .Pow (.int 10) (.int 9))]), .asg (.name 3) (.lst false [(.int 3), (.int 13), (.int 1000), (.bin false .Pow (.int 10) (.int 9))]), .ret (.bin false .Mult (.bin false .Mod (.bi false .int [(.ix (.var 2) (.int 0))]) (.ix (.var 3) (.bin false .Mod (.bi false .int [(.ix (.var 2) (.int 1))]) (.int 4)))) (.bin false .Sub (.int 1) (.bin false .Mult (.int 2) (.bin false .Mod (.bi false .int [(.ix (.var 2) (.int 2))]) (.int 2)))))]
theorem nu_spec {T : Tb} {N k : Nat} (hk : 2 ≤ k) (h : T.df "_law_number" = some ⟨2, 4, bNu⟩) (h1 : T.df "_law_row" = some ⟨3, 6, bRo⟩) (hf : T.fill "_law_row" 3 = []) (c j : Int) (st : Sto) :
    ∃ z : Int, z.natAbs < 1000000000 ∧ callK T N k "_law_number" [.int c, .int j] st = .ok (.int z) st := by
  obtain ⟨k, rfl⟩ : ∃ j, k = j + 2 := ⟨k - 2, by omega⟩
  obtain ⟨xs, hl, hx, e⟩ := ro_spec (T := T) (N := N) (k := k + 1) (by omega) h1 (c.fdiv 5 + 1009 * j) 4 1000000000 st (by decide) (by decide) (by decide)
  match xs, hl with
  | [x0, x1, x2, x3], _ =>
  have d5 := small9000 (b := 5) (by decide) (by decide)
  have m1 : mulOk 1009 j := mulOk_l (by decide)
  have p9 : (0 : Int) ≤ 9 ∧ (9 : Int) ≤ 1000000 ∧ (10 : Int).natAbs < 2 ^ 64 := by decide
  have f1 := fmod_lt (a := x1) (b := 4) (by decide)
  have f2 := fmod_lt (a := x2) (b := 2) (by decide)
  have n4 : (4 : Int) ≠ 0 := by decide
  have n2 : (2 : Int) ≠ 0 := by decide
  generalize e1 : x1.fmod 4 = y1 at f1
  generalize e2 : x2.fmod 2 = y2 at f2
  have m2 : mulOk 2 y2 := mulOk_l (by decide)
  obtain ⟨q, hq0, hq1, hq⟩ : ∃ q : Int, 0 < q ∧ q ≤ 1000000000 ∧ ixV (.lst [.int 3, .int 13, .int 1000, .int 1000000000]) (.int y1) st = .ok (.int q) st := by
    have : y1 = 0 ∨ y1 = 1 ∨ y1 = 2 ∨ y1 = 3 := by omega
    rcases this with rfl | rfl | rfl | rfl
    · exact ⟨3, by decide, by decide, by simp⟩
    · exact ⟨13, by decide, by decide, by simp⟩
    · exact ⟨1000, by decide, by decide, by simp⟩
    · exact ⟨1000000000, by decide, by decide, by simp⟩
  have q0 : q ≠ 0 := by omega
  have f3 := fmod_lt (a := x0) (b := q) hq0
  generalize e3 : x0.fmod q = y0 at f3
  have m3 : mulOk y0 (1 - 2 * y2) := mulOk_r (by omega)
  refine ⟨y0 * (1 - 2 * y2), ?_, ?_⟩
  · have : y2 = 0 ∨ y2 = 1 := by omega
    rcases this with rfl | rfl <;> omega
  · rw [callK_df h]
    refine runD_same rfl ?_
    simp only [bNu, exs_cons, ex_asg, ev_call, evs_cons, evs_nil, ev_bin, ev_bi, ev_var, ev_int, List.map, List.replicate, List.length_cons, List.length_nil, List.cons_append, List.nil_append, List.getElem?_cons_succ, List.getElem?_cons_zero, Out.bind_ok, bi_int, bv_fdiv, need_pos d5, bv_mul, need_pos m1, bv_add, bv_pow, need_pos p9, pow9, gmK_cl, gmK_fill, hf, List.append_nil, Nat.reduceAdd, Nat.reduceSub, e, Out.lift_ok, bp_name, List.set, thenS_nx, ev_lst, newL_f, ex_ret, ev_ix, ix_l0, ix_l1, ix_l2, bv_mod, need_pos n4, need_pos n2, e1, e2, hq, need_pos q0, e3, need_pos m2, bv_sub, need_pos m3, thenS_ret]
abbrev bLf : List S := [.asg (.name 2) (.bin false .Add (.int 1) (.bi false .abs [(.call "_law_number" [(.bin false .Add (.bi false .int [(.var 0)]) (.int 3)), (.bin false .Add (.var 1) (.int 7))])])), .ret (.call "_law_lowest" [(.call "_law_number" [(.var 0), (.var 1)]), (.var 2)])]
/-- a fraction as the laws draw it: in lowest terms, of up to nine digits -/
def FrOk (m : Nat) (p : Int × Int) : Prop := p.1.natAbs < 2 ^ m ∧ 0 < p.2 ∧ p.2.natAbs < 2 ^ m ∧ Int.gcd p.1 p.2 = 1
theorem fr_low {n d : Int} {m : Nat} (hd : 0 < d) (hn : n.natAbs < 2 ^ m) (hb : d.natAbs < 2 ^ m) : FrOk m (fr n d) := by
  have g0 := gcd_pos' (n := n) (show d ≠ 0 by omega)
  unfold fr
  rw [if_neg (by omega)]
  have e1 := Int.gcd_dvd_left n d
  have e2 := Int.gcd_dvd_right n d
  refine ⟨?_, ?_, ?_, ?_⟩
  · show (n / (Int.gcd n d : Int)).natAbs < _
    rw [Int.natAbs_ediv_of_dvd e1]
    exact Nat.lt_of_le_of_lt (Nat.div_le_self _ _) hn
  · exact Int.ediv_pos_of_pos_of_dvd hd (by omega) e2
  · show (d / (Int.gcd n d : Int)).natAbs < _
    rw [Int.natAbs_ediv_of_dvd e2]
    exact Nat.lt_of_le_of_lt (Nat.div_le_self _ _) hb
  · exact Int.gcd_ediv_gcd_ediv_gcd g0
theorem lf_spec {T : Tb} {N k : Nat} (hk : 3 ≤ k) (h : T.df "_law_fraction" = some ⟨2, 3, bLf⟩) (hnu : T.df "_law_number" = some ⟨2, 4, bNu⟩) (h1 : T.df "_law_row" = some ⟨3, 6, bRo⟩) (hlo : T.df "_law_lowest" = some ⟨2, 3, bLo⟩) (hco : T.df "_law_common" = some ⟨2, 3, bCo⟩)
    (f1 : T.fill "_law_row" 3 = []) (f2 : T.fill "_law_common" 2 = []) (f3 : T.fill "_law_number" 2 = []) (f4 : T.fill "_law_lowest" 2 = []) (c j : Int) (st : Sto) :
    ∃ p : Int × Int, FrOk 30 p ∧ callK T N k "_law_fraction" [.int c, .int j] st = .ok (FD p) st := by
  obtain ⟨k, rfl⟩ : ∃ j, k = j + 3 := ⟨k - 3, by omega⟩
  obtain ⟨z1, b1, e1⟩ := nu_spec (N := N) (k := k + 2) (by omega) hnu h1 f1 (c + 3) (j + 7) st
  obtain ⟨z2, b2, e2⟩ := nu_spec (N := N) (k := k + 2) (by omega) hnu h1 f1 c j st
  have hd : (1 + (z1.natAbs : Int)).natAbs < 2 ^ 30 := by omega
  have e3 := lo_spec (N := N) (k := k + 2) (by omega) hlo hco f2 z2 (1 + (z1.natAbs : Int)) st (Nat.lt_trans b2 (by decide)) (by omega) (up9000 hd (by decide))
  refine ⟨fr z2 (1 + (z1.natAbs : Int)), fr_low (by omega) (by omega) hd, ?_⟩
  rw [callK_df h]
  refine runD_same rfl ?_
  simp only [bLf, exs_cons, ex_asg, ev_call, evs_cons, evs_nil, ev_bin, ev_bi, ev_var, ev_int, List.map, List.replicate, List.length_cons, List.length_nil, List.cons_append, List.nil_append, List.getElem?_cons_succ, List.getElem?_cons_zero, Out.bind_ok, bi_int, bi_abs, bv_add, gmK_cl, gmK_fill, f3, f4, List.append_nil, Nat.reduceAdd, Nat.reduceSub, e1, e2, e3, Out.lift_ok, bp_name, List.set, thenS_nx, ex_ret, thenS_ret]
end PI

/-! PI, part U: sums and products of fractions; the laws' comparing. -/
namespace PI
open PySem PySem.Spec PyProof.Rows L2
theorem sm_FD {m : Nat} {p : Int × Int} (h1 : p.1.natAbs < 2 ^ m) (h2 : p.2.natAbs < 2 ^ m) : sm m (FD p) := by
  simp only [FD, sm, smL]
  exact ⟨h1, h2, trivial⟩
theorem show_FD {m : Nat} {p : Int × Int} (h0 : 6 ≤ m) (hm : m ≤ 1900) (h1 : p.1.natAbs < 2 ^ m) (h2 : p.2.natAbs < 2 ^ m) : showOk (FD p) := by
  refine sm_show m h0 (by omega) (sm_FD h1 h2) (by simp [FD, dep, depL]) ?_
  have e : cnt m (FD p) = 2 * m + 4 := by simp [FD, cnt, cntL]; omega
  rw [e]
  have : (m + 4) * (2 * m + 4) ≤ 1904 * 3804 := Nat.mul_le_mul (by omega) (by omega)
  omega
abbrev bIs : List S := [.ret (.and (.bi false (.isI "tuple") [(.var 0)]) (.cmp .Eq (.bi false .repr [(.var 0)]) (.bi false .repr [(.var 1)])))]
theorem is_spec {T : Tb} {N k : Nat} (hk : 1 ≤ k) (h : T.df "_law_is" = some ⟨2, 2, bIs⟩) (xs : List D) (st : Sto) (hs : showOk (.tup xs)) : callK T N k "_law_is" [.tup xs, .tup xs] st = .ok (.bl true) st := by
  obtain ⟨k, rfl⟩ : ∃ j, k = j + 1 := ⟨k - 1, by omega⟩
  rw [callK_df h]
  refine runD_same rfl ?_
  simp [bIs, need_pos hs, isTy]
abbrev bAdd : List S := [.ret (.call "fraction" [(.bin false .Add (.bin false .Mult (.ix (.var 0) (.int 0)) (.ix (.var 1) (.int 1))) (.bin false .Mult (.ix (.var 1) (.int 0)) (.ix (.var 0) (.int 1)))), (.bin false .Mult (.ix (.var 0) (.int 1)) (.ix (.var 1) (.int 1)))])]
abbrev bSub : List S := [.ret (.call "fraction" [(.bin false .Sub (.bin false .Mult (.ix (.var 0) (.int 0)) (.ix (.var 1) (.int 1))) (.bin false .Mult (.ix (.var 1) (.int 0)) (.ix (.var 0) (.int 1)))), (.bin false .Mult (.ix (.var 0) (.int 1)) (.ix (.var 1) (.int 1)))])]
abbrev bTim : List S := [.ret (.call "fraction" [(.bin false .Mult (.ix (.var 0) (.int 0)) (.ix (.var 1) (.int 0))), (.bin false .Mult (.ix (.var 0) (.int 1)) (.ix (.var 1) (.int 1)))])]
abbrev bDiv : List S := [.ret (.call "fraction" [(.bin false .Mult (.ix (.var 0) (.int 0)) (.ix (.var 1) (.int 1))), (.bin false .Mult (.ix (.var 0) (.int 1)) (.ix (.var 1) (.int 0)))])]
/-- the program's fractions are at hand -/
structure HasFr (T : Tb) (N : Nat) : Prop where
  fr : T.df "fraction" = some ⟨2, 3, bFr⟩
  gd : T.df "greatest_divisor" = some ⟨2, 2, bGd⟩
  f1 : T.fill "greatest_divisor" 2 = []
  f2 : T.fill "fraction" 2 = []
/-- a size for which the program's fractions are told -/
def SzOk (m N : Nat) : Prop := 2 * m ≤ 8999 ∧ 2 ^ (2 * m) ≤ N
theorem mul_lt {a b : Int} {m n : Nat} (ha : a.natAbs < 2 ^ m) (hb : b.natAbs < 2 ^ n) : (a * b).natAbs < 2 ^ (m + n) := by
  rw [Int.natAbs_mul, Nat.pow_add]
  exact Nat.mul_lt_mul'' ha hb
theorem add_lt {a b : Int} {m : Nat} (ha : a.natAbs < 2 ^ m) (hb : b.natAbs < 2 ^ m) : (a + b).natAbs < 2 ^ (m + 1) := by
  have := Int.natAbs_add_le a b
  rw [Nat.pow_succ]
  omega
theorem mulOk_m {a b : Int} {m n : Nat} (ha : a.natAbs < 2 ^ m) (hb : b.natAbs < 2 ^ n) (h : m + n ≤ 9000) : mulOk a b := mulOk_big m n ha hb (by omega)
section
variable {T : Tb} {N k m n : Nat} {p q : Int × Int}
theorem add_spec (hk : 3 ≤ k) (F : HasFr T N) (h : T.df "added" = some ⟨2, 2, bAdd⟩) (st : Sto) (hp1 : p.1.natAbs < 2 ^ m) (hp2 : p.2.natAbs < 2 ^ m) (hq1 : q.1.natAbs < 2 ^ n) (hq2 : q.2.natAbs < 2 ^ n) (p0 : p.2 ≠ 0) (q0 : q.2 ≠ 0) (hmn : m + n ≤ 8999) (hN : 2 ^ (m + n) ≤ N) :
    callK T N k "added" [FD p, FD q] st = .ok (FD (fr (p.1 * q.2 + q.1 * p.2) (p.2 * q.2))) st := by
  obtain ⟨k, rfl⟩ : ∃ j, k = j + 3 := ⟨k - 3, by omega⟩
  have hd := mul_lt hp2 hq2
  have e := fr_spec (k := k + 2) (by omega) F.fr F.gd F.f1 (p.1 * q.2 + q.1 * p.2) (p.2 * q.2) st (Nat.lt_of_lt_of_le hd hN) (Int.mul_ne_zero p0 q0) (up9000 hd (by omega))
  rw [callK_df h]
  refine runD_same rfl ?_
  unfold FD at e ⊢
  simp only [bAdd, exs_cons, ex_ret, ev_call, evs_cons, evs_nil, ev_bin, ev_ix, ev_var, ev_int, List.map, List.replicate, List.length_cons, List.length_nil, List.cons_append, List.nil_append, List.getElem?_cons_succ, List.getElem?_cons_zero, Out.bind_ok, ix_t0, ix_t1, bv_mul, bv_add, bv_sub, need_pos (mulOk_m hp1 hq2 (by omega)), need_pos (mulOk_m hq1 hp2 (by omega)), need_pos (mulOk_m hp2 hq2 (by omega)), gmK_cl, gmK_fill, F.f2, List.append_nil, Nat.reduceAdd, Nat.reduceSub, e, Out.lift_ok, thenS_ret]
theorem sub_spec (hk : 3 ≤ k) (F : HasFr T N) (h : T.df "subtracted" = some ⟨2, 2, bSub⟩) (st : Sto) (hp1 : p.1.natAbs < 2 ^ m) (hp2 : p.2.natAbs < 2 ^ m) (hq1 : q.1.natAbs < 2 ^ n) (hq2 : q.2.natAbs < 2 ^ n) (p0 : p.2 ≠ 0) (q0 : q.2 ≠ 0) (hmn : m + n ≤ 8999) (hN : 2 ^ (m + n) ≤ N) :
    callK T N k "subtracted" [FD p, FD q] st = .ok (FD (fr (p.1 * q.2 - q.1 * p.2) (p.2 * q.2))) st := by
  obtain ⟨k, rfl⟩ : ∃ j, k = j + 3 := ⟨k - 3, by omega⟩
  have hd := mul_lt hp2 hq2
  have e := fr_spec (k := k + 2) (by omega) F.fr F.gd F.f1 (p.1 * q.2 - q.1 * p.2) (p.2 * q.2) st (Nat.lt_of_lt_of_le hd hN) (Int.mul_ne_zero p0 q0) (up9000 hd (by omega))
  rw [callK_df h]
  refine runD_same rfl ?_
  unfold FD at e ⊢
  simp only [bSub, exs_cons, ex_ret, ev_call, evs_cons, evs_nil, ev_bin, ev_ix, ev_var, ev_int, List.map, List.replicate, List.length_cons, List.length_nil, List.cons_append, List.nil_append, List.getElem?_cons_succ, List.getElem?_cons_zero, Out.bind_ok, ix_t0, ix_t1, bv_mul, bv_add, bv_sub, need_pos (mulOk_m hp1 hq2 (by omega)), need_pos (mulOk_m hq1 hp2 (by omega)), need_pos (mulOk_m hp2 hq2 (by omega)), gmK_cl, gmK_fill, F.f2, List.append_nil, Nat.reduceAdd, Nat.reduceSub, e, Out.lift_ok, thenS_ret]
theorem tim_spec (hk : 3 ≤ k) (F : HasFr T N) (h : T.df "times" = some ⟨2, 2, bTim⟩) (st : Sto) (hp1 : p.1.natAbs < 2 ^ m) (hp2 : p.2.natAbs < 2 ^ m) (hq1 : q.1.natAbs < 2 ^ n) (hq2 : q.2.natAbs < 2 ^ n) (p0 : p.2 ≠ 0) (q0 : q.2 ≠ 0) (hmn : m + n ≤ 8999) (hN : 2 ^ (m + n) ≤ N) :
    callK T N k "times" [FD p, FD q] st = .ok (FD (fr (p.1 * q.1) (p.2 * q.2))) st := by
  obtain ⟨k, rfl⟩ : ∃ j, k = j + 3 := ⟨k - 3, by omega⟩
  have hd := mul_lt hp2 hq2
  have e := fr_spec (k := k + 2) (by omega) F.fr F.gd F.f1 (p.1 * q.1) (p.2 * q.2) st (Nat.lt_of_lt_of_le hd hN) (Int.mul_ne_zero p0 q0) (up9000 hd (by omega))
  rw [callK_df h]
  refine runD_same rfl ?_
  unfold FD at e ⊢
  simp only [bTim, exs_cons, ex_ret, ev_call, evs_cons, evs_nil, ev_bin, ev_ix, ev_var, ev_int, List.map, List.replicate, List.length_cons, List.length_nil, List.cons_append, List.nil_append, List.getElem?_cons_succ, List.getElem?_cons_zero, Out.bind_ok, ix_t0, ix_t1, bv_mul, bv_add, bv_sub, need_pos (mulOk_m hp1 hq1 (by omega)), need_pos (mulOk_m hp2 hq2 (by omega)), gmK_cl, gmK_fill, F.f2, List.append_nil, Nat.reduceAdd, Nat.reduceSub, e, Out.lift_ok, thenS_ret]
theorem div_spec (hk : 3 ≤ k) (F : HasFr T N) (h : T.df "divided" = some ⟨2, 2, bDiv⟩) (st : Sto) (hp1 : p.1.natAbs < 2 ^ m) (hp2 : p.2.natAbs < 2 ^ m) (hq1 : q.1.natAbs < 2 ^ n) (hq2 : q.2.natAbs < 2 ^ n) (p0 : p.2 ≠ 0) (q0 : q.1 ≠ 0) (hmn : m + n ≤ 8999) (hN : 2 ^ (m + n) ≤ N) :
    callK T N k "divided" [FD p, FD q] st = .ok (FD (fr (p.1 * q.2) (p.2 * q.1))) st := by
  obtain ⟨k, rfl⟩ : ∃ j, k = j + 3 := ⟨k - 3, by omega⟩
  have hd := mul_lt hp2 hq1
  have e := fr_spec (k := k + 2) (by omega) F.fr F.gd F.f1 (p.1 * q.2) (p.2 * q.1) st (Nat.lt_of_lt_of_le hd hN) (Int.mul_ne_zero p0 q0) (up9000 hd (by omega))
  rw [callK_df h]
  refine runD_same rfl ?_
  unfold FD at e ⊢
  simp only [bDiv, exs_cons, ex_ret, ev_call, evs_cons, evs_nil, ev_bin, ev_ix, ev_var, ev_int, List.map, List.replicate, List.length_cons, List.length_nil, List.cons_append, List.nil_append, List.getElem?_cons_succ, List.getElem?_cons_zero, Out.bind_ok, ix_t0, ix_t1, bv_mul, bv_add, bv_sub, need_pos (mulOk_m hp1 hq2 (by omega)), need_pos (mulOk_m hp2 hq1 (by omega)), gmK_cl, gmK_fill, F.f2, List.append_nil, Nat.reduceAdd, Nat.reduceSub, e, Out.lift_ok, thenS_ret]
end
theorem div_size {a g : Int} {m : Nat} (h : g ∣ a) (ha : a.natAbs < 2 ^ m) : (a / g).natAbs < 2 ^ m := by
  rw [Int.natAbs_ediv_of_dvd h]
  exact Nat.lt_of_le_of_lt (Nat.div_le_self _ _) ha
theorem fr_size {n d : Int} {m : Nat} (hd : d ≠ 0) (hn : n.natAbs < 2 ^ m) (hb : d.natAbs < 2 ^ m) : (fr n d).1.natAbs < 2 ^ m ∧ 0 < (fr n d).2 ∧ (fr n d).2.natAbs < 2 ^ m ∧ Int.gcd (fr n d).1 (fr n d).2 = 1 := by
  have g0 := gcd_pos' (n := n) hd
  have e1 := Int.gcd_dvd_left n d
  have e2 := Int.gcd_dvd_right n d
  unfold fr
  split
  · refine ⟨div_size (Int.dvd_neg.mpr e1) (by rw [Int.natAbs_neg]; exact hn), Int.ediv_pos_of_pos_of_dvd (by omega) (by omega) (Int.dvd_neg.mpr e2), div_size (Int.dvd_neg.mpr e2) (by rw [Int.natAbs_neg]; exact hb), ?_⟩
    have : Int.gcd (-n) (-d) = Int.gcd n d := by simp
    rw [← this]
    exact Int.gcd_ediv_gcd_ediv_gcd (by rw [this]; exact g0)
  · exact ⟨div_size e1 hn, Int.ediv_pos_of_pos_of_dvd (by omega) (by omega) e2, div_size e2 hb, Int.gcd_ediv_gcd_ediv_gcd g0⟩
theorem execSs_app (G : Gm) : ∀ (a b : List S) (en : Ev) (st : Sto), execSs G (a ++ b) en st = (execSs G a en st).bind (thenS G b)
  | [], b, en, st => by simp
  | s :: a, b, en, st => by
    rw [List.cons_append, exs_cons, exs_cons, Out.bind_assoc]
    congr 1
    funext fl s1
    cases fl with
    | nx en' => exact execSs_app G a b en' s1
    | _ => rfl
end PI

/-! PI, part V: comprehensions and loops by their turns; is_fraction. -/
namespace PI
open PySem PySem.Spec PyProof.Rows L2
section
variable {G : Gm} {elt c : E} {p : Pat} {own : List Nat} {en : Ev} {v : Itv} {st : Sto} {b : List S}
theorem comp_nil (hs : v.stays st) (acc : List D) : compS G elt p c own en v [] acc st = .ok acc st := by
  unfold compS
  simp only [compL]
  exact need_pos hs
theorem comp_some {x y : D} {xs acc : List D} {s1 : Sto} (hs : v.stays st) (h : turnS G elt p c own en x st = .ok (some y) s1) : compS G elt p c own en v (x :: xs) acc st = compS G elt p c own en v xs (acc ++ [y]) s1 := by
  show compL _ v (x :: xs) acc st = _
  simp only [compL]
  rw [need_pos hs, h]
  rfl
theorem comp_none {x : D} {xs acc : List D} {s1 : Sto} (hs : v.stays st) (h : turnS G elt p c own en x st = .ok none s1) : compS G elt p c own en v (x :: xs) acc st = compS G elt p c own en v xs acc s1 := by
  show compL _ v (x :: xs) acc st = _
  simp only [compL]
  rw [need_pos hs, h]
  rfl
theorem stays_nil (hk : v.keep = []) : v.stays st := fun q hq => by
  rw [hk] at hq
  cases hq
/-- a comprehension whose turns leave the store as it is -/
theorem comp_all {P : D → D → Prop} (hs : v.stays st) : ∀ (l acc : List D), (∀ x ∈ l, ∃ y, P x y ∧ turnS G elt p c own en x st = .ok (some y) st) → ∃ ys, Paired P l ys ∧ compS G elt p c own en v l acc st = .ok (acc ++ ys) st
  | [], acc, _ => ⟨[], .nil, by rw [List.append_nil]; exact comp_nil hs acc⟩
  | x :: xs, acc, h => by
    obtain ⟨y, hy, e⟩ := h x (List.mem_cons_self ..)
    obtain ⟨ys, hp, e2⟩ := comp_all hs xs (acc ++ [y]) fun z hz => h z (List.mem_cons_of_mem _ hz)
    exact ⟨y :: ys, .cons hy hp, by rw [comp_some hs e, e2, List.append_assoc]; rfl⟩
/-- the same with a function -/
theorem comp_map (hs : v.stays st) {α : Type} (f : α → D) (g : α → D) : ∀ (l : List α) (acc : List D), (∀ x ∈ l, turnS G elt p c own en (f x) st = .ok (some (g x)) st) → compS G elt p c own en v (l.map f) acc st = .ok (acc ++ l.map g) st
  | [], acc, _ => by rw [List.map_nil, List.map_nil, List.append_nil]; exact comp_nil hs acc
  | x :: xs, acc, h => by
    rw [List.map_cons, comp_some hs (h x (List.mem_cons_self ..)), comp_map hs f g xs _ fun z hz => h z (List.mem_cons_of_mem _ hz), List.append_assoc]
    rfl
/-! for loops over what does not change -/
theorem each_nil' (hs : v.stays st) : eachS G p b v [] en st = .ok (.nx en) st := by
  unfold eachS
  simp only [eachL]
  exact need_pos hs
theorem each_cons' {x : D} {xs : List D} (hs : v.stays st) : eachS G p b v (x :: xs) en st = match bindP p x en with
    | none => .bad
    | some en1 => (execSs G b en1 st).bind fun fl s2 => match fl with
      | .nx en' => eachS G p b v xs en' s2
      | .cont en' => eachS G p b v xs en' s2
      | .brk en' => .ok (.nx en') s2
      | .ret d => .ok (.ret d) s2
      | .exc c fs en' => .ok (.exc c fs en') s2 := by
  show eachL p _ v (x :: xs) en st = _
  simp only [eachL]
  rw [need_pos hs]
  rfl
theorem each_nx {x : D} {xs : List D} {en1 en' : Ev} {s2 : Sto} (hs : v.stays st) (hp : bindP p x en = some en1) (hb : execSs G b en1 st = .ok (.nx en') s2) : eachS G p b v (x :: xs) en st = eachS G p b v xs en' s2 := by
  rw [each_cons' hs, hp]
  simp only [hb, Out.bind_ok]
theorem each_rt {x d : D} {xs : List D} {en1 : Ev} {s2 : Sto} (hs : v.stays st) (hp : bindP p x en = some en1) (hb : execSs G b en1 st = .ok (.ret d) s2) : eachS G p b v (x :: xs) en st = .ok (.ret d) s2 := by
  rw [each_cons' hs, hp]
  simp only [hb, Out.bind_ok]
theorem each_bk {x : D} {xs : List D} {en1 en' : Ev} {s2 : Sto} (hs : v.stays st) (hp : bindP p x en = some en1) (hb : execSs G b en1 st = .ok (.brk en') s2) : eachS G p b v (x :: xs) en st = .ok (.nx en') s2 := by
  rw [each_cons' hs, hp]
  simp only [hb, Out.bind_ok]
end
@[simp] theorem it_tup (xs : List D) (st : Sto) : iterV .plain [.tup xs] st = .ok ⟨xs, []⟩ st := rfl
@[simp] theorem it_lst (xs : List D) (st : Sto) : iterV .plain [.lst xs] st = .ok ⟨xs, []⟩ st := rfl
/-! ### is_fraction -/
def isF : D → Bool
  | .tup [.int a, .int b] => decide (1 ≤ b) && decide (Int.gcd a b = 1)
  | _ => false
def isIntD : D → Bool
  | .int _ => true
  | _ => false
abbrev bPartT : List S := [.ifs (.or (.not (.bi false (.isI "int") [(.var 1)])) (.bi false (.isI "bool") [(.var 1)])) [.ret (.bl false)] []]
theorem part_turn (G : Gm) (a x : D) (st : Sto) (hx : ∃ t, tyD st x = some t) : execSs G bPartT [some a, some x] st = if isIntD x then .ok (.nx [some a, some x]) st else .ok (.ret (.bl false)) st := by
  obtain ⟨t, ht⟩ := hx
  cases x with
  | ref n =>
    have : t = "list" := by
      simp only [tyD] at ht
      split at ht
      · cases ht; rfl
      · cases ht
    subst this
    simp [bPartT, ht, isIntD, isTy]
  | _ => simp [bPartT, isIntD, isTy, tyD]
abbrev bIsF (g : Str) : List S := [.ifs (.or (.not (.bi false (.isI "tuple") [(.var 0)])) (.cmp .NotEq (.bi false .len [(.var 0)]) (.int 2))) [.ret (.bl false)] [], .each (.name 1) .plain [(.var 0)] bPartT, .ret (.and (.cmp .GtE (.ix (.var 0) (.int 1)) (.int 1)) (.cmp .Eq (.call g [(.ix (.var 0) (.int 0)), (.ix (.var 0) (.int 1))]) (.int 1)))]
/-- a value whose kinds are known -/
def Kn (st : Sto) (d : D) : Prop := (∃ t, tyD st d = some t) ∧ ∀ xs, d = .tup xs → ∀ x ∈ xs, ∃ t, tyD st x = some t
theorem isf_run {T : Tb} {N k : Nat} {g : Str} (st : Sto) (d : D) (hd : Kn st d) (hf : T.fill g 2 = []) (hg : ∀ a b, d = .tup [.int a, .int b] → 1 ≤ b → callK T N k g [.int a, .int b] st = .ok (.int (Int.gcd a b)) st) :
    execSs (gmK T N k) (bIsF g) [some d, none] st = .ok (.ret (.bl (isF d))) st := by
  obtain ⟨⟨t, ht⟩, hk⟩ := hd
  have other : ∀ t', tyD st d = some t' → t' ≠ "tuple" → isF d = false → execSs (gmK T N k) (bIsF g) [some d, none] st = .ok (.ret (.bl (isF d))) st := by
    intro t' h1 h2 h3
    have h4 : isTy t' "tuple" = false := by
      unfold isTy
      have e1 : (t' == "tuple") = false := beq_eq_false_iff_ne.mpr h2
      rw [e1]
      simp
    simp only [bIsF, exs_cons, ex_ifs, et_, ev_or, ev_not, ev_bi, evs_cons, evs_nil, ev_var, List.getElem?_cons_succ, List.getElem?_cons_zero, Out.bind_ok, bi_isI, h1, h4, notV_bl, wayV_bl, Bool.not_false, if_true, Out.lift_ok, ex_ret, ev_bl, thenS_ret, h3]
  cases d with
  | non => exact other _ rfl (by decide) rfl
  | bl b => exact other _ rfl (by decide) rfl
  | int i => exact other _ rfl (by decide) rfl
  | str x => exact other _ rfl (by decide) rfl
  | lst xs => exact other _ rfl (by decide) rfl
  | scr ns => exact other _ rfl (by decide) rfl
  | ref n =>
    refine other t ht ?_ rfl
    simp only [tyD] at ht
    split at ht
    · cases ht; decide
    · cases ht
  | tup xs =>
    have hk' := hk xs rfl
    match xs, hk', hg with
    | [], _, _ => simp [bIsF, isTy, isF]
    | [x], _, _ => simp [bIsF, isTy, isF]
    | x :: y :: z :: r, _, _ =>
      have : ¬ ((r.length : Int) + 1 + 1 + 1 = 2) := by omega
      simp [bIsF, isTy, isF, this]
    | [x, y], hk', hg =>
      have t1 := part_turn (gmK T N k) (.tup [x, y]) x st (hk' x (by simp))
      have t2 := part_turn (gmK T N k) (.tup [x, y]) y st (hk' y (by simp))
      have hs : (⟨[x, y], []⟩ : Itv).stays st := stays_nil rfl
      by_cases h1 : isIntD x = true
      · rw [if_pos h1] at t1
        by_cases h2 : isIntD y = true
        · rw [if_pos h2] at t2
          cases x with
          | int a =>
            cases y with
            | int b =>
              have lp : eachS (gmK T N k) (.name 1) bPartT ⟨[.int a, .int b], []⟩ [.int a, .int b] [some (.tup [.int a, .int b]), none] st = .ok (.nx [some (.tup [.int a, .int b]), some (.int b)]) st := by
                rw [each_nx hs (bp_name _ _ _) t1, each_nx hs (bp_name _ _ _) t2, each_nil' hs]
              by_cases hb : 1 ≤ b
              · have e := hg a b rfl hb
                simp [bIsF, isTy, lp, hb, hf, e, isF]
                omega
              · have hbf : decide (1 ≤ b) = false := by simp [hb]
                simp [bIsF, isTy, lp, hb, hf, isF]
            | _ => cases h2
          | _ => cases h1
        · rw [if_neg h2] at t2
          have lp : eachS (gmK T N k) (.name 1) bPartT ⟨[x, y], []⟩ [x, y] [some (.tup [x, y]), none] st = .ok (.ret (.bl false)) st := by
            rw [each_nx hs (bp_name _ _ _) t1, each_rt hs (bp_name _ _ _) t2]
          have hf2 : isF (.tup [x, y]) = false := by
            cases x <;> cases y <;> first | rfl | exact absurd rfl h2
          rw [hf2]
          simp [bIsF, isTy, lp]
      · rw [if_neg h1] at t1
        have lp : eachS (gmK T N k) (.name 1) bPartT ⟨[x, y], []⟩ [x, y] [some (.tup [x, y]), none] st = .ok (.ret (.bl false)) st := each_rt hs (bp_name _ _ _) t1
        have hf2 : isF (.tup [x, y]) = false := by
          cases x <;> first | rfl | exact absurd rfl h1
        rw [hf2]
        simp [bIsF, isTy, lp]
theorem isf_spec {T : Tb} {N k : Nat} (hk : 2 ≤ k) (h : T.df "is_fraction" = some ⟨1, 2, bIsF "greatest_divisor"⟩) (h1 : T.df "greatest_divisor" = some ⟨2, 2, bGd⟩) (hf : T.fill "greatest_divisor" 2 = []) (st : Sto) (d : D) (hd : Kn st d) (hN : ∀ a b, d = .tup [.int a, .int b] → b.natAbs < N) :
    callK T N k "is_fraction" [d] st = .ok (.bl (isF d)) st := by
  obtain ⟨k, rfl⟩ : ∃ j, k = j + 2 := ⟨k - 2, by omega⟩
  rw [callK_df h]
  exact runD_same rfl (isf_run st d hd hf fun a b e hb => gd_spec (k := k + 1) (by omega) h1 a b st (hN a b e))
/-! ### the common divisor -/
abbrev bCdT : List S := [.asg (.name 1) (.bin false .FloorDiv (.bin false .Mult (.var 1) (.var 3)) (.call "greatest_divisor" [(.var 1), (.var 3)]))]
abbrev bCd : List S := [.asg (.name 1) (.int 1), .each (.tup [(.name 2), (.name 3)]) .plain [(.var 0)] bCdT, .ret (.var 1)]
/-- the least common multiple of the divisors, from l on -/
def lcmF (l : Nat) : List (Int × Int) → Nat
  | [] => l
  | p :: ps => lcmF (Nat.lcm l p.2.natAbs) ps
theorem lcm_step (l : Nat) (d : Int) (hl : 0 < l) (hd : 0 < d) : ((l : Int) * d).fdiv ((Int.gcd l d : Nat) : Int) = ((Nat.lcm l d.natAbs : Nat) : Int) := by
  rw [fdiv_nat]
  have e : (d : Int) = (d.natAbs : Int) := by omega
  rw [show Int.gcd (l : Int) d = Nat.gcd l d.natAbs from rfl]
  conv => lhs; rw [e]
  rfl
theorem lcm_lt {l d m n : Nat} (h1 : l < 2 ^ m) (h2 : d < 2 ^ n) : Nat.lcm l d < 2 ^ (m + n) := by
  rw [Nat.pow_add]
  exact Nat.lt_of_le_of_lt (Nat.div_le_self _ _) (Nat.mul_lt_mul'' h1 h2)
theorem cd_loop {T : Tb} {N k : Nat} (h1 : T.df "greatest_divisor" = some ⟨2, 2, bGd⟩) (hf : T.fill "greatest_divisor" 2 = []) (hk : 1 ≤ k) (st : Sto) {v : Itv} (hv : v.stays st) (a : D) (n : Nat) (hN : 2 ^ n ≤ N) : ∀ (ps : List (Int × Int)) (l m : Nat) (z1 z2 : Option D), 0 < l → l < 2 ^ m → m + n * ps.length ≤ 8000 → n ≤ 900 →
    (∀ p ∈ ps, 0 < p.2 ∧ p.2.natAbs < 2 ^ n) → ∃ z1' z2', eachS (gmK T N k) (.tup [(.name 2), (.name 3)]) bCdT v (ps.map FD) [some a, some (.int l), z1, z2] st = .ok (.nx [some a, some (.int (lcmF l ps)), z1', z2']) st ∧ 0 < lcmF l ps ∧ lcmF l ps < 2 ^ (m + n * ps.length)
  | [], l, m, z1, z2, h0, hm, _, _, _ => ⟨z1, z2, each_nil' hv, h0, by rw [List.length_nil, Nat.mul_zero]; exact hm⟩
  | p :: ps, l, m, z1, z2, h0, hm, hmn, hn, hp => by
    obtain ⟨p0, pn⟩ := hp p (List.mem_cons_self ..)
    rw [List.length_cons, Nat.mul_add, Nat.mul_one] at hmn
    have hl2 := lcm_lt hm pn
    have hl0 : 0 < Nat.lcm l p.2.natAbs := Nat.lcm_pos h0 (by omega)
    obtain ⟨z1', z2', e, e0, e1⟩ := cd_loop h1 hf hk st hv a n hN ps (Nat.lcm l p.2.natAbs) (m + n) (some (.int p.1)) (some (.int p.2)) hl0 hl2 (by omega) hn fun q hq => hp q (List.mem_cons_of_mem _ hq)
    refine ⟨z1', z2', ?_, e0, by rw [List.length_cons, Nat.mul_add, Nat.mul_one]; rw [show m + (n * ps.length + n) = m + n + n * ps.length by omega]; exact e1⟩
    have eg := gd_spec (N := N) (k := k) hk h1 (l : Int) p.2 st (Nat.lt_of_lt_of_le pn hN)
    have mo : mulOk (l : Int) p.2 := mulOk_m (m := m) (n := n) hm pn (by omega)
    have g1 : ((Int.gcd (l : Int) p.2 : Nat) : Int) ≠ 0 ∧ ((Int.gcd (l : Int) p.2 : Nat) : Int).natAbs < 2 ^ 9000 := ⟨by have := gcd_pos' (n := (l : Int)) (d := p.2) (by omega); omega, up9000 (gcd_lt (by omega) pn) (by omega)⟩
    have st1 := lcm_step l p.2 h0 p0
    rw [List.map_cons]
    have hb : execSs (gmK T N k) bCdT [some a, some (.int l), some (.int p.1), some (.int p.2)] st = .ok (.nx [some a, some (.int (Nat.lcm l p.2.natAbs : Nat)), some (.int p.1), some (.int p.2)]) st := by
      simp only [bCdT, exs_cons, exs_nil, ex_asg, ev_bin, ev_var, ev_call, evs_cons, evs_nil, List.getElem?_cons_succ, List.getElem?_cons_zero, Out.bind_ok, bv_mul, need_pos mo, List.length_cons, List.length_nil, gmK_cl, gmK_fill, hf, List.append_nil, Nat.reduceAdd, eg, bv_fdiv, need_pos g1, st1, Out.lift_ok, bp_name, List.set, thenS_nx]
    rw [each_nx hv (by simp [FD, List.set]) hb]
    exact e
theorem cd_spec {T : Tb} {N k : Nat} (hk : 2 ≤ k) (h : T.df "common_divisor_of" = some ⟨1, 4, bCd⟩) (h1 : T.df "greatest_divisor" = some ⟨2, 2, bGd⟩) (hf : T.fill "greatest_divisor" 2 = []) (st : Sto) (d : D) (ps : List (Int × Int)) (n : Nat) (hN : 2 ^ n ≤ N) (hn : n ≤ 900) (hl : 1 + n * ps.length ≤ 8000)
    (hd : iterV .plain [d] st = .ok ⟨ps.map FD, keepOf d (ps.map FD)⟩ st) (hst : (⟨ps.map FD, keepOf d (ps.map FD)⟩ : Itv).stays st) (hp : ∀ p ∈ ps, 0 < p.2 ∧ p.2.natAbs < 2 ^ n) : callK T N k "common_divisor_of" [d] st = .ok (.int (lcmF 1 ps)) st := by
  obtain ⟨k, rfl⟩ : ∃ j, k = j + 2 := ⟨k - 2, by omega⟩
  rw [callK_df h]
  obtain ⟨z1, z2, e, _, _⟩ := cd_loop (T := T) (N := N) (k := k + 1) h1 hf (by omega) st hst d n hN ps 1 1 none none (by decide) (by decide) hl hn hp
  refine runD_same rfl ?_
  simp only [Int.natCast_one] at e
  have e' := e
  simp only [bCd, exs_cons, exs_nil, ex_asg, ev_int, Out.bind_ok, Out.lift_ok, bp_name, List.map, List.replicate, List.length_cons, List.length_nil, List.cons_append, List.nil_append, List.set, thenS_nx, ex_each, evs_cons, evs_nil, ev_var, List.getElem?_cons_succ, List.getElem?_cons_zero, Nat.reduceAdd, Nat.reduceSub, hd, show ((1 : Nat) : Int) = 1 from rfl, e, ex_ret, thenS_ret]
theorem it_lst' (xs : List D) (st : Sto) : iterV .plain [.lst xs] st = .ok ⟨xs, keepOf (.lst xs) xs⟩ st := rfl
theorem it_tup' (xs : List D) (st : Sto) : iterV .plain [.tup xs] st = .ok ⟨xs, keepOf (.tup xs) xs⟩ st := rfl
/-! ### statements one by one -/
section
variable {G : Gm} {s : S} {ss : List S} {en en' : Ev} {st s2 : Sto}
theorem exs_nx (h : execS G s en st = .ok (.nx en') s2) : execSs G (s :: ss) en st = execSs G ss en' s2 := by
  rw [exs_cons, h]
  rfl
theorem exs_rt {d : D} (h : execS G s en st = .ok (.ret d) s2) : execSs G (s :: ss) en st = .ok (.ret d) s2 := by
  rw [exs_cons, h]
  rfl
end
theorem ce_at {T : Tb} {N k : Nat} (hk : 1 ≤ k) (h : T.df "_law_cell" = some ⟨2, 2, bCe⟩) (ns : List Int) (j : Nat) (z : Int) (hz : z = (j : Nat)) (st : Sto) : callK T N k "_law_cell" [.scr ns, .int z] st = .ok (.int (cellZ ns j)) st := by
  rw [hz]
  exact ce_spec hk h ns j st
theorem show_int {m : Nat} {a : Int} (h0 : 6 ≤ m) (hm : m ≤ 1900) (h : a.natAbs < 2 ^ m) : showOk (.int a) := by
  refine sm_show m h0 (by omega) (by simpa only [sm] using h) (by simp [dep]) ?_
  simp only [cnt]
  have : (m + 4) * (m + 1) ≤ 1904 * 1901 := Nat.mul_le_mul (by omega) (by omega)
  omega
theorem cv_eqL {xs : List D} {st : Sto} (h : eqOk (.lst xs)) : cmpV .Eq (.lst xs) (.lst xs) st = .ok true st := by
  show need (eqOk (.lst xs) ∧ eqOk (.lst xs)) _ = _
  rw [need_pos ⟨h, h⟩]
  show Out.ok (eqD (.lst xs) (.lst xs)) st = _
  unfold eqD
  rw [eqD_same h.1]
theorem cv_eqT {xs : List D} {st : Sto} (h : eqOk (.tup xs)) : cmpV .Eq (.tup xs) (.tup xs) st = .ok true st := by
  show need (eqOk (.tup xs) ∧ eqOk (.tup xs)) _ = _
  rw [need_pos ⟨h, h⟩]
  show Out.ok (eqD (.tup xs) (.tup xs)) st = _
  unfold eqD
  rw [eqD_same h.1]
theorem paired_frs {Q : D → Int × Int → Prop} {l ys : List D} (h : Paired (fun x y => ∃ p, y = FD p ∧ Q x p) l ys) : ∃ ps : List (Int × Int), ys = ps.map FD ∧ Paired Q l ps := by
  induction h with
  | nil => exact ⟨[], rfl, .nil⟩
  | cons h _ ih =>
    obtain ⟨p, rfl, q⟩ := h
    obtain ⟨ps, rfl, hp⟩ := ih
    exact ⟨p :: ps, rfl, .cons q hp⟩
theorem paired_len {α β : Type} {R : α → β → Prop} {l : List α} {r : List β} (h : Paired R l r) : r.length = l.length := by
  induction h with
  | nil => rfl
  | cons _ _ ih => rw [List.length_cons, List.length_cons, ih]
theorem paired_right {α β : Type} {R : α → β → Prop} {P : β → Prop} (hP : ∀ a b, R a b → P b) {l : List α} {r : List β} (h : Paired R l r) : ∀ b ∈ r, P b := by
  induction h with
  | nil => exact fun b hb => nomatch hb
  | cons q _ ih =>
    intro b hb
    rcases List.mem_cons.mp hb with e | hb
    · rw [e]
      exact hP _ _ q
    · exact ih b hb
theorem smL_map {α : Type} {m : Nat} {f : α → D} : ∀ {l : List α}, (∀ x ∈ l, sm m (f x)) → smL m (l.map f)
  | [], _ => trivial
  | x :: xs, h => by
    rw [List.map_cons]
    exact ⟨h x (List.mem_cons_self ..), smL_map fun y hy => h y (List.mem_cons_of_mem _ hy)⟩
theorem depL_map {α : Type} {n : Nat} {f : α → D} : ∀ {l : List α}, (∀ x ∈ l, dep (f x) ≤ n) → depL (l.map f) ≤ n
  | [], _ => Nat.zero_le _
  | x :: xs, h => by
    rw [List.map_cons]
    exact Nat.max_le.mpr ⟨h x (List.mem_cons_self ..), depL_map fun y hy => h y (List.mem_cons_of_mem _ hy)⟩
theorem cntL_map {α : Type} {m n : Nat} {f : α → D} : ∀ {l : List α}, (∀ x ∈ l, cnt m (f x) ≤ n) → cntL m (l.map f) ≤ (n + 1) * l.length
  | [], _ => Nat.zero_le _
  | x :: xs, h => by
    rw [List.map_cons, List.length_cons, Nat.mul_add, Nat.mul_one]
    have h1 := h x (List.mem_cons_self ..)
    have h2 := cntL_map (m := m) (n := n) (f := f) (l := xs) fun y hy => h y (List.mem_cons_of_mem _ hy)
    show cnt m (f x) + 1 + cntL m (xs.map f) ≤ _
    omega
theorem dep_FD (p : Int × Int) : dep (FD p) = 1 := by simp [FD, dep, depL]
theorem cnt_FD (m : Nat) (p : Int × Int) : cnt m (FD p) = 2 * m + 4 := by simp [FD, cnt, cntL]; omega
theorem eq_FDs {m : Nat} (h0 : 6 ≤ m) (hm : m < 1920) {ps : List (Int × Int)} (h : ∀ p ∈ ps, p.1.natAbs < 2 ^ m ∧ p.2.natAbs < 2 ^ m) : eqOk (.lst (ps.map FD)) ∧ eqOk (.tup (ps.map FD)) := by
  have s := smL_map (f := FD) (m := m) (l := ps) fun p hp => sm_FD (h p hp).1 (h p hp).2
  have d := depL_map (f := FD) (n := 1) (l := ps) fun p _ => Nat.le_of_eq (dep_FD p)
  exact ⟨sm_eq m h0 hm (by simpa only [sm] using s) (by simp only [dep]; omega), sm_eq m h0 hm (by simpa only [sm] using s) (by simp only [dep]; omega)⟩
theorem rangeL_mem {lo : Int} {n : Nat} {x : D} (h : x ∈ rangeL lo n) : ∃ i : Nat, i < n ∧ x = .int (lo + (i : Nat)) := by
  unfold rangeL at h
  obtain ⟨i, hi, rfl⟩ := List.mem_map.mp h
  exact ⟨i, List.mem_range.mp hi, rfl⟩
theorem rangeL_len (lo : Int) (n : Nat) : (rangeL lo n).length = n := by simp [rangeL]
theorem ix_mem {xs : List D} {y : Int} (st : Sto) (h0 : 0 ≤ y) (h1 : y < xs.length) : ∃ d ∈ xs, ixV (.lst xs) (.int y) st = .ok d st := by
  obtain ⟨i, rfl⟩ : ∃ i : Nat, y = i := ⟨y.toNat, by omega⟩
  have hi : i < xs.length := by omega
  exact ⟨xs[i], List.getElem_mem hi, ix_at st (seq_lst st xs) (List.getElem?_eq_getElem hi)⟩
section
variable (st : Sto)
theorem eqOk_bl (a : Bool) : eqOk (.bl a) := ⟨rfl, rfl⟩
@[simp] theorem cv_eqb (a b : Bool) : cmpV .Eq (.bl a) (.bl b) st = .ok (decide (a = b)) st := by
  show need (eqOk (.bl a) ∧ eqOk (.bl b)) _ = _
  rw [need_pos ⟨eqOk_bl a, eqOk_bl b⟩]
  cases a <;> cases b <;> rfl
@[simp] theorem cv_neb (a b : Bool) : cmpV .NotEq (.bl a) (.bl b) st = .ok (decide (a ≠ b)) st := by
  show need (eqOk (.bl a) ∧ eqOk (.bl b)) _ = _
  rw [need_pos ⟨eqOk_bl a, eqOk_bl b⟩]
  cases a <;> cases b <;> rfl
@[simp] theorem bv_addT (m : Bool) (a b : List D) : binV m .Add (.tup a) (.tup b) st = need (a.length + b.length ≤ sizeLine) (.ok (.tup (a ++ b)) st) := rfl
@[simp] theorem bv_addL (m : Bool) (a b : List D) : binV m .Add (.lst a) (.lst b) st = need (a.length + b.length ≤ sizeLine) (newL m (a ++ b) st) := rfl
end
theorem short_ok {n : Nat} (h : n ≤ 1000) : n ≤ sizeLine := by
  rw [sizeLine_eq]
  omega
end PI

/-! PI, part W: fractions as numbers; order, totals. -/
namespace PI
open PySem PySem.Spec PyProof.Rows L2
/-! ### lowest terms are unique -/
theorem fr_mul {n d : Int} (hd : d ≠ 0) : (fr n d).1 * d = n * (fr n d).2 := by
  obtain ⟨a, ha⟩ := Int.gcd_dvd_left n d
  obtain ⟨b, hb⟩ := Int.gcd_dvd_right n d
  have g0 : ((Int.gcd n d : Nat) : Int) ≠ 0 := by have := gcd_pos' (n := n) hd; omega
  generalize hg : ((Int.gcd n d : Nat) : Int) = g at *
  have e1 : n / g = a := by rw [ha, Int.mul_ediv_cancel_left _ g0]
  have e2 : d / g = b := by rw [hb, Int.mul_ediv_cancel_left _ g0]
  have e3 : -n / g = -a := by rw [ha, ← Int.mul_neg, Int.mul_ediv_cancel_left _ g0]
  have e4 : -d / g = -b := by rw [hb, ← Int.mul_neg, Int.mul_ediv_cancel_left _ g0]
  have k : a * d = n * b := by
    rw [ha, hb, ← Int.mul_assoc, Int.mul_comm a g]
  unfold fr
  rw [hg]
  split
  · show -n / g * d = n * (-d / g)
    rw [e3, e4, Int.neg_mul, Int.mul_neg, k]
  · show n / g * d = n * (d / g)
    rw [e1, e2, k]
theorem cop_dvd {a b c : Int} (h : b ∣ a * c) (g : Int.gcd a b = 1) : b ∣ c := by
  rw [← Int.natAbs_dvd_natAbs, Int.natAbs_mul] at h
  rw [← Int.natAbs_dvd_natAbs]
  have cp : Nat.Coprime b.natAbs a.natAbs := by
    rw [Nat.coprime_comm]
    exact g
  exact cp.dvd_of_dvd_mul_left h
theorem low_uniq {a b a' b' : Int} (h : a * b' = a' * b) (hb : 0 < b) (hb' : 0 < b') (g : Int.gcd a b = 1) (g' : Int.gcd a' b' = 1) : a = a' ∧ b = b' := by
  have d1 : b ∣ b' := by
    have : b ∣ a * b' := ⟨a', by rw [h, Int.mul_comm]⟩
    exact cop_dvd this g
  have d2 : b' ∣ b := by
    have : b' ∣ a' * b := ⟨a, by rw [← h, Int.mul_comm]⟩
    exact cop_dvd this g'
  have e : b = b' := Int.dvd_antisymm (by omega) (by omega) d1 d2
  subst e
  exact ⟨Int.eq_of_mul_eq_mul_right (by omega) h, rfl⟩
theorem fr_congr {n d n' d' : Int} (hd : d ≠ 0) (hd' : d' ≠ 0) (h : n * d' = n' * d) : fr n d = fr n' d' := by
  obtain ⟨m, h1, h2, h3, h4⟩ : ∃ m : Nat, n.natAbs < 2 ^ m ∧ d.natAbs < 2 ^ m ∧ n'.natAbs < 2 ^ m ∧ d'.natAbs < 2 ^ m := by
    refine ⟨n.natAbs + d.natAbs + n'.natAbs + d'.natAbs, ?_, ?_, ?_, ?_⟩ <;> exact Nat.lt_of_le_of_lt (by omega) Nat.lt_two_pow_self
  obtain ⟨_, p1, _, g1⟩ := fr_size hd h1 h2
  obtain ⟨_, p2, _, g2⟩ := fr_size hd' h3 h4
  have e1 := fr_mul (n := n) hd
  have e2 := fr_mul (n := n') hd'
  generalize fr n d = p at *
  generalize fr n' d' = q at *
  have key : p.1 * q.2 = q.1 * p.2 := by
    have hh : (p.1 * q.2) * (d * d') = (q.1 * p.2) * (d * d') := by
      have a1 : (p.1 * q.2) * (d * d') = (p.1 * d) * (q.2 * d') := by ac_rfl
      have a2 : (q.1 * p.2) * (d * d') = (q.1 * d') * (p.2 * d) := by ac_rfl
      rw [a1, a2, e1, e2]
      have a3 : n * p.2 * (q.2 * d') = (n * d') * (p.2 * q.2) := by ac_rfl
      have a4 : n' * q.2 * (p.2 * d) = (n' * d) * (p.2 * q.2) := by ac_rfl
      rw [a3, a4, h]
    exact Int.eq_of_mul_eq_mul_right (Int.mul_ne_zero hd hd') hh
  obtain ⟨x, y⟩ := low_uniq key p1 p2 g1 g2
  exact Prod.ext x y
/-- a fraction in lowest terms is its own -/
theorem fr_self {p : Int × Int} (h0 : 0 < p.2) (g : Int.gcd p.1 p.2 = 1) : fr p.1 p.2 = p := by
  unfold fr
  rw [if_neg (by omega), g]
  simp
/-- sizes: both parts below 2^m, the lower one above 0 -/
def FrB (m : Nat) (p : Int × Int) : Prop := p.1.natAbs < 2 ^ m ∧ 0 < p.2 ∧ p.2.natAbs < 2 ^ m
theorem FrOk.b {m : Nat} {p : Int × Int} (h : FrOk m p) : FrB m p := ⟨h.1, h.2.1, h.2.2.1⟩
theorem FrB.up {m n : Nat} {p : Int × Int} (h : FrB m p) (hm : m ≤ n) : FrB n p := ⟨Nat.lt_of_lt_of_le h.1 (Nat.pow_le_pow_right (by decide) hm), h.2.1, Nat.lt_of_lt_of_le h.2.2 (Nat.pow_le_pow_right (by decide) hm)⟩
def addF (p q : Int × Int) : Int × Int := fr (p.1 * q.2 + q.1 * p.2) (p.2 * q.2)
def subF (p q : Int × Int) : Int × Int := fr (p.1 * q.2 - q.1 * p.2) (p.2 * q.2)
def mulF (p q : Int × Int) : Int × Int := fr (p.1 * q.1) (p.2 * q.2)
theorem pow_up {n m k : Nat} (h : n < 2 ^ m) (hm : m ≤ k) : n < 2 ^ k := Nat.lt_of_lt_of_le h (Nat.pow_le_pow_right (by decide) hm)
theorem addF_ok {m n : Nat} {p q : Int × Int} (hp : FrB m p) (hq : FrB n q) : FrB (m + n + 1) (addF p q) ∧ Int.gcd (addF p q).1 (addF p q).2 = 1 := by
  have hd : 0 < p.2 * q.2 := Int.mul_pos hp.2.1 hq.2.1
  have b2 := mul_lt hq.1 hp.2.2
  rw [Nat.add_comm n m] at b2
  obtain ⟨a, b, c, g⟩ := fr_size (m := m + n + 1) (show p.2 * q.2 ≠ 0 by omega) (add_lt (mul_lt hp.1 hq.2.2) b2) (pow_up (mul_lt hp.2.2 hq.2.2) (by omega))
  exact ⟨⟨a, b, c⟩, g⟩
theorem subF_ok {m n : Nat} {p q : Int × Int} (hp : FrB m p) (hq : FrB n q) : FrB (m + n + 1) (subF p q) ∧ Int.gcd (subF p q).1 (subF p q).2 = 1 := by
  have hd : 0 < p.2 * q.2 := Int.mul_pos hp.2.1 hq.2.1
  have b2 := mul_lt hq.1 hp.2.2
  rw [Nat.add_comm n m] at b2
  obtain ⟨a, b, c, g⟩ := fr_size (m := m + n + 1) (n := p.1 * q.2 - q.1 * p.2) (show p.2 * q.2 ≠ 0 by omega) (by rw [Int.sub_eq_add_neg]; exact add_lt (mul_lt hp.1 hq.2.2) (by rw [Int.natAbs_neg]; exact b2)) (pow_up (mul_lt hp.2.2 hq.2.2) (by omega))
  exact ⟨⟨a, b, c⟩, g⟩
theorem mulF_ok {m n : Nat} {p q : Int × Int} (hp : FrB m p) (hq : FrB n q) : FrB (m + n) (mulF p q) ∧ Int.gcd (mulF p q).1 (mulF p q).2 = 1 := by
  have hd : 0 < p.2 * q.2 := Int.mul_pos hp.2.1 hq.2.1
  obtain ⟨a, b, c, g⟩ := fr_size (m := m + n) (show p.2 * q.2 ≠ 0 by omega) (mul_lt hp.1 hq.1) (mul_lt hp.2.2 hq.2.2)
  exact ⟨⟨a, b, c⟩, g⟩
section
variable {T : Tb} {N k m n : Nat} {p q : Int × Int}
theorem addF_spec (hk : 3 ≤ k) (F : HasFr T N) (h : T.df "added" = some ⟨2, 2, bAdd⟩) (st : Sto) (hp : FrB m p) (hq : FrB n q) (hmn : m + n ≤ 8999) (hN : 2 ^ (m + n) ≤ N) : callK T N k "added" [FD p, FD q] st = .ok (FD (addF p q)) st :=
  add_spec hk F h st hp.1 hp.2.2 hq.1 hq.2.2 (by have := hp.2.1; omega) (by have := hq.2.1; omega) hmn hN
theorem subF_spec (hk : 3 ≤ k) (F : HasFr T N) (h : T.df "subtracted" = some ⟨2, 2, bSub⟩) (st : Sto) (hp : FrB m p) (hq : FrB n q) (hmn : m + n ≤ 8999) (hN : 2 ^ (m + n) ≤ N) : callK T N k "subtracted" [FD p, FD q] st = .ok (FD (subF p q)) st :=
  sub_spec hk F h st hp.1 hp.2.2 hq.1 hq.2.2 (by have := hp.2.1; omega) (by have := hq.2.1; omega) hmn hN
theorem mulF_spec (hk : 3 ≤ k) (F : HasFr T N) (h : T.df "times" = some ⟨2, 2, bTim⟩) (st : Sto) (hp : FrB m p) (hq : FrB n q) (hmn : m + n ≤ 8999) (hN : 2 ^ (m + n) ≤ N) : callK T N k "times" [FD p, FD q] st = .ok (FD (mulF p q)) st :=
  tim_spec hk F h st hp.1 hp.2.2 hq.1 hq.2.2 (by have := hp.2.1; omega) (by have := hq.2.1; omega) hmn hN
end
/-! ### totals -/
abbrev bToT : List S := [.asg (.name 1) (.call "added" [(.var 1), (.var 2)])]
abbrev bTo : List S := [.asg (.name 1) (.glob "ZERO"), .each (.name 2) .plain [(.var 0)] bToT, .ret (.var 1)]
def sumF (s : Int × Int) (ps : List (Int × Int)) : Int × Int := ps.foldl addF s
theorem sumF_ok {n : Nat} : ∀ {ps : List (Int × Int)} {s : Int × Int} {m : Nat}, FrB m s → (∀ p ∈ ps, FrB n p) → FrB (m + (n + 1) * ps.length) (sumF s ps)
  | [], s, m, h, _ => h.up (by simp)
  | p :: ps, s, m, h, hp => by
    have := sumF_ok (ps := ps) (addF_ok h (hp p (List.mem_cons_self ..))).1 fun q hq => hp q (List.mem_cons_of_mem _ hq)
    rw [List.length_cons, Nat.mul_add, Nat.mul_one]
    exact FrB.up (n := m + ((n + 1) * ps.length + (n + 1))) this (by omega)
theorem to_loop {T : Tb} {N k n : Nat} (hk : 3 ≤ k) (F : HasFr T N) (h : T.df "added" = some ⟨2, 2, bAdd⟩) (hf : T.fill "added" 2 = []) (st : Sto) {v : Itv} (hv : v.stays st) (a : D) : ∀ (ps : List (Int × Int)) (s : Int × Int) (m : Nat) (z : Option D), FrB m s → (∀ p ∈ ps, FrB n p) → m + (n + 1) * ps.length ≤ 8000 → n ≤ 900 → 2 ^ (m + (n + 1) * ps.length) ≤ N →
    ∃ z', eachS (gmK T N k) (.name 2) bToT v (ps.map FD) [some a, some (FD s), z] st = .ok (.nx [some a, some (FD (sumF s ps)), z']) st
  | [], s, m, z, _, _, _, _, _ => ⟨z, each_nil' hv⟩
  | p :: ps, s, m, z, hs, hp, h1, h2, h3 => by
    rw [List.length_cons, Nat.mul_add, Nat.mul_one] at h1 h3
    have hp0 := hp p (List.mem_cons_self ..)
    have e := addF_spec hk F h st hs hp0 (by omega) (Nat.le_trans (Nat.pow_le_pow_right (by decide) (by omega)) h3)
    obtain ⟨z', e2⟩ := to_loop hk F h hf st hv a ps (addF s p) (m + n + 1) (some (FD p)) (addF_ok hs hp0).1 (fun q hq => hp q (List.mem_cons_of_mem _ hq)) (by omega) h2 (by rw [show m + n + 1 + (n + 1) * ps.length = m + ((n + 1) * ps.length + (n + 1)) by omega]; exact h3)
    refine ⟨z', ?_⟩
    rw [List.map_cons, each_nx hv (bp_name _ _ _) (en' := [some a, some (FD (addF s p)), some (FD p)]) (s2 := st) (by
      simp only [bToT, exs_cons, exs_nil, ex_asg, ev_call, evs_cons, evs_nil, ev_var, List.getElem?_cons_succ, List.getElem?_cons_zero, List.set, Out.bind_ok, List.length_cons, List.length_nil, gmK_cl, gmK_fill, hf, List.append_nil, Nat.reduceAdd, e, Out.lift_ok, bp_name, thenS_nx])]
    exact e2
theorem to_spec {T : Tb} {N k n : Nat} (hk : 4 ≤ k) (h0 : T.df "total" = some ⟨1, 3, bTo⟩) (F : HasFr T N) (h : T.df "added" = some ⟨2, 2, bAdd⟩) (hf : T.fill "added" 2 = []) (hz : T.gl "ZERO" = some (.tup [.int 0, .int 1])) (st : Sto) (d : D) (ps : List (Int × Int)) (hd : iterV .plain [d] st = .ok ⟨ps.map FD, keepOf d (ps.map FD)⟩ st)
    (hst : (⟨ps.map FD, keepOf d (ps.map FD)⟩ : Itv).stays st) (hp : ∀ p ∈ ps, FrB n p) (h1 : 1 + (n + 1) * ps.length ≤ 8000) (h2 : n ≤ 900) (h3 : 2 ^ (1 + (n + 1) * ps.length) ≤ N) : callK T N k "total" [d] st = .ok (FD (sumF (0, 1) ps)) st := by
  obtain ⟨k, rfl⟩ : ∃ j, k = j + 4 := ⟨k - 4, by omega⟩
  rw [callK_df h0]
  refine runD_same rfl ?_
  obtain ⟨z', e⟩ := to_loop (T := T) (N := N) (k := k + 3) (by omega) F h hf st hst d ps (0, 1) 1 none ⟨by decide, by decide, by decide⟩ hp h1 h2 h3
  unfold FD at e
  unfold FD at hd
  simp only [bTo, exs_cons, exs_nil, ex_asg, ev_glob, gmK_gl, hz, Out.bind_ok, Out.lift_ok, bp_name, List.map, List.replicate, List.length_cons, List.length_nil, List.cons_append, List.nil_append, List.set, thenS_nx, ex_each, evs_cons, evs_nil, ev_var, List.getElem?_cons_succ, List.getElem?_cons_zero, Nat.reduceAdd, Nat.reduceSub, hd]
  unfold FD
  rw [e]
  rfl
/-! ### order -/
@[simp] theorem bi_intb (m : Bool) (a : Bool) (st : Sto) : biV m .int [.bl a] st = .ok (.int (if a then 1 else 0)) st := rfl
def cmpF (p q : Int × Int) : Int := (if q.1 * p.2 < p.1 * q.2 then 1 else 0) - (if p.1 * q.2 < q.1 * p.2 then 1 else 0)
abbrev bCm : List S := [.par 2 3 (.bin false .Mult (.ix (.var 0) (.int 0)) (.ix (.var 1) (.int 1))) (.bin false .Mult (.ix (.var 1) (.int 0)) (.ix (.var 0) (.int 1))), .ret (.bin false .Sub (.bi false .int [(.cmp .Gt (.var 2) (.var 3))]) (.bi false .int [(.cmp .Lt (.var 2) (.var 3))]))]
abbrev bLt : List S := [.ret (.cmp .Lt (.call "compared" [(.var 0), (.var 1)]) (.int 0))]
theorem cm_spec {T : Tb} {N k m n : Nat} {p q : Int × Int} (hk : 1 ≤ k) (h : T.df "compared" = some ⟨2, 4, bCm⟩) (st : Sto) (hp : FrB m p) (hq : FrB n q) (hmn : m + n ≤ 9000) : callK T N k "compared" [FD p, FD q] st = .ok (.int (cmpF p q)) st := by
  obtain ⟨k, rfl⟩ : ∃ j, k = j + 1 := ⟨k - 1, by omega⟩
  rw [callK_df h]
  refine runD_same rfl ?_
  unfold FD
  have m1 := mulOk_m hp.1 hq.2.2 hmn
  have m2 := mulOk_m hq.1 hp.2.2 (by omega)
  simp only [bCm, exs_cons, exs_nil, ex_par, ev_bin, ev_ix, ev_var, ev_int, ix_t0, ix_t1, bv_mul, need_pos m1, need_pos m2, Out.bind_ok, Out.lift_ok, List.map, List.replicate, List.length_cons, List.length_nil, List.cons_append, List.nil_append, List.set, thenS_nx, List.getElem?_cons_succ, List.getElem?_cons_zero, Nat.reduceAdd, Nat.reduceSub, ex_ret, ev_bi, evs_cons, evs_nil, ev_cmp, cv_gt, cv_lt, bi_intb, bv_sub, thenS_ret, cmpF, decide_eq_true_eq]
theorem lt_spec {T : Tb} {N k m n : Nat} {p q : Int × Int} (hk : 2 ≤ k) (h0 : T.df "is_less" = some ⟨2, 2, bLt⟩) (h : T.df "compared" = some ⟨2, 4, bCm⟩) (hf : T.fill "compared" 2 = []) (st : Sto) (hp : FrB m p) (hq : FrB n q) (hmn : m + n ≤ 9000) : callK T N k "is_less" [FD p, FD q] st = .ok (.bl (decide (p.1 * q.2 < q.1 * p.2))) st := by
  obtain ⟨k, rfl⟩ : ∃ j, k = j + 2 := ⟨k - 2, by omega⟩
  rw [callK_df h0]
  refine runD_same rfl ?_
  have e := cm_spec (N := N) (k := k + 1) (by omega) h st hp hq hmn
  have e2 : decide (cmpF p q < 0) = decide (p.1 * q.2 < q.1 * p.2) := by
    rw [decide_eq_decide]
    unfold cmpF
    split <;> split <;> omega
  simp only [bLt, exs_cons, exs_nil, ex_ret, ev_cmp, ev_call, evs_cons, evs_nil, ev_var, ev_int, Out.bind_ok, Out.lift_ok, List.map, List.replicate, List.length_cons, List.length_nil, List.cons_append, List.nil_append, List.append_nil, List.getElem?_cons_succ, List.getElem?_cons_zero, Nat.reduceAdd, Nat.reduceSub, gmK_cl, gmK_fill, hf, e, cv_lt, e2, thenS_ret]
/-! ### the laws' gcd again, for larger numbers -/
def fb : Nat → Nat × Nat
  | 0 => (1, 2)
  | n + 1 => ((fb n).2, (fb n).1 + (fb n).2)
theorem fb_two (n : Nat) : (fb (n + 2)).1 = (fb n).1 + (fb (n + 1)).1 := rfl
theorem fb_pos : ∀ n, 0 < (fb n).1 ∧ 0 < (fb n).2
  | 0 => by decide
  | n + 1 => ⟨(fb_pos n).2, Nat.add_pos_left (fb_pos n).1 _⟩
theorem co_loop2 {G : Gm} {v : Itv} (hv : v.keep = []) (st : Sto) : ∀ (n : Nat) (l : List D) (a b : Nat) (z : Option D), a < (fb n).1 → n + 1 ≤ l.length → a < 2 ^ 9000 → b < 2 ^ 9000 →
    eachS G (.name 2) bCoT v l [some (.int a), some (.int b), z] st = .ok (.ret (.int (Nat.gcd a b : Nat))) st
  | _, [], _, _, _, _, h, _, _ => by simp at h
  | n, x :: xs, 0, b, z, _, _, _, _ => by
    rw [Nat.gcd_zero_left]
    exact co_zero hv x xs b z st
  | 0, _ :: _, a + 1, _, _, h, _, _, _ => by
    have : a + 1 < 1 := h
    omega
  | n + 1, [x], a + 1, _, _, _, h, _, _ => by simp at h
  | 1, x :: y :: xs, a + 1, b, z, h1, _, h3, h4 => by
    have ha : a = 0 := by
      have : a + 1 < 2 := h1
      omega
    subst ha
    rw [co_step hv x (y :: xs) 1 b z st (by decide) h3 h4, Nat.mod_one]
    refine (co_zero hv y xs _ _ st).trans ?_
    rw [Nat.gcd_one_left]
  | n + 2, x :: y :: xs, a + 1, b, z, h1, h2, h3, h4 => by
    rw [co_step hv x (y :: xs) (a + 1) b z st (Nat.succ_pos a) h3 h4]
    have hlt : b % (a + 1) < a + 1 := Nat.mod_lt _ (Nat.succ_pos a)
    have h5 : b % (a + 1) < 2 ^ 9000 := Nat.lt_trans hlt h3
    by_cases hr : b % (a + 1) < (fb (n + 1)).1
    · rw [co_loop2 hv st (n + 1) (y :: xs) _ _ _ hr (by simp at h2 ⊢; omega) h5 h3, ← Nat.gcd_rec]
    · have r0 : 0 < b % (a + 1) := by have := (fb_pos (n + 1)).1; omega
      rw [co_step hv y xs (b % (a + 1)) (a + 1) _ st r0 h5 h3]
      have h6 : (a + 1) % (b % (a + 1)) < (fb n).1 := by
        rw [fb_two] at h1
        generalize hq : b % (a + 1) = r at *
        have e2 : (a + 1) % r + r * ((a + 1) / r) = a + 1 := Nat.mod_add_div _ _
        have e3 : 1 ≤ (a + 1) / r := (Nat.le_div_iff_mul_le r0).mpr (by omega)
        have e4 : r * 1 ≤ r * ((a + 1) / r) := Nat.mul_le_mul_left r e3
        omega
      rw [co_loop2 hv st n xs _ _ _ h6 (by simp at h2; omega) (Nat.lt_trans (Nat.mod_lt _ r0) h5) h5]
      rw [← Nat.gcd_rec, ← Nat.gcd_rec]
theorem fb_399 : 2 ^ 277 ≤ (fb 399).1 := by decide +kernel
theorem co_spec2 {T : Tb} {N k : Nat} (hk : 1 ≤ k) (h : T.df "_law_common" = some ⟨2, 3, bCo⟩) (a : Int) (b : Nat) (st : Sto) (ha : a.natAbs < 2 ^ 277) (hb : b < 2 ^ 9000) : callK T N k "_law_common" [.int a, .int b] st = .ok (.int (Int.gcd a b)) st := by
  obtain ⟨k, rfl⟩ : ∃ j, k = j + 1 := ⟨k - 1, by omega⟩
  rw [callK_df h]
  refine runD_same rfl ?_
  have e := co_loop2 (G := gmK T N k) (v := ⟨rangeL 0 400, []⟩) rfl st 399 (rangeL 0 400) a.natAbs b none (Nat.lt_of_lt_of_le ha fb_399) (by rw [rangeL_len]; decide) (up9000 ha (by decide)) hb
  have e2 := range1_ok (j := 400) st ⟨by decide, by decide⟩
  simp only [bCo, exs_cons, ex_asg, ev_bi, evs_cons, evs_nil, ev_var, ev_int, List.map, List.replicate, List.length_cons, List.length_nil, List.cons_append, List.nil_append, List.getElem?_cons_succ, List.getElem?_cons_zero, Out.bind_ok, bi_abs, Out.lift_ok, bp_name, List.set, thenS_nx, ex_each, e2, Nat.reduceAdd, Nat.reduceSub, show (400 : Int).toNat = 400 from rfl, e, thenS_ret]
  rfl
theorem lo_spec2 {T : Tb} {N k : Nat} (hk : 2 ≤ k) (h : T.df "_law_lowest" = some ⟨2, 3, bLo⟩) (h1 : T.df "_law_common" = some ⟨2, 3, bCo⟩) (hf : T.fill "_law_common" 2 = []) (n d : Int) (st : Sto) (hn : n.natAbs < 2 ^ 277) (hd : 0 < d) (hb : d.natAbs < 2 ^ 9000) :
    callK T N k "_law_lowest" [.int n, .int d] st = .ok (FD (fr n d)) st := by
  obtain ⟨k, rfl⟩ : ∃ j, k = j + 2 := ⟨k - 2, by omega⟩
  rw [callK_df h]
  refine runD_same rfl ?_
  have g1 : (Int.gcd n d : Int) ≠ 0 := by have := gcd_pos' (n := n) (d := d) (by omega); omega
  have g2 : (Int.gcd n d : Int).natAbs < 2 ^ 9000 := gcd_lt (by omega) hb
  have hneg : ¬ d < 0 := by omega
  have e := co_spec2 (N := N) (k := k + 1) (by omega) h1 n d.natAbs st hn hb
  have e3 : ((d.natAbs : Nat) : Int) = d := by omega
  rw [e3] at e
  simp only [bLo, exs_cons, ex_ifs, et_, ev_cmp, ev_var, ev_int, List.map, List.replicate, List.length_cons, List.length_nil, List.cons_append, List.nil_append, List.getElem?_cons_succ, List.getElem?_cons_zero, Out.bind_ok, cv_lt, wayV_bl, hneg, decide_false, Bool.false_eq_true, if_false, Out.lift_ok, ex_par, ev_neg, negV_int, List.set, exs_nil, thenS_nx, ex_asg, ev_call, evs_cons, evs_nil, gmK_cl, gmK_fill, hf, List.append_nil, e, bp_name, ex_ret, ev_tup, ev_bin, bv_fdiv, need_pos (And.intro g1 g2), fdiv_nat, thenS_ret, FD, fr, Nat.reduceAdd, Nat.reduceSub]
/-! ### sums over one common denominator -/
def lowF (l : Int) (ps : List (Int × Int)) : Int := ps.foldl (fun a p => a * p.2) l
theorem lowF_cons (l : Int) (p : Int × Int) (ps : List (Int × Int)) : lowF l (p :: ps) = lowF (l * p.2) ps := rfl
theorem lowF_mul (ps : List (Int × Int)) : ∀ l : Int, lowF l ps = l * lowF 1 ps := by
  induction ps with
  | nil => intro l; simp [lowF]
  | cons p ps ih =>
    intro l
    rw [lowF_cons, lowF_cons, ih (l * p.2), ih (1 * p.2), Int.one_mul, Int.mul_assoc]
theorem lowF_ok {n : Nat} : ∀ {ps : List (Int × Int)} {l : Int} {m : Nat}, 0 < l → l.natAbs < 2 ^ m → (∀ p ∈ ps, FrB n p) → 0 < lowF l ps ∧ (lowF l ps).natAbs < 2 ^ (m + n * ps.length)
  | [], l, m, h0, h1, _ => ⟨h0, by simpa [lowF] using h1⟩
  | p :: ps, l, m, h0, h1, hp => by
    have hp0 := hp p (List.mem_cons_self ..)
    have := lowF_ok (ps := ps) (Int.mul_pos h0 hp0.2.1) (mul_lt h1 hp0.2.2) fun q hq => hp q (List.mem_cons_of_mem _ hq)
    rw [List.length_cons, Nat.mul_add, Nat.mul_one, show m + (n * ps.length + n) = m + n + n * ps.length by omega]
    exact this
/-- the terms of the sum -/
def termF (L : Int) (p : Int × Int) : Int := p.1 * (L / p.2)
theorem sum_low : ∀ (ps : List (Int × Int)) (h l : Int) (s : Int × Int), 0 < l → 0 < s.2 → Int.gcd s.1 s.2 = 1 → (∀ p ∈ ps, 0 < p.2) → s = fr h l → sumF s ps = fr (h * lowF 1 ps + (ps.map (termF (lowF l ps))).sum) (lowF l ps)
  | [], h, l, s, _, _, _, _, e => by simp [sumF, lowF, e]
  | p :: ps, h, l, s, hl, hs, g, hp, e => by
    have p0 := hp p (List.mem_cons_self ..)
    have hsp : 0 < s.2 * p.2 := Int.mul_pos hs p0
    have hlp : 0 < l * p.2 := Int.mul_pos hl p0
    have e1 : addF s p = fr (h * p.2 + p.1 * l) (l * p.2) := by
      unfold addF
      refine fr_congr (by omega) (by omega) ?_
      have k := fr_mul (n := h) (d := l) (by omega)
      rw [← e] at k
      have a1 : (s.1 * p.2 + p.1 * s.2) * (l * p.2) = (s.1 * l) * (p.2 * p.2) + p.1 * s.2 * l * p.2 := by
        rw [Int.add_mul]; congr 1 <;> ac_rfl
      have a2 : (h * p.2 + p.1 * l) * (s.2 * p.2) = (h * s.2) * (p.2 * p.2) + p.1 * s.2 * l * p.2 := by
        rw [Int.add_mul]; congr 1 <;> ac_rfl
      rw [a1, a2, k]
    obtain ⟨m, hm1, hm2⟩ : ∃ m : Nat, (h * p.2 + p.1 * l).natAbs < 2 ^ m ∧ (l * p.2).natAbs < 2 ^ m :=
      ⟨(h * p.2 + p.1 * l).natAbs + (l * p.2).natAbs, Nat.lt_of_le_of_lt (by omega) Nat.lt_two_pow_self, Nat.lt_of_le_of_lt (by omega) Nat.lt_two_pow_self⟩
    obtain ⟨_, z1, _, z2⟩ := fr_size (show l * p.2 ≠ 0 by omega) hm1 hm2
    have ih := sum_low ps (h * p.2 + p.1 * l) (l * p.2) (addF s p) hlp (by rw [e1]; exact z1) (by rw [e1]; exact z2) (fun q hq => hp q (List.mem_cons_of_mem _ hq)) e1
    show sumF (addF s p) ps = _
    rw [ih, lowF_cons, lowF_cons]
    congr 1
    rw [List.map_cons, List.sum_cons, Int.one_mul]
    have t1 : termF (lowF (l * p.2) ps) p = p.1 * l * lowF 1 ps := by
      unfold termF
      rw [lowF_mul ps (l * p.2)]
      have : l * p.2 * lowF 1 ps = p.2 * (l * lowF 1 ps) := by ac_rfl
      rw [this, Int.mul_ediv_cancel_left _ (by omega), Int.mul_assoc]
    rw [t1, lowF_mul ps p.2, Int.add_mul, Int.mul_assoc h]
    omega
theorem sum_zero {ps : List (Int × Int)} (hp : ∀ p ∈ ps, 0 < p.2) : sumF (0, 1) ps = fr ((ps.map (termF (lowF 1 ps))).sum) (lowF 1 ps) := by
  have := sum_low ps 0 1 (0, 1) (by decide) (by decide) (by decide) hp (by decide)
  rw [Int.zero_mul, Int.zero_add] at this
  exact this
theorem sum_size {ps : List (Int × Int)} {n m : Nat} {L : Int} (hL : L.natAbs < 2 ^ m) (hp : ∀ p ∈ ps, FrB n p) : ∀ c, ps.length ≤ c → ((ps.map (termF L)).sum).natAbs ≤ c * 2 ^ (n + m) := by
  induction ps with
  | nil => exact fun c _ => Nat.zero_le _
  | cons p ps ih =>
    intro c hc
    rw [List.length_cons] at hc
    obtain ⟨c, rfl⟩ : ∃ j, c = j + 1 := ⟨c - 1, by omega⟩
    have h1 := ih (fun q hq => hp q (List.mem_cons_of_mem _ hq)) c (by omega)
    have h2 : (termF L p).natAbs < 2 ^ (n + m) := by
      refine mul_lt (hp p (List.mem_cons_self ..)).1 (Nat.lt_of_le_of_lt ?_ hL)
      exact Int.natAbs_ediv_le_natAbs _ _
    rw [List.map_cons, List.sum_cons, Nat.add_mul, Nat.one_mul]
    have := Int.natAbs_add_le (termF L p) ((ps.map (termF L)).sum)
    omega
theorem intsOf_map : ∀ ns : List Int, intsOf (ns.map D.int) = some ns
  | [] => rfl
  | n :: ns => by
    rw [List.map_cons]
    show (intsOf (ns.map D.int)).map (n :: ·) = _
    rw [intsOf_map ns]
    rfl
@[simp] theorem bi_sumL (m : Bool) (ns : List Int) (st : Sto) : biV m .sum [.lst (ns.map D.int)] st = .ok (.int ns.sum) st := by
  show sumV [.lst (ns.map D.int)] st = _
  simp only [sumV, lstOf, intsOf_map]
theorem cv_neL {xs : List D} {st : Sto} (h : eqOk (.lst xs)) : cmpV .NotEq (.lst xs) (.lst xs) st = .ok false st := by
  show need (eqOk (.lst xs) ∧ eqOk (.lst xs)) _ = _
  rw [need_pos ⟨h, h⟩]
  show Out.ok (!eqD (.lst xs) (.lst xs)) st = _
  unfold eqD
  rw [eqD_same h.1]
  rfl
theorem show_bl (b : Bool) : showOk (.bl b) := sm_show 6 (by decide) (by decide) trivial (by simp [dep]) (by simp [PI.cnt])
end PI

/-! PI, part X: points. -/
namespace PI
open PySem PySem.Spec PyProof.Rows L2
theorem keep_stays {st : Sto} {x : D} {ys : List D} (h : seqOf st x = some ys) : ∀ p ∈ keepOf x ys, st[p.1]? = some (.lst p.2) := by
  intro p hp
  cases x with
  | ref n =>
    simp only [keepOf, List.mem_cons, List.not_mem_nil, or_false] at hp
    subst hp
    simp only [seqOf] at h
    split at h
    · rename_i xs e
      cases h
      exact e
    · cases h
  | _ => simp [keepOf] at hp
theorem it_zip {st : Sto} {x y : D} {ys zs : List D} (h : seqOf st x = some ys) (h2 : seqOf st y = some zs) : iterV .zip [x, y] st = .ok ⟨(ys.zip zs).map fun p => .tup [p.1, p.2], keepOf x ys ++ keepOf y zs⟩ st := by
  unfold iterV
  simp only [h, h2]
theorem st_zip {st : Sto} {x y : D} {ys zs : List D} (h : seqOf st x = some ys) (h2 : seqOf st y = some zs) (l : List D) : (⟨l, keepOf x ys ++ keepOf y zs⟩ : Itv).stays st := by
  intro p hp
  rcases List.mem_append.mp hp with hp | hp
  · exact keep_stays h p hp
  · exact keep_stays h2 p hp
theorem zip_maps {α β : Type} (f : α → D) (g : β → D) (xs : List α) (ys : List β) : ((xs.map f).zip (ys.map g)).map (fun p => D.tup [p.1, p.2]) = (xs.zip ys).map fun p => .tup [f p.1, g p.2] := by
  rw [List.zip_map, List.map_map]
  rfl
/-- what is walked by a plain for: a sequence -/
theorem it_seq {st : Sto} {x : D} {ys : List D} (h : seqOf st x = some ys) : iterV .plain [x] st = .ok ⟨ys, keepOf x ys⟩ st := by
  unfold iterV
  cases x with
  | str y => simp [seqOf] at h
  | _ => simp only [h]
theorem st_seq {st : Sto} {x : D} {ys : List D} (h : seqOf st x = some ys) (l : List D) : (⟨l, keepOf x ys⟩ : Itv).stays st := keep_stays h
/-- an item by its place, of any sequence -/
theorem ix_seq {st : Sto} {x d : D} {ys : List D} {z : Int} (i : Nat) (h : seqOf st x = some ys) (hz : z = (i : Nat)) (hd : ys[i]? = some d) : ixV x (.int z) st = .ok d st := by
  rw [hz]
  exact ix_at st h hd
abbrev bSumOf : List S := [.ret (.bi false .tuple [(.comp false (.call "added" [(.var 2), (.var 3)]) (.tup [(.name 2), (.name 3)]) .zip [(.var 0), (.var 1)] .gap [2, 3])])]
abbrev bScaled : List S := [.ret (.bi false .tuple [(.comp false (.call "times" [(.var 2), (.var 1)]) (.name 2) .plain [(.var 0)] .gap [2])])]
abbrev bDot : List S := [.ret (.call "total" [(.comp false (.call "times" [(.tup [(.var 2), (.int 1)]), (.var 3)]) (.tup [(.name 2), (.name 3)]) .zip [(.var 0), (.var 1)] .gap [2, 3])])]
abbrev bImage : List S := [.ret (.bi false .tuple [(.comp false (.call "dot" [(.var 2), (.var 1)]) (.name 2) .plain [(.var 0)] .gap [2])])]
abbrev bIntsOf : List S := [.asg (.name 1) (.call "common_divisor_of" [(.var 0)]), .ret (.tup [(.var 1), (.bi false .tuple [(.comp false (.bin false .Mult (.var 2) (.bin false .FloorDiv (.var 1) (.var 3))) (.tup [(.name 2), (.name 3)]) .plain [(.var 0)] .gap [2, 3])])])]
structure HasPt (T : Tb) (N : Nat) : Prop extends HasFr T N where
  add : T.df "added" = some ⟨2, 2, bAdd⟩
  tim : T.df "times" = some ⟨2, 2, bTim⟩
  tot : T.df "total" = some ⟨1, 3, bTo⟩
  zero : T.gl "ZERO" = some (.tup [.int 0, .int 1])
  fa : T.fill "added" 2 = []
  ft : T.fill "times" 2 = []
  fo : T.fill "total" 1 = []
section
variable {T : Tb} {N k m n : Nat}
theorem sumof_spec (hk : 4 ≤ k) (F : HasPt T N) (h : T.df "sum_of" = some ⟨2, 4, bSumOf⟩) (st : Sto) (x y : D) (ps qs : List (Int × Int)) (hx : seqOf st x = some (ps.map FD)) (hy : seqOf st y = some (qs.map FD)) (hp : ∀ p ∈ ps, FrB m p) (hq : ∀ p ∈ qs, FrB n p)
    (hl : ps.length ≤ 1000) (hmn : m + n ≤ 8999) (hN : 2 ^ (m + n) ≤ N) : callK T N k "sum_of" [x, y] st = .ok (.tup (((ps.zip qs).map fun p => addF p.1 p.2).map FD)) st := by
  obtain ⟨k, rfl⟩ : ∃ j, k = j + 4 := ⟨k - 4, by omega⟩
  rw [callK_df h]
  refine runD_same rfl ?_
  have iz := it_zip hx hy
  rw [zip_maps] at iz
  have sz : ((ps.zip qs).map fun p => D.tup [FD p.1, FD p.2]).length ≤ sizeLine := short_ok (by rw [List.length_map, List.length_zip]; omega)
  have ec := comp_map (G := gmK T N (k + 3)) (elt := .call "added" [(.var 2), (.var 3)]) (p := .tup [.name 2, .name 3]) (c := .gap) (own := [2, 3]) (en := [some x, some y, none, none]) (st_zip hx hy ((ps.zip qs).map fun p => D.tup [FD p.1, FD p.2])) (fun p : (Int × Int) × (Int × Int) => D.tup [FD p.1, FD p.2]) (fun p => FD (addF p.1 p.2)) (ps.zip qs) [] (fun p hpm => by
    have e := addF_spec (N := N) (k := k + 3) (by omega) F.toHasFr F.add st (hp _ (List.of_mem_zip hpm).1) (hq _ (List.of_mem_zip hpm).2) hmn hN
    simp only [turnS, wipeE, List.set, bp_tup, bps_cons, bps_nil, bp_name, ev_call, evs_cons, evs_nil, ev_var, List.getElem?_cons_succ, List.getElem?_cons_zero, Out.bind_ok, List.length_cons, List.length_nil, gmK_cl, gmK_fill, F.fa, List.append_nil, Nat.reduceAdd, e])
  simp only [bSumOf, exs_cons, ex_ret, ev_bi, evs_cons, evs_nil, ev_comp, ev_var, List.map, List.replicate, List.length_cons, List.length_nil, List.cons_append, List.nil_append, List.getElem?_cons_succ, List.getElem?_cons_zero, Out.bind_ok, iz, need_pos sz, Nat.reduceAdd, Nat.reduceSub]
  rw [ec]
  simp only [Out.calm_ok, Out.bind_ok, newL_f, List.nil_append, bi_tuple, seq_lst, Out.lift_ok, thenS_ret, List.map_map]
  rfl
theorem scaled_spec (hk : 4 ≤ k) (F : HasPt T N) (h : T.df "scaled" = some ⟨2, 3, bScaled⟩) (st : Sto) (x : D) (q : Int × Int) (ps : List (Int × Int)) (hx : seqOf st x = some (ps.map FD)) (hp : ∀ p ∈ ps, FrB m p) (hq : FrB n q) (hl : ps.length ≤ 1000) (hmn : m + n ≤ 8999) (hN : 2 ^ (m + n) ≤ N) :
    callK T N k "scaled" [x, FD q] st = .ok (.tup ((ps.map fun p => mulF p q).map FD)) st := by
  obtain ⟨k, rfl⟩ : ∃ j, k = j + 4 := ⟨k - 4, by omega⟩
  rw [callK_df h]
  refine runD_same rfl ?_
  have iz := it_seq hx
  have sz : (ps.map FD).length ≤ sizeLine := short_ok (by rw [List.length_map]; omega)
  have ec := comp_map (G := gmK T N (k + 3)) (elt := .call "times" [(.var 2), (.var 1)]) (p := .name 2) (c := .gap) (own := [2]) (en := [some x, some (FD q), none]) (st_seq hx (ps.map FD)) FD (fun p => FD (mulF p q)) ps [] (fun p hpm => by
    have e := mulF_spec (N := N) (k := k + 3) (by omega) F.toHasFr F.tim st (hp _ hpm) hq hmn hN
    simp only [turnS, wipeE, List.set, bp_name, ev_call, evs_cons, evs_nil, ev_var, List.getElem?_cons_succ, List.getElem?_cons_zero, Out.bind_ok, List.length_cons, List.length_nil, gmK_cl, gmK_fill, F.ft, List.append_nil, Nat.reduceAdd, e])
  simp only [bScaled, exs_cons, ex_ret, ev_bi, evs_cons, evs_nil, ev_comp, ev_var, List.map, List.replicate, List.length_cons, List.length_nil, List.cons_append, List.nil_append, List.getElem?_cons_succ, List.getElem?_cons_zero, Out.bind_ok, iz, need_pos sz, Nat.reduceAdd, Nat.reduceSub]
  rw [ec]
  simp only [Out.calm_ok, Out.bind_ok, newL_f, List.nil_append, bi_tuple, seq_lst, Out.lift_ok, thenS_ret, List.map_map]
  rfl
/-- the dot product of a row of integers and a point -/
def dotF (ns : List Int) (ps : List (Int × Int)) : Int × Int := sumF (0, 1) ((ns.zip ps).map fun p => mulF (p.1, 1) p.2)
theorem dot_spec (hk : 5 ≤ k) (F : HasPt T N) (h : T.df "dot" = some ⟨2, 4, bDot⟩) (st : Sto) (x y : D) (ns : List Int) (ps : List (Int × Int)) (hx : seqOf st x = some (ns.map D.int)) (hy : seqOf st y = some (ps.map FD)) (hn : ∀ z ∈ ns, z.natAbs < 2 ^ m) (hp : ∀ p ∈ ps, FrB n p)
    (hl : ps.length ≤ 1000) (h0 : 1 ≤ m) (h1 : 1 + (m + n + 1) * ps.length ≤ 8000) (h2 : m + n ≤ 900) (hN : 2 ^ (1 + (m + n + 1) * ps.length + (m + n)) ≤ N) : callK T N k "dot" [x, y] st = .ok (FD (dotF ns ps)) st := by
  obtain ⟨k, rfl⟩ : ∃ j, k = j + 5 := ⟨k - 5, by omega⟩
  rw [callK_df h]
  refine runD_same rfl ?_
  have iz := it_zip hx hy
  rw [zip_maps] at iz
  have lz : (ns.zip ps).length ≤ ps.length := by rw [List.length_zip]; omega
  have sz : ((ns.zip ps).map fun p => D.tup [D.int p.1, FD p.2]).length ≤ sizeLine := short_ok (by rw [List.length_map]; omega)
  have fb1 : ∀ p ∈ ns.zip ps, FrB m (p.1, 1) ∧ FrB n p.2 := fun p hpm => ⟨⟨hn _ (List.of_mem_zip hpm).1, show (0 : Int) < 1 by decide, Nat.lt_of_lt_of_le (show (1 : Int).natAbs < 2 ^ 1 by decide) (Nat.pow_le_pow_right (by decide) h0)⟩, hp _ (List.of_mem_zip hpm).2⟩
  have ec := comp_map (G := gmK T N (k + 4)) (elt := .call "times" [(.tup [(.var 2), (.int 1)]), (.var 3)]) (p := .tup [.name 2, .name 3]) (c := .gap) (own := [2, 3]) (en := [some x, some y, none, none]) (st_zip hx hy ((ns.zip ps).map fun p => D.tup [D.int p.1, FD p.2])) (fun p : Int × (Int × Int) => D.tup [D.int p.1, FD p.2]) (fun p => FD (mulF (p.1, 1) p.2)) (ns.zip ps) [] (fun p hpm => by
    have e := mulF_spec (N := N) (k := k + 4) (by omega) F.toHasFr F.tim st (fb1 p hpm).1 (fb1 p hpm).2 (by omega) (Nat.le_trans (Nat.pow_le_pow_right (by decide) (by omega)) hN)
    rw [show FD (p.1, 1) = D.tup [.int p.1, .int 1] from rfl] at e
    simp only [turnS, wipeE, List.set, bp_tup, bps_cons, bps_nil, bp_name, ev_call, evs_cons, evs_nil, ev_var, ev_int, ev_tup, List.getElem?_cons_succ, List.getElem?_cons_zero, Out.bind_ok, List.length_cons, List.length_nil, gmK_cl, gmK_fill, F.ft, List.append_nil, Nat.reduceAdd, e])
  have lm : ((ns.zip ps).map fun p => mulF (p.1, 1) p.2).length ≤ ps.length := by rw [List.length_map]; exact lz
  have fb2 : ∀ q ∈ (ns.zip ps).map fun p => mulF (p.1, 1) p.2, FrB (m + n) q := fun q hq => by
    obtain ⟨p, hpm, rfl⟩ := List.mem_map.mp hq
    exact (mulF_ok (fb1 p hpm).1 (fb1 p hpm).2).1
  have le1 : (m + n + 1) * ((ns.zip ps).map fun p => mulF (p.1, 1) p.2).length ≤ (m + n + 1) * ps.length := Nat.mul_le_mul_left _ lm
  have et := to_spec (T := T) (N := N) (k := k + 4) (n := m + n) (by omega) F.tot F.toHasFr F.add F.fa F.zero st (.lst (((ns.zip ps).map fun p => mulF (p.1, 1) p.2).map FD)) _ rfl (stays_nil rfl) fb2 (by omega) h2 (Nat.le_trans (Nat.pow_le_pow_right (by decide) (by omega)) hN)
  rw [List.map_map] at et
  simp only [bDot, exs_cons, ex_ret, ev_call, ev_bi, evs_cons, evs_nil, ev_comp, ev_var, List.map, List.replicate, List.length_cons, List.length_nil, List.cons_append, List.nil_append, List.getElem?_cons_succ, List.getElem?_cons_zero, Out.bind_ok, iz, need_pos sz, Nat.reduceAdd, Nat.reduceSub]
  rw [ec]
  simp only [Out.calm_ok, Out.bind_ok, newL_f, List.nil_append, gmK_cl, gmK_fill, List.length_cons, List.length_nil, Nat.reduceAdd, F.fo, List.append_nil]
  rw [show (fun p : Int × (Int × Int) => FD (mulF (p.1, 1) p.2)) = FD ∘ (fun p => mulF (p.1, 1) p.2) from rfl, et]
  rfl
theorem image_spec (hk : 6 ≤ k) (F : HasPt T N) (h0' : T.df "image" = some ⟨2, 3, bImage⟩) (h : T.df "dot" = some ⟨2, 4, bDot⟩) (hf : T.fill "dot" 2 = []) (st : Sto) (x y : D) (rows : List (List Int)) (rd : List Int → D) (hrd : ∀ r ∈ rows, seqOf st (rd r) = some (r.map D.int)) (ps : List (Int × Int)) (hx : seqOf st x = some (rows.map rd)) (hy : seqOf st y = some (ps.map FD)) (hn : ∀ r ∈ rows, ∀ z ∈ r, z.natAbs < 2 ^ m) (hp : ∀ p ∈ ps, FrB n p)
    (hl : ps.length ≤ 1000) (hr : rows.length ≤ 1000) (h0 : 1 ≤ m) (h1 : 1 + (m + n + 1) * ps.length ≤ 8000) (h2 : m + n ≤ 900) (hN : 2 ^ (1 + (m + n + 1) * ps.length + (m + n)) ≤ N) : callK T N k "image" [x, y] st = .ok (.tup ((rows.map fun r => dotF r ps).map FD)) st := by
  obtain ⟨k, rfl⟩ : ∃ j, k = j + 6 := ⟨k - 6, by omega⟩
  rw [callK_df h0']
  refine runD_same rfl ?_
  have iz := it_seq hx
  have sz : (rows.map rd).length ≤ sizeLine := short_ok (by rw [List.length_map]; omega)
  have ec := comp_map (G := gmK T N (k + 5)) (elt := .call "dot" [(.var 2), (.var 1)]) (p := .name 2) (c := .gap) (own := [2]) (en := [some x, some y, none]) (st_seq hx (rows.map rd)) rd (fun r => FD (dotF r ps)) rows [] (fun r hrm => by
    have e := dot_spec (N := N) (k := k + 5) (by omega) F h st (rd r) y r ps (hrd r hrm) hy (hn r hrm) hp hl h0 h1 h2 hN
    simp only [turnS, wipeE, List.set, bp_name, ev_call, evs_cons, evs_nil, ev_var, List.getElem?_cons_succ, List.getElem?_cons_zero, Out.bind_ok, List.length_cons, List.length_nil, gmK_cl, gmK_fill, hf, List.append_nil, Nat.reduceAdd, e])
  simp only [bImage, exs_cons, ex_ret, ev_bi, evs_cons, evs_nil, ev_comp, ev_var, List.map, List.replicate, List.length_cons, List.length_nil, List.cons_append, List.nil_append, List.getElem?_cons_succ, List.getElem?_cons_zero, Out.bind_ok, iz, need_pos sz, Nat.reduceAdd, Nat.reduceSub]
  rw [ec]
  simp only [Out.calm_ok, Out.bind_ok, newL_f, List.nil_append, bi_tuple, seq_lst, Out.lift_ok, thenS_ret, List.map_map]
  rfl
theorem fdiv_pos {a b : Int} (h : 0 < b) : a.fdiv b = a / b := Int.fdiv_eq_ediv_of_nonneg _ (by omega)
theorem intsof_spec (hk : 3 ≤ k) (h : T.df "integers_of" = some ⟨1, 4, bIntsOf⟩) (h0 : T.df "common_divisor_of" = some ⟨1, 4, bCd⟩) (h1 : T.df "greatest_divisor" = some ⟨2, 2, bGd⟩) (hf : T.fill "greatest_divisor" 2 = []) (hf2 : T.fill "common_divisor_of" 1 = []) (st : Sto) (x : D) (ps : List (Int × Int)) (hN : 2 ^ n ≤ N) (hn : n ≤ 64) (hl : 1 + n * ps.length ≤ 8000) (hl2 : ps.length ≤ 1000)
    (hx : seqOf st x = some (ps.map FD)) (hp : ∀ p ∈ ps, FrB n p) : callK T N k "integers_of" [x] st = .ok (.tup [.int (lcmF 1 ps), .tup ((ps.map (termF (lcmF 1 ps))).map D.int)]) st := by
  obtain ⟨k, rfl⟩ : ∃ j, k = j + 3 := ⟨k - 3, by omega⟩
  rw [callK_df h]
  refine runD_same rfl ?_
  have iz := it_seq hx
  have cd := cd_spec (T := T) (N := N) (k := k + 2) (by omega) h0 h1 hf st x ps n hN (by omega) hl iz (st_seq hx _) fun p hpm => ⟨(hp p hpm).2.1, (hp p hpm).2.2⟩
  have sz : (ps.map FD).length ≤ sizeLine := short_ok (by rw [List.length_map]; omega)
  have ec := comp_map (G := gmK T N (k + 2)) (elt := .bin false .Mult (.var 2) (.bin false .FloorDiv (.var 1) (.var 3))) (p := .tup [.name 2, .name 3]) (c := .gap) (own := [2, 3]) (en := [some x, some (.int (lcmF 1 ps)), none, none]) (st_seq hx (ps.map FD)) FD (fun p => D.int (termF (lcmF 1 ps) p)) ps [] (fun p hpm => by
    have hp0 := hp p hpm
    have dz : p.2 ≠ 0 ∧ p.2.natAbs < 2 ^ 9000 := ⟨by have := hp0.2.1; omega, up9000 hp0.2.2 (by omega)⟩
    have m1 : mulOk p.1 (((lcmF 1 ps : Nat) : Int) / p.2) := mulOk_l (pow_up hp0.1 (by omega))
    simp only [FD, turnS, wipeE, List.set, bp_tup, bps_cons, bps_nil, bp_name, ev_bin, ev_var, List.getElem?_cons_succ, List.getElem?_cons_zero, Out.bind_ok, bv_fdiv, need_pos dz, fdiv_pos hp0.2.1, bv_mul, need_pos m1]
    rfl)
  simp only [bIntsOf, exs_cons, ex_asg, ex_ret, ev_call, ev_tup, ev_bi, evs_cons, evs_nil, ev_comp, ev_var, List.map, List.replicate, List.length_cons, List.length_nil, List.cons_append, List.nil_append, List.append_nil, List.getElem?_cons_succ, List.getElem?_cons_zero, Out.bind_ok, Out.lift_ok, bp_name, List.set, thenS_nx, gmK_cl, gmK_fill, hf2, cd, iz, need_pos sz, Nat.reduceAdd, Nat.reduceSub]
  rw [ec]
  simp only [Out.calm_ok, Out.bind_ok, newL_f, List.nil_append, bi_tuple, seq_lst, Out.lift_ok, thenS_ret, List.map_map]
  rfl
end
/-! ### reading totals of parts that are not in lowest terms -/
theorem addF_congr {p q q' : Int × Int} (hp : p.2 ≠ 0) (hq : q.2 ≠ 0) (hq' : q'.2 ≠ 0) (h : q.1 * q'.2 = q'.1 * q.2) : addF p q = addF p q' := by
  unfold addF
  refine fr_congr (Int.mul_ne_zero hp hq) (Int.mul_ne_zero hp hq') ?_
  have a1 : (p.1 * q.2 + q.1 * p.2) * (p.2 * q'.2) = p.1 * q.2 * p.2 * q'.2 + (q.1 * q'.2) * (p.2 * p.2) := by
    rw [Int.add_mul]; congr 1 <;> ac_rfl
  have a2 : (p.1 * q'.2 + q'.1 * p.2) * (p.2 * q.2) = p.1 * q.2 * p.2 * q'.2 + (q'.1 * q.2) * (p.2 * p.2) := by
    rw [Int.add_mul]; congr 1 <;> ac_rfl
  rw [a1, a2, h]
theorem sumF_congr {α : Type} {f g : α → Int × Int} : ∀ {l : List α} {s : Int × Int}, 0 < s.2 → (∀ x ∈ l, 0 < (f x).2 ∧ 0 < (g x).2 ∧ (f x).1 * (g x).2 = (g x).1 * (f x).2) → sumF s (l.map f) = sumF s (l.map g)
  | [], _, _, _ => rfl
  | x :: l, s, hs, h => by
    obtain ⟨h1, h2, h3⟩ := h x (List.mem_cons_self ..)
    show sumF (addF s (f x)) (l.map f) = sumF (addF s (g x)) (l.map g)
    rw [addF_congr (by omega) (by omega) (by omega) h3]
    obtain ⟨m, b1, b2, b3, b4⟩ : ∃ m : Nat, s.1.natAbs < 2 ^ m ∧ s.2.natAbs < 2 ^ m ∧ (g x).1.natAbs < 2 ^ m ∧ (g x).2.natAbs < 2 ^ m := by
      refine ⟨s.1.natAbs + s.2.natAbs + (g x).1.natAbs + (g x).2.natAbs, ?_, ?_, ?_, ?_⟩ <;> exact Nat.lt_of_le_of_lt (by omega) Nat.lt_two_pow_self
    exact sumF_congr (addF_ok (m := m) (n := m) ⟨b1, hs, b2⟩ ⟨b3, h2, b4⟩).1.2.1 fun y hy => h y (List.mem_cons_of_mem _ hy)
theorem addF_zero {p : Int × Int} (h0 : 0 < p.2) (g : Int.gcd p.1 p.2 = 1) : addF (0, 1) p = p := by
  unfold addF
  show fr (0 * p.2 + p.1 * 1) (1 * p.2) = p
  rw [Int.zero_mul, Int.zero_add, Int.mul_one, Int.one_mul, fr_self h0 g]
theorem show_FDs {m : Nat} (h0 : 6 ≤ m) (hm : m ≤ 1900) {ps : List (Int × Int)} (hp : ∀ p ∈ ps, FrB m p) (hc : (m + 4) * ((2 * m + 5) * ps.length) + (m + 2) ≤ 16777216) : showOk (.tup (ps.map FD)) := by
  have s := smL_map (f := FD) (m := m) (l := ps) fun p h => sm_FD (hp p h).1 (hp p h).2.2
  have d := depL_map (f := FD) (n := 1) (l := ps) fun p _ => Nat.le_of_eq (dep_FD p)
  have c := cntL_map (f := FD) (m := m) (n := 2 * m + 4) (l := ps) fun p _ => Nat.le_of_eq (cnt_FD m p)
  refine sm_show m h0 (by omega) (by simpa only [sm] using s) (by simp only [dep]; omega) ?_
  simp only [PI.cnt]
  have := Nat.mul_le_mul_left (m + 4) c
  have e : 2 * m + 4 + 1 = 2 * m + 5 := rfl
  rw [e] at this
  omega
end PI

/-! PI, part Y: fractions as rational numbers. -/
namespace PI
open PySem PySem.Spec PyProof.Rows L2
def val (p : Int × Int) : Rat := (p.1 : Rat) / (p.2 : Rat)
/-- in lowest terms -/
def Low (p : Int × Int) : Prop := 0 < p.2 ∧ Int.gcd p.1 p.2 = 1
theorem ratne {a : Int} (h : a ≠ 0) : (a : Rat) ≠ 0 := fun e => h (Rat.intCast_eq_zero_iff.mp e)
theorem ratpos {a : Int} (h : 0 < a) : (0 : Rat) < (a : Rat) := by
  have := Rat.intCast_lt_intCast.mpr h
  simpa using this
theorem fr_low' {n d : Int} (hd : d ≠ 0) : Low (fr n d) := by
  obtain ⟨m, h1, h2⟩ : ∃ m : Nat, n.natAbs < 2 ^ m ∧ d.natAbs < 2 ^ m := ⟨n.natAbs + d.natAbs, Nat.lt_of_le_of_lt (by omega) Nat.lt_two_pow_self, Nat.lt_of_le_of_lt (by omega) Nat.lt_two_pow_self⟩
  obtain ⟨_, a, _, b⟩ := fr_size hd h1 h2
  exact ⟨a, b⟩
theorem val_fr {n d : Int} (hd : d ≠ 0) : val (fr n d) = (n : Rat) / (d : Rat) := by
  have h := fr_mul (n := n) hd
  have l := (fr_low' (n := n) hd).1
  generalize fr n d = p at *
  have h' : (p.1 : Rat) * (d : Rat) = (n : Rat) * (p.2 : Rat) := by
    rw [← Rat.intCast_mul, ← Rat.intCast_mul, h]
  have d0 := ratne hd
  have p0 := ratne (show p.2 ≠ 0 by omega)
  unfold val
  grind
theorem val_inj {p q : Int × Int} (hp : Low p) (hq : Low q) (h : val p = val q) : p = q := by
  have p0 := ratne (show p.2 ≠ 0 by have := hp.1; omega)
  have q0 := ratne (show q.2 ≠ 0 by have := hq.1; omega)
  have e : (p.1 : Rat) * (q.2 : Rat) = (q.1 : Rat) * (p.2 : Rat) := by
    unfold val at h
    grind
  rw [← Rat.intCast_mul, ← Rat.intCast_mul] at e
  obtain ⟨a, b⟩ := low_uniq (Rat.intCast_inj.mp e) hp.1 hq.1 hp.2 hq.2
  exact Prod.ext a b
section
variable {p q : Int × Int}
theorem val_add (hp : 0 < p.2) (hq : 0 < q.2) : val (addF p q) = val p + val q := by
  unfold addF
  rw [val_fr (Int.mul_ne_zero (by omega) (by omega)), Rat.intCast_add, Rat.intCast_mul, Rat.intCast_mul, Rat.intCast_mul]
  have a := ratne (show p.2 ≠ 0 by omega)
  have b := ratne (show q.2 ≠ 0 by omega)
  unfold val
  grind
theorem val_sub (hp : 0 < p.2) (hq : 0 < q.2) : val (subF p q) = val p - val q := by
  unfold subF
  rw [val_fr (Int.mul_ne_zero (by omega) (by omega)), Rat.intCast_sub, Rat.intCast_mul, Rat.intCast_mul, Rat.intCast_mul]
  have a := ratne (show p.2 ≠ 0 by omega)
  have b := ratne (show q.2 ≠ 0 by omega)
  unfold val
  grind
theorem val_mul (hp : 0 < p.2) (hq : 0 < q.2) : val (mulF p q) = val p * val q := by
  unfold mulF
  rw [val_fr (Int.mul_ne_zero (by omega) (by omega)), Rat.intCast_mul, Rat.intCast_mul]
  have a := ratne (show p.2 ≠ 0 by omega)
  have b := ratne (show q.2 ≠ 0 by omega)
  unfold val
  grind
def divF (p q : Int × Int) : Int × Int := fr (p.1 * q.2) (p.2 * q.1)
theorem val_div (hp : 0 < p.2) (hq : 0 < q.2) (h0 : q.1 ≠ 0) : val (divF p q) = val p / val q := by
  unfold divF
  rw [val_fr (Int.mul_ne_zero (by omega) h0), Rat.intCast_mul, Rat.intCast_mul]
  have a := ratne (show p.2 ≠ 0 by omega)
  have b := ratne (show q.2 ≠ 0 by omega)
  have c := ratne h0
  unfold val
  grind
theorem add_low (hp : 0 < p.2) (hq : 0 < q.2) : Low (addF p q) := fr_low' (Int.mul_ne_zero (by omega) (by omega))
theorem sub_low (hp : 0 < p.2) (hq : 0 < q.2) : Low (subF p q) := fr_low' (Int.mul_ne_zero (by omega) (by omega))
theorem mul_low (hp : 0 < p.2) (hq : 0 < q.2) : Low (mulF p q) := fr_low' (Int.mul_ne_zero (by omega) (by omega))
theorem val_lt (hp : 0 < p.2) (hq : 0 < q.2) : p.1 * q.2 < q.1 * p.2 ↔ val p < val q := by
  have a := ratpos hp
  have b := ratpos hq
  rw [← Rat.intCast_lt_intCast, Rat.intCast_mul, Rat.intCast_mul]
  unfold val
  rw [Rat.div_lt_iff a]
  have e : (q.1 : Rat) / (q.2 : Rat) * (p.2 : Rat) = (q.1 : Rat) * (p.2 : Rat) / (q.2 : Rat) := by grind
  rw [e, Rat.lt_div_iff b]
end
theorem val_int (n : Int) : val (n, 1) = (n : Rat) := by
  unfold val
  simp
  grind
theorem sum_val : ∀ {ps : List (Int × Int)} {s : Int × Int}, Low s → (∀ p ∈ ps, 0 < p.2) → Low (sumF s ps) ∧ val (sumF s ps) = val s + (ps.map val).sum
  | [], s, hs, _ => ⟨hs, by simp [sumF, Rat.add_zero]⟩
  | p :: ps, s, hs, hp => by
    have p0 := hp p (List.mem_cons_self ..)
    obtain ⟨a, b⟩ := sum_val (ps := ps) (add_low hs.1 p0) fun q hq => hp q (List.mem_cons_of_mem _ hq)
    refine ⟨a, ?_⟩
    show val (sumF (addF s p) ps) = _
    rw [b, val_add hs.1 p0, List.map_cons, List.sum_cons]
    grind
/-! ### points -/
def addP (a b : List (Int × Int)) : List (Int × Int) := (a.zip b).map fun p => addF p.1 p.2
def scaP (a : List (Int × Int)) (f : Int × Int) : List (Int × Int) := a.map fun p => mulF p f
def imgP (rows : List (List Int)) (p : List (Int × Int)) : List (Int × Int) := rows.map fun r => dotF r p
def AllLow (p : List (Int × Int)) : Prop := ∀ x ∈ p, Low x
theorem val_zero : val (0, 1) = 0 := by
  rw [val_int]
  rfl
theorem low_zero : Low (0, 1) := ⟨by decide, by decide⟩
theorem dot_val {ns : List Int} {ps : List (Int × Int)} (hp : AllLow ps) : Low (dotF ns ps) ∧ val (dotF ns ps) = ((ns.zip ps).map fun p => (p.1 : Rat) * val p.2).sum := by
  unfold dotF
  obtain ⟨a, b⟩ := sum_val (ps := (ns.zip ps).map fun p => mulF (p.1, 1) p.2) low_zero fun q hq => by
    obtain ⟨p, hpm, rfl⟩ := List.mem_map.mp hq
    exact (mul_low (p := (p.1, 1)) (show (0 : Int) < 1 by decide) (hp _ (List.of_mem_zip hpm).2).1).1
  refine ⟨a, ?_⟩
  rw [b, val_zero, Rat.zero_add, List.map_map]
  congr 1
  refine List.map_congr_left fun p hpm => ?_
  show val (mulF (p.1, 1) p.2) = _
  rw [val_mul (p := (p.1, 1)) (show (0 : Int) < 1 by decide) (hp _ (List.of_mem_zip hpm).2).1, val_int]
theorem addP_low {a b : List (Int × Int)} (ha : AllLow a) (hb : AllLow b) : AllLow (addP a b) := fun x hx => by
  obtain ⟨p, hpm, rfl⟩ := List.mem_map.mp hx
  exact add_low (ha _ (List.of_mem_zip hpm).1).1 (hb _ (List.of_mem_zip hpm).2).1
theorem scaP_low {a : List (Int × Int)} {f : Int × Int} (ha : AllLow a) (hf : Low f) : AllLow (scaP a f) := fun x hx => by
  obtain ⟨p, hpm, rfl⟩ := List.mem_map.mp hx
  exact mul_low (ha _ hpm).1 hf.1
theorem imgP_low {rows : List (List Int)} {a : List (Int × Int)} (ha : AllLow a) : AllLow (imgP rows a) := fun x hx => by
  obtain ⟨r, _, rfl⟩ := List.mem_map.mp hx
  exact (dot_val ha).1
theorem dot_addP : ∀ {ns : List Int} {a b : List (Int × Int)}, AllLow a → AllLow b → a.length = b.length → val (dotF ns (addP a b)) = val (dotF ns a) + val (dotF ns b) := by
  intro ns a b ha hb hl
  rw [(dot_val (addP_low ha hb)).2, (dot_val ha).2, (dot_val hb).2]
  induction ns generalizing a b with
  | nil => simp [Rat.add_zero]
  | cons n ns ih =>
    cases a with
    | nil =>
      cases b with
      | nil => simp [addP, Rat.add_zero]
      | cons y b => simp at hl
    | cons x a =>
      cases b with
      | nil => simp at hl
      | cons y b =>
        have h := ih (a := a) (b := b) (fun z hz => ha z (List.mem_cons_of_mem _ hz)) (fun z hz => hb z (List.mem_cons_of_mem _ hz)) (by simpa using hl)
        have e : addP (x :: a) (y :: b) = addF x y :: addP a b := rfl
        rw [e, List.zip_cons_cons, List.zip_cons_cons, List.zip_cons_cons, List.map_cons, List.map_cons, List.map_cons, List.sum_cons, List.sum_cons, List.sum_cons, h, val_add (ha x (List.mem_cons_self ..)).1 (hb y (List.mem_cons_self ..)).1]
        grind
theorem dot_scaP : ∀ {ns : List Int} {a : List (Int × Int)} {f : Int × Int}, AllLow a → Low f → val (dotF ns (scaP a f)) = val (dotF ns a) * val f := by
  intro ns a f ha hf
  rw [(dot_val (scaP_low ha hf)).2, (dot_val ha).2]
  induction ns generalizing a with
  | nil => simp [Rat.zero_mul]
  | cons n ns ih =>
    cases a with
    | nil => simp [scaP, Rat.zero_mul]
    | cons x a =>
      have h := ih (a := a) (fun z hz => ha z (List.mem_cons_of_mem _ hz))
      have e : scaP (x :: a) f = mulF x f :: scaP a f := rfl
      rw [e, List.zip_cons_cons, List.zip_cons_cons, List.map_cons, List.map_cons, List.sum_cons, List.sum_cons, h, val_mul (ha x (List.mem_cons_self ..)).1 hf.1]
      grind
theorem img_addP {a b : List (Int × Int)} (ha : AllLow a) (hb : AllLow b) (hl : a.length = b.length) : ∀ rows : List (List Int), imgP rows (addP a b) = addP (imgP rows a) (imgP rows b)
  | [] => rfl
  | r :: rows => by
    show dotF r (addP a b) :: imgP rows (addP a b) = addF (dotF r a) (dotF r b) :: addP (imgP rows a) (imgP rows b)
    rw [img_addP ha hb hl rows]
    congr 1
    refine val_inj (dot_val (addP_low ha hb)).1 (add_low (dot_val ha).1.1 (dot_val hb).1.1) ?_
    rw [dot_addP ha hb hl, val_add (dot_val ha).1.1 (dot_val hb).1.1]
theorem img_scaP {a : List (Int × Int)} {f : Int × Int} (ha : AllLow a) (hf : Low f) : ∀ rows : List (List Int), imgP rows (scaP a f) = scaP (imgP rows a) f
  | [] => rfl
  | r :: rows => by
    show dotF r (scaP a f) :: imgP rows (scaP a f) = mulF (dotF r a) f :: scaP (imgP rows a) f
    rw [img_scaP ha hf rows]
    congr 1
    refine val_inj (dot_val (scaP_low ha hf)).1 (mul_low (dot_val ha).1.1 hf.1) ?_
    rw [dot_scaP ha hf, val_mul (dot_val ha).1.1 hf.1]
/-- the mixing's loop -/
def mixL (acc : List (Int × Int)) (l : List ((Int × Int) × List (Int × Int))) : List (Int × Int) := l.foldl (fun a p => addP a (scaP p.2 p.1)) acc
theorem addP_len {a b : List (Int × Int)} (h : a.length = b.length) : (addP a b).length = a.length := by
  unfold addP
  rw [List.length_map, List.length_zip]
  omega
theorem scaP_len {a : List (Int × Int)} {f : Int × Int} : (scaP a f).length = a.length := List.length_map ..
theorem mixL_img {rows : List (List Int)} {n : Nat} : ∀ {l : List ((Int × Int) × List (Int × Int))} {acc : List (Int × Int)}, AllLow acc → acc.length = n → (∀ p ∈ l, Low p.1 ∧ AllLow p.2 ∧ p.2.length = n) →
    imgP rows (mixL acc l) = mixL (imgP rows acc) (l.map fun p => (p.1, imgP rows p.2))
  | [], _, _, _, _ => rfl
  | p :: l, acc, h1, h2, h3 => by
    obtain ⟨a, b, c⟩ := h3 p (List.mem_cons_self ..)
    show imgP rows (mixL (addP acc (scaP p.2 p.1)) l) = mixL (addP (imgP rows acc) (scaP (imgP rows p.2) p.1)) (l.map fun p => (p.1, imgP rows p.2))
    rw [mixL_img (n := n) (addP_low h1 (scaP_low b a)) (by rw [addP_len (by rw [scaP_len]; omega)]; exact h2) (fun q hq => h3 q (List.mem_cons_of_mem _ hq)), img_addP h1 (scaP_low b a) (by rw [scaP_len]; omega), img_scaP b a]
theorem sca_add {x s w : Int × Int} (hx : Low x) (hs : Low s) (hw : Low w) : addF (mulF x s) (mulF x w) = mulF x (addF s w) := by
  refine val_inj (add_low (mul_low hx.1 hs.1).1 (mul_low hx.1 hw.1).1) (mul_low hx.1 (add_low hs.1 hw.1).1) ?_
  rw [val_add (mul_low hx.1 hs.1).1 (mul_low hx.1 hw.1).1, val_mul hx.1 hs.1, val_mul hx.1 hw.1, val_mul hx.1 (add_low hs.1 hw.1).1, val_add hs.1 hw.1]
  grind
theorem addP_sca : ∀ {a : List (Int × Int)} {s w : Int × Int}, AllLow a → Low s → Low w → addP (scaP a s) (scaP a w) = scaP a (addF s w)
  | [], _, _, _, _, _ => rfl
  | x :: a, s, w, ha, hs, hw => by
    show addF (mulF x s) (mulF x w) :: addP (scaP a s) (scaP a w) = mulF x (addF s w) :: scaP a (addF s w)
    rw [sca_add (ha x (List.mem_cons_self ..)) hs hw, addP_sca (fun y hy => ha y (List.mem_cons_of_mem _ hy)) hs hw]
theorem mixL_same {a : List (Int × Int)} (ha : AllLow a) : ∀ {ws : List (Int × Int)} {s : Int × Int}, Low s → (∀ w ∈ ws, Low w) → mixL (scaP a s) (ws.map fun w => (w, a)) = scaP a (sumF s ws)
  | [], _, _, _ => rfl
  | w :: ws, s, hs, hw => by
    have w0 := hw w (List.mem_cons_self ..)
    show mixL (addP (scaP a s) (scaP a w)) (ws.map fun w => (w, a)) = scaP a (sumF (addF s w) ws)
    rw [addP_sca ha hs w0, mixL_same ha (add_low hs.1 w0.1) fun v hv => hw v (List.mem_cons_of_mem _ hv)]
theorem low_one : Low (1, 1) := ⟨by decide, by decide⟩
theorem sca_one {a : List (Int × Int)} (ha : AllLow a) : scaP a (1, 1) = a := by
  unfold scaP
  conv => rhs; rw [← List.map_id a]
  refine List.map_congr_left fun x hx => ?_
  refine val_inj (mul_low (ha x hx).1 (by decide)) (ha x hx) ?_
  rw [val_mul (ha x hx).1 (by decide), val_int]
  show val x * 1 = val x
  grind
theorem addP_comm : ∀ {a b : List (Int × Int)}, AllLow a → AllLow b → addP a b = addP b a
  | [], [], _, _ => rfl
  | [], _ :: _, _, _ => rfl
  | _ :: _, [], _, _ => rfl
  | x :: a, y :: b, ha, hb => by
    have hx := ha x (List.mem_cons_self ..)
    have hy := hb y (List.mem_cons_self ..)
    show addF x y :: addP a b = addF y x :: addP b a
    rw [addP_comm (fun z hz => ha z (List.mem_cons_of_mem _ hz)) fun z hz => hb z (List.mem_cons_of_mem _ hz)]
    congr 1
    refine val_inj (add_low hx.1 hy.1) (add_low hy.1 hx.1) ?_
    rw [val_add hx.1 hy.1, val_add hy.1 hx.1]
    grind
/-! ### mixed -/
theorem cut_one (xs : List D) : cutD xs (some 1) none = xs.drop 1 := by
  unfold cutD
  rw [show HT.sIx xs.length 0 (some 1) = min 1 xs.length from HT.sIx_nat xs.length 0 1, HT.sIx_none]
  cases xs with
  | nil => rfl
  | cons x r =>
    have e : min 1 (x :: r).length = 1 := by simp
    rw [e]
    simp
def PD (p : List (Int × Int)) : D := .tup (p.map FD)
abbrev bMx : List S := [.asg (.name 2) (.call "scaled" [(.ix (.var 1) (.int 0)), (.ix (.var 0) (.int 0))]), .each (.tup [(.name 3), (.name 4)]) .zip [(.slice false (.var 0) (.int 1) .gap), (.slice false (.var 1) (.int 1) .gap)] [.asg (.name 2) (.call "sum_of" [(.var 2), (.call "scaled" [(.var 4), (.var 3)])])], .ret (.var 2)]
def AllB (m : Nat) (p : List (Int × Int)) : Prop := ∀ x ∈ p, FrB m x
theorem AllB.up {m n : Nat} {p : List (Int × Int)} (h : AllB m p) (hm : m ≤ n) : AllB n p := fun x hx => (h x hx).up hm
theorem addP_b {m n : Nat} {a b : List (Int × Int)} (ha : AllB m a) (hb : AllB n b) : AllB (m + n + 1) (addP a b) := fun x hx => by
  obtain ⟨p, hpm, rfl⟩ := List.mem_map.mp hx
  exact (addF_ok (ha _ (List.of_mem_zip hpm).1) (hb _ (List.of_mem_zip hpm).2)).1
theorem scaP_b {m n : Nat} {a : List (Int × Int)} {f : Int × Int} (ha : AllB m a) (hf : FrB n f) : AllB (m + n) (scaP a f) := fun x hx => by
  obtain ⟨p, hpm, rfl⟩ := List.mem_map.mp hx
  exact (mulF_ok (ha _ hpm) hf).1
structure HasMx (T : Tb) (N : Nat) : Prop extends HasPt T N where
  so : T.df "sum_of" = some ⟨2, 4, bSumOf⟩
  sc : T.df "scaled" = some ⟨2, 3, bScaled⟩
  mx : T.df "mixed" = some ⟨2, 5, bMx⟩
  fs : T.fill "sum_of" 2 = []
  fc : T.fill "scaled" 2 = []
section
variable {T : Tb} {N k m n : Nat}
theorem mx_loop (hk : 4 ≤ k) (F : HasMx T N) (st : Sto) {v : Itv} (hv : v.stays st) (e0 e1 : Option D) (c : Nat) (hc : c ≤ 1000) : ∀ (l : List ((Int × Int) × List (Int × Int))) (acc : List (Int × Int)) (a : Nat) (z3 z4 : Option D), AllB a acc → acc.length ≤ c → (∀ p ∈ l, FrB n p.1 ∧ AllB m p.2 ∧ p.2.length ≤ c) → a + (m + n + 1) * l.length ≤ 4000 → m + n ≤ 4000 → 2 ^ (a + (m + n + 1) * l.length + (m + n)) ≤ N →
    ∃ z3' z4', eachS (gmK T N k) (.tup [.name 3, .name 4]) [.asg (.name 2) (.call "sum_of" [(.var 2), (.call "scaled" [(.var 4), (.var 3)])])] v (l.map fun p => D.tup [FD p.1, PD p.2]) [e0, e1, some (PD acc), z3, z4] st = .ok (.nx [e0, e1, some (PD (mixL acc l)), z3', z4']) st ∧ AllB (a + (m + n + 1) * l.length) (mixL acc l)
  | [], acc, a, z3, z4, ha, _, _, _, _, _ => ⟨z3, z4, each_nil' hv, by simpa [mixL] using ha⟩
  | p :: l, acc, a, z3, z4, ha, hl, hp, h1, h2, h3 => by
    rw [List.length_cons, Nat.mul_add, Nat.mul_one] at h1 h3 ⊢
    obtain ⟨b1, b2, b3⟩ := hp p (List.mem_cons_self ..)
    have sc : callK T N k "scaled" [PD p.2, FD p.1] st = .ok (PD (scaP p.2 p.1)) st := scaled_spec (k := k) (by omega) F.toHasPt F.sc st (PD p.2) p.1 p.2 rfl b2 b1 (by omega) (by omega) (Nat.le_trans (Nat.pow_le_pow_right (by decide) (by omega)) h3)
    have so : callK T N k "sum_of" [PD acc, PD (scaP p.2 p.1)] st = .ok (PD (addP acc (scaP p.2 p.1))) st := sumof_spec (k := k) (by omega) F.toHasPt F.so st (PD acc) (PD (scaP p.2 p.1)) acc (scaP p.2 p.1) rfl rfl ha (scaP_b b2 b1) (by omega) (by omega) (Nat.le_trans (Nat.pow_le_pow_right (by decide) (by omega)) h3)
    have lacc : (addP acc (scaP p.2 p.1)).length ≤ c := by
      unfold addP
      rw [List.length_map, List.length_zip]
      omega
    obtain ⟨z3', z4', e, eb⟩ := mx_loop hk F st hv e0 e1 c hc l (addP acc (scaP p.2 p.1)) (a + (m + n) + 1) (some (FD p.1)) (some (PD p.2)) (addP_b ha (scaP_b b2 b1)) lacc (fun q hq => hp q (List.mem_cons_of_mem _ hq)) (by omega) h2 (by rw [show a + (m + n) + 1 + (m + n + 1) * l.length + (m + n) = a + ((m + n + 1) * l.length + (m + n + 1)) + (m + n) by omega]; exact h3)
    refine ⟨z3', z4', ?_, ?_⟩
    · rw [List.map_cons, each_nx hv (en1 := [e0, e1, some (PD acc), some (FD p.1), some (PD p.2)]) (by simp [List.set]) (en' := [e0, e1, some (PD (addP acc (scaP p.2 p.1))), some (FD p.1), some (PD p.2)]) (s2 := st) (by
        simp only [exs_cons, exs_nil, ex_asg, ev_call, evs_cons, evs_nil, ev_var, List.getElem?_cons_succ, List.getElem?_cons_zero, List.set, Out.bind_ok, List.length_cons, List.length_nil, gmK_cl, gmK_fill, F.fs, F.fc, List.append_nil, Nat.reduceAdd, sc, so, Out.lift_ok, bp_name, thenS_nx])]
      exact e
    · rw [show a + ((m + n + 1) * l.length + (m + n + 1)) = a + (m + n) + 1 + (m + n + 1) * l.length by omega]
      exact eb
theorem mx_spec' (hk : 5 ≤ k) (F : HasMx T N) (st : Sto) (w : Int × Int) (ws : List (Int × Int)) (p : List (Int × Int)) (ps : List (List (Int × Int))) (c : Nat) (hc : c ≤ 1000) (hw : FrB n w) (hws : ∀ x ∈ ws, FrB n x) (hp : AllB m p) (lp : p.length ≤ c) (hps : ∀ x ∈ ps, AllB m x ∧ x.length ≤ c)
    (hl : ws.length = ps.length) (h1 : m + n + (m + n + 1) * ps.length ≤ 4000) (h3 : 2 ^ (m + n + (m + n + 1) * ps.length + (m + n)) ≤ N) :
    callK T N k "mixed" [.tup ((w :: ws).map FD), .lst ((p :: ps).map PD)] st = .ok (PD (mixL (scaP p w) (ws.zip ps))) st ∧ AllB (m + n + (m + n + 1) * ps.length) (mixL (scaP p w) (ws.zip ps)) := by
  obtain ⟨k, rfl⟩ : ∃ j, k = j + 5 := ⟨k - 5, by omega⟩
  have sc : callK T N (k + 4) "scaled" [PD p, FD w] st = .ok (PD (scaP p w)) st := scaled_spec (k := k + 4) (by omega) F.toHasPt F.sc st (PD p) w p rfl hp hw (by omega) (by omega) (Nat.le_trans (Nat.pow_le_pow_right (by decide) (by omega)) h3)
  have iz := it_zip (st := st) (x := .tup (ws.map FD)) (y := .lst (ps.map PD)) rfl rfl
  rw [zip_maps] at iz
  have lz : (ws.zip ps).length = ps.length := by rw [List.length_zip]; omega
  obtain ⟨z3, z4, e, eb⟩ := mx_loop (T := T) (N := N) (k := k + 4) (m := m) (n := n) (by omega) F st (v := ⟨(ws.zip ps).map fun p => D.tup [FD p.1, PD p.2], []⟩) (stays_nil rfl) (some (.tup ((w :: ws).map FD))) (some (.lst ((p :: ps).map PD))) c hc (ws.zip ps) (scaP p w) (m + n) none none (scaP_b hp hw) (by rw [scaP_len]; exact lp) (fun q hq => ⟨hws _ (List.of_mem_zip hq).1, (hps _ (List.of_mem_zip hq).2).1, (hps _ (List.of_mem_zip hq).2).2⟩) (by rw [lz]; exact h1) (by omega) (by rw [lz]; exact h3)
  rw [lz] at eb
  refine ⟨?_, eb⟩
  rw [callK_df F.mx]
  refine runD_same rfl ?_
  have s1 : sliceV false (.tup ((w :: ws).map FD)) (some 1) none st = .ok (.tup (ws.map FD)) st := by
    show Out.ok (D.tup (cutD ((w :: ws).map FD) (some 1) none)) st = _
    rw [cut_one]
    rfl
  have s2 : sliceV false (.lst ((p :: ps).map PD)) (some 1) none st = .ok (.lst (ps.map PD)) st := by
    show newL false (cutD ((p :: ps).map PD) (some 1) none) st = _
    rw [cut_one]
    rfl
  have i0 : ixV (.lst ((p :: ps).map PD)) (.int 0) st = .ok (PD p) st := ix_l0 _ _ _
  have i1 : ixV (.tup ((w :: ws).map FD)) (.int 0) st = .ok (FD w) st := ix_t0 _ _ _
  simp only [bMx, exs_cons, exs_nil, ex_asg, ex_each, ex_ret, ev_call, ev_ix, ev_slice, ev_gap, evs_cons, evs_nil, ev_var, ev_int, List.replicate, List.length_cons, List.length_nil, List.getElem?_cons_succ, List.getElem?_cons_zero, Out.bind_ok, Out.lift_ok, gmK_cl, gmK_fill, F.fc, List.append_nil, Nat.reduceAdd, Nat.reduceSub, show ∀ a b : D, ([a, b].map some) = [some a, some b] from fun _ _ => rfl, List.cons_append, List.nil_append, i0, i1, sc, bp_name, List.set, thenS_nx, partV, s1, s2, iz]
  rw [show (⟨(ws.zip ps).map fun p => D.tup [FD p.1, PD p.2], keepOf (D.tup (ws.map FD)) (ws.map FD) ++ keepOf (D.lst (ps.map PD)) (ps.map PD)⟩ : Itv) = ⟨(ws.zip ps).map fun p => D.tup [FD p.1, PD p.2], []⟩ from rfl, e]
  rfl
end
end PI

/-! the law's module part, printed by gen.py -/
namespace LW
open PySem PySem.Spec PyProof.Rows L2 PI
def topS (i : Nat) : Stmt := PySem.Challenge.pw_stayswithin_k08_whole_what_is_linear.main.body.getD i (.Pass ⟨0, 0, 0, 0⟩)
def fnsA : List Str := ["_law_row", "_law_common", "_law_lowest", "_law_weights", "_law_matrix", "_law_number", "_law_fraction", "_law_point", "_law_cell", "greatest_divisor", "fraction", "added", "total", "times", "dot", "image", "scaled", "sum_of", "mixed", "subtracted", "divided", "law"]
def b__law_row : List S := [.asg (.name 3) (.lst true []), .each (.name 4) .range1 [(.var 1)] [.ifs (.cmp .GtE (.var 0) (.bin false .Pow (.int 10) (.int 18))) [.ex (.bm (.var 3) .append [(.bin false .Mod (.bi false .int [(.var 0)]) (.var 2))]), .asg (.name 0) (.bin false .FloorDiv (.var 0) (.var 2))] [.asg (.name 5) (.bin false .Mod (.bi false .int [(.bin false .Add (.bin false .Add (.bin false .Mult (.var 0) (.int 48271)) (.bin false .Mult (.var 4) (.int 69621))) (.int 12345))]) (.int 2147483647)), .asg (.name 5) (.bin false .Mod (.bi false .int [(.bin false .Add (.bin false .Add (.bin false .Mult (.var 5) (.var 5)) (.bin false .Mult (.int 16807) (.var 4))) (.int 7))]) (.int 998244353)), .asg (.name 5) (.bin false .Mod (.bi false .int [(.bin false .Add (.bin false .Add (.bin false .Mult (.var 5) (.var 5)) (.bin false .Mult (.int 48271) (.var 4))) (.var 0))]) (.int 2147483629)), .ex (.bm (.var 3) .append [(.bin false .Mod (.bi false .int [(.bin false .FloorDiv (.var 5) (.int 13))]) (.var 2))])]], .ret (.fz 3)]
def b__law_common : List S := [.asg (.name 0) (.bi false .abs [(.var 0)]), .each (.name 2) .range1 [(.int 400)] [.ifs (.cmp .Eq (.var 0) (.int 0)) [.ret (.var 1)] [], .par 0 1 (.bin false .Sub (.var 1) (.bin false .Mult (.bin false .FloorDiv (.var 1) (.var 0)) (.var 0))) (.var 0)], .ret (.var 1)]
def b__law_lowest : List S := [.ifs (.cmp .Lt (.var 1) (.int 0)) [.asg (.name 0) (.neg (.var 0)), .asg (.name 1) (.neg (.var 1))] [], .asg (.name 2) (.call "_law_common" [(.var 0), (.var 1)]), .ret (.tup [(.bin false .FloorDiv (.var 0) (.var 2)), (.bin false .FloorDiv (.var 1) (.var 2))])]
def b__law_weights : List S := [.asg (.name 2) (.call "_law_row" [(.var 0), (.bin false .Add (.var 1) (.int 1)), (.int 60)]), .asg (.name 3) (.comp true (.bin false .Mod (.bi false .int [(.ix (.var 2) (.var 4))]) (.ix (.lst false [(.int 7), (.int 60)]) (.bin false .Mod (.bi false .int [(.ix (.var 2) (.var 1))]) (.int 2)))) (.name 4) .range1 [(.var 1)] .gap [4]), .ifs (.cmp .Eq (.bi false .sum [(.var 3)]) (.int 0)) [.setIx (.var 3) (.int 0) (.int 1)] [], .ret (.bi false .tuple [(.comp false (.call "_law_lowest" [(.var 5), (.bi false .sum [(.var 3)])]) (.name 5) .plain [(.var 3)] .gap [5])])]
def b__law_matrix : List S := [.asg (.name 3) (.call "_law_row" [(.var 0), (.bin false .Mult (.var 1) (.var 2)), (.int 41)]), .ret (.comp false (.comp false (.bin false .Sub (.ix (.var 3) (.bin false .Add (.bin false .Mult (.var 2) (.var 5)) (.var 4))) (.int 20)) (.name 4) .range1 [(.var 2)] .gap [4]) (.name 5) .range1 [(.var 1)] .gap [5])]
def b__law_number : List S := [.asg (.name 2) (.call "_law_row" [(.bin false .Add (.bin false .FloorDiv (.bi false .int [(.var 0)]) (.int 5)) (.bin false .Mult (.int 1009) (.var 1))), (.int 4), (.bin false .Pow (.int 10) (.int 9))]), .asg (.name 3) (.lst false [(.int 3), (.int 13), (.int 1000), (.bin false .Pow (.int 10) (.int 9))]), .ret (.bin false .Mult (.bin false .Mod (.bi false .int [(.ix (.var 2) (.int 0))]) (.ix (.var 3) (.bin false .Mod (.bi false .int [(.ix (.var 2) (.int 1))]) (.int 4)))) (.bin false .Sub (.int 1) (.bin false .Mult (.int 2) (.bin false .Mod (.bi false .int [(.ix (.var 2) (.int 2))]) (.int 2)))))]
def b__law_fraction : List S := [.asg (.name 2) (.bin false .Add (.int 1) (.bi false .abs [(.call "_law_number" [(.bin false .Add (.bi false .int [(.var 0)]) (.int 3)), (.bin false .Add (.var 1) (.int 7))])])), .ret (.call "_law_lowest" [(.call "_law_number" [(.var 0), (.var 1)]), (.var 2)])]
def b__law_point : List S := [.ret (.bi false .tuple [(.comp false (.call "_law_fraction" [(.bin false .Add (.bi false .int [(.var 0)]) (.bin false .Mult (.int 11) (.var 2))), (.var 2)]) (.name 2) .range1 [(.var 1)] .gap [2])])]
def b__law_cell : List S := [.ifs (.cmp .Lt (.var 1) (.bi false .len [(.var 0)])) [.ret (.ix (.var 0) (.var 1))] [], .ret (.int 0)]
def b_greatest_divisor : List S := [.par 0 1 (.bi false .abs [(.var 0)]) (.bi false .abs [(.var 1)]), .loop (.cmp .Gt (.var 1) (.int 0)) [.par 0 1 (.var 1) (.bin false .Mod (.var 0) (.var 1))], .ret (.var 0)]
def b_fraction : List S := [.ifs (.cmp .Lt (.var 1) (.int 0)) [.par 0 1 (.neg (.var 0)) (.neg (.var 1))] [], .asg (.name 2) (.call "greatest_divisor" [(.var 0), (.var 1)]), .ret (.tup [(.bin false .FloorDiv (.var 0) (.var 2)), (.bin false .FloorDiv (.var 1) (.var 2))])]
def b_added : List S := [.ret (.call "fraction" [(.bin false .Add (.bin false .Mult (.ix (.var 0) (.int 0)) (.ix (.var 1) (.int 1))) (.bin false .Mult (.ix (.var 1) (.int 0)) (.ix (.var 0) (.int 1)))), (.bin false .Mult (.ix (.var 0) (.int 1)) (.ix (.var 1) (.int 1)))])]
def b_total : List S := [.asg (.name 1) (.glob "ZERO"), .each (.name 2) .plain [(.var 0)] [.asg (.name 1) (.call "added" [(.var 1), (.var 2)])], .ret (.var 1)]
def b_times : List S := [.ret (.call "fraction" [(.bin false .Mult (.ix (.var 0) (.int 0)) (.ix (.var 1) (.int 0))), (.bin false .Mult (.ix (.var 0) (.int 1)) (.ix (.var 1) (.int 1)))])]
def b_dot : List S := [.ret (.call "total" [(.comp false (.call "times" [(.tup [(.var 2), (.int 1)]), (.var 3)]) (.tup [(.name 2), (.name 3)]) .zip [(.var 0), (.var 1)] .gap [2, 3])])]
def b_image : List S := [.ret (.bi false .tuple [(.comp false (.call "dot" [(.var 2), (.var 1)]) (.name 2) .plain [(.var 0)] .gap [2])])]
def b_scaled : List S := [.ret (.bi false .tuple [(.comp false (.call "times" [(.var 2), (.var 1)]) (.name 2) .plain [(.var 0)] .gap [2])])]
def b_sum_of : List S := [.ret (.bi false .tuple [(.comp false (.call "added" [(.var 2), (.var 3)]) (.tup [(.name 2), (.name 3)]) .zip [(.var 0), (.var 1)] .gap [2, 3])])]
def b_mixed : List S := [.asg (.name 2) (.call "scaled" [(.ix (.var 1) (.int 0)), (.ix (.var 0) (.int 0))]), .each (.tup [(.name 3), (.name 4)]) .zip [(.slice false (.var 0) (.int 1) .gap), (.slice false (.var 1) (.int 1) .gap)] [.asg (.name 2) (.call "sum_of" [(.var 2), (.call "scaled" [(.var 4), (.var 3)])])], .ret (.var 2)]
def b_subtracted : List S := [.ret (.call "fraction" [(.bin false .Sub (.bin false .Mult (.ix (.var 0) (.int 0)) (.ix (.var 1) (.int 1))) (.bin false .Mult (.ix (.var 1) (.int 0)) (.ix (.var 0) (.int 1)))), (.bin false .Mult (.ix (.var 0) (.int 1)) (.ix (.var 1) (.int 1)))])]
def b_divided : List S := [.ret (.call "fraction" [(.bin false .Mult (.ix (.var 0) (.int 0)) (.ix (.var 1) (.int 1))), (.bin false .Mult (.ix (.var 0) (.int 1)) (.ix (.var 1) (.int 0)))])]
def b_law : List S := [.asg (.name 1) (.bin false .Add (.int 1) (.bin false .Mod (.bi false .int [(.call "_law_cell" [(.var 0), (.int 0)])]) (.int 5))), .asg (.name 2) (.bin false .Add (.int 1) (.bin false .Mod (.bi false .int [(.call "_law_cell" [(.var 0), (.int 1)])]) (.int 3))), .asg (.name 3) (.comp false (.call "_law_point" [(.call "_law_cell" [(.var 0), (.bin false .Add (.int 2) (.var 11))]), (.var 2)]) (.name 11) .range1 [(.var 1)] .gap [11]), .asg (.name 4) (.call "_law_weights" [(.call "_law_cell" [(.var 0), (.int 7)]), (.var 1)]), .asg (.name 5) (.call "_law_matrix" [(.call "_law_cell" [(.var 0), (.int 8)]), (.bin false .Add (.int 1) (.bin false .Mod (.bi false .int [(.call "_law_cell" [(.var 0), (.int 9)])]) (.int 3))), (.var 2)]), .ifs (.cmp .NotEq (.call "image" [(.var 5), (.call "mixed" [(.var 4), (.var 3)])]) (.call "mixed" [(.var 4), (.comp false (.call "image" [(.var 5), (.var 12)]) (.name 12) .plain [(.var 3)] .gap [12])])) [.ret (.bl false)] [], .asg (.tup [(.name 6), (.name 7)]) (.tup [(.ix (.var 3) (.int 0)), (.ix (.var 3) (.neg (.int 1)))]), .ifs (.cmp .NotEq (.call "mixed" [(.var 4), (.comp false (.var 6) (.name 12) .plain [(.var 3)] .gap [12])]) (.var 6)) [.ret (.bl false)] [], .asg (.name 8) (.call "_law_fraction" [(.call "_law_cell" [(.var 0), (.int 10)]), (.int 3)]), .asg (.name 9) (.call "_law_fraction" [(.call "_law_cell" [(.var 0), (.int 11)]), (.int 4)]), .ifs (.cmp .NotEq (.call "image" [(.var 5), (.call "sum_of" [(.var 6), (.var 7)])]) (.call "sum_of" [(.call "image" [(.var 5), (.var 6)]), (.call "image" [(.var 5), (.var 7)])])) [.ret (.bl false)] [], .ifs (.or (.cmp .NotEq (.call "image" [(.var 5), (.call "scaled" [(.var 6), (.var 8)])]) (.call "scaled" [(.call "image" [(.var 5), (.var 6)]), (.var 8)])) (.cmp .NotEq (.call "sum_of" [(.var 6), (.var 7)]) (.call "sum_of" [(.var 7), (.var 6)]))) [.ret (.bl false)] [], .asg (.name 10) (.ix (.var 6) (.int 0)), .ifs (.cmp .NotEq (.call "added" [(.call "added" [(.var 8), (.var 9)]), (.var 10)]) (.call "added" [(.var 8), (.call "added" [(.var 10), (.var 9)])])) [.ret (.bl false)] [], .ifs (.cmp .NotEq (.call "times" [(.var 8), (.call "added" [(.var 9), (.var 10)])]) (.call "added" [(.call "times" [(.var 8), (.var 9)]), (.call "times" [(.var 8), (.var 10)])])) [.ret (.bl false)] [], .ifs (.or (.cmp .NotEq (.call "subtracted" [(.var 8), (.var 8)]) (.tup [(.int 0), (.int 1)])) (.cmp .NotEq (.call "subtracted" [(.call "added" [(.var 8), (.var 9)]), (.var 9)]) (.var 8))) [.ret (.bl false)] [], .ret (.or (.cmp .Eq (.ix (.var 8) (.int 0)) (.int 0)) (.and (.cmp .Eq (.call "divided" [(.var 8), (.var 8)]) (.tup [(.int 1), (.int 1)])) (.cmp .Eq (.call "divided" [(.call "times" [(.var 9), (.var 8)]), (.var 8)]) (.var 9))))]
def dfA (x : Str) : Option Df :=
  if x = "_law_row" then some ⟨3, 6, b__law_row⟩
  else if x = "_law_common" then some ⟨2, 3, b__law_common⟩
  else if x = "_law_lowest" then some ⟨2, 3, b__law_lowest⟩
  else if x = "_law_weights" then some ⟨2, 6, b__law_weights⟩
  else if x = "_law_matrix" then some ⟨3, 6, b__law_matrix⟩
  else if x = "_law_number" then some ⟨2, 4, b__law_number⟩
  else if x = "_law_fraction" then some ⟨2, 3, b__law_fraction⟩
  else if x = "_law_point" then some ⟨2, 3, b__law_point⟩
  else if x = "_law_cell" then some ⟨2, 2, b__law_cell⟩
  else if x = "greatest_divisor" then some ⟨2, 2, b_greatest_divisor⟩
  else if x = "fraction" then some ⟨2, 3, b_fraction⟩
  else if x = "added" then some ⟨2, 2, b_added⟩
  else if x = "total" then some ⟨1, 3, b_total⟩
  else if x = "times" then some ⟨2, 2, b_times⟩
  else if x = "dot" then some ⟨2, 4, b_dot⟩
  else if x = "image" then some ⟨2, 3, b_image⟩
  else if x = "scaled" then some ⟨2, 3, b_scaled⟩
  else if x = "sum_of" then some ⟨2, 4, b_sum_of⟩
  else if x = "mixed" then some ⟨2, 5, b_mixed⟩
  else if x = "subtracted" then some ⟨2, 2, b_subtracted⟩
  else if x = "divided" then some ⟨2, 2, b_divided⟩
  else if x = "law" then some ⟨1, 13, b_law⟩
  else none
def glA (x : Str) : Option D :=
  if x = "ZERO" then some (.tup [.int 0, .int 1]) else
  none
def fillA (x : Str) (m : Nat) : List D :=
  if x = "fraction" then [.int 1].drop (m - 1) else
  []
def tb : Tb := ⟨dfA, glA, fillA, fnsA⟩
theorem sc__law_row : FnScope ["_law_cell_here", "_law_count", "_law_base", "_law_row_here", "_law_k", "_law_number_here"] ["_law_cell_here", "_law_count", "_law_base"] (defScope (topS 17)) := ⟨rfl, rfl, rfl, by decide +kernel, rfl, by decide +kernel, by decide +kernel⟩
theorem cp__law_row : compB ⟨["_law_cell_here", "_law_count", "_law_base", "_law_row_here", "_law_k", "_law_number_here"], defScope (topS 17), [(46, 20)], [(56, 11)], fnsA⟩ (defBody (topS 17)) b__law_row = true := by decide +kernel
theorem df__law_row : tb.df "_law_row" = some ⟨3, 6, b__law_row⟩ := rfl
theorem sc__law_common : FnScope ["_law_one", "_law_other", "_law_turn"] ["_law_one", "_law_other"] (defScope (topS 18)) := ⟨rfl, rfl, rfl, by decide +kernel, rfl, by decide +kernel, by decide +kernel⟩
theorem cp__law_common : compB ⟨["_law_one", "_law_other", "_law_turn"], defScope (topS 18), [], [], fnsA⟩ (defBody (topS 18)) b__law_common = true := by decide +kernel
theorem df__law_common : tb.df "_law_common" = some ⟨2, 3, b__law_common⟩ := rfl
theorem sc__law_lowest : FnScope ["_law_number_here", "_law_divisor", "_law_common_here"] ["_law_number_here", "_law_divisor"] (defScope (topS 19)) := ⟨rfl, rfl, rfl, by decide +kernel, rfl, by decide +kernel, by decide +kernel⟩
theorem cp__law_lowest : compB ⟨["_law_number_here", "_law_divisor", "_law_common_here"], defScope (topS 19), [], [], fnsA⟩ (defBody (topS 19)) b__law_lowest = true := by decide +kernel
theorem df__law_lowest : tb.df "_law_lowest" = some ⟨2, 3, b__law_lowest⟩ := rfl
theorem sc__law_weights : FnScope ["_law_cell_here", "_law_count", "_law_row_here", "_law_parts", "_law_k", "_law_part"] ["_law_cell_here", "_law_count"] (defScope (topS 24)) := ⟨rfl, rfl, rfl, by decide +kernel, rfl, by decide +kernel, by decide +kernel⟩
theorem cp__law_weights : compB ⟨["_law_cell_here", "_law_count", "_law_row_here", "_law_parts", "_law_k", "_law_part"], defScope (topS 24), [(84, 17)], [], fnsA⟩ (defBody (topS 24)) b__law_weights = true := by decide +kernel
theorem df__law_weights : tb.df "_law_weights" = some ⟨2, 6, b__law_weights⟩ := rfl
theorem sc__law_matrix : FnScope ["_law_cell_here", "_law_rows", "_law_columns", "_law_row_here", "_law_j", "_law_k"] ["_law_cell_here", "_law_rows", "_law_columns"] (defScope (topS 23)) := ⟨rfl, rfl, rfl, by decide +kernel, rfl, by decide +kernel, by decide +kernel⟩
theorem cp__law_matrix : compB ⟨["_law_cell_here", "_law_rows", "_law_columns", "_law_row_here", "_law_j", "_law_k"], defScope (topS 23), [], [], fnsA⟩ (defBody (topS 23)) b__law_matrix = true := by decide +kernel
theorem df__law_matrix : tb.df "_law_matrix" = some ⟨3, 6, b__law_matrix⟩ := rfl
theorem sc__law_number : FnScope ["_law_cell_here", "_law_k", "_law_row_here", "_law_sizes"] ["_law_cell_here", "_law_k"] (defScope (topS 20)) := ⟨rfl, rfl, rfl, by decide +kernel, rfl, by decide +kernel, by decide +kernel⟩
theorem cp__law_number : compB ⟨["_law_cell_here", "_law_k", "_law_row_here", "_law_sizes"], defScope (topS 20), [], [], fnsA⟩ (defBody (topS 20)) b__law_number = true := by decide +kernel
theorem df__law_number : tb.df "_law_number" = some ⟨2, 4, b__law_number⟩ := rfl
theorem sc__law_fraction : FnScope ["_law_cell_here", "_law_k", "_law_divisor"] ["_law_cell_here", "_law_k"] (defScope (topS 21)) := ⟨rfl, rfl, rfl, by decide +kernel, rfl, by decide +kernel, by decide +kernel⟩
theorem cp__law_fraction : compB ⟨["_law_cell_here", "_law_k", "_law_divisor"], defScope (topS 21), [], [], fnsA⟩ (defBody (topS 21)) b__law_fraction = true := by decide +kernel
theorem df__law_fraction : tb.df "_law_fraction" = some ⟨2, 3, b__law_fraction⟩ := rfl
theorem sc__law_point : FnScope ["_law_cell_here", "_law_count", "_law_k"] ["_law_cell_here", "_law_count"] (defScope (topS 22)) := ⟨rfl, rfl, rfl, by decide +kernel, rfl, by decide +kernel, by decide +kernel⟩
theorem cp__law_point : compB ⟨["_law_cell_here", "_law_count", "_law_k"], defScope (topS 22), [], [], fnsA⟩ (defBody (topS 22)) b__law_point = true := by decide +kernel
theorem df__law_point : tb.df "_law_point" = some ⟨2, 3, b__law_point⟩ := rfl
theorem sc__law_cell : FnScope ["_law_script", "_law_k"] ["_law_script", "_law_k"] (defScope (topS 16)) := ⟨rfl, rfl, rfl, by decide +kernel, rfl, by decide +kernel, by decide +kernel⟩
theorem cp__law_cell : compB ⟨["_law_script", "_law_k"], defScope (topS 16), [], [], fnsA⟩ (defBody (topS 16)) b__law_cell = true := by decide +kernel
theorem df__law_cell : tb.df "_law_cell" = some ⟨2, 2, b__law_cell⟩ := rfl
theorem sc_greatest_divisor : FnScope ["first", "second"] ["first", "second"] (defScope (topS 2)) := ⟨rfl, rfl, rfl, by decide +kernel, rfl, by decide +kernel, by decide +kernel⟩
theorem cp_greatest_divisor : compB ⟨["first", "second"], defScope (topS 2), [], [], fnsA⟩ (defBody (topS 2)) b_greatest_divisor = true := by decide +kernel
theorem df_greatest_divisor : tb.df "greatest_divisor" = some ⟨2, 2, b_greatest_divisor⟩ := rfl
theorem sc_fraction : FnScope ["number", "divisor", "common"] ["number", "divisor"] (defScope (topS 3)) := ⟨rfl, rfl, rfl, by decide +kernel, rfl, by decide +kernel, by decide +kernel⟩
theorem cp_fraction : compB ⟨["number", "divisor", "common"], defScope (topS 3), [], [], fnsA⟩ (defBody (topS 3)) b_fraction = true := by decide +kernel
theorem df_fraction : tb.df "fraction" = some ⟨2, 3, b_fraction⟩ := rfl
theorem sc_added : FnScope ["first", "second"] ["first", "second"] (defScope (topS 4)) := ⟨rfl, rfl, rfl, by decide +kernel, rfl, by decide +kernel, by decide +kernel⟩
theorem cp_added : compB ⟨["first", "second"], defScope (topS 4), [], [], fnsA⟩ (defBody (topS 4)) b_added = true := by decide +kernel
theorem df_added : tb.df "added" = some ⟨2, 2, b_added⟩ := rfl
theorem sc_total : FnScope ["fractions", "found", "one"] ["fractions"] (defScope (topS 8)) := ⟨rfl, rfl, rfl, by decide +kernel, rfl, by decide +kernel, by decide +kernel⟩
theorem cp_total : compB ⟨["fractions", "found", "one"], defScope (topS 8), [], [], fnsA⟩ (defBody (topS 8)) b_total = true := by decide +kernel
theorem df_total : tb.df "total" = some ⟨1, 3, b_total⟩ := rfl
theorem sc_times : FnScope ["first", "second"] ["first", "second"] (defScope (topS 6)) := ⟨rfl, rfl, rfl, by decide +kernel, rfl, by decide +kernel, by decide +kernel⟩
theorem cp_times : compB ⟨["first", "second"], defScope (topS 6), [], [], fnsA⟩ (defBody (topS 6)) b_times = true := by decide +kernel
theorem df_times : tb.df "times" = some ⟨2, 2, b_times⟩ := rfl
theorem sc_dot : FnScope ["row", "point", "number", "part"] ["row", "point"] (defScope (topS 12)) := ⟨rfl, rfl, rfl, by decide +kernel, rfl, by decide +kernel, by decide +kernel⟩
theorem cp_dot : compB ⟨["row", "point", "number", "part"], defScope (topS 12), [], [], fnsA⟩ (defBody (topS 12)) b_dot = true := by decide +kernel
theorem df_dot : tb.df "dot" = some ⟨2, 4, b_dot⟩ := rfl
theorem sc_image : FnScope ["matrix", "point", "row"] ["matrix", "point"] (defScope (topS 13)) := ⟨rfl, rfl, rfl, by decide +kernel, rfl, by decide +kernel, by decide +kernel⟩
theorem cp_image : compB ⟨["matrix", "point", "row"], defScope (topS 13), [], [], fnsA⟩ (defBody (topS 13)) b_image = true := by decide +kernel
theorem df_image : tb.df "image" = some ⟨2, 3, b_image⟩ := rfl
theorem sc_scaled : FnScope ["point", "factor", "part"] ["point", "factor"] (defScope (topS 11)) := ⟨rfl, rfl, rfl, by decide +kernel, rfl, by decide +kernel, by decide +kernel⟩
theorem cp_scaled : compB ⟨["point", "factor", "part"], defScope (topS 11), [], [], fnsA⟩ (defBody (topS 11)) b_scaled = true := by decide +kernel
theorem df_scaled : tb.df "scaled" = some ⟨2, 3, b_scaled⟩ := rfl
theorem sc_sum_of : FnScope ["first", "second", "one", "other"] ["first", "second"] (defScope (topS 10)) := ⟨rfl, rfl, rfl, by decide +kernel, rfl, by decide +kernel, by decide +kernel⟩
theorem cp_sum_of : compB ⟨["first", "second", "one", "other"], defScope (topS 10), [], [], fnsA⟩ (defBody (topS 10)) b_sum_of = true := by decide +kernel
theorem df_sum_of : tb.df "sum_of" = some ⟨2, 4, b_sum_of⟩ := rfl
theorem sc_mixed : FnScope ["weights", "points", "found", "weight", "point"] ["weights", "points"] (defScope (topS 14)) := ⟨rfl, rfl, rfl, by decide +kernel, rfl, by decide +kernel, by decide +kernel⟩
theorem cp_mixed : compB ⟨["weights", "points", "found", "weight", "point"], defScope (topS 14), [], [], fnsA⟩ (defBody (topS 14)) b_mixed = true := by decide +kernel
theorem df_mixed : tb.df "mixed" = some ⟨2, 5, b_mixed⟩ := rfl
theorem sc_subtracted : FnScope ["first", "second"] ["first", "second"] (defScope (topS 5)) := ⟨rfl, rfl, rfl, by decide +kernel, rfl, by decide +kernel, by decide +kernel⟩
theorem cp_subtracted : compB ⟨["first", "second"], defScope (topS 5), [], [], fnsA⟩ (defBody (topS 5)) b_subtracted = true := by decide +kernel
theorem df_subtracted : tb.df "subtracted" = some ⟨2, 2, b_subtracted⟩ := rfl
theorem sc_divided : FnScope ["first", "second"] ["first", "second"] (defScope (topS 7)) := ⟨rfl, rfl, rfl, by decide +kernel, rfl, by decide +kernel, by decide +kernel⟩
theorem cp_divided : compB ⟨["first", "second"], defScope (topS 7), [], [], fnsA⟩ (defBody (topS 7)) b_divided = true := by decide +kernel
theorem df_divided : tb.df "divided" = some ⟨2, 2, b_divided⟩ := rfl
theorem sc_law : FnScope ["_law_script", "_law_size", "_law_count", "_law_points", "_law_weights_here", "_law_matrix_here", "_law_one", "_law_other", "_law_factor", "_law_second", "_law_third", "_law_k", "_law_point_here"] ["_law_script"] (defScope (topS 25)) := ⟨rfl, rfl, rfl, by decide +kernel, rfl, by decide +kernel, by decide +kernel⟩
theorem cp_law : compB ⟨["_law_script", "_law_size", "_law_count", "_law_points", "_law_weights_here", "_law_matrix_here", "_law_one", "_law_other", "_law_factor", "_law_second", "_law_third", "_law_k", "_law_point_here"], defScope (topS 25), [], [], fnsA⟩ (defBody (topS 25)) b_law = true := by decide +kernel
theorem df_law : tb.df "law" = some ⟨1, 13, b_law⟩ := rfl
theorem all_mk {P : Program} {w : World} {K : PySem.W.Frag} {h : Heap} {mg : Str → Option Value} (X : K.In h) (G : h.Ns mainGlobals mg)
    {f0 : Addr} {od0 an0 : Option Addr} {sl0 : Array (Option Value)} {oc0 kV0 dc0 pm0 cd0 ct0 : Value}
    {f1 : Addr} {od1 an1 : Option Addr} {sl1 : Array (Option Value)} {oc1 kV1 dc1 pm1 cd1 ct1 : Value}
    {f2 : Addr} {od2 an2 : Option Addr} {sl2 : Array (Option Value)} {oc2 kV2 dc2 pm2 cd2 ct2 : Value}
    {f3 : Addr} {od3 an3 : Option Addr} {sl3 : Array (Option Value)} {oc3 kV3 dc3 pm3 cd3 ct3 : Value}
    {f4 : Addr} {od4 an4 : Option Addr} {sl4 : Array (Option Value)} {oc4 kV4 dc4 pm4 cd4 ct4 : Value}
    {f5 : Addr} {od5 an5 : Option Addr} {sl5 : Array (Option Value)} {oc5 kV5 dc5 pm5 cd5 ct5 : Value}
    {f6 : Addr} {od6 an6 : Option Addr} {sl6 : Array (Option Value)} {oc6 kV6 dc6 pm6 cd6 ct6 : Value}
    {f7 : Addr} {od7 an7 : Option Addr} {sl7 : Array (Option Value)} {oc7 kV7 dc7 pm7 cd7 ct7 : Value}
    {f8 : Addr} {od8 an8 : Option Addr} {sl8 : Array (Option Value)} {oc8 kV8 dc8 pm8 cd8 ct8 : Value}
    {f9 : Addr} {od9 an9 : Option Addr} {sl9 : Array (Option Value)} {oc9 kV9 dc9 pm9 cd9 ct9 : Value}
    {f10 : Addr} {od10 an10 : Option Addr} {sl10 : Array (Option Value)} {oc10 kV10 dc10 pm10 cd10 ct10 : Value} {T10 : Addr} {clT10 : Value} {oT10 : Option Addr} {sT10 : Array (Option Value)} {its10 : List Value} {m10 : Nat}
    {f11 : Addr} {od11 an11 : Option Addr} {sl11 : Array (Option Value)} {oc11 kV11 dc11 pm11 cd11 ct11 : Value}
    {f12 : Addr} {od12 an12 : Option Addr} {sl12 : Array (Option Value)} {oc12 kV12 dc12 pm12 cd12 ct12 : Value}
    {f13 : Addr} {od13 an13 : Option Addr} {sl13 : Array (Option Value)} {oc13 kV13 dc13 pm13 cd13 ct13 : Value}
    {f14 : Addr} {od14 an14 : Option Addr} {sl14 : Array (Option Value)} {oc14 kV14 dc14 pm14 cd14 ct14 : Value}
    {f15 : Addr} {od15 an15 : Option Addr} {sl15 : Array (Option Value)} {oc15 kV15 dc15 pm15 cd15 ct15 : Value}
    {f16 : Addr} {od16 an16 : Option Addr} {sl16 : Array (Option Value)} {oc16 kV16 dc16 pm16 cd16 ct16 : Value}
    {f17 : Addr} {od17 an17 : Option Addr} {sl17 : Array (Option Value)} {oc17 kV17 dc17 pm17 cd17 ct17 : Value}
    {f18 : Addr} {od18 an18 : Option Addr} {sl18 : Array (Option Value)} {oc18 kV18 dc18 pm18 cd18 ct18 : Value}
    {f19 : Addr} {od19 an19 : Option Addr} {sl19 : Array (Option Value)} {oc19 kV19 dc19 pm19 cd19 ct19 : Value}
    {f20 : Addr} {od20 an20 : Option Addr} {sl20 : Array (Option Value)} {oc20 kV20 dc20 pm20 cd20 ct20 : Value}
    {f21 : Addr} {od21 an21 : Option Addr} {sl21 : Array (Option Value)} {oc21 kV21 dc21 pm21 cd21 ct21 : Value}
    {ga0 : Addr} {go0 : Option Addr} {gs0 : Array (Option Value)} {gi0 : List Value} {gm0 : Nat}
    (a0 : PySem.W.nsIn K mainGlobals "_law_row" = some (some (.ref f0))) (l0 : K.lookup f0 = some ⟨oc0, od0, .func (PySem.W.fnOf "_law_row" "_law_row" (defArgs (topS 17)) (defBody (topS 17)) (defScope (topS 17)) .none kV0 dc0 pm0 an0 cd0 ct0), sl0⟩) (c0 : PySem.W.codeIn K cd0 "_law_row" = true) (k0 : PySem.W.keepIn K (.ref f0) = true)
    (a1 : PySem.W.nsIn K mainGlobals "_law_common" = some (some (.ref f1))) (l1 : K.lookup f1 = some ⟨oc1, od1, .func (PySem.W.fnOf "_law_common" "_law_common" (defArgs (topS 18)) (defBody (topS 18)) (defScope (topS 18)) .none kV1 dc1 pm1 an1 cd1 ct1), sl1⟩) (c1 : PySem.W.codeIn K cd1 "_law_common" = true) (k1 : PySem.W.keepIn K (.ref f1) = true)
    (a2 : PySem.W.nsIn K mainGlobals "_law_lowest" = some (some (.ref f2))) (l2 : K.lookup f2 = some ⟨oc2, od2, .func (PySem.W.fnOf "_law_lowest" "_law_lowest" (defArgs (topS 19)) (defBody (topS 19)) (defScope (topS 19)) .none kV2 dc2 pm2 an2 cd2 ct2), sl2⟩) (c2 : PySem.W.codeIn K cd2 "_law_lowest" = true) (k2 : PySem.W.keepIn K (.ref f2) = true)
    (a3 : PySem.W.nsIn K mainGlobals "_law_weights" = some (some (.ref f3))) (l3 : K.lookup f3 = some ⟨oc3, od3, .func (PySem.W.fnOf "_law_weights" "_law_weights" (defArgs (topS 24)) (defBody (topS 24)) (defScope (topS 24)) .none kV3 dc3 pm3 an3 cd3 ct3), sl3⟩) (c3 : PySem.W.codeIn K cd3 "_law_weights" = true) (k3 : PySem.W.keepIn K (.ref f3) = true)
    (a4 : PySem.W.nsIn K mainGlobals "_law_matrix" = some (some (.ref f4))) (l4 : K.lookup f4 = some ⟨oc4, od4, .func (PySem.W.fnOf "_law_matrix" "_law_matrix" (defArgs (topS 23)) (defBody (topS 23)) (defScope (topS 23)) .none kV4 dc4 pm4 an4 cd4 ct4), sl4⟩) (c4 : PySem.W.codeIn K cd4 "_law_matrix" = true) (k4 : PySem.W.keepIn K (.ref f4) = true)
    (a5 : PySem.W.nsIn K mainGlobals "_law_number" = some (some (.ref f5))) (l5 : K.lookup f5 = some ⟨oc5, od5, .func (PySem.W.fnOf "_law_number" "_law_number" (defArgs (topS 20)) (defBody (topS 20)) (defScope (topS 20)) .none kV5 dc5 pm5 an5 cd5 ct5), sl5⟩) (c5 : PySem.W.codeIn K cd5 "_law_number" = true) (k5 : PySem.W.keepIn K (.ref f5) = true)
    (a6 : PySem.W.nsIn K mainGlobals "_law_fraction" = some (some (.ref f6))) (l6 : K.lookup f6 = some ⟨oc6, od6, .func (PySem.W.fnOf "_law_fraction" "_law_fraction" (defArgs (topS 21)) (defBody (topS 21)) (defScope (topS 21)) .none kV6 dc6 pm6 an6 cd6 ct6), sl6⟩) (c6 : PySem.W.codeIn K cd6 "_law_fraction" = true) (k6 : PySem.W.keepIn K (.ref f6) = true)
    (a7 : PySem.W.nsIn K mainGlobals "_law_point" = some (some (.ref f7))) (l7 : K.lookup f7 = some ⟨oc7, od7, .func (PySem.W.fnOf "_law_point" "_law_point" (defArgs (topS 22)) (defBody (topS 22)) (defScope (topS 22)) .none kV7 dc7 pm7 an7 cd7 ct7), sl7⟩) (c7 : PySem.W.codeIn K cd7 "_law_point" = true) (k7 : PySem.W.keepIn K (.ref f7) = true)
    (a8 : PySem.W.nsIn K mainGlobals "_law_cell" = some (some (.ref f8))) (l8 : K.lookup f8 = some ⟨oc8, od8, .func (PySem.W.fnOf "_law_cell" "_law_cell" (defArgs (topS 16)) (defBody (topS 16)) (defScope (topS 16)) .none kV8 dc8 pm8 an8 cd8 ct8), sl8⟩) (c8 : PySem.W.codeIn K cd8 "_law_cell" = true) (k8 : PySem.W.keepIn K (.ref f8) = true)
    (a9 : PySem.W.nsIn K mainGlobals "greatest_divisor" = some (some (.ref f9))) (l9 : K.lookup f9 = some ⟨oc9, od9, .func (PySem.W.fnOf "greatest_divisor" "greatest_divisor" (defArgs (topS 2)) (defBody (topS 2)) (defScope (topS 2)) .none kV9 dc9 pm9 an9 cd9 ct9), sl9⟩) (c9 : PySem.W.codeIn K cd9 "greatest_divisor" = true) (k9 : PySem.W.keepIn K (.ref f9) = true)
    (a10 : PySem.W.nsIn K mainGlobals "fraction" = some (some (.ref f10))) (l10 : K.lookup f10 = some ⟨oc10, od10, .func (PySem.W.fnOf "fraction" "fraction" (defArgs (topS 3)) (defBody (topS 3)) (defScope (topS 3)) (.ref T10) kV10 dc10 pm10 an10 cd10 ct10), sl10⟩) (c10 : PySem.W.codeIn K cd10 "fraction" = true) (k10 : PySem.W.keepIn K (.ref f10) = true)
    (t10 : K.lookup T10 = some ⟨clT10, oT10, .seq its10.toArray m10, sT10⟩) (r10 : Vals [V.int 1] its10)
    (a11 : PySem.W.nsIn K mainGlobals "added" = some (some (.ref f11))) (l11 : K.lookup f11 = some ⟨oc11, od11, .func (PySem.W.fnOf "added" "added" (defArgs (topS 4)) (defBody (topS 4)) (defScope (topS 4)) .none kV11 dc11 pm11 an11 cd11 ct11), sl11⟩) (c11 : PySem.W.codeIn K cd11 "added" = true) (k11 : PySem.W.keepIn K (.ref f11) = true)
    (a12 : PySem.W.nsIn K mainGlobals "total" = some (some (.ref f12))) (l12 : K.lookup f12 = some ⟨oc12, od12, .func (PySem.W.fnOf "total" "total" (defArgs (topS 8)) (defBody (topS 8)) (defScope (topS 8)) .none kV12 dc12 pm12 an12 cd12 ct12), sl12⟩) (c12 : PySem.W.codeIn K cd12 "total" = true) (k12 : PySem.W.keepIn K (.ref f12) = true)
    (a13 : PySem.W.nsIn K mainGlobals "times" = some (some (.ref f13))) (l13 : K.lookup f13 = some ⟨oc13, od13, .func (PySem.W.fnOf "times" "times" (defArgs (topS 6)) (defBody (topS 6)) (defScope (topS 6)) .none kV13 dc13 pm13 an13 cd13 ct13), sl13⟩) (c13 : PySem.W.codeIn K cd13 "times" = true) (k13 : PySem.W.keepIn K (.ref f13) = true)
    (a14 : PySem.W.nsIn K mainGlobals "dot" = some (some (.ref f14))) (l14 : K.lookup f14 = some ⟨oc14, od14, .func (PySem.W.fnOf "dot" "dot" (defArgs (topS 12)) (defBody (topS 12)) (defScope (topS 12)) .none kV14 dc14 pm14 an14 cd14 ct14), sl14⟩) (c14 : PySem.W.codeIn K cd14 "dot" = true) (k14 : PySem.W.keepIn K (.ref f14) = true)
    (a15 : PySem.W.nsIn K mainGlobals "image" = some (some (.ref f15))) (l15 : K.lookup f15 = some ⟨oc15, od15, .func (PySem.W.fnOf "image" "image" (defArgs (topS 13)) (defBody (topS 13)) (defScope (topS 13)) .none kV15 dc15 pm15 an15 cd15 ct15), sl15⟩) (c15 : PySem.W.codeIn K cd15 "image" = true) (k15 : PySem.W.keepIn K (.ref f15) = true)
    (a16 : PySem.W.nsIn K mainGlobals "scaled" = some (some (.ref f16))) (l16 : K.lookup f16 = some ⟨oc16, od16, .func (PySem.W.fnOf "scaled" "scaled" (defArgs (topS 11)) (defBody (topS 11)) (defScope (topS 11)) .none kV16 dc16 pm16 an16 cd16 ct16), sl16⟩) (c16 : PySem.W.codeIn K cd16 "scaled" = true) (k16 : PySem.W.keepIn K (.ref f16) = true)
    (a17 : PySem.W.nsIn K mainGlobals "sum_of" = some (some (.ref f17))) (l17 : K.lookup f17 = some ⟨oc17, od17, .func (PySem.W.fnOf "sum_of" "sum_of" (defArgs (topS 10)) (defBody (topS 10)) (defScope (topS 10)) .none kV17 dc17 pm17 an17 cd17 ct17), sl17⟩) (c17 : PySem.W.codeIn K cd17 "sum_of" = true) (k17 : PySem.W.keepIn K (.ref f17) = true)
    (a18 : PySem.W.nsIn K mainGlobals "mixed" = some (some (.ref f18))) (l18 : K.lookup f18 = some ⟨oc18, od18, .func (PySem.W.fnOf "mixed" "mixed" (defArgs (topS 14)) (defBody (topS 14)) (defScope (topS 14)) .none kV18 dc18 pm18 an18 cd18 ct18), sl18⟩) (c18 : PySem.W.codeIn K cd18 "mixed" = true) (k18 : PySem.W.keepIn K (.ref f18) = true)
    (a19 : PySem.W.nsIn K mainGlobals "subtracted" = some (some (.ref f19))) (l19 : K.lookup f19 = some ⟨oc19, od19, .func (PySem.W.fnOf "subtracted" "subtracted" (defArgs (topS 5)) (defBody (topS 5)) (defScope (topS 5)) .none kV19 dc19 pm19 an19 cd19 ct19), sl19⟩) (c19 : PySem.W.codeIn K cd19 "subtracted" = true) (k19 : PySem.W.keepIn K (.ref f19) = true)
    (a20 : PySem.W.nsIn K mainGlobals "divided" = some (some (.ref f20))) (l20 : K.lookup f20 = some ⟨oc20, od20, .func (PySem.W.fnOf "divided" "divided" (defArgs (topS 7)) (defBody (topS 7)) (defScope (topS 7)) .none kV20 dc20 pm20 an20 cd20 ct20), sl20⟩) (c20 : PySem.W.codeIn K cd20 "divided" = true) (k20 : PySem.W.keepIn K (.ref f20) = true)
    (a21 : PySem.W.nsIn K mainGlobals "law" = some (some (.ref f21))) (l21 : K.lookup f21 = some ⟨oc21, od21, .func (PySem.W.fnOf "law" "law" (defArgs (topS 25)) (defBody (topS 25)) (defScope (topS 25)) .none kV21 dc21 pm21 an21 cd21 ct21), sl21⟩) (c21 : PySem.W.codeIn K cd21 "law" = true) (k21 : PySem.W.keepIn K (.ref f21) = true)
    (gg0 : PySem.W.nsIn K mainGlobals "ZERO" = some (some (.ref ga0))) (hh0 : K.lookup ga0 = some ⟨.type "tuple", go0, .seq gi0.toArray gm0, gs0⟩) (ww0 : Vals [V.int 0, V.int 1] gi0)
    (z0 : PySem.W.nsIn K mainGlobals "len" = some none)
    (z1 : PySem.W.nsIn K mainGlobals "range" = some none)
    (z2 : PySem.W.nsIn K mainGlobals "tuple" = some none)
    (z3 : PySem.W.nsIn K mainGlobals "int" = some none)
    (z4 : PySem.W.nsIn K mainGlobals "isinstance" = some none)
    (z5 : PySem.W.nsIn K mainGlobals "abs" = some none)
    (z6 : PySem.W.nsIn K mainGlobals "enumerate" = some none)
    (z7 : PySem.W.nsIn K mainGlobals "list" = some none)
    (z8 : PySem.W.nsIn K mainGlobals "zip" = some none)
    (z9 : PySem.W.nsIn K mainGlobals "all" = some none)
    (z10 : PySem.W.nsIn K mainGlobals "sum" = some none)
    (z11 : PySem.W.nsIn K mainGlobals "repr" = some none)
    (z12 : PySem.W.nsIn K mainGlobals "min" = some none)
    (z13 : PySem.W.nsIn K mainGlobals "any" = some none)
    (z14 : PySem.W.nsIn K mainGlobals "str" = some none)
    (z15 : PySem.W.nsIn K mainGlobals "max" = some none)
    (z16 : PySem.W.nsIn K mainGlobals "bool" = some none) : ModOk P w K mg tb := by
  refine ⟨fun f hf => ?_, fun x d e => ?_, fun x hx => ?_⟩
  · simp only [tb, fnsA, List.mem_cons, List.not_mem_nil, or_false] at hf
    rcases hf with rfl | rfl | rfl | rfl | rfl | rfl | rfl | rfl | rfl | rfl | rfl | rfl | rfl | rfl | rfl | rfl | rfl | rfl | rfl | rfl | rfl | rfl
    · exact defOk (x := "_law_row") (st := topS 17) X G a0 l0 c0 k0 sc__law_row cp__law_row df__law_row (fun _ h => h) (fun _ => rfl) (fun _ _ _ _ _ _ us hl => match us, hl with | [_, _, _], _ => rfl)
    · exact defOk (x := "_law_common") (st := topS 18) X G a1 l1 c1 k1 sc__law_common cp__law_common df__law_common (fun _ h => h) (fun _ => rfl) (fun _ _ _ _ _ _ us hl => match us, hl with | [_, _], _ => rfl)
    · exact defOk (x := "_law_lowest") (st := topS 19) X G a2 l2 c2 k2 sc__law_lowest cp__law_lowest df__law_lowest (fun _ h => h) (fun _ => rfl) (fun _ _ _ _ _ _ us hl => match us, hl with | [_, _], _ => rfl)
    · exact defOk (x := "_law_weights") (st := topS 24) X G a3 l3 c3 k3 sc__law_weights cp__law_weights df__law_weights (fun _ h => h) (fun _ => rfl) (fun _ _ _ _ _ _ us hl => match us, hl with | [_, _], _ => rfl)
    · exact defOk (x := "_law_matrix") (st := topS 23) X G a4 l4 c4 k4 sc__law_matrix cp__law_matrix df__law_matrix (fun _ h => h) (fun _ => rfl) (fun _ _ _ _ _ _ us hl => match us, hl with | [_, _, _], _ => rfl)
    · exact defOk (x := "_law_number") (st := topS 20) X G a5 l5 c5 k5 sc__law_number cp__law_number df__law_number (fun _ h => h) (fun _ => rfl) (fun _ _ _ _ _ _ us hl => match us, hl with | [_, _], _ => rfl)
    · exact defOk (x := "_law_fraction") (st := topS 21) X G a6 l6 c6 k6 sc__law_fraction cp__law_fraction df__law_fraction (fun _ h => h) (fun _ => rfl) (fun _ _ _ _ _ _ us hl => match us, hl with | [_, _], _ => rfl)
    · exact defOk (x := "_law_point") (st := topS 22) X G a7 l7 c7 k7 sc__law_point cp__law_point df__law_point (fun _ h => h) (fun _ => rfl) (fun _ _ _ _ _ _ us hl => match us, hl with | [_, _], _ => rfl)
    · exact defOk (x := "_law_cell") (st := topS 16) X G a8 l8 c8 k8 sc__law_cell cp__law_cell df__law_cell (fun _ h => h) (fun _ => rfl) (fun _ _ _ _ _ _ us hl => match us, hl with | [_, _], _ => rfl)
    · exact defOk (x := "greatest_divisor") (st := topS 2) X G a9 l9 c9 k9 sc_greatest_divisor cp_greatest_divisor df_greatest_divisor (fun _ h => h) (fun _ => rfl) (fun _ _ _ _ _ _ us hl => match us, hl with | [_, _], _ => rfl)
    · exact defOkD (x := "fraction") (st := topS 3) (j := 1) (dds := [.int 1]) X G a10 l10 t10 r10 (.cons (.int _) .nil) c10 k10 sc_fraction cp_fraction df_fraction (fun _ h => h) (fun m => rfl) rfl (fun kV doc pm an cdv ct us its h1 h2 => match us, its, h1, h2 with | [], [_], _, h2 => by (simp at h2; try omega) | [_], [_], _, _ => ⟨_, rfl, rfl⟩ | [_, _], [_], _, _ => ⟨_, rfl, rfl⟩ | _ :: _ :: _ :: _, [_], _, h2 => by (simp at h2; try omega))
    · exact defOk (x := "added") (st := topS 4) X G a11 l11 c11 k11 sc_added cp_added df_added (fun _ h => h) (fun _ => rfl) (fun _ _ _ _ _ _ us hl => match us, hl with | [_, _], _ => rfl)
    · exact defOk (x := "total") (st := topS 8) X G a12 l12 c12 k12 sc_total cp_total df_total (fun _ h => h) (fun _ => rfl) (fun _ _ _ _ _ _ us hl => match us, hl with | [_], _ => rfl)
    · exact defOk (x := "times") (st := topS 6) X G a13 l13 c13 k13 sc_times cp_times df_times (fun _ h => h) (fun _ => rfl) (fun _ _ _ _ _ _ us hl => match us, hl with | [_, _], _ => rfl)
    · exact defOk (x := "dot") (st := topS 12) X G a14 l14 c14 k14 sc_dot cp_dot df_dot (fun _ h => h) (fun _ => rfl) (fun _ _ _ _ _ _ us hl => match us, hl with | [_, _], _ => rfl)
    · exact defOk (x := "image") (st := topS 13) X G a15 l15 c15 k15 sc_image cp_image df_image (fun _ h => h) (fun _ => rfl) (fun _ _ _ _ _ _ us hl => match us, hl with | [_, _], _ => rfl)
    · exact defOk (x := "scaled") (st := topS 11) X G a16 l16 c16 k16 sc_scaled cp_scaled df_scaled (fun _ h => h) (fun _ => rfl) (fun _ _ _ _ _ _ us hl => match us, hl with | [_, _], _ => rfl)
    · exact defOk (x := "sum_of") (st := topS 10) X G a17 l17 c17 k17 sc_sum_of cp_sum_of df_sum_of (fun _ h => h) (fun _ => rfl) (fun _ _ _ _ _ _ us hl => match us, hl with | [_, _], _ => rfl)
    · exact defOk (x := "mixed") (st := topS 14) X G a18 l18 c18 k18 sc_mixed cp_mixed df_mixed (fun _ h => h) (fun _ => rfl) (fun _ _ _ _ _ _ us hl => match us, hl with | [_, _], _ => rfl)
    · exact defOk (x := "subtracted") (st := topS 5) X G a19 l19 c19 k19 sc_subtracted cp_subtracted df_subtracted (fun _ h => h) (fun _ => rfl) (fun _ _ _ _ _ _ us hl => match us, hl with | [_, _], _ => rfl)
    · exact defOk (x := "divided") (st := topS 7) X G a20 l20 c20 k20 sc_divided cp_divided df_divided (fun _ h => h) (fun _ => rfl) (fun _ _ _ _ _ _ us hl => match us, hl with | [_, _], _ => rfl)
    · exact defOk (x := "law") (st := topS 25) X G a21 l21 c21 k21 sc_law cp_law df_law (fun _ h => h) (fun _ => rfl) (fun _ _ _ _ _ _ us hl => match us, hl with | [_], _ => rfl)
  · simp only [tb, glA] at e
    split at e
    · rename_i ex
      cases e
      rw [ex]
      exact ⟨_, .ref ga0, PySem.W.mg_of X G gg0, rfl, .tup (sqT_K hh0 ww0 (by decide)) (by decide) (.cons (.int _) (.cons (.int _) .nil))⟩
    cases e
  · simp only [blNames, List.mem_cons, List.not_mem_nil, or_false] at hx
    rcases hx with rfl | rfl | rfl | rfl | rfl | rfl | rfl | rfl | rfl | rfl | rfl | rfl | rfl | rfl | rfl | rfl | rfl
    · exact PySem.W.mg_none_of X G z0
    · exact PySem.W.mg_none_of X G z1
    · exact PySem.W.mg_none_of X G z2
    · exact PySem.W.mg_none_of X G z3
    · exact PySem.W.mg_none_of X G z4
    · exact PySem.W.mg_none_of X G z5
    · exact PySem.W.mg_none_of X G z6
    · exact PySem.W.mg_none_of X G z7
    · exact PySem.W.mg_none_of X G z8
    · exact PySem.W.mg_none_of X G z9
    · exact PySem.W.mg_none_of X G z10
    · exact PySem.W.mg_none_of X G z11
    · exact PySem.W.mg_none_of X G z12
    · exact PySem.W.mg_none_of X G z13
    · exact PySem.W.mg_none_of X G z14
    · exact PySem.W.mg_none_of X G z15
    · exact PySem.W.mg_none_of X G z16
end LW

/-! law k08: the whole: what is linear -/
namespace LW
open PySem PySem.Spec PyProof.Rows L2 PI
def NN : Nat := 2 ^ 2000
theorem ce (ns : List Int) (j : Nat) (z : Int) (hz : z = (j : Nat)) (st : Sto) : callK tb NN 39 "_law_cell" [.scr ns, .int z] st = .ok (.int (cellZ ns j)) st := ce_at (by decide) df__law_cell ns j z hz st
theorem fl (x : Str) (m : Nat) (h : x ≠ "fraction") : tb.fill x m = [] := if_neg h
theorem hasFr : HasFr tb NN := ⟨df_fraction, df_greatest_divisor, rfl, rfl⟩
theorem hasPt : HasPt tb NN := ⟨hasFr, df_added, df_times, df_total, rfl, rfl, rfl, rfl⟩
theorem hasMx : HasMx tb NN := ⟨hasPt, df_sum_of, df_scaled, df_mixed, rfl, rfl⟩
theorem nn {k : Nat} (h : k ≤ 2000) : 2 ^ k ≤ NN := Nat.pow_le_pow_right (by decide) h
theorem lf {k : Nat} (hk : 3 ≤ k) (c j : Int) (st : Sto) : ∃ p : Int × Int, FrOk 30 p ∧ callK tb NN k "_law_fraction" [.int c, .int j] st = .ok (FD p) st :=
  lf_spec hk df__law_fraction df__law_number df__law_row df__law_lowest df__law_common rfl rfl rfl rfl c j st
theorem pt_spec {k : Nat} (hk : 4 ≤ k) (c : Int) (n : Nat) (hn : n ≤ 1000) (st : Sto) : ∃ ps : List (Int × Int), ps.length = n ∧ (∀ p ∈ ps, FrOk 30 p) ∧ callK tb NN k "_law_point" [.int c, .int (n : Nat)] st = .ok (.tup (ps.map FD)) st := by
  obtain ⟨k, rfl⟩ : ∃ j, k = j + 4 := ⟨k - 4, by omega⟩
  obtain ⟨ys, hp, e⟩ := comp_all (G := gmK tb NN (k + 3)) (elt := .call "_law_fraction" [(.bin false .Add (.bi false .int [(.var 0)]) (.bin false .Mult (.int 11) (.var 2))), (.var 2)]) (c := .gap) (p := .name 2) (own := [2]) (en := [some (.int c), some (.int (n : Nat)), none]) (v := ⟨rangeL 0 n, []⟩) (st := st) (P := fun x y => ∃ p, y = FD p ∧ FrOk 30 p) (stays_nil rfl) (rangeL 0 n) [] (fun x hx => by
    obtain ⟨i, _, rfl⟩ := rangeL_mem hx
    have m1 : mulOk 11 (0 + (i : Nat)) := mulOk_l (by decide)
    obtain ⟨p, hp, ep⟩ := lf (k := k + 3) (by omega) (c + 11 * (0 + (i : Nat))) (0 + (i : Nat)) st
    have f1 := fl "_law_fraction" 2 (by decide)
    exact ⟨FD p, ⟨p, rfl, hp⟩, by simp only [turnS, wipeE, PI.gmK_cl, PI.gmK_gl, PI.gmK_N, PI.gmK_fill, PI.ev_var, PI.ev_fz, PI.ev_glob, PI.ev_int, PI.ev_str, PI.ev_bl, PI.ev_non, PI.ev_gap, PI.ev_bin, PI.negV_int, PI.ev_neg, PI.ev_not, PI.wayV_bl, PI.notV_bl, PI.ev_and, PI.ev_or, PI.ev_ite, PI.ev_cmp, PI.ev_chain, PI.ev_ix, PI.ev_slice, PI.ev_tup, PI.ev_lst, PI.ev_comp, PI.ev_call, PI.ev_bi, PI.ev_bm, PI.evs_nil, PI.evs_cons, PI.et_, PI.ex_asg, PI.ex_par, PI.ex_setIx, PI.ex_ex, PI.ex_ret, PI.ex_ifs, PI.ex_loop, PI.ex_each, PI.ex_pass, PI.ex_brk, PI.ex_cont, PI.exs_nil, PI.thenS_nx, PI.thenS_ret, PI.thenS_brk, PI.thenS_cont, PI.thenS_exc, PI.exs_cons, PI.ite_bind, PI.ite_lift, PI.bp_name, PI.bp_tup, PI.bps_nil, PI.bps_cons, PI.bv_add, PI.bv_sub, PI.bv_mul, PI.bv_fdiv, PI.bv_mod, PI.bv_pow, PI.cv_lt, PI.cv_le, PI.cv_gt, PI.cv_ge, PI.cv_eqs, PI.cv_nes, PI.cv_eq, PI.cv_ne, PI.bi_int, PI.bi_abs, PI.bi_len, PI.bi_tuple, PI.bi_list, PI.bi_isI, PI.bi_repr, PI.bi_max, PI.bi_min, PI.seq_tup, PI.seq_lst, PI.seq_scr, PI.len_tup, PI.len_lst, PI.len_scr, PI.ty_tup, PI.ty_lst, PI.ty_scr, PI.ty_int, PI.ty_bl, PI.ty_str, PI.ty_non, PI.norm_tup, PI.norm_lst, PI.norm_int, PI.norm_str, PI.norm_bl, PI.norm_non, PI.ix_t0, PI.ix_t1, PI.ix_t2, PI.ix_t3, PI.ix_l0, PI.ix_l1, PI.ix_l2, PI.ix_l3, PI.at_new, PI.set_new, PI.it_tup, PI.it_lst, PI.cv_eqb, PI.cv_neb, PI.bv_addT, PI.bv_addL, PI.bi_intb, PI.bi_sumL, Out.bind_ok, Out.lift_ok, Out.bind_exc, Out.lift_exc, Out.calm_ok, newL_t, newL_f, List.map, List.replicate, List.length_cons, List.length_nil, List.cons_append, List.nil_append, List.append_nil, List.getElem?_cons_succ, List.getElem?_cons_zero, List.set, Nat.reduceAdd, Nat.reduceSub, decide_true, decide_false, if_true, if_false, Bool.false_eq_true, Bool.not_true, Bool.not_false, decide_eq_true_eq, isTy, eq_self, Bool.or_false, Bool.or_true, Bool.true_or, Bool.false_or, need_pos m1, f1, ep]⟩)
  obtain ⟨ps, rfl, hps⟩ := paired_frs hp
  rw [List.nil_append] at e
  refine ⟨ps, by rw [paired_len hps, rangeL_len], paired_right (R := fun (_ : D) p => FrOk 30 p) (P := FrOk 30) (fun _ _ h => h) hps, ?_⟩
  rw [callK_df df__law_point]
  refine runD_same rfl ?_
  have r9 := range1_ok (j := (n : Nat)) st ⟨by omega, by omega⟩
  rw [Int.toNat_natCast] at r9
  have sz : (rangeL 0 n).length ≤ sizeLine := short_ok (by rw [rangeL_len]; omega)
  simp only [PI.gmK_cl, PI.gmK_gl, PI.gmK_N, PI.gmK_fill, PI.ev_var, PI.ev_fz, PI.ev_glob, PI.ev_int, PI.ev_str, PI.ev_bl, PI.ev_non, PI.ev_gap, PI.ev_bin, PI.negV_int, PI.ev_neg, PI.ev_not, PI.wayV_bl, PI.notV_bl, PI.ev_and, PI.ev_or, PI.ev_ite, PI.ev_cmp, PI.ev_chain, PI.ev_ix, PI.ev_slice, PI.ev_tup, PI.ev_lst, PI.ev_comp, PI.ev_call, PI.ev_bi, PI.ev_bm, PI.evs_nil, PI.evs_cons, PI.et_, PI.ex_asg, PI.ex_par, PI.ex_setIx, PI.ex_ex, PI.ex_ret, PI.ex_ifs, PI.ex_loop, PI.ex_each, PI.ex_pass, PI.ex_brk, PI.ex_cont, PI.exs_nil, PI.thenS_nx, PI.thenS_ret, PI.thenS_brk, PI.thenS_cont, PI.thenS_exc, PI.exs_cons, PI.ite_bind, PI.ite_lift, PI.bp_name, PI.bp_tup, PI.bps_nil, PI.bps_cons, PI.bv_add, PI.bv_sub, PI.bv_mul, PI.bv_fdiv, PI.bv_mod, PI.bv_pow, PI.cv_lt, PI.cv_le, PI.cv_gt, PI.cv_ge, PI.cv_eqs, PI.cv_nes, PI.cv_eq, PI.cv_ne, PI.bi_int, PI.bi_abs, PI.bi_len, PI.bi_tuple, PI.bi_list, PI.bi_isI, PI.bi_repr, PI.bi_max, PI.bi_min, PI.seq_tup, PI.seq_lst, PI.seq_scr, PI.len_tup, PI.len_lst, PI.len_scr, PI.ty_tup, PI.ty_lst, PI.ty_scr, PI.ty_int, PI.ty_bl, PI.ty_str, PI.ty_non, PI.norm_tup, PI.norm_lst, PI.norm_int, PI.norm_str, PI.norm_bl, PI.norm_non, PI.ix_t0, PI.ix_t1, PI.ix_t2, PI.ix_t3, PI.ix_l0, PI.ix_l1, PI.ix_l2, PI.ix_l3, PI.at_new, PI.set_new, PI.it_tup, PI.it_lst, PI.cv_eqb, PI.cv_neb, PI.bv_addT, PI.bv_addL, PI.bi_intb, PI.bi_sumL, Out.bind_ok, Out.lift_ok, Out.bind_exc, Out.lift_exc, Out.calm_ok, newL_t, newL_f, List.map, List.replicate, List.length_cons, List.length_nil, List.cons_append, List.nil_append, List.append_nil, List.getElem?_cons_succ, List.getElem?_cons_zero, List.set, Nat.reduceAdd, Nat.reduceSub, decide_true, decide_false, if_true, if_false, Bool.false_eq_true, Bool.not_true, Bool.not_false, decide_eq_true_eq, isTy, eq_self, Bool.or_false, Bool.or_true, Bool.true_or, Bool.false_or, b__law_point, r9, need_pos sz, e]
theorem rangeL_map (n : Nat) : rangeL 0 n = (List.range n).map fun i => D.int (0 + (i : Nat)) := rfl
def rowsOf (xs : List Int) (R C : Nat) : List (List Int) := (List.range R).map fun i => (List.range C).map fun j => xs.getD (C * i + j) 0 - 20
theorem mx_spec {k : Nat} (hk : 2 ≤ k) (c : Int) (R C : Nat) (hR : R ≤ 4) (hC : C ≤ 4) (st : Sto) : ∃ rows : List (List Int), rows.length = R ∧ (∀ r ∈ rows, r.length = C ∧ ∀ z ∈ r, z.natAbs < 2 ^ 6) ∧ callK tb NN k "_law_matrix" [.int c, .int (R : Nat), .int (C : Nat)] st = .ok (.lst (rows.map fun r => .lst (r.map D.int))) st := by
  obtain ⟨k, rfl⟩ : ∃ j, k = j + 2 := ⟨k - 2, by omega⟩
  have hRC : R * C ≤ 16 := Nat.le_trans (Nat.mul_le_mul hR hC) (by decide)
  have hRCi : (R : Int) * (C : Int) < 10000 := by
    have e : ((R * C : Nat) : Int) = (R : Int) * (C : Int) := by simp
    omega
  obtain ⟨xs, hl, hx, er⟩ := ro_spec (T := tb) (N := NN) (k := k + 1) (by omega) df__law_row c ((R : Int) * (C : Int)) 41 st ⟨Int.mul_nonneg (by omega) (by omega), hRCi⟩ (by decide) (by decide)
  have hl' : xs.length = R * C := by
    have : ((R * C : Nat) : Int) = (R : Int) * (C : Int) := by simp
    rw [← this, Int.toNat_natCast] at hl
    exact hl
  have at_ : ∀ {i j : Nat}, i < R → j < C → C * i + j < xs.length := fun {i j} hi hj => by
    rw [hl', Nat.mul_comm R C]
    have : C * (i + 1) ≤ C * R := Nat.mul_le_mul_left C hi
    rw [Nat.mul_add, Nat.mul_one] at this
    omega
  refine ⟨rowsOf xs R C, by simp [rowsOf], fun r hr => ?_, ?_⟩
  · obtain ⟨i, hi, rfl⟩ := List.mem_map.mp hr
    refine ⟨by simp, fun z hz => ?_⟩
    obtain ⟨j, hj, rfl⟩ := List.mem_map.mp hz
    have h := at_ (List.mem_range.mp hi) (List.mem_range.mp hj)
    have b := hx (xs[C * i + j]) (List.getElem_mem h)
    rw [List.getD_eq_getElem?_getD, List.getElem?_eq_getElem h]
    show (xs[C * i + j] - 20).natAbs < 2 ^ 6
    omega
  · rw [callK_df df__law_matrix]
    refine runD_same rfl ?_
    have m0 : mulOk (R : Int) (C : Int) := mulOk_l (by omega)
    have f1 := fl "_law_row" 3 (by decide)
    have rR := range1_ok (j := (R : Nat)) st ⟨by omega, by omega⟩
    have rC := range1_ok (j := (C : Nat)) st ⟨by omega, by omega⟩
    rw [Int.toNat_natCast] at rR rC
    have sR : (rangeL 0 R).length ≤ sizeLine := short_ok (by rw [rangeL_len]; omega)
    have sC : (rangeL 0 C).length ≤ sizeLine := short_ok (by rw [rangeL_len]; omega)
    have inner : ∀ i, i < R → compS (gmK tb NN (k + 1)) (.bin false .Sub (.ix (.var 3) (.bin false .Add (.bin false .Mult (.var 2) (.var 5)) (.var 4))) (.int 20)) (.name 4) .gap [4] [some (.int c), some (.int (R : Nat)), some (.int (C : Nat)), some (.lst (xs.map D.int)), none, some (.int (0 + (i : Nat)))] ⟨rangeL 0 C, []⟩ (rangeL 0 C) [] st =
        .ok (((List.range C).map fun j => xs.getD (C * i + j) 0 - 20).map D.int) st := fun i hi => by
      have := comp_map (G := gmK tb NN (k + 1)) (elt := .bin false .Sub (.ix (.var 3) (.bin false .Add (.bin false .Mult (.var 2) (.var 5)) (.var 4))) (.int 20)) (p := .name 4) (c := .gap) (own := [4]) (en := [some (.int c), some (.int (R : Nat)), some (.int (C : Nat)), some (.lst (xs.map D.int)), none, some (.int (0 + (i : Nat)))]) (v := ⟨rangeL 0 C, []⟩) (st := st) (stays_nil rfl) (fun j : Nat => D.int (0 + (j : Nat))) (fun j => D.int (xs.getD (C * i + j) 0 - 20)) (List.range C) [] (fun j hj => by
        have h := at_ hi (List.mem_range.mp hj)
        have hd : (xs.map D.int)[C * i + j]? = some (.int (xs.getD (C * i + j) 0)) := by
          rw [List.getElem?_map, List.getD_eq_getElem?_getD, List.getElem?_eq_getElem h]
          rfl
        have ix := ix_seq (st := st) (x := .lst (xs.map D.int)) (z := (C : Int) * (0 + (i : Nat)) + (0 + (j : Nat))) (C * i + j) rfl (by simp) hd
        have m1 : mulOk (C : Int) (0 + (i : Nat)) := mulOk_l (by omega)
        simp only [turnS, wipeE, PI.gmK_cl, PI.gmK_gl, PI.gmK_N, PI.gmK_fill, PI.ev_var, PI.ev_fz, PI.ev_glob, PI.ev_int, PI.ev_str, PI.ev_bl, PI.ev_non, PI.ev_gap, PI.ev_bin, PI.negV_int, PI.ev_neg, PI.ev_not, PI.wayV_bl, PI.notV_bl, PI.ev_and, PI.ev_or, PI.ev_ite, PI.ev_cmp, PI.ev_chain, PI.ev_ix, PI.ev_slice, PI.ev_tup, PI.ev_lst, PI.ev_comp, PI.ev_call, PI.ev_bi, PI.ev_bm, PI.evs_nil, PI.evs_cons, PI.et_, PI.ex_asg, PI.ex_par, PI.ex_setIx, PI.ex_ex, PI.ex_ret, PI.ex_ifs, PI.ex_loop, PI.ex_each, PI.ex_pass, PI.ex_brk, PI.ex_cont, PI.exs_nil, PI.thenS_nx, PI.thenS_ret, PI.thenS_brk, PI.thenS_cont, PI.thenS_exc, PI.exs_cons, PI.ite_bind, PI.ite_lift, PI.bp_name, PI.bp_tup, PI.bps_nil, PI.bps_cons, PI.bv_add, PI.bv_sub, PI.bv_mul, PI.bv_fdiv, PI.bv_mod, PI.bv_pow, PI.cv_lt, PI.cv_le, PI.cv_gt, PI.cv_ge, PI.cv_eqs, PI.cv_nes, PI.cv_eq, PI.cv_ne, PI.bi_int, PI.bi_abs, PI.bi_len, PI.bi_tuple, PI.bi_list, PI.bi_isI, PI.bi_repr, PI.bi_max, PI.bi_min, PI.seq_tup, PI.seq_lst, PI.seq_scr, PI.len_tup, PI.len_lst, PI.len_scr, PI.ty_tup, PI.ty_lst, PI.ty_scr, PI.ty_int, PI.ty_bl, PI.ty_str, PI.ty_non, PI.norm_tup, PI.norm_lst, PI.norm_int, PI.norm_str, PI.norm_bl, PI.norm_non, PI.ix_t0, PI.ix_t1, PI.ix_t2, PI.ix_t3, PI.ix_l0, PI.ix_l1, PI.ix_l2, PI.ix_l3, PI.at_new, PI.set_new, PI.it_tup, PI.it_lst, PI.cv_eqb, PI.cv_neb, PI.bv_addT, PI.bv_addL, PI.bi_intb, PI.bi_sumL, Out.bind_ok, Out.lift_ok, Out.bind_exc, Out.lift_exc, Out.calm_ok, newL_t, newL_f, List.map, List.replicate, List.length_cons, List.length_nil, List.cons_append, List.nil_append, List.append_nil, List.getElem?_cons_succ, List.getElem?_cons_zero, List.set, Nat.reduceAdd, Nat.reduceSub, decide_true, decide_false, if_true, if_false, Bool.false_eq_true, Bool.not_true, Bool.not_false, decide_eq_true_eq, isTy, eq_self, Bool.or_false, Bool.or_true, Bool.true_or, Bool.false_or, need_pos m1, ix])
      refine Eq.trans this ?_
      rw [List.nil_append, List.map_map]
      rfl
    have outer := comp_map (G := gmK tb NN (k + 1)) (elt := .comp false (.bin false .Sub (.ix (.var 3) (.bin false .Add (.bin false .Mult (.var 2) (.var 5)) (.var 4))) (.int 20)) (.name 4) .range1 [(.var 2)] .gap [4]) (p := .name 5) (c := .gap) (own := [5]) (en := [some (.int c), some (.int (R : Nat)), some (.int (C : Nat)), some (.lst (xs.map D.int)), none, none]) (v := ⟨rangeL 0 R, []⟩) (st := st) (stays_nil rfl) (fun i : Nat => D.int (0 + (i : Nat))) (fun i => D.lst (((List.range C).map fun j => xs.getD (C * i + j) 0 - 20).map D.int)) (List.range R) [] (fun i hi => by
      have hin := inner i (List.mem_range.mp hi)
      simp only [turnS, wipeE, PI.gmK_cl, PI.gmK_gl, PI.gmK_N, PI.gmK_fill, PI.ev_var, PI.ev_fz, PI.ev_glob, PI.ev_int, PI.ev_str, PI.ev_bl, PI.ev_non, PI.ev_gap, PI.ev_bin, PI.negV_int, PI.ev_neg, PI.ev_not, PI.wayV_bl, PI.notV_bl, PI.ev_and, PI.ev_or, PI.ev_ite, PI.ev_cmp, PI.ev_chain, PI.ev_ix, PI.ev_slice, PI.ev_tup, PI.ev_lst, PI.ev_comp, PI.ev_call, PI.ev_bi, PI.ev_bm, PI.evs_nil, PI.evs_cons, PI.et_, PI.ex_asg, PI.ex_par, PI.ex_setIx, PI.ex_ex, PI.ex_ret, PI.ex_ifs, PI.ex_loop, PI.ex_each, PI.ex_pass, PI.ex_brk, PI.ex_cont, PI.exs_nil, PI.thenS_nx, PI.thenS_ret, PI.thenS_brk, PI.thenS_cont, PI.thenS_exc, PI.exs_cons, PI.ite_bind, PI.ite_lift, PI.bp_name, PI.bp_tup, PI.bps_nil, PI.bps_cons, PI.bv_add, PI.bv_sub, PI.bv_mul, PI.bv_fdiv, PI.bv_mod, PI.bv_pow, PI.cv_lt, PI.cv_le, PI.cv_gt, PI.cv_ge, PI.cv_eqs, PI.cv_nes, PI.cv_eq, PI.cv_ne, PI.bi_int, PI.bi_abs, PI.bi_len, PI.bi_tuple, PI.bi_list, PI.bi_isI, PI.bi_repr, PI.bi_max, PI.bi_min, PI.seq_tup, PI.seq_lst, PI.seq_scr, PI.len_tup, PI.len_lst, PI.len_scr, PI.ty_tup, PI.ty_lst, PI.ty_scr, PI.ty_int, PI.ty_bl, PI.ty_str, PI.ty_non, PI.norm_tup, PI.norm_lst, PI.norm_int, PI.norm_str, PI.norm_bl, PI.norm_non, PI.ix_t0, PI.ix_t1, PI.ix_t2, PI.ix_t3, PI.ix_l0, PI.ix_l1, PI.ix_l2, PI.ix_l3, PI.at_new, PI.set_new, PI.it_tup, PI.it_lst, PI.cv_eqb, PI.cv_neb, PI.bv_addT, PI.bv_addL, PI.bi_intb, PI.bi_sumL, Out.bind_ok, Out.lift_ok, Out.bind_exc, Out.lift_exc, Out.calm_ok, newL_t, newL_f, List.map, List.replicate, List.length_cons, List.length_nil, List.cons_append, List.nil_append, List.append_nil, List.getElem?_cons_succ, List.getElem?_cons_zero, List.set, Nat.reduceAdd, Nat.reduceSub, decide_true, decide_false, if_true, if_false, Bool.false_eq_true, Bool.not_true, Bool.not_false, decide_eq_true_eq, isTy, eq_self, Bool.or_false, Bool.or_true, Bool.true_or, Bool.false_or, rC, need_pos sC, hin])
    rw [← rangeL_map, List.nil_append] at outer
    simp only [PI.gmK_cl, PI.gmK_gl, PI.gmK_N, PI.gmK_fill, PI.ev_var, PI.ev_fz, PI.ev_glob, PI.ev_int, PI.ev_str, PI.ev_bl, PI.ev_non, PI.ev_gap, PI.ev_bin, PI.negV_int, PI.ev_neg, PI.ev_not, PI.wayV_bl, PI.notV_bl, PI.ev_and, PI.ev_or, PI.ev_ite, PI.ev_cmp, PI.ev_chain, PI.ev_ix, PI.ev_slice, PI.ev_tup, PI.ev_lst, PI.ev_comp, PI.ev_call, PI.ev_bi, PI.ev_bm, PI.evs_nil, PI.evs_cons, PI.et_, PI.ex_asg, PI.ex_par, PI.ex_setIx, PI.ex_ex, PI.ex_ret, PI.ex_ifs, PI.ex_loop, PI.ex_each, PI.ex_pass, PI.ex_brk, PI.ex_cont, PI.exs_nil, PI.thenS_nx, PI.thenS_ret, PI.thenS_brk, PI.thenS_cont, PI.thenS_exc, PI.exs_cons, PI.ite_bind, PI.ite_lift, PI.bp_name, PI.bp_tup, PI.bps_nil, PI.bps_cons, PI.bv_add, PI.bv_sub, PI.bv_mul, PI.bv_fdiv, PI.bv_mod, PI.bv_pow, PI.cv_lt, PI.cv_le, PI.cv_gt, PI.cv_ge, PI.cv_eqs, PI.cv_nes, PI.cv_eq, PI.cv_ne, PI.bi_int, PI.bi_abs, PI.bi_len, PI.bi_tuple, PI.bi_list, PI.bi_isI, PI.bi_repr, PI.bi_max, PI.bi_min, PI.seq_tup, PI.seq_lst, PI.seq_scr, PI.len_tup, PI.len_lst, PI.len_scr, PI.ty_tup, PI.ty_lst, PI.ty_scr, PI.ty_int, PI.ty_bl, PI.ty_str, PI.ty_non, PI.norm_tup, PI.norm_lst, PI.norm_int, PI.norm_str, PI.norm_bl, PI.norm_non, PI.ix_t0, PI.ix_t1, PI.ix_t2, PI.ix_t3, PI.ix_l0, PI.ix_l1, PI.ix_l2, PI.ix_l3, PI.at_new, PI.set_new, PI.it_tup, PI.it_lst, PI.cv_eqb, PI.cv_neb, PI.bv_addT, PI.bv_addL, PI.bi_intb, PI.bi_sumL, Out.bind_ok, Out.lift_ok, Out.bind_exc, Out.lift_exc, Out.calm_ok, newL_t, newL_f, List.map, List.replicate, List.length_cons, List.length_nil, List.cons_append, List.nil_append, List.append_nil, List.getElem?_cons_succ, List.getElem?_cons_zero, List.set, Nat.reduceAdd, Nat.reduceSub, decide_true, decide_false, if_true, if_false, Bool.false_eq_true, Bool.not_true, Bool.not_false, decide_eq_true_eq, isTy, eq_self, Bool.or_false, Bool.or_true, Bool.true_or, Bool.false_or, b__law_matrix, need_pos m0, f1, er, rR, need_pos sR, outer]
    rw [rowsOf, List.map_map]
    rfl
theorem bi_sumR (m : Bool) (n : Nat) (ns : List Int) (st : Sto) (h : st[n]? = some (.lst (ns.map D.int))) : biV m .sum [.ref n] st = .ok (.int ns.sum) st := by
  show sumV [.ref n] st = _
  simp only [sumV, lstOf, h, intsOf_map]
theorem sum_nn : ∀ {xs : List Int}, (∀ x ∈ xs, 0 ≤ x ∧ x < 60) → 0 ≤ xs.sum ∧ xs.sum ≤ 60 * (xs.length : Int)
  | [], _ => by simp
  | x :: xs, h => by
    obtain ⟨a, b⟩ := sum_nn (xs := xs) fun y hy => h y (List.mem_cons_of_mem _ hy)
    have := h x (List.mem_cons_self ..)
    rw [List.sum_cons, List.length_cons]
    omega
theorem sum_parts (s : Int) (hs : s ≠ 0) : ∀ xs : List Int, ((xs.map fun x => fr x s).map val).sum = (xs.sum : Rat) / (s : Rat)
  | [] => by simp; grind
  | x :: xs => by
    rw [List.map_cons, List.map_cons, List.sum_cons, sum_parts s hs xs, val_fr hs, List.sum_cons, Rat.intCast_add]
    have := ratne hs
    grind
/-- weights: their sum is one -/
structure Wts (n : Nat) (ws : List (Int × Int)) : Prop where
  len : ws.length = n
  b : ∀ w ∈ ws, FrB 9 w ∧ Low w
  one : (ws.map val).sum = 1
theorem parts_w {xs : List Int} {n : Nat} (hl : xs.length = n) (hn : n ≤ 5) (hx : ∀ x ∈ xs, 0 ≤ x ∧ x < 60) (hs : xs.sum ≠ 0) : Wts n (xs.map fun x => fr x xs.sum) := by
  have sn := sum_nn hx
  have s9 : xs.sum.natAbs < 2 ^ 9 := by omega
  refine ⟨by rw [List.length_map]; exact hl, fun w hw => ?_, ?_⟩
  · obtain ⟨x, hxm, rfl⟩ := List.mem_map.mp hw
    have := hx x hxm
    obtain ⟨a, b, c, d⟩ := fr_size (n := x) (d := xs.sum) (m := 9) hs (by omega) s9
    exact ⟨⟨a, b, c⟩, b, d⟩
  · rw [sum_parts _ hs]
    have := ratne hs
    grind
theorem wt_tail (k : Nat) (c : Int) (n : Nat) (hn : n ≤ 5) (st : Sto) (row : D) (xs : List Int) (hl : xs.length = n) (hx : ∀ x ∈ xs, 0 ≤ x ∧ x < 60) (hs : xs.sum ≠ 0) (z4 z5 : Option D) (hk : 2 ≤ k) :
    execSs (gmK tb NN k) [.ret (.bi false .tuple [(.comp false (.call "_law_lowest" [(.var 5), (.bi false .sum [(.var 3)])]) (.name 5) .plain [(.var 3)] .gap [5])])] [some (.int c), some (.int (n : Nat)), some row, some (.ref st.length), z4, z5] (st ++ [.lst (xs.map D.int)]) =
      .ok (.ret (.tup ((xs.map fun x => fr x xs.sum).map FD))) (st ++ [.lst (xs.map D.int)]) := by
  have sn := sum_nn hx
  have hat : (st ++ [Cell.lst (xs.map D.int)])[st.length]? = some (.lst (xs.map D.int)) := at_new _ _
  have sq : seqOf (st ++ [Cell.lst (xs.map D.int)]) (.ref st.length) = some (xs.map D.int) := by
    simp only [seqOf, hat]
  have iz := it_seq sq
  have su := bi_sumR false st.length xs (st ++ [.lst (xs.map D.int)]) hat
  have sz : (xs.map D.int).length ≤ sizeLine := short_ok (by rw [List.length_map]; omega)
  have f1 := fl "_law_lowest" 2 (by decide)
  have ec := comp_map (G := gmK tb NN k) (elt := .call "_law_lowest" [(.var 5), (.bi false .sum [(.var 3)])]) (p := .name 5) (c := .gap) (own := [5]) (en := [some (.int c), some (.int (n : Nat)), some row, some (.ref st.length), z4, z5]) (st_seq sq (xs.map D.int)) D.int (fun x => FD (fr x xs.sum)) xs [] (fun x hxm => by
    have := hx x hxm
    have lo := lo_spec (T := tb) (N := NN) (k := k) hk df__law_lowest df__law_common rfl x xs.sum (st ++ [.lst (xs.map D.int)]) (pow_up (show x.natAbs < 2 ^ 6 by omega) (by decide)) hs (up9000 (show xs.sum.natAbs < 2 ^ 9 by omega) (by decide))
    simp only [turnS, wipeE, PI.gmK_cl, PI.gmK_gl, PI.gmK_N, PI.gmK_fill, PI.ev_var, PI.ev_fz, PI.ev_glob, PI.ev_int, PI.ev_str, PI.ev_bl, PI.ev_non, PI.ev_gap, PI.ev_bin, PI.negV_int, PI.ev_neg, PI.ev_not, PI.wayV_bl, PI.notV_bl, PI.ev_and, PI.ev_or, PI.ev_ite, PI.ev_cmp, PI.ev_chain, PI.ev_ix, PI.ev_slice, PI.ev_tup, PI.ev_lst, PI.ev_comp, PI.ev_call, PI.ev_bi, PI.ev_bm, PI.evs_nil, PI.evs_cons, PI.et_, PI.ex_asg, PI.ex_par, PI.ex_setIx, PI.ex_ex, PI.ex_ret, PI.ex_ifs, PI.ex_loop, PI.ex_each, PI.ex_pass, PI.ex_brk, PI.ex_cont, PI.exs_nil, PI.thenS_nx, PI.thenS_ret, PI.thenS_brk, PI.thenS_cont, PI.thenS_exc, PI.exs_cons, PI.ite_bind, PI.ite_lift, PI.bp_name, PI.bp_tup, PI.bps_nil, PI.bps_cons, PI.bv_add, PI.bv_sub, PI.bv_mul, PI.bv_fdiv, PI.bv_mod, PI.bv_pow, PI.cv_lt, PI.cv_le, PI.cv_gt, PI.cv_ge, PI.cv_eqs, PI.cv_nes, PI.cv_eq, PI.cv_ne, PI.bi_int, PI.bi_abs, PI.bi_len, PI.bi_tuple, PI.bi_list, PI.bi_isI, PI.bi_repr, PI.bi_max, PI.bi_min, PI.seq_tup, PI.seq_lst, PI.seq_scr, PI.len_tup, PI.len_lst, PI.len_scr, PI.ty_tup, PI.ty_lst, PI.ty_scr, PI.ty_int, PI.ty_bl, PI.ty_str, PI.ty_non, PI.norm_tup, PI.norm_lst, PI.norm_int, PI.norm_str, PI.norm_bl, PI.norm_non, PI.ix_t0, PI.ix_t1, PI.ix_t2, PI.ix_t3, PI.ix_l0, PI.ix_l1, PI.ix_l2, PI.ix_l3, PI.at_new, PI.set_new, PI.it_tup, PI.it_lst, PI.cv_eqb, PI.cv_neb, PI.bv_addT, PI.bv_addL, PI.bi_intb, PI.bi_sumL, Out.bind_ok, Out.lift_ok, Out.bind_exc, Out.lift_exc, Out.calm_ok, newL_t, newL_f, List.map, List.replicate, List.length_cons, List.length_nil, List.cons_append, List.nil_append, List.append_nil, List.getElem?_cons_succ, List.getElem?_cons_zero, List.set, Nat.reduceAdd, Nat.reduceSub, decide_true, decide_false, if_true, if_false, Bool.false_eq_true, Bool.not_true, Bool.not_false, decide_eq_true_eq, isTy, eq_self, Bool.or_false, Bool.or_true, Bool.true_or, Bool.false_or, su, f1, lo])
  rw [List.nil_append] at ec
  simp only [PI.gmK_cl, PI.gmK_gl, PI.gmK_N, PI.gmK_fill, PI.ev_var, PI.ev_fz, PI.ev_glob, PI.ev_int, PI.ev_str, PI.ev_bl, PI.ev_non, PI.ev_gap, PI.ev_bin, PI.negV_int, PI.ev_neg, PI.ev_not, PI.wayV_bl, PI.notV_bl, PI.ev_and, PI.ev_or, PI.ev_ite, PI.ev_cmp, PI.ev_chain, PI.ev_ix, PI.ev_slice, PI.ev_tup, PI.ev_lst, PI.ev_comp, PI.ev_call, PI.ev_bi, PI.ev_bm, PI.evs_nil, PI.evs_cons, PI.et_, PI.ex_asg, PI.ex_par, PI.ex_setIx, PI.ex_ex, PI.ex_ret, PI.ex_ifs, PI.ex_loop, PI.ex_each, PI.ex_pass, PI.ex_brk, PI.ex_cont, PI.exs_nil, PI.thenS_nx, PI.thenS_ret, PI.thenS_brk, PI.thenS_cont, PI.thenS_exc, PI.exs_cons, PI.ite_bind, PI.ite_lift, PI.bp_name, PI.bp_tup, PI.bps_nil, PI.bps_cons, PI.bv_add, PI.bv_sub, PI.bv_mul, PI.bv_fdiv, PI.bv_mod, PI.bv_pow, PI.cv_lt, PI.cv_le, PI.cv_gt, PI.cv_ge, PI.cv_eqs, PI.cv_nes, PI.cv_eq, PI.cv_ne, PI.bi_int, PI.bi_abs, PI.bi_len, PI.bi_tuple, PI.bi_list, PI.bi_isI, PI.bi_repr, PI.bi_max, PI.bi_min, PI.seq_tup, PI.seq_lst, PI.seq_scr, PI.len_tup, PI.len_lst, PI.len_scr, PI.ty_tup, PI.ty_lst, PI.ty_scr, PI.ty_int, PI.ty_bl, PI.ty_str, PI.ty_non, PI.norm_tup, PI.norm_lst, PI.norm_int, PI.norm_str, PI.norm_bl, PI.norm_non, PI.ix_t0, PI.ix_t1, PI.ix_t2, PI.ix_t3, PI.ix_l0, PI.ix_l1, PI.ix_l2, PI.ix_l3, PI.at_new, PI.set_new, PI.it_tup, PI.it_lst, PI.cv_eqb, PI.cv_neb, PI.bv_addT, PI.bv_addL, PI.bi_intb, PI.bi_sumL, Out.bind_ok, Out.lift_ok, Out.bind_exc, Out.lift_exc, Out.calm_ok, newL_t, newL_f, List.map, List.replicate, List.length_cons, List.length_nil, List.cons_append, List.nil_append, List.append_nil, List.getElem?_cons_succ, List.getElem?_cons_zero, List.set, Nat.reduceAdd, Nat.reduceSub, decide_true, decide_false, if_true, if_false, Bool.false_eq_true, Bool.not_true, Bool.not_false, decide_eq_true_eq, isTy, eq_self, Bool.or_false, Bool.or_true, Bool.true_or, Bool.false_or, iz, need_pos sz, ec, List.map_map]
  rfl
theorem wt_spec {k : Nat} (hk : 3 ≤ k) (c : Int) (n : Nat) (h1 : 1 ≤ n) (hn : n ≤ 5) (st : Sto) : ∃ ws, Wts n ws ∧ callK tb NN k "_law_weights" [.int c, .int (n : Nat)] st = .ok (.tup (ws.map FD)) st := by
  obtain ⟨k, rfl⟩ : ∃ j, k = j + 3 := ⟨k - 3, by omega⟩
  obtain ⟨rs, rl, rx, er⟩ := ro_spec (T := tb) (N := NN) (k := k + 2) (by omega) df__law_row c ((n : Int) + 1) 60 st ⟨by omega, by omega⟩ (by decide) (by decide)
  have rl' : rs.length = n + 1 := by omega
  have f1 := fl "_law_row" 3 (by decide)
  have rC := range1_ok (j := (n : Nat)) st ⟨by omega, by omega⟩
  rw [Int.toNat_natCast] at rC
  have sC : (rangeL 0 n).length ≤ sizeLine := short_ok (by rw [rangeL_len]; omega)
  have y := fmod_lt (a := rs.getD n 0) (b := 2) (by decide)
  have n2 : (2 : Int) ≠ 0 := by decide
  obtain ⟨b, hb0, hb1, hb⟩ : ∃ b : Int, 0 < b ∧ b ≤ 60 ∧ ixV (.lst [.int 7, .int 60]) (.int ((rs.getD n 0).fmod 2)) st = .ok (.int b) st := by
    have : (rs.getD n 0).fmod 2 = 0 ∨ (rs.getD n 0).fmod 2 = 1 := by omega
    rcases this with e | e <;> rw [e]
    · exact ⟨7, by decide, by decide, by simp⟩
    · exact ⟨60, by decide, by decide, by simp⟩
  have b0 : b ≠ 0 := by omega
  have itn : ∀ i, i ≤ n → (rs.map D.int)[i]? = some (.int (rs.getD i 0)) := fun i hi => by
    rw [List.getElem?_map, List.getD_eq_getElem?_getD, List.getElem?_eq_getElem (by omega)]
    rfl
  have ec := comp_map (G := gmK tb NN (k + 2)) (elt := .bin false .Mod (.bi false .int [(.ix (.var 2) (.var 4))]) (.ix (.lst false [(.int 7), (.int 60)]) (.bin false .Mod (.bi false .int [(.ix (.var 2) (.var 1))]) (.int 2)))) (p := .name 4) (c := .gap) (own := [4]) (en := [some (.int c), some (.int (n : Nat)), some (.lst (rs.map D.int)), none, none, none]) (v := ⟨rangeL 0 n, []⟩) (st := st) (stays_nil rfl) (fun i : Nat => D.int (0 + (i : Nat))) (fun i => D.int ((rs.getD i 0).fmod b)) (List.range n) [] (fun i hi => by
    have h := List.mem_range.mp hi
    have i1 := ix_seq (st := st) (x := .lst (rs.map D.int)) (z := 0 + (i : Nat)) i rfl (by omega) (itn i (by omega))
    have i2 := ix_seq (st := st) (x := .lst (rs.map D.int)) (z := (n : Nat)) n rfl rfl (itn n (Nat.le_refl _))
    simp only [turnS, wipeE, PI.gmK_cl, PI.gmK_gl, PI.gmK_N, PI.gmK_fill, PI.ev_var, PI.ev_fz, PI.ev_glob, PI.ev_int, PI.ev_str, PI.ev_bl, PI.ev_non, PI.ev_gap, PI.ev_bin, PI.negV_int, PI.ev_neg, PI.ev_not, PI.wayV_bl, PI.notV_bl, PI.ev_and, PI.ev_or, PI.ev_ite, PI.ev_cmp, PI.ev_chain, PI.ev_ix, PI.ev_slice, PI.ev_tup, PI.ev_lst, PI.ev_comp, PI.ev_call, PI.ev_bi, PI.ev_bm, PI.evs_nil, PI.evs_cons, PI.et_, PI.ex_asg, PI.ex_par, PI.ex_setIx, PI.ex_ex, PI.ex_ret, PI.ex_ifs, PI.ex_loop, PI.ex_each, PI.ex_pass, PI.ex_brk, PI.ex_cont, PI.exs_nil, PI.thenS_nx, PI.thenS_ret, PI.thenS_brk, PI.thenS_cont, PI.thenS_exc, PI.exs_cons, PI.ite_bind, PI.ite_lift, PI.bp_name, PI.bp_tup, PI.bps_nil, PI.bps_cons, PI.bv_add, PI.bv_sub, PI.bv_mul, PI.bv_fdiv, PI.bv_mod, PI.bv_pow, PI.cv_lt, PI.cv_le, PI.cv_gt, PI.cv_ge, PI.cv_eqs, PI.cv_nes, PI.cv_eq, PI.cv_ne, PI.bi_int, PI.bi_abs, PI.bi_len, PI.bi_tuple, PI.bi_list, PI.bi_isI, PI.bi_repr, PI.bi_max, PI.bi_min, PI.seq_tup, PI.seq_lst, PI.seq_scr, PI.len_tup, PI.len_lst, PI.len_scr, PI.ty_tup, PI.ty_lst, PI.ty_scr, PI.ty_int, PI.ty_bl, PI.ty_str, PI.ty_non, PI.norm_tup, PI.norm_lst, PI.norm_int, PI.norm_str, PI.norm_bl, PI.norm_non, PI.ix_t0, PI.ix_t1, PI.ix_t2, PI.ix_t3, PI.ix_l0, PI.ix_l1, PI.ix_l2, PI.ix_l3, PI.at_new, PI.set_new, PI.it_tup, PI.it_lst, PI.cv_eqb, PI.cv_neb, PI.bv_addT, PI.bv_addL, PI.bi_intb, PI.bi_sumL, Out.bind_ok, Out.lift_ok, Out.bind_exc, Out.lift_exc, Out.calm_ok, newL_t, newL_f, List.map, List.replicate, List.length_cons, List.length_nil, List.cons_append, List.nil_append, List.append_nil, List.getElem?_cons_succ, List.getElem?_cons_zero, List.set, Nat.reduceAdd, Nat.reduceSub, decide_true, decide_false, if_true, if_false, Bool.false_eq_true, Bool.not_true, Bool.not_false, decide_eq_true_eq, isTy, eq_self, Bool.or_false, Bool.or_true, Bool.true_or, Bool.false_or, i1, i2, need_pos n2, hb, need_pos b0])
  have ec' : compS (gmK tb NN (k + 2)) (.bin false .Mod (.bi false .int [(.ix (.var 2) (.var 4))]) (.ix (.lst false [(.int 7), (.int 60)]) (.bin false .Mod (.bi false .int [(.ix (.var 2) (.var 1))]) (.int 2)))) (.name 4) .gap [4] [some (.int c), some (.int (n : Nat)), some (.lst (rs.map D.int)), none, none, none] ⟨rangeL 0 n, []⟩ (rangeL 0 n) [] st = .ok (((List.range n).map fun i => (rs.getD i 0).fmod b).map D.int) st := by
    refine Eq.trans ec ?_
    rw [List.nil_append, List.map_map]
    rfl
  generalize hxs : ((List.range n).map fun i => (rs.getD i 0).fmod b) = xs at ec'
  have xl : xs.length = n := by rw [← hxs]; simp
  have xx : ∀ x ∈ xs, 0 ≤ x ∧ x < 60 := fun x hx => by
    rw [← hxs] at hx
    obtain ⟨i, _, rfl⟩ := List.mem_map.mp hx
    have := fmod_lt (a := rs.getD i 0) hb0
    omega
  obtain ⟨x0, xt, hx0⟩ : ∃ x0 xt, xs = x0 :: xt := by
    cases xs with
    | nil => simp at xl; omega
    | cons a t => exact ⟨a, t, rfl⟩
  have hat : (st ++ [Cell.lst (xs.map D.int)])[st.length]? = some (.lst (xs.map D.int)) := at_new _ _
  have su := bi_sumR false st.length xs (st ++ [.lst (xs.map D.int)]) hat
  have go : ∀ ys : List Int, ys.length = n → (∀ x ∈ ys, 0 ≤ x ∧ x < 60) → ys.sum ≠ 0 → execS (gmK tb NN (k + 2)) (.ifs (.cmp .Eq (.bi false .sum [(.var 3)]) (.int 0)) [.setIx (.var 3) (.int 0) (.int 1)] []) [some (.int c), some (.int (n : Nat)), some (.lst (rs.map D.int)), some (.ref st.length), none, none] (st ++ [.lst (xs.map D.int)]) =
      .ok (.nx [some (.int c), some (.int (n : Nat)), some (.lst (rs.map D.int)), some (.ref st.length), none, none]) (st ++ [.lst (ys.map D.int)]) → ∃ ws, Wts n ws ∧ callK tb NN (k + 3) "_law_weights" [.int c, .int (n : Nat)] st = .ok (.tup (ws.map FD)) st := by
    intro ys yl yx ysum h
    refine ⟨ys.map fun x => fr x ys.sum, parts_w yl hn yx ysum, ?_⟩
    rw [callK_df df__law_weights]
    refine runD_app (t := [.lst (ys.map D.int)]) rfl ?_ ?_
    · have : ∀ l : List (Int × Int), belowL st.length (l.map FD) := fun l => by
        induction l with
        | nil => trivial
        | cons p l ih =>
          rw [List.map_cons]
          exact ⟨by simp [FD, below, belowL], ih⟩
      simp only [below]
      exact this _
    show execSs (gmK tb NN (k + 2)) b__law_weights [some (.int c), some (.int (n : Nat)), none, none, none, none] st = _
    unfold b__law_weights
    rw [exs_nx (en' := [some (.int c), some (.int (n : Nat)), some (.lst (rs.map D.int)), none, none, none]) (s2 := st) (by simp only [PI.gmK_cl, PI.gmK_gl, PI.gmK_N, PI.gmK_fill, PI.ev_var, PI.ev_fz, PI.ev_glob, PI.ev_int, PI.ev_str, PI.ev_bl, PI.ev_non, PI.ev_gap, PI.ev_bin, PI.negV_int, PI.ev_neg, PI.ev_not, PI.wayV_bl, PI.notV_bl, PI.ev_and, PI.ev_or, PI.ev_ite, PI.ev_cmp, PI.ev_chain, PI.ev_ix, PI.ev_slice, PI.ev_tup, PI.ev_lst, PI.ev_comp, PI.ev_call, PI.ev_bi, PI.ev_bm, PI.evs_nil, PI.evs_cons, PI.et_, PI.ex_asg, PI.ex_par, PI.ex_setIx, PI.ex_ex, PI.ex_ret, PI.ex_ifs, PI.ex_loop, PI.ex_each, PI.ex_pass, PI.ex_brk, PI.ex_cont, PI.exs_nil, PI.thenS_nx, PI.thenS_ret, PI.thenS_brk, PI.thenS_cont, PI.thenS_exc, PI.exs_cons, PI.ite_bind, PI.ite_lift, PI.bp_name, PI.bp_tup, PI.bps_nil, PI.bps_cons, PI.bv_add, PI.bv_sub, PI.bv_mul, PI.bv_fdiv, PI.bv_mod, PI.bv_pow, PI.cv_lt, PI.cv_le, PI.cv_gt, PI.cv_ge, PI.cv_eqs, PI.cv_nes, PI.cv_eq, PI.cv_ne, PI.bi_int, PI.bi_abs, PI.bi_len, PI.bi_tuple, PI.bi_list, PI.bi_isI, PI.bi_repr, PI.bi_max, PI.bi_min, PI.seq_tup, PI.seq_lst, PI.seq_scr, PI.len_tup, PI.len_lst, PI.len_scr, PI.ty_tup, PI.ty_lst, PI.ty_scr, PI.ty_int, PI.ty_bl, PI.ty_str, PI.ty_non, PI.norm_tup, PI.norm_lst, PI.norm_int, PI.norm_str, PI.norm_bl, PI.norm_non, PI.ix_t0, PI.ix_t1, PI.ix_t2, PI.ix_t3, PI.ix_l0, PI.ix_l1, PI.ix_l2, PI.ix_l3, PI.at_new, PI.set_new, PI.it_tup, PI.it_lst, PI.cv_eqb, PI.cv_neb, PI.bv_addT, PI.bv_addL, PI.bi_intb, PI.bi_sumL, Out.bind_ok, Out.lift_ok, Out.bind_exc, Out.lift_exc, Out.calm_ok, newL_t, newL_f, List.map, List.replicate, List.length_cons, List.length_nil, List.cons_append, List.nil_append, List.append_nil, List.getElem?_cons_succ, List.getElem?_cons_zero, List.set, Nat.reduceAdd, Nat.reduceSub, decide_true, decide_false, if_true, if_false, Bool.false_eq_true, Bool.not_true, Bool.not_false, decide_eq_true_eq, isTy, eq_self, Bool.or_false, Bool.or_true, Bool.true_or, Bool.false_or, f1, er])]
    rw [exs_nx (en' := [some (.int c), some (.int (n : Nat)), some (.lst (rs.map D.int)), some (.ref st.length), none, none]) (s2 := st ++ [.lst (xs.map D.int)]) (by simp only [PI.gmK_cl, PI.gmK_gl, PI.gmK_N, PI.gmK_fill, PI.ev_var, PI.ev_fz, PI.ev_glob, PI.ev_int, PI.ev_str, PI.ev_bl, PI.ev_non, PI.ev_gap, PI.ev_bin, PI.negV_int, PI.ev_neg, PI.ev_not, PI.wayV_bl, PI.notV_bl, PI.ev_and, PI.ev_or, PI.ev_ite, PI.ev_cmp, PI.ev_chain, PI.ev_ix, PI.ev_slice, PI.ev_tup, PI.ev_lst, PI.ev_comp, PI.ev_call, PI.ev_bi, PI.ev_bm, PI.evs_nil, PI.evs_cons, PI.et_, PI.ex_asg, PI.ex_par, PI.ex_setIx, PI.ex_ex, PI.ex_ret, PI.ex_ifs, PI.ex_loop, PI.ex_each, PI.ex_pass, PI.ex_brk, PI.ex_cont, PI.exs_nil, PI.thenS_nx, PI.thenS_ret, PI.thenS_brk, PI.thenS_cont, PI.thenS_exc, PI.exs_cons, PI.ite_bind, PI.ite_lift, PI.bp_name, PI.bp_tup, PI.bps_nil, PI.bps_cons, PI.bv_add, PI.bv_sub, PI.bv_mul, PI.bv_fdiv, PI.bv_mod, PI.bv_pow, PI.cv_lt, PI.cv_le, PI.cv_gt, PI.cv_ge, PI.cv_eqs, PI.cv_nes, PI.cv_eq, PI.cv_ne, PI.bi_int, PI.bi_abs, PI.bi_len, PI.bi_tuple, PI.bi_list, PI.bi_isI, PI.bi_repr, PI.bi_max, PI.bi_min, PI.seq_tup, PI.seq_lst, PI.seq_scr, PI.len_tup, PI.len_lst, PI.len_scr, PI.ty_tup, PI.ty_lst, PI.ty_scr, PI.ty_int, PI.ty_bl, PI.ty_str, PI.ty_non, PI.norm_tup, PI.norm_lst, PI.norm_int, PI.norm_str, PI.norm_bl, PI.norm_non, PI.ix_t0, PI.ix_t1, PI.ix_t2, PI.ix_t3, PI.ix_l0, PI.ix_l1, PI.ix_l2, PI.ix_l3, PI.at_new, PI.set_new, PI.it_tup, PI.it_lst, PI.cv_eqb, PI.cv_neb, PI.bv_addT, PI.bv_addL, PI.bi_intb, PI.bi_sumL, Out.bind_ok, Out.lift_ok, Out.bind_exc, Out.lift_exc, Out.calm_ok, newL_t, newL_f, List.map, List.replicate, List.length_cons, List.length_nil, List.cons_append, List.nil_append, List.append_nil, List.getElem?_cons_succ, List.getElem?_cons_zero, List.set, Nat.reduceAdd, Nat.reduceSub, decide_true, decide_false, if_true, if_false, Bool.false_eq_true, Bool.not_true, Bool.not_false, decide_eq_true_eq, isTy, eq_self, Bool.or_false, Bool.or_true, Bool.true_or, Bool.false_or, rC, need_pos sC, ec'])]
    rw [exs_nx h]
    exact wt_tail (k + 2) c n hn st _ ys yl yx ysum none none (by omega)
  by_cases hz : xs.sum = 0
  · have xt0 : ∀ x ∈ xt, 0 ≤ x ∧ x < 60 := fun x hx => xx x (by rw [hx0]; exact List.mem_cons_of_mem _ hx)
    refine go (1 :: xt) (by rw [← xl, hx0]; rfl) (fun x hx => ?_) ?_ ?_
    · rcases List.mem_cons.mp hx with rfl | hx
      · decide
      · exact xt0 x hx
    · have := (sum_nn xt0).1
      rw [List.sum_cons]
      omega
    · have sv : setIxV (.ref st.length) (.int 0) (.int 1) (st ++ [.lst (xs.map D.int)]) = .ok () (st ++ [.lst ((1 :: xt).map D.int)]) := by
        simp only [setIxV, hat]
        have e : ixN (xs.map D.int).length 0 = some 0 := by
          rw [List.length_map, hx0]
          unfold ixN
          rw [if_pos (by decide), if_pos (by simp)]
          rfl
        rw [e]
        show Out.ok () _ = _
        rw [set_new, hx0]
        rfl
      simp only [PI.gmK_cl, PI.gmK_gl, PI.gmK_N, PI.gmK_fill, PI.ev_var, PI.ev_fz, PI.ev_glob, PI.ev_int, PI.ev_str, PI.ev_bl, PI.ev_non, PI.ev_gap, PI.ev_bin, PI.negV_int, PI.ev_neg, PI.ev_not, PI.wayV_bl, PI.notV_bl, PI.ev_and, PI.ev_or, PI.ev_ite, PI.ev_cmp, PI.ev_chain, PI.ev_ix, PI.ev_slice, PI.ev_tup, PI.ev_lst, PI.ev_comp, PI.ev_call, PI.ev_bi, PI.ev_bm, PI.evs_nil, PI.evs_cons, PI.et_, PI.ex_asg, PI.ex_par, PI.ex_setIx, PI.ex_ex, PI.ex_ret, PI.ex_ifs, PI.ex_loop, PI.ex_each, PI.ex_pass, PI.ex_brk, PI.ex_cont, PI.exs_nil, PI.thenS_nx, PI.thenS_ret, PI.thenS_brk, PI.thenS_cont, PI.thenS_exc, PI.exs_cons, PI.ite_bind, PI.ite_lift, PI.bp_name, PI.bp_tup, PI.bps_nil, PI.bps_cons, PI.bv_add, PI.bv_sub, PI.bv_mul, PI.bv_fdiv, PI.bv_mod, PI.bv_pow, PI.cv_lt, PI.cv_le, PI.cv_gt, PI.cv_ge, PI.cv_eqs, PI.cv_nes, PI.cv_eq, PI.cv_ne, PI.bi_int, PI.bi_abs, PI.bi_len, PI.bi_tuple, PI.bi_list, PI.bi_isI, PI.bi_repr, PI.bi_max, PI.bi_min, PI.seq_tup, PI.seq_lst, PI.seq_scr, PI.len_tup, PI.len_lst, PI.len_scr, PI.ty_tup, PI.ty_lst, PI.ty_scr, PI.ty_int, PI.ty_bl, PI.ty_str, PI.ty_non, PI.norm_tup, PI.norm_lst, PI.norm_int, PI.norm_str, PI.norm_bl, PI.norm_non, PI.ix_t0, PI.ix_t1, PI.ix_t2, PI.ix_t3, PI.ix_l0, PI.ix_l1, PI.ix_l2, PI.ix_l3, PI.at_new, PI.set_new, PI.it_tup, PI.it_lst, PI.cv_eqb, PI.cv_neb, PI.bv_addT, PI.bv_addL, PI.bi_intb, PI.bi_sumL, Out.bind_ok, Out.lift_ok, Out.bind_exc, Out.lift_exc, Out.calm_ok, newL_t, newL_f, List.map, List.replicate, List.length_cons, List.length_nil, List.cons_append, List.nil_append, List.append_nil, List.getElem?_cons_succ, List.getElem?_cons_zero, List.set, Nat.reduceAdd, Nat.reduceSub, decide_true, decide_false, if_true, if_false, Bool.false_eq_true, Bool.not_true, Bool.not_false, decide_eq_true_eq, isTy, eq_self, Bool.or_false, Bool.or_true, Bool.true_or, Bool.false_or, su, eq_true hz, sv]
  · exact go xs xl xx hz (by simp only [PI.gmK_cl, PI.gmK_gl, PI.gmK_N, PI.gmK_fill, PI.ev_var, PI.ev_fz, PI.ev_glob, PI.ev_int, PI.ev_str, PI.ev_bl, PI.ev_non, PI.ev_gap, PI.ev_bin, PI.negV_int, PI.ev_neg, PI.ev_not, PI.wayV_bl, PI.notV_bl, PI.ev_and, PI.ev_or, PI.ev_ite, PI.ev_cmp, PI.ev_chain, PI.ev_ix, PI.ev_slice, PI.ev_tup, PI.ev_lst, PI.ev_comp, PI.ev_call, PI.ev_bi, PI.ev_bm, PI.evs_nil, PI.evs_cons, PI.et_, PI.ex_asg, PI.ex_par, PI.ex_setIx, PI.ex_ex, PI.ex_ret, PI.ex_ifs, PI.ex_loop, PI.ex_each, PI.ex_pass, PI.ex_brk, PI.ex_cont, PI.exs_nil, PI.thenS_nx, PI.thenS_ret, PI.thenS_brk, PI.thenS_cont, PI.thenS_exc, PI.exs_cons, PI.ite_bind, PI.ite_lift, PI.bp_name, PI.bp_tup, PI.bps_nil, PI.bps_cons, PI.bv_add, PI.bv_sub, PI.bv_mul, PI.bv_fdiv, PI.bv_mod, PI.bv_pow, PI.cv_lt, PI.cv_le, PI.cv_gt, PI.cv_ge, PI.cv_eqs, PI.cv_nes, PI.cv_eq, PI.cv_ne, PI.bi_int, PI.bi_abs, PI.bi_len, PI.bi_tuple, PI.bi_list, PI.bi_isI, PI.bi_repr, PI.bi_max, PI.bi_min, PI.seq_tup, PI.seq_lst, PI.seq_scr, PI.len_tup, PI.len_lst, PI.len_scr, PI.ty_tup, PI.ty_lst, PI.ty_scr, PI.ty_int, PI.ty_bl, PI.ty_str, PI.ty_non, PI.norm_tup, PI.norm_lst, PI.norm_int, PI.norm_str, PI.norm_bl, PI.norm_non, PI.ix_t0, PI.ix_t1, PI.ix_t2, PI.ix_t3, PI.ix_l0, PI.ix_l1, PI.ix_l2, PI.ix_l3, PI.at_new, PI.set_new, PI.it_tup, PI.it_lst, PI.cv_eqb, PI.cv_neb, PI.bv_addT, PI.bv_addL, PI.bi_intb, PI.bi_sumL, Out.bind_ok, Out.lift_ok, Out.bind_exc, Out.lift_exc, Out.calm_ok, newL_t, newL_f, List.map, List.replicate, List.length_cons, List.length_nil, List.cons_append, List.nil_append, List.append_nil, List.getElem?_cons_succ, List.getElem?_cons_zero, List.set, Nat.reduceAdd, Nat.reduceSub, decide_true, decide_false, if_true, if_false, Bool.false_eq_true, Bool.not_true, Bool.not_false, decide_eq_true_eq, isTy, eq_self, Bool.or_false, Bool.or_true, Bool.true_or, Bool.false_or, su, eq_false hz])
theorem cv_neT {xs : List D} {st : Sto} (h : eqOk (.tup xs)) : cmpV .NotEq (.tup xs) (.tup xs) st = .ok false st := by
  show need (eqOk (.tup xs) ∧ eqOk (.tup xs)) _ = _
  rw [need_pos ⟨h, h⟩]
  show Out.ok (!eqD (.tup xs) (.tup xs)) st = _
  unfold eqD
  rw [eqD_same h.1]
  rfl
theorem ne_PD {m : Nat} (h0 : 6 ≤ m) (hm : m < 1920) {p : List (Int × Int)} (h : AllB m p) (st : Sto) : cmpV .NotEq (PD p) (PD p) st = .ok false st :=
  cv_neT (eq_FDs h0 hm fun x hx => ⟨(h x hx).1, (h x hx).2.2⟩).2
theorem eqOk_FD {m : Nat} (h0 : 6 ≤ m) (hm : m < 1920) {p : Int × Int} (h : FrB m p) : eqOk (FD p) := sm_eq m h0 hm (sm_FD h.1 h.2.2) (by simp [FD, dep, depL])
theorem ne_FD {m : Nat} (h0 : 6 ≤ m) (hm : m < 1920) {p : Int × Int} (h : FrB m p) (st : Sto) : cmpV .NotEq (FD p) (FD p) st = .ok false st := cv_neT (eqOk_FD h0 hm h)
theorem eq_FD {m : Nat} (h0 : 6 ≤ m) (hm : m < 1920) {p : Int × Int} (h : FrB m p) (st : Sto) : cmpV .Eq (FD p) (FD p) st = .ok true st := cv_eqT (eqOk_FD h0 hm h)
theorem img_b {rows : List (List Int)} {m c : Nat} {p : List (Int × Int)} (hr : ∀ r ∈ rows, ∀ z ∈ r, z.natAbs < 2 ^ 6) (hp : AllB m p) (hl : p.length ≤ c) : AllB (1 + (6 + m + 1) * c) (imgP rows p) := fun x hx => by
  obtain ⟨r, hrm, rfl⟩ := List.mem_map.mp hx
  unfold dotF
  have b : ∀ q ∈ (r.zip p).map (fun p => mulF (p.1, 1) p.2), FrB (6 + m) q := fun q hq => by
    obtain ⟨y, hym, rfl⟩ := List.mem_map.mp hq
    exact (mulF_ok (m := 6) (n := m) (p := (y.1, 1)) ⟨hr r hrm _ (List.of_mem_zip hym).1, show (0 : Int) < 1 by decide, show (1 : Int).natAbs < 2 ^ 6 by decide⟩ (hp _ (List.of_mem_zip hym).2)).1
  refine (sumF_ok (n := 6 + m) (m := 1) (s := (0, 1)) ⟨by decide, by decide, by decide⟩ b).up ?_
  have : ((r.zip p).map fun p => mulF (p.1, 1) p.2).length ≤ c := by rw [List.length_map, List.length_zip]; omega
  have := Nat.mul_le_mul_left (6 + m + 1) this
  omega
theorem im_ok {k m c : Nat} (hk : 6 ≤ k) (rows : List (List Int)) (hr : ∀ r ∈ rows, ∀ z ∈ r, z.natAbs < 2 ^ 6) (rl : rows.length ≤ 1000) (p : List (Int × Int)) (hp : AllB m p) (hl : p.length ≤ c) (hc : c ≤ 3) (hm : m ≤ 300) (st : Sto) :
    callK tb NN k "image" [.lst (rows.map fun r => .lst (r.map D.int)), PD p] st = .ok (PD (imgP rows p)) st := by
  have h1 : (6 + m + 1) * p.length ≤ (6 + m + 1) * 3 := Nat.mul_le_mul_left _ (by omega)
  exact image_spec (T := tb) (N := NN) (k := k) (m := 6) (n := m) hk hasPt df_image df_dot rfl st _ _ rows (fun r => .lst (r.map D.int)) (fun _ _ => rfl) p rfl rfl hr hp (by omega) rl (by decide) (by omega) (by omega) (nn (by omega))
theorem zip_same {α β : Type} (a : β) : ∀ {ws : List α} {l : List β}, ws.length = l.length → ws.zip (l.map fun _ => a) = ws.map fun w => (w, a)
  | [], [], _ => rfl
  | [], _ :: _, h => by simp at h
  | _ :: _, [], h => by simp at h
  | w :: ws, x :: l, h => by
    rw [List.map_cons, List.zip_cons_cons, List.map_cons, zip_same a (by simpa using h)]
theorem last_at (L : List (List (Int × Int))) (h : L ≠ []) (st : Sto) : ixV (.lst (L.map PD)) (.int (-1)) st = .ok (PD (L.getLast h)) st := by
  have e : L.map PD = (L.dropLast.map PD) ++ [PD (L.getLast h)] := by
    rw [← List.map_singleton, ← List.map_append, List.dropLast_concat_getLast]
  unfold ixV
  simp only [seq_lst]
  rw [e, atI_last]
theorem paired_map {α : Type} {f : α → D} {Q : D → α → Prop} {l ys : List D} (h : Paired (fun x y => ∃ p, y = f p ∧ Q x p) l ys) : ∃ ps : List α, ys = ps.map f ∧ Paired Q l ps := by
  induction h with
  | nil => exact ⟨[], rfl, .nil⟩
  | cons h _ ih =>
    obtain ⟨p, rfl, q⟩ := h
    obtain ⟨ps, rfl, hp⟩ := ih
    exact ⟨p :: ps, rfl, .cons q hp⟩
theorem law_ok : ∀ ns : List Int, ns.length ≤ 63 → ∃ N st, callK tb N 40 "law" [.scr ns] [] = .ok (.bl true) st := by
  intro ns _
  refine ⟨NN, [], ?_⟩
  rw [callK_df df_law]
  refine runD_same rfl ?_
  have c0 := ce ns 0 0 rfl []
  have c1 := ce ns 1 1 rfl []
  have c7 := ce ns 7 7 rfl []
  have c8 := ce ns 8 8 rfl []
  have c9 := ce ns 9 9 rfl []
  have c10 := ce ns 10 10 rfl []
  have c11 := ce ns 11 11 rfl []
  have n5 : (5 : Int) ≠ 0 := by decide
  have n3 : (3 : Int) ≠ 0 := by decide
  show execSs (gmK tb NN 39) b_law [some (.scr ns), none, none, none, none, none, none, none, none, none, none, none, none] [] = _
  unfold b_law
  have y0 := fmod_lt (a := cellZ ns 0) (b := 5) (by decide)
  have y1 := fmod_lt (a := cellZ ns 1) (b := 3) (by decide)
  have y9 := fmod_lt (a := cellZ ns 9) (b := 3) (by decide)
  generalize g0 : (cellZ ns 0).fmod 5 = j0 at y0
  generalize g1 : (cellZ ns 1).fmod 3 = j1 at y1
  generalize g9 : (cellZ ns 9).fmod 3 = j9 at y9
  obtain ⟨Z, hZ, hZ1, hZ5⟩ : ∃ Z : Nat, 1 + j0 = (Z : Nat) ∧ 1 ≤ Z ∧ Z ≤ 5 := ⟨(1 + j0).toNat, by omega, by omega, by omega⟩
  obtain ⟨C, hC, hC1, hC3⟩ : ∃ C : Nat, 1 + j1 = (C : Nat) ∧ 1 ≤ C ∧ C ≤ 3 := ⟨(1 + j1).toNat, by omega, by omega, by omega⟩
  obtain ⟨R, hR, hR1, hR3⟩ : ∃ R : Nat, 1 + j9 = (R : Nat) ∧ 1 ≤ R ∧ R ≤ 3 := ⟨(1 + j9).toNat, by omega, by omega, by omega⟩
  have f1 := fl "_law_cell" 2 (by decide)
  have f2 := fl "_law_point" 2 (by decide)
  have f3 := fl "_law_fraction" 2 (by decide)
  have f4 := fl "_law_matrix" 3 (by decide)
  have f5 := fl "_law_weights" 2 (by decide)
  have f6 := fl "sum_of" 2 (by decide)
  have f7 := fl "mixed" 2 (by decide)
  have f8 := fl "image" 2 (by decide)
  have f9 := fl "scaled" 2 (by decide)
  have f10 := fl "added" 2 (by decide)
  have f11 := fl "times" 2 (by decide)
  have f12 := fl "subtracted" 2 (by decide)
  have f13 := fl "divided" 2 (by decide)
  have rZ := range1_ok (j := (Z : Nat)) [] ⟨by omega, by omega⟩
  rw [Int.toNat_natCast] at rZ
  have sZ : (rangeL 0 Z).length ≤ sizeLine := short_ok (by rw [rangeL_len]; omega)
  obtain ⟨ys, hpy, ey⟩ := comp_all (G := gmK tb NN 39) (elt := .call "_law_point" [(.call "_law_cell" [(.var 0), (.bin false .Add (.int 2) (.var 11))]), (.var 2)]) (c := .gap) (p := .name 11) (own := [11]) (en := [some (.scr ns), some (.int (Z : Nat)), some (.int (C : Nat)), none, none, none, none, none, none, none, none, none, none]) (v := ⟨rangeL 0 Z, []⟩) (st := []) (P := fun x y => ∃ p : List (Int × Int), y = PD p ∧ p.length = C ∧ ∀ q ∈ p, FrOk 30 q) (stays_nil rfl) (rangeL 0 Z) [] (fun x hx => by
    obtain ⟨i, _, rfl⟩ := rangeL_mem hx
    obtain ⟨ps, pl, hp, ep⟩ := pt_spec (k := 39) (by decide) (cellZ ns (2 + i)) C (by omega) []
    have c := ce ns (2 + i) (2 + (0 + (i : Nat))) (by omega) []
    exact ⟨PD ps, ⟨ps, rfl, pl, hp⟩, by simp only [turnS, wipeE, PI.gmK_cl, PI.gmK_gl, PI.gmK_N, PI.gmK_fill, PI.ev_var, PI.ev_fz, PI.ev_glob, PI.ev_int, PI.ev_str, PI.ev_bl, PI.ev_non, PI.ev_gap, PI.ev_bin, PI.negV_int, PI.ev_neg, PI.ev_not, PI.wayV_bl, PI.notV_bl, PI.ev_and, PI.ev_or, PI.ev_ite, PI.ev_cmp, PI.ev_chain, PI.ev_ix, PI.ev_slice, PI.ev_tup, PI.ev_lst, PI.ev_comp, PI.ev_call, PI.ev_bi, PI.ev_bm, PI.evs_nil, PI.evs_cons, PI.et_, PI.ex_asg, PI.ex_par, PI.ex_setIx, PI.ex_ex, PI.ex_ret, PI.ex_ifs, PI.ex_loop, PI.ex_each, PI.ex_pass, PI.ex_brk, PI.ex_cont, PI.exs_nil, PI.thenS_nx, PI.thenS_ret, PI.thenS_brk, PI.thenS_cont, PI.thenS_exc, PI.exs_cons, PI.ite_bind, PI.ite_lift, PI.bp_name, PI.bp_tup, PI.bps_nil, PI.bps_cons, PI.bv_add, PI.bv_sub, PI.bv_mul, PI.bv_fdiv, PI.bv_mod, PI.bv_pow, PI.cv_lt, PI.cv_le, PI.cv_gt, PI.cv_ge, PI.cv_eqs, PI.cv_nes, PI.cv_eq, PI.cv_ne, PI.bi_int, PI.bi_abs, PI.bi_len, PI.bi_tuple, PI.bi_list, PI.bi_isI, PI.bi_repr, PI.bi_max, PI.bi_min, PI.seq_tup, PI.seq_lst, PI.seq_scr, PI.len_tup, PI.len_lst, PI.len_scr, PI.ty_tup, PI.ty_lst, PI.ty_scr, PI.ty_int, PI.ty_bl, PI.ty_str, PI.ty_non, PI.norm_tup, PI.norm_lst, PI.norm_int, PI.norm_str, PI.norm_bl, PI.norm_non, PI.ix_t0, PI.ix_t1, PI.ix_t2, PI.ix_t3, PI.ix_l0, PI.ix_l1, PI.ix_l2, PI.ix_l3, PI.at_new, PI.set_new, PI.it_tup, PI.it_lst, PI.cv_eqb, PI.cv_neb, PI.bv_addT, PI.bv_addL, PI.bi_intb, PI.bi_sumL, Out.bind_ok, Out.lift_ok, Out.bind_exc, Out.lift_exc, Out.calm_ok, newL_t, newL_f, List.map, List.replicate, List.length_cons, List.length_nil, List.cons_append, List.nil_append, List.append_nil, List.getElem?_cons_succ, List.getElem?_cons_zero, List.set, Nat.reduceAdd, Nat.reduceSub, decide_true, decide_false, if_true, if_false, Bool.false_eq_true, Bool.not_true, Bool.not_false, decide_eq_true_eq, isTy, eq_self, Bool.or_false, Bool.or_true, Bool.true_or, Bool.false_or, f1, f2, c, ep]; rfl⟩)
  obtain ⟨L, rfl, hL⟩ := paired_map (f := PD) (Q := fun _ p => p.length = C ∧ ∀ q ∈ p, FrOk 30 q) hpy
  rw [List.nil_append] at ey
  have Ll : L.length = Z := by rw [paired_len hL, rangeL_len]
  have hLp := paired_right (P := fun p : List (Int × Int) => p.length = C ∧ ∀ q ∈ p, FrOk 30 q) (fun _ _ h => h) hL
  obtain ⟨ws, hw, ew⟩ := wt_spec (k := 39) (by decide) (cellZ ns 7) Z hZ1 hZ5 []
  obtain ⟨rows, rl, hr, er⟩ := mx_spec (k := 39) (by decide) (cellZ ns 8) R C (by omega) (by omega) []
  have hrn : ∀ r ∈ rows, ∀ z ∈ r, z.natAbs < 2 ^ 6 := fun r hrm => (hr r hrm).2
  obtain ⟨p0, Lt, hLc⟩ : ∃ p0 Lt, L = p0 :: Lt := by
    cases L with
    | nil => simp at Ll; omega
    | cons a b => exact ⟨a, b, rfl⟩
  obtain ⟨w0, wt, hwc⟩ : ∃ w0 wt, ws = w0 :: wt := by
    have := hw.len
    cases ws with
    | nil => simp at this; omega
    | cons a b => exact ⟨a, b, rfl⟩
  rw [exs_nx (en' := [some (.scr ns), some (.int (Z : Nat)), none, none, none, none, none, none, none, none, none, none, none]) (s2 := []) (by simp only [PI.gmK_cl, PI.gmK_gl, PI.gmK_N, PI.gmK_fill, PI.ev_var, PI.ev_fz, PI.ev_glob, PI.ev_int, PI.ev_str, PI.ev_bl, PI.ev_non, PI.ev_gap, PI.ev_bin, PI.negV_int, PI.ev_neg, PI.ev_not, PI.wayV_bl, PI.notV_bl, PI.ev_and, PI.ev_or, PI.ev_ite, PI.ev_cmp, PI.ev_chain, PI.ev_ix, PI.ev_slice, PI.ev_tup, PI.ev_lst, PI.ev_comp, PI.ev_call, PI.ev_bi, PI.ev_bm, PI.evs_nil, PI.evs_cons, PI.et_, PI.ex_asg, PI.ex_par, PI.ex_setIx, PI.ex_ex, PI.ex_ret, PI.ex_ifs, PI.ex_loop, PI.ex_each, PI.ex_pass, PI.ex_brk, PI.ex_cont, PI.exs_nil, PI.thenS_nx, PI.thenS_ret, PI.thenS_brk, PI.thenS_cont, PI.thenS_exc, PI.exs_cons, PI.ite_bind, PI.ite_lift, PI.bp_name, PI.bp_tup, PI.bps_nil, PI.bps_cons, PI.bv_add, PI.bv_sub, PI.bv_mul, PI.bv_fdiv, PI.bv_mod, PI.bv_pow, PI.cv_lt, PI.cv_le, PI.cv_gt, PI.cv_ge, PI.cv_eqs, PI.cv_nes, PI.cv_eq, PI.cv_ne, PI.bi_int, PI.bi_abs, PI.bi_len, PI.bi_tuple, PI.bi_list, PI.bi_isI, PI.bi_repr, PI.bi_max, PI.bi_min, PI.seq_tup, PI.seq_lst, PI.seq_scr, PI.len_tup, PI.len_lst, PI.len_scr, PI.ty_tup, PI.ty_lst, PI.ty_scr, PI.ty_int, PI.ty_bl, PI.ty_str, PI.ty_non, PI.norm_tup, PI.norm_lst, PI.norm_int, PI.norm_str, PI.norm_bl, PI.norm_non, PI.ix_t0, PI.ix_t1, PI.ix_t2, PI.ix_t3, PI.ix_l0, PI.ix_l1, PI.ix_l2, PI.ix_l3, PI.at_new, PI.set_new, PI.it_tup, PI.it_lst, PI.cv_eqb, PI.cv_neb, PI.bv_addT, PI.bv_addL, PI.bi_intb, PI.bi_sumL, Out.bind_ok, Out.lift_ok, Out.bind_exc, Out.lift_exc, Out.calm_ok, newL_t, newL_f, List.map, List.replicate, List.length_cons, List.length_nil, List.cons_append, List.nil_append, List.append_nil, List.getElem?_cons_succ, List.getElem?_cons_zero, List.set, Nat.reduceAdd, Nat.reduceSub, decide_true, decide_false, if_true, if_false, Bool.false_eq_true, Bool.not_true, Bool.not_false, decide_eq_true_eq, isTy, eq_self, Bool.or_false, Bool.or_true, Bool.true_or, Bool.false_or, f1, c0, need_pos n5, g0, hZ])]
  rw [exs_nx (en' := [some (.scr ns), some (.int (Z : Nat)), some (.int (C : Nat)), none, none, none, none, none, none, none, none, none, none]) (s2 := []) (by simp only [PI.gmK_cl, PI.gmK_gl, PI.gmK_N, PI.gmK_fill, PI.ev_var, PI.ev_fz, PI.ev_glob, PI.ev_int, PI.ev_str, PI.ev_bl, PI.ev_non, PI.ev_gap, PI.ev_bin, PI.negV_int, PI.ev_neg, PI.ev_not, PI.wayV_bl, PI.notV_bl, PI.ev_and, PI.ev_or, PI.ev_ite, PI.ev_cmp, PI.ev_chain, PI.ev_ix, PI.ev_slice, PI.ev_tup, PI.ev_lst, PI.ev_comp, PI.ev_call, PI.ev_bi, PI.ev_bm, PI.evs_nil, PI.evs_cons, PI.et_, PI.ex_asg, PI.ex_par, PI.ex_setIx, PI.ex_ex, PI.ex_ret, PI.ex_ifs, PI.ex_loop, PI.ex_each, PI.ex_pass, PI.ex_brk, PI.ex_cont, PI.exs_nil, PI.thenS_nx, PI.thenS_ret, PI.thenS_brk, PI.thenS_cont, PI.thenS_exc, PI.exs_cons, PI.ite_bind, PI.ite_lift, PI.bp_name, PI.bp_tup, PI.bps_nil, PI.bps_cons, PI.bv_add, PI.bv_sub, PI.bv_mul, PI.bv_fdiv, PI.bv_mod, PI.bv_pow, PI.cv_lt, PI.cv_le, PI.cv_gt, PI.cv_ge, PI.cv_eqs, PI.cv_nes, PI.cv_eq, PI.cv_ne, PI.bi_int, PI.bi_abs, PI.bi_len, PI.bi_tuple, PI.bi_list, PI.bi_isI, PI.bi_repr, PI.bi_max, PI.bi_min, PI.seq_tup, PI.seq_lst, PI.seq_scr, PI.len_tup, PI.len_lst, PI.len_scr, PI.ty_tup, PI.ty_lst, PI.ty_scr, PI.ty_int, PI.ty_bl, PI.ty_str, PI.ty_non, PI.norm_tup, PI.norm_lst, PI.norm_int, PI.norm_str, PI.norm_bl, PI.norm_non, PI.ix_t0, PI.ix_t1, PI.ix_t2, PI.ix_t3, PI.ix_l0, PI.ix_l1, PI.ix_l2, PI.ix_l3, PI.at_new, PI.set_new, PI.it_tup, PI.it_lst, PI.cv_eqb, PI.cv_neb, PI.bv_addT, PI.bv_addL, PI.bi_intb, PI.bi_sumL, Out.bind_ok, Out.lift_ok, Out.bind_exc, Out.lift_exc, Out.calm_ok, newL_t, newL_f, List.map, List.replicate, List.length_cons, List.length_nil, List.cons_append, List.nil_append, List.append_nil, List.getElem?_cons_succ, List.getElem?_cons_zero, List.set, Nat.reduceAdd, Nat.reduceSub, decide_true, decide_false, if_true, if_false, Bool.false_eq_true, Bool.not_true, Bool.not_false, decide_eq_true_eq, isTy, eq_self, Bool.or_false, Bool.or_true, Bool.true_or, Bool.false_or, f1, c1, need_pos n3, g1, hC])]
  rw [exs_nx (en' := [some (.scr ns), some (.int (Z : Nat)), some (.int (C : Nat)), some (.lst (L.map PD)), none, none, none, none, none, none, none, none, none]) (s2 := []) (by simp only [PI.gmK_cl, PI.gmK_gl, PI.gmK_N, PI.gmK_fill, PI.ev_var, PI.ev_fz, PI.ev_glob, PI.ev_int, PI.ev_str, PI.ev_bl, PI.ev_non, PI.ev_gap, PI.ev_bin, PI.negV_int, PI.ev_neg, PI.ev_not, PI.wayV_bl, PI.notV_bl, PI.ev_and, PI.ev_or, PI.ev_ite, PI.ev_cmp, PI.ev_chain, PI.ev_ix, PI.ev_slice, PI.ev_tup, PI.ev_lst, PI.ev_comp, PI.ev_call, PI.ev_bi, PI.ev_bm, PI.evs_nil, PI.evs_cons, PI.et_, PI.ex_asg, PI.ex_par, PI.ex_setIx, PI.ex_ex, PI.ex_ret, PI.ex_ifs, PI.ex_loop, PI.ex_each, PI.ex_pass, PI.ex_brk, PI.ex_cont, PI.exs_nil, PI.thenS_nx, PI.thenS_ret, PI.thenS_brk, PI.thenS_cont, PI.thenS_exc, PI.exs_cons, PI.ite_bind, PI.ite_lift, PI.bp_name, PI.bp_tup, PI.bps_nil, PI.bps_cons, PI.bv_add, PI.bv_sub, PI.bv_mul, PI.bv_fdiv, PI.bv_mod, PI.bv_pow, PI.cv_lt, PI.cv_le, PI.cv_gt, PI.cv_ge, PI.cv_eqs, PI.cv_nes, PI.cv_eq, PI.cv_ne, PI.bi_int, PI.bi_abs, PI.bi_len, PI.bi_tuple, PI.bi_list, PI.bi_isI, PI.bi_repr, PI.bi_max, PI.bi_min, PI.seq_tup, PI.seq_lst, PI.seq_scr, PI.len_tup, PI.len_lst, PI.len_scr, PI.ty_tup, PI.ty_lst, PI.ty_scr, PI.ty_int, PI.ty_bl, PI.ty_str, PI.ty_non, PI.norm_tup, PI.norm_lst, PI.norm_int, PI.norm_str, PI.norm_bl, PI.norm_non, PI.ix_t0, PI.ix_t1, PI.ix_t2, PI.ix_t3, PI.ix_l0, PI.ix_l1, PI.ix_l2, PI.ix_l3, PI.at_new, PI.set_new, PI.it_tup, PI.it_lst, PI.cv_eqb, PI.cv_neb, PI.bv_addT, PI.bv_addL, PI.bi_intb, PI.bi_sumL, Out.bind_ok, Out.lift_ok, Out.bind_exc, Out.lift_exc, Out.calm_ok, newL_t, newL_f, List.map, List.replicate, List.length_cons, List.length_nil, List.cons_append, List.nil_append, List.append_nil, List.getElem?_cons_succ, List.getElem?_cons_zero, List.set, Nat.reduceAdd, Nat.reduceSub, decide_true, decide_false, if_true, if_false, Bool.false_eq_true, Bool.not_true, Bool.not_false, decide_eq_true_eq, isTy, eq_self, Bool.or_false, Bool.or_true, Bool.true_or, Bool.false_or, rZ, need_pos sZ, ey])]
  rw [exs_nx (en' := [some (.scr ns), some (.int (Z : Nat)), some (.int (C : Nat)), some (.lst (L.map PD)), some (.tup (ws.map FD)), none, none, none, none, none, none, none, none]) (s2 := []) (by simp only [PI.gmK_cl, PI.gmK_gl, PI.gmK_N, PI.gmK_fill, PI.ev_var, PI.ev_fz, PI.ev_glob, PI.ev_int, PI.ev_str, PI.ev_bl, PI.ev_non, PI.ev_gap, PI.ev_bin, PI.negV_int, PI.ev_neg, PI.ev_not, PI.wayV_bl, PI.notV_bl, PI.ev_and, PI.ev_or, PI.ev_ite, PI.ev_cmp, PI.ev_chain, PI.ev_ix, PI.ev_slice, PI.ev_tup, PI.ev_lst, PI.ev_comp, PI.ev_call, PI.ev_bi, PI.ev_bm, PI.evs_nil, PI.evs_cons, PI.et_, PI.ex_asg, PI.ex_par, PI.ex_setIx, PI.ex_ex, PI.ex_ret, PI.ex_ifs, PI.ex_loop, PI.ex_each, PI.ex_pass, PI.ex_brk, PI.ex_cont, PI.exs_nil, PI.thenS_nx, PI.thenS_ret, PI.thenS_brk, PI.thenS_cont, PI.thenS_exc, PI.exs_cons, PI.ite_bind, PI.ite_lift, PI.bp_name, PI.bp_tup, PI.bps_nil, PI.bps_cons, PI.bv_add, PI.bv_sub, PI.bv_mul, PI.bv_fdiv, PI.bv_mod, PI.bv_pow, PI.cv_lt, PI.cv_le, PI.cv_gt, PI.cv_ge, PI.cv_eqs, PI.cv_nes, PI.cv_eq, PI.cv_ne, PI.bi_int, PI.bi_abs, PI.bi_len, PI.bi_tuple, PI.bi_list, PI.bi_isI, PI.bi_repr, PI.bi_max, PI.bi_min, PI.seq_tup, PI.seq_lst, PI.seq_scr, PI.len_tup, PI.len_lst, PI.len_scr, PI.ty_tup, PI.ty_lst, PI.ty_scr, PI.ty_int, PI.ty_bl, PI.ty_str, PI.ty_non, PI.norm_tup, PI.norm_lst, PI.norm_int, PI.norm_str, PI.norm_bl, PI.norm_non, PI.ix_t0, PI.ix_t1, PI.ix_t2, PI.ix_t3, PI.ix_l0, PI.ix_l1, PI.ix_l2, PI.ix_l3, PI.at_new, PI.set_new, PI.it_tup, PI.it_lst, PI.cv_eqb, PI.cv_neb, PI.bv_addT, PI.bv_addL, PI.bi_intb, PI.bi_sumL, Out.bind_ok, Out.lift_ok, Out.bind_exc, Out.lift_exc, Out.calm_ok, newL_t, newL_f, List.map, List.replicate, List.length_cons, List.length_nil, List.cons_append, List.nil_append, List.append_nil, List.getElem?_cons_succ, List.getElem?_cons_zero, List.set, Nat.reduceAdd, Nat.reduceSub, decide_true, decide_false, if_true, if_false, Bool.false_eq_true, Bool.not_true, Bool.not_false, decide_eq_true_eq, isTy, eq_self, Bool.or_false, Bool.or_true, Bool.true_or, Bool.false_or, f1, f5, c7, ew])]
  rw [exs_nx (en' := [some (.scr ns), some (.int (Z : Nat)), some (.int (C : Nat)), some (.lst (L.map PD)), some (.tup (ws.map FD)), some (.lst (rows.map fun r => .lst (r.map D.int))), none, none, none, none, none, none, none]) (s2 := []) (by simp only [PI.gmK_cl, PI.gmK_gl, PI.gmK_N, PI.gmK_fill, PI.ev_var, PI.ev_fz, PI.ev_glob, PI.ev_int, PI.ev_str, PI.ev_bl, PI.ev_non, PI.ev_gap, PI.ev_bin, PI.negV_int, PI.ev_neg, PI.ev_not, PI.wayV_bl, PI.notV_bl, PI.ev_and, PI.ev_or, PI.ev_ite, PI.ev_cmp, PI.ev_chain, PI.ev_ix, PI.ev_slice, PI.ev_tup, PI.ev_lst, PI.ev_comp, PI.ev_call, PI.ev_bi, PI.ev_bm, PI.evs_nil, PI.evs_cons, PI.et_, PI.ex_asg, PI.ex_par, PI.ex_setIx, PI.ex_ex, PI.ex_ret, PI.ex_ifs, PI.ex_loop, PI.ex_each, PI.ex_pass, PI.ex_brk, PI.ex_cont, PI.exs_nil, PI.thenS_nx, PI.thenS_ret, PI.thenS_brk, PI.thenS_cont, PI.thenS_exc, PI.exs_cons, PI.ite_bind, PI.ite_lift, PI.bp_name, PI.bp_tup, PI.bps_nil, PI.bps_cons, PI.bv_add, PI.bv_sub, PI.bv_mul, PI.bv_fdiv, PI.bv_mod, PI.bv_pow, PI.cv_lt, PI.cv_le, PI.cv_gt, PI.cv_ge, PI.cv_eqs, PI.cv_nes, PI.cv_eq, PI.cv_ne, PI.bi_int, PI.bi_abs, PI.bi_len, PI.bi_tuple, PI.bi_list, PI.bi_isI, PI.bi_repr, PI.bi_max, PI.bi_min, PI.seq_tup, PI.seq_lst, PI.seq_scr, PI.len_tup, PI.len_lst, PI.len_scr, PI.ty_tup, PI.ty_lst, PI.ty_scr, PI.ty_int, PI.ty_bl, PI.ty_str, PI.ty_non, PI.norm_tup, PI.norm_lst, PI.norm_int, PI.norm_str, PI.norm_bl, PI.norm_non, PI.ix_t0, PI.ix_t1, PI.ix_t2, PI.ix_t3, PI.ix_l0, PI.ix_l1, PI.ix_l2, PI.ix_l3, PI.at_new, PI.set_new, PI.it_tup, PI.it_lst, PI.cv_eqb, PI.cv_neb, PI.bv_addT, PI.bv_addL, PI.bi_intb, PI.bi_sumL, Out.bind_ok, Out.lift_ok, Out.bind_exc, Out.lift_exc, Out.calm_ok, newL_t, newL_f, List.map, List.replicate, List.length_cons, List.length_nil, List.cons_append, List.nil_append, List.append_nil, List.getElem?_cons_succ, List.getElem?_cons_zero, List.set, Nat.reduceAdd, Nat.reduceSub, decide_true, decide_false, if_true, if_false, Bool.false_eq_true, Bool.not_true, Bool.not_false, decide_eq_true_eq, isTy, eq_self, Bool.or_false, Bool.or_true, Bool.true_or, Bool.false_or, f1, f4, c8, c9, need_pos n3, g9, hR, er])]
  -- the facts of points and weights
  have low_of : ∀ {p : List (Int × Int)}, (∀ q ∈ p, FrOk 30 q) → AllLow p := fun h x hx => ⟨(h x hx).2.1, (h x hx).2.2.2⟩
  have b_of : ∀ {p : List (Int × Int)}, (∀ q ∈ p, FrOk 30 q) → AllB 30 p := fun h x hx => (h x hx).b
  have hp0 := hLp p0 (by rw [hLc]; exact List.mem_cons_self ..)
  have hLt : ∀ p ∈ Lt, p.length = C ∧ ∀ q ∈ p, FrOk 30 q := fun p h => hLp p (by rw [hLc]; exact List.mem_cons_of_mem _ h)
  have hw0 := hw.b w0 (by rw [hwc]; exact List.mem_cons_self ..)
  have hwt : ∀ w ∈ wt, FrB 9 w ∧ Low w := fun w h => hw.b w (by rw [hwc]; exact List.mem_cons_of_mem _ h)
  have lt : wt.length = Lt.length := by
    have h1 := hw.len
    rw [hwc, List.length_cons] at h1
    rw [hLc, List.length_cons] at Ll
    omega
  have Lt4 : Lt.length ≤ 4 := by rw [hLc, List.length_cons] at Ll; omega
  obtain ⟨mA, bA⟩ := mx_spec' (T := tb) (N := NN) (k := 39) (m := 30) (n := 9) (by decide) hasMx [] w0 wt p0 Lt 3 (by decide) hw0.1 (fun w h => (hwt w h).1) (b_of hp0.2) (by omega) (fun p h => ⟨b_of (hLt p h).2, by have := (hLt p h).1; omega⟩) lt (by omega) (nn (by omega))
  have ib : ∀ p, p.length = C → (∀ q ∈ p, FrOk 30 q) → AllB 112 (imgP rows p) := fun p hl h => img_b (c := 3) hrn (b_of h) (by omega)
  have il : ∀ p, (imgP rows p).length ≤ 3 := fun p => by unfold imgP; rw [List.length_map]; omega
  obtain ⟨mB, bB⟩ := mx_spec' (T := tb) (N := NN) (k := 39) (m := 112) (n := 9) (by decide) hasMx [] w0 wt (imgP rows p0) (Lt.map (imgP rows)) 3 (by decide) hw0.1 (fun w h => (hwt w h).1) (ib p0 hp0.1 hp0.2) (il _) (fun p h => by
    obtain ⟨q, hqm, rfl⟩ := List.mem_map.mp h
    exact ⟨ib q (hLt q hqm).1 (hLt q hqm).2, il _⟩) (by rw [List.length_map]; exact lt) (by rw [List.length_map]; omega) (nn (by rw [List.length_map]; omega))
  have eqAB : imgP rows (mixL (scaP p0 w0) (wt.zip Lt)) = mixL (scaP (imgP rows p0) w0) (wt.zip (Lt.map (imgP rows))) := by
    rw [mixL_img (n := C) (scaP_low (low_of hp0.2) hw0.2) (by rw [scaP_len]; exact hp0.1) (fun q hq => ⟨(hwt _ (List.of_mem_zip hq).1).2, low_of (hLt _ (List.of_mem_zip hq).2).2, (hLt _ (List.of_mem_zip hq).2).1⟩), img_scaP (low_of hp0.2) hw0.2, List.zip_map_right]
    rfl
  have lenmix : ∀ (l : List ((Int × Int) × List (Int × Int))) (acc : List (Int × Int)), (mixL acc l).length ≤ acc.length := fun l => by
    induction l with
    | nil => exact fun acc => Nat.le_refl _
    | cons p l ih =>
      intro acc
      refine Nat.le_trans (ih (addP acc (scaP p.2 p.1))) ?_
      unfold addP
      rw [List.length_map, List.length_zip]
      omega
  have lmix : (mixL (scaP p0 w0) (wt.zip Lt)).length ≤ 3 := Nat.le_trans (lenmix _ _) (by rw [scaP_len]; omega)
  have imA := im_ok (k := 39) (c := 3) (by decide) rows hrn (by omega) (mixL (scaP p0 w0) (wt.zip Lt)) (bA.up (show 30 + 9 + (30 + 9 + 1) * Lt.length ≤ 300 by omega)) lmix (by decide) (by decide) []
  have sP : (L.map PD).length ≤ sizeLine := short_ok (by rw [List.length_map]; omega)
  have ei := comp_map (G := gmK tb NN 39) (elt := .call "image" [(.var 5), (.var 12)]) (p := .name 12) (c := .gap) (own := [12]) (en := [some (.scr ns), some (.int (Z : Nat)), some (.int (C : Nat)), some (.lst (L.map PD)), some (.tup (ws.map FD)), some (.lst (rows.map fun r => .lst (r.map D.int))), none, none, none, none, none, none, none]) (v := ⟨L.map PD, []⟩) (st := []) (stays_nil rfl) PD (fun p => PD (imgP rows p)) L [] (fun p hpm => by
    have e := im_ok (k := 39) (m := 30) (c := 3) (by decide) rows hrn (by omega) p (b_of (hLp p hpm).2) (by have := (hLp p hpm).1; omega) (by decide) (by decide) []
    simp only [turnS, wipeE, PI.gmK_cl, PI.gmK_gl, PI.gmK_N, PI.gmK_fill, PI.ev_var, PI.ev_fz, PI.ev_glob, PI.ev_int, PI.ev_str, PI.ev_bl, PI.ev_non, PI.ev_gap, PI.ev_bin, PI.negV_int, PI.ev_neg, PI.ev_not, PI.wayV_bl, PI.notV_bl, PI.ev_and, PI.ev_or, PI.ev_ite, PI.ev_cmp, PI.ev_chain, PI.ev_ix, PI.ev_slice, PI.ev_tup, PI.ev_lst, PI.ev_comp, PI.ev_call, PI.ev_bi, PI.ev_bm, PI.evs_nil, PI.evs_cons, PI.et_, PI.ex_asg, PI.ex_par, PI.ex_setIx, PI.ex_ex, PI.ex_ret, PI.ex_ifs, PI.ex_loop, PI.ex_each, PI.ex_pass, PI.ex_brk, PI.ex_cont, PI.exs_nil, PI.thenS_nx, PI.thenS_ret, PI.thenS_brk, PI.thenS_cont, PI.thenS_exc, PI.exs_cons, PI.ite_bind, PI.ite_lift, PI.bp_name, PI.bp_tup, PI.bps_nil, PI.bps_cons, PI.bv_add, PI.bv_sub, PI.bv_mul, PI.bv_fdiv, PI.bv_mod, PI.bv_pow, PI.cv_lt, PI.cv_le, PI.cv_gt, PI.cv_ge, PI.cv_eqs, PI.cv_nes, PI.cv_eq, PI.cv_ne, PI.bi_int, PI.bi_abs, PI.bi_len, PI.bi_tuple, PI.bi_list, PI.bi_isI, PI.bi_repr, PI.bi_max, PI.bi_min, PI.seq_tup, PI.seq_lst, PI.seq_scr, PI.len_tup, PI.len_lst, PI.len_scr, PI.ty_tup, PI.ty_lst, PI.ty_scr, PI.ty_int, PI.ty_bl, PI.ty_str, PI.ty_non, PI.norm_tup, PI.norm_lst, PI.norm_int, PI.norm_str, PI.norm_bl, PI.norm_non, PI.ix_t0, PI.ix_t1, PI.ix_t2, PI.ix_t3, PI.ix_l0, PI.ix_l1, PI.ix_l2, PI.ix_l3, PI.at_new, PI.set_new, PI.it_tup, PI.it_lst, PI.cv_eqb, PI.cv_neb, PI.bv_addT, PI.bv_addL, PI.bi_intb, PI.bi_sumL, Out.bind_ok, Out.lift_ok, Out.bind_exc, Out.lift_exc, Out.calm_ok, newL_t, newL_f, List.map, List.replicate, List.length_cons, List.length_nil, List.cons_append, List.nil_append, List.append_nil, List.getElem?_cons_succ, List.getElem?_cons_zero, List.set, Nat.reduceAdd, Nat.reduceSub, decide_true, decide_false, if_true, if_false, Bool.false_eq_true, Bool.not_true, Bool.not_false, decide_eq_true_eq, isTy, eq_self, Bool.or_false, Bool.or_true, Bool.true_or, Bool.false_or, f8, e])
  rw [List.nil_append, show (L.map fun p => PD (imgP rows p)) = (imgP rows p0 :: Lt.map (imgP rows)).map PD by rw [hLc, List.map_cons, List.map_cons, List.map_map]; rfl] at ei
  rw [← hwc, ← hLc] at mA
  rw [← hwc, List.map_cons] at mB
  rw [eqAB] at imA
  have nAB := ne_PD (m := 700) (by decide) (by decide) (bB.up (show _ ≤ 700 by rw [List.length_map]; omega)) []
  rw [exs_nx (en' := [some (.scr ns), some (.int (Z : Nat)), some (.int (C : Nat)), some (.lst (L.map PD)), some (.tup (ws.map FD)), some (.lst (rows.map fun r => .lst (r.map D.int))), none, none, none, none, none, none, none]) (s2 := []) (by simp only [PI.gmK_cl, PI.gmK_gl, PI.gmK_N, PI.gmK_fill, PI.ev_var, PI.ev_fz, PI.ev_glob, PI.ev_int, PI.ev_str, PI.ev_bl, PI.ev_non, PI.ev_gap, PI.ev_bin, PI.negV_int, PI.ev_neg, PI.ev_not, PI.wayV_bl, PI.notV_bl, PI.ev_and, PI.ev_or, PI.ev_ite, PI.ev_cmp, PI.ev_chain, PI.ev_ix, PI.ev_slice, PI.ev_tup, PI.ev_lst, PI.ev_comp, PI.ev_call, PI.ev_bi, PI.ev_bm, PI.evs_nil, PI.evs_cons, PI.et_, PI.ex_asg, PI.ex_par, PI.ex_setIx, PI.ex_ex, PI.ex_ret, PI.ex_ifs, PI.ex_loop, PI.ex_each, PI.ex_pass, PI.ex_brk, PI.ex_cont, PI.exs_nil, PI.thenS_nx, PI.thenS_ret, PI.thenS_brk, PI.thenS_cont, PI.thenS_exc, PI.exs_cons, PI.ite_bind, PI.ite_lift, PI.bp_name, PI.bp_tup, PI.bps_nil, PI.bps_cons, PI.bv_add, PI.bv_sub, PI.bv_mul, PI.bv_fdiv, PI.bv_mod, PI.bv_pow, PI.cv_lt, PI.cv_le, PI.cv_gt, PI.cv_ge, PI.cv_eqs, PI.cv_nes, PI.cv_eq, PI.cv_ne, PI.bi_int, PI.bi_abs, PI.bi_len, PI.bi_tuple, PI.bi_list, PI.bi_isI, PI.bi_repr, PI.bi_max, PI.bi_min, PI.seq_tup, PI.seq_lst, PI.seq_scr, PI.len_tup, PI.len_lst, PI.len_scr, PI.ty_tup, PI.ty_lst, PI.ty_scr, PI.ty_int, PI.ty_bl, PI.ty_str, PI.ty_non, PI.norm_tup, PI.norm_lst, PI.norm_int, PI.norm_str, PI.norm_bl, PI.norm_non, PI.ix_t0, PI.ix_t1, PI.ix_t2, PI.ix_t3, PI.ix_l0, PI.ix_l1, PI.ix_l2, PI.ix_l3, PI.at_new, PI.set_new, PI.it_tup, PI.it_lst, PI.cv_eqb, PI.cv_neb, PI.bv_addT, PI.bv_addL, PI.bi_intb, PI.bi_sumL, Out.bind_ok, Out.lift_ok, Out.bind_exc, Out.lift_exc, Out.calm_ok, newL_t, newL_f, List.map, List.replicate, List.length_cons, List.length_nil, List.cons_append, List.nil_append, List.append_nil, List.getElem?_cons_succ, List.getElem?_cons_zero, List.set, Nat.reduceAdd, Nat.reduceSub, decide_true, decide_false, if_true, if_false, Bool.false_eq_true, Bool.not_true, Bool.not_false, decide_eq_true_eq, isTy, eq_self, Bool.or_false, Bool.or_true, Bool.true_or, Bool.false_or, f7, f8, mA, imA, need_pos sP, ei, mB, nAB])]
  -- the first and the last point
  have Lne : L ≠ [] := by rw [hLc]; exact List.cons_ne_nil _ _
  have hz := hLp (L.getLast Lne) (List.getLast_mem Lne)
  have iz := last_at L Lne []
  generalize hq0 : L.getLast Lne = q0 at hz iz
  have i0 : ixV (.lst (L.map PD)) (.int 0) [] = .ok (PD p0) [] := by
    rw [hLc]
    exact ix_l0 _ _ _
  rw [exs_nx (en' := [some (.scr ns), some (.int (Z : Nat)), some (.int (C : Nat)), some (.lst (L.map PD)), some (.tup (ws.map FD)), some (.lst (rows.map fun r => .lst (r.map D.int))), some (PD p0), some (PD q0), none, none, none, none, none]) (s2 := []) (by simp only [PI.gmK_cl, PI.gmK_gl, PI.gmK_N, PI.gmK_fill, PI.ev_var, PI.ev_fz, PI.ev_glob, PI.ev_int, PI.ev_str, PI.ev_bl, PI.ev_non, PI.ev_gap, PI.ev_bin, PI.negV_int, PI.ev_neg, PI.ev_not, PI.wayV_bl, PI.notV_bl, PI.ev_and, PI.ev_or, PI.ev_ite, PI.ev_cmp, PI.ev_chain, PI.ev_ix, PI.ev_slice, PI.ev_tup, PI.ev_lst, PI.ev_comp, PI.ev_call, PI.ev_bi, PI.ev_bm, PI.evs_nil, PI.evs_cons, PI.et_, PI.ex_asg, PI.ex_par, PI.ex_setIx, PI.ex_ex, PI.ex_ret, PI.ex_ifs, PI.ex_loop, PI.ex_each, PI.ex_pass, PI.ex_brk, PI.ex_cont, PI.exs_nil, PI.thenS_nx, PI.thenS_ret, PI.thenS_brk, PI.thenS_cont, PI.thenS_exc, PI.exs_cons, PI.ite_bind, PI.ite_lift, PI.bp_name, PI.bp_tup, PI.bps_nil, PI.bps_cons, PI.bv_add, PI.bv_sub, PI.bv_mul, PI.bv_fdiv, PI.bv_mod, PI.bv_pow, PI.cv_lt, PI.cv_le, PI.cv_gt, PI.cv_ge, PI.cv_eqs, PI.cv_nes, PI.cv_eq, PI.cv_ne, PI.bi_int, PI.bi_abs, PI.bi_len, PI.bi_tuple, PI.bi_list, PI.bi_isI, PI.bi_repr, PI.bi_max, PI.bi_min, PI.seq_tup, PI.seq_lst, PI.seq_scr, PI.len_tup, PI.len_lst, PI.len_scr, PI.ty_tup, PI.ty_lst, PI.ty_scr, PI.ty_int, PI.ty_bl, PI.ty_str, PI.ty_non, PI.norm_tup, PI.norm_lst, PI.norm_int, PI.norm_str, PI.norm_bl, PI.norm_non, PI.ix_t0, PI.ix_t1, PI.ix_t2, PI.ix_t3, PI.ix_l0, PI.ix_l1, PI.ix_l2, PI.ix_l3, PI.at_new, PI.set_new, PI.it_tup, PI.it_lst, PI.cv_eqb, PI.cv_neb, PI.bv_addT, PI.bv_addL, PI.bi_intb, PI.bi_sumL, Out.bind_ok, Out.lift_ok, Out.bind_exc, Out.lift_exc, Out.calm_ok, newL_t, newL_f, List.map, List.replicate, List.length_cons, List.length_nil, List.cons_append, List.nil_append, List.append_nil, List.getElem?_cons_succ, List.getElem?_cons_zero, List.set, Nat.reduceAdd, Nat.reduceSub, decide_true, decide_false, if_true, if_false, Bool.false_eq_true, Bool.not_true, Bool.not_false, decide_eq_true_eq, isTy, eq_self, Bool.or_false, Bool.or_true, Bool.true_or, Bool.false_or, i0, iz])]
  have p0l := low_of hp0.2
  have p0b := b_of hp0.2
  have q0l := low_of hz.2
  have q0b := b_of hz.2
  -- a mix of one point
  have es := comp_map (G := gmK tb NN 39) (elt := .var 6) (p := .name 12) (c := .gap) (own := [12]) (en := [some (.scr ns), some (.int (Z : Nat)), some (.int (C : Nat)), some (.lst (L.map PD)), some (.tup (ws.map FD)), some (.lst (rows.map fun r => .lst (r.map D.int))), some (PD p0), some (PD q0), none, none, none, none, none]) (v := ⟨L.map PD, []⟩) (st := []) (stays_nil rfl) PD (fun _ => PD p0) L [] (fun p hpm => by
    simp only [turnS, wipeE, PI.gmK_cl, PI.gmK_gl, PI.gmK_N, PI.gmK_fill, PI.ev_var, PI.ev_fz, PI.ev_glob, PI.ev_int, PI.ev_str, PI.ev_bl, PI.ev_non, PI.ev_gap, PI.ev_bin, PI.negV_int, PI.ev_neg, PI.ev_not, PI.wayV_bl, PI.notV_bl, PI.ev_and, PI.ev_or, PI.ev_ite, PI.ev_cmp, PI.ev_chain, PI.ev_ix, PI.ev_slice, PI.ev_tup, PI.ev_lst, PI.ev_comp, PI.ev_call, PI.ev_bi, PI.ev_bm, PI.evs_nil, PI.evs_cons, PI.et_, PI.ex_asg, PI.ex_par, PI.ex_setIx, PI.ex_ex, PI.ex_ret, PI.ex_ifs, PI.ex_loop, PI.ex_each, PI.ex_pass, PI.ex_brk, PI.ex_cont, PI.exs_nil, PI.thenS_nx, PI.thenS_ret, PI.thenS_brk, PI.thenS_cont, PI.thenS_exc, PI.exs_cons, PI.ite_bind, PI.ite_lift, PI.bp_name, PI.bp_tup, PI.bps_nil, PI.bps_cons, PI.bv_add, PI.bv_sub, PI.bv_mul, PI.bv_fdiv, PI.bv_mod, PI.bv_pow, PI.cv_lt, PI.cv_le, PI.cv_gt, PI.cv_ge, PI.cv_eqs, PI.cv_nes, PI.cv_eq, PI.cv_ne, PI.bi_int, PI.bi_abs, PI.bi_len, PI.bi_tuple, PI.bi_list, PI.bi_isI, PI.bi_repr, PI.bi_max, PI.bi_min, PI.seq_tup, PI.seq_lst, PI.seq_scr, PI.len_tup, PI.len_lst, PI.len_scr, PI.ty_tup, PI.ty_lst, PI.ty_scr, PI.ty_int, PI.ty_bl, PI.ty_str, PI.ty_non, PI.norm_tup, PI.norm_lst, PI.norm_int, PI.norm_str, PI.norm_bl, PI.norm_non, PI.ix_t0, PI.ix_t1, PI.ix_t2, PI.ix_t3, PI.ix_l0, PI.ix_l1, PI.ix_l2, PI.ix_l3, PI.at_new, PI.set_new, PI.it_tup, PI.it_lst, PI.cv_eqb, PI.cv_neb, PI.bv_addT, PI.bv_addL, PI.bi_intb, PI.bi_sumL, Out.bind_ok, Out.lift_ok, Out.bind_exc, Out.lift_exc, Out.calm_ok, newL_t, newL_f, List.map, List.replicate, List.length_cons, List.length_nil, List.cons_append, List.nil_append, List.append_nil, List.getElem?_cons_succ, List.getElem?_cons_zero, List.set, Nat.reduceAdd, Nat.reduceSub, decide_true, decide_false, if_true, if_false, Bool.false_eq_true, Bool.not_true, Bool.not_false, decide_eq_true_eq, isTy, eq_self, Bool.or_false, Bool.or_true, Bool.true_or, Bool.false_or])
  rw [List.nil_append, show (L.map fun _ => PD p0) = PD p0 :: (Lt.map fun _ => p0).map PD by rw [hLc, List.map_cons, List.map_map]; rfl] at es
  obtain ⟨mS, bS⟩ := mx_spec' (T := tb) (N := NN) (k := 39) (m := 30) (n := 9) (by decide) hasMx [] w0 wt p0 (Lt.map fun _ => p0) 3 (by decide) hw0.1 (fun w h => (hwt w h).1) p0b (by omega) (fun p h => by
    obtain ⟨q, hqm, rfl⟩ := List.mem_map.mp h
    exact ⟨p0b, by omega⟩) (by rw [List.length_map]; exact lt) (by rw [List.length_map]; omega) (nn (by rw [List.length_map]; omega))
  have one : mixL (scaP p0 w0) (wt.zip (Lt.map fun _ => p0)) = p0 := by
    rw [zip_same p0 lt, mixL_same p0l hw0.2 fun w h => (hwt w h).2]
    have sv := sum_val (ps := wt) hw0.2 fun w h => (hwt w h).2.1
    have e1 : sumF w0 wt = (1, 1) := by
      refine val_inj sv.1 low_one ?_
      rw [sv.2, val_int]
      have := hw.one
      rw [hwc, List.map_cons, List.sum_cons] at this
      rw [this]
      rfl
    rw [e1, sca_one p0l]
  rw [one, ← hwc, List.map_cons] at mS
  have nS := ne_PD (by decide) (by decide) p0b []
  rw [exs_nx (en' := [some (.scr ns), some (.int (Z : Nat)), some (.int (C : Nat)), some (.lst (L.map PD)), some (.tup (ws.map FD)), some (.lst (rows.map fun r => .lst (r.map D.int))), some (PD p0), some (PD q0), none, none, none, none, none]) (s2 := []) (by simp only [PI.gmK_cl, PI.gmK_gl, PI.gmK_N, PI.gmK_fill, PI.ev_var, PI.ev_fz, PI.ev_glob, PI.ev_int, PI.ev_str, PI.ev_bl, PI.ev_non, PI.ev_gap, PI.ev_bin, PI.negV_int, PI.ev_neg, PI.ev_not, PI.wayV_bl, PI.notV_bl, PI.ev_and, PI.ev_or, PI.ev_ite, PI.ev_cmp, PI.ev_chain, PI.ev_ix, PI.ev_slice, PI.ev_tup, PI.ev_lst, PI.ev_comp, PI.ev_call, PI.ev_bi, PI.ev_bm, PI.evs_nil, PI.evs_cons, PI.et_, PI.ex_asg, PI.ex_par, PI.ex_setIx, PI.ex_ex, PI.ex_ret, PI.ex_ifs, PI.ex_loop, PI.ex_each, PI.ex_pass, PI.ex_brk, PI.ex_cont, PI.exs_nil, PI.thenS_nx, PI.thenS_ret, PI.thenS_brk, PI.thenS_cont, PI.thenS_exc, PI.exs_cons, PI.ite_bind, PI.ite_lift, PI.bp_name, PI.bp_tup, PI.bps_nil, PI.bps_cons, PI.bv_add, PI.bv_sub, PI.bv_mul, PI.bv_fdiv, PI.bv_mod, PI.bv_pow, PI.cv_lt, PI.cv_le, PI.cv_gt, PI.cv_ge, PI.cv_eqs, PI.cv_nes, PI.cv_eq, PI.cv_ne, PI.bi_int, PI.bi_abs, PI.bi_len, PI.bi_tuple, PI.bi_list, PI.bi_isI, PI.bi_repr, PI.bi_max, PI.bi_min, PI.seq_tup, PI.seq_lst, PI.seq_scr, PI.len_tup, PI.len_lst, PI.len_scr, PI.ty_tup, PI.ty_lst, PI.ty_scr, PI.ty_int, PI.ty_bl, PI.ty_str, PI.ty_non, PI.norm_tup, PI.norm_lst, PI.norm_int, PI.norm_str, PI.norm_bl, PI.norm_non, PI.ix_t0, PI.ix_t1, PI.ix_t2, PI.ix_t3, PI.ix_l0, PI.ix_l1, PI.ix_l2, PI.ix_l3, PI.at_new, PI.set_new, PI.it_tup, PI.it_lst, PI.cv_eqb, PI.cv_neb, PI.bv_addT, PI.bv_addL, PI.bi_intb, PI.bi_sumL, Out.bind_ok, Out.lift_ok, Out.bind_exc, Out.lift_exc, Out.calm_ok, newL_t, newL_f, List.map, List.replicate, List.length_cons, List.length_nil, List.cons_append, List.nil_append, List.append_nil, List.getElem?_cons_succ, List.getElem?_cons_zero, List.set, Nat.reduceAdd, Nat.reduceSub, decide_true, decide_false, if_true, if_false, Bool.false_eq_true, Bool.not_true, Bool.not_false, decide_eq_true_eq, isTy, eq_self, Bool.or_false, Bool.or_true, Bool.true_or, Bool.false_or, f7, need_pos sP, es, mS, nS])]
  obtain ⟨f, hf, ef⟩ := lf (k := 39) (by decide) (cellZ ns 10) 3 []
  obtain ⟨g, hg, eg⟩ := lf (k := 39) (by decide) (cellZ ns 11) 4 []
  rw [exs_nx (en' := [some (.scr ns), some (.int (Z : Nat)), some (.int (C : Nat)), some (.lst (L.map PD)), some (.tup (ws.map FD)), some (.lst (rows.map fun r => .lst (r.map D.int))), some (PD p0), some (PD q0), some (FD f), none, none, none, none]) (s2 := []) (by simp only [PI.gmK_cl, PI.gmK_gl, PI.gmK_N, PI.gmK_fill, PI.ev_var, PI.ev_fz, PI.ev_glob, PI.ev_int, PI.ev_str, PI.ev_bl, PI.ev_non, PI.ev_gap, PI.ev_bin, PI.negV_int, PI.ev_neg, PI.ev_not, PI.wayV_bl, PI.notV_bl, PI.ev_and, PI.ev_or, PI.ev_ite, PI.ev_cmp, PI.ev_chain, PI.ev_ix, PI.ev_slice, PI.ev_tup, PI.ev_lst, PI.ev_comp, PI.ev_call, PI.ev_bi, PI.ev_bm, PI.evs_nil, PI.evs_cons, PI.et_, PI.ex_asg, PI.ex_par, PI.ex_setIx, PI.ex_ex, PI.ex_ret, PI.ex_ifs, PI.ex_loop, PI.ex_each, PI.ex_pass, PI.ex_brk, PI.ex_cont, PI.exs_nil, PI.thenS_nx, PI.thenS_ret, PI.thenS_brk, PI.thenS_cont, PI.thenS_exc, PI.exs_cons, PI.ite_bind, PI.ite_lift, PI.bp_name, PI.bp_tup, PI.bps_nil, PI.bps_cons, PI.bv_add, PI.bv_sub, PI.bv_mul, PI.bv_fdiv, PI.bv_mod, PI.bv_pow, PI.cv_lt, PI.cv_le, PI.cv_gt, PI.cv_ge, PI.cv_eqs, PI.cv_nes, PI.cv_eq, PI.cv_ne, PI.bi_int, PI.bi_abs, PI.bi_len, PI.bi_tuple, PI.bi_list, PI.bi_isI, PI.bi_repr, PI.bi_max, PI.bi_min, PI.seq_tup, PI.seq_lst, PI.seq_scr, PI.len_tup, PI.len_lst, PI.len_scr, PI.ty_tup, PI.ty_lst, PI.ty_scr, PI.ty_int, PI.ty_bl, PI.ty_str, PI.ty_non, PI.norm_tup, PI.norm_lst, PI.norm_int, PI.norm_str, PI.norm_bl, PI.norm_non, PI.ix_t0, PI.ix_t1, PI.ix_t2, PI.ix_t3, PI.ix_l0, PI.ix_l1, PI.ix_l2, PI.ix_l3, PI.at_new, PI.set_new, PI.it_tup, PI.it_lst, PI.cv_eqb, PI.cv_neb, PI.bv_addT, PI.bv_addL, PI.bi_intb, PI.bi_sumL, Out.bind_ok, Out.lift_ok, Out.bind_exc, Out.lift_exc, Out.calm_ok, newL_t, newL_f, List.map, List.replicate, List.length_cons, List.length_nil, List.cons_append, List.nil_append, List.append_nil, List.getElem?_cons_succ, List.getElem?_cons_zero, List.set, Nat.reduceAdd, Nat.reduceSub, decide_true, decide_false, if_true, if_false, Bool.false_eq_true, Bool.not_true, Bool.not_false, decide_eq_true_eq, isTy, eq_self, Bool.or_false, Bool.or_true, Bool.true_or, Bool.false_or, f1, f3, c10, ef])]
  rw [exs_nx (en' := [some (.scr ns), some (.int (Z : Nat)), some (.int (C : Nat)), some (.lst (L.map PD)), some (.tup (ws.map FD)), some (.lst (rows.map fun r => .lst (r.map D.int))), some (PD p0), some (PD q0), some (FD f), some (FD g), none, none, none]) (s2 := []) (by simp only [PI.gmK_cl, PI.gmK_gl, PI.gmK_N, PI.gmK_fill, PI.ev_var, PI.ev_fz, PI.ev_glob, PI.ev_int, PI.ev_str, PI.ev_bl, PI.ev_non, PI.ev_gap, PI.ev_bin, PI.negV_int, PI.ev_neg, PI.ev_not, PI.wayV_bl, PI.notV_bl, PI.ev_and, PI.ev_or, PI.ev_ite, PI.ev_cmp, PI.ev_chain, PI.ev_ix, PI.ev_slice, PI.ev_tup, PI.ev_lst, PI.ev_comp, PI.ev_call, PI.ev_bi, PI.ev_bm, PI.evs_nil, PI.evs_cons, PI.et_, PI.ex_asg, PI.ex_par, PI.ex_setIx, PI.ex_ex, PI.ex_ret, PI.ex_ifs, PI.ex_loop, PI.ex_each, PI.ex_pass, PI.ex_brk, PI.ex_cont, PI.exs_nil, PI.thenS_nx, PI.thenS_ret, PI.thenS_brk, PI.thenS_cont, PI.thenS_exc, PI.exs_cons, PI.ite_bind, PI.ite_lift, PI.bp_name, PI.bp_tup, PI.bps_nil, PI.bps_cons, PI.bv_add, PI.bv_sub, PI.bv_mul, PI.bv_fdiv, PI.bv_mod, PI.bv_pow, PI.cv_lt, PI.cv_le, PI.cv_gt, PI.cv_ge, PI.cv_eqs, PI.cv_nes, PI.cv_eq, PI.cv_ne, PI.bi_int, PI.bi_abs, PI.bi_len, PI.bi_tuple, PI.bi_list, PI.bi_isI, PI.bi_repr, PI.bi_max, PI.bi_min, PI.seq_tup, PI.seq_lst, PI.seq_scr, PI.len_tup, PI.len_lst, PI.len_scr, PI.ty_tup, PI.ty_lst, PI.ty_scr, PI.ty_int, PI.ty_bl, PI.ty_str, PI.ty_non, PI.norm_tup, PI.norm_lst, PI.norm_int, PI.norm_str, PI.norm_bl, PI.norm_non, PI.ix_t0, PI.ix_t1, PI.ix_t2, PI.ix_t3, PI.ix_l0, PI.ix_l1, PI.ix_l2, PI.ix_l3, PI.at_new, PI.set_new, PI.it_tup, PI.it_lst, PI.cv_eqb, PI.cv_neb, PI.bv_addT, PI.bv_addL, PI.bi_intb, PI.bi_sumL, Out.bind_ok, Out.lift_ok, Out.bind_exc, Out.lift_exc, Out.calm_ok, newL_t, newL_f, List.map, List.replicate, List.length_cons, List.length_nil, List.cons_append, List.nil_append, List.append_nil, List.getElem?_cons_succ, List.getElem?_cons_zero, List.set, Nat.reduceAdd, Nat.reduceSub, decide_true, decide_false, if_true, if_false, Bool.false_eq_true, Bool.not_true, Bool.not_false, decide_eq_true_eq, isTy, eq_self, Bool.or_false, Bool.or_true, Bool.true_or, Bool.false_or, f1, f3, c11, eg])]
  -- sums
  have lpq : p0.length = q0.length := by rw [hp0.1, hz.1]
  have so1 : callK tb NN 39 "sum_of" [PD p0, PD q0] [] = .ok (PD (addP p0 q0)) [] := sumof_spec (k := 39) (m := 30) (n := 30) (by decide) hasPt df_sum_of [] _ _ p0 q0 rfl rfl p0b q0b (by omega) (by decide) (nn (by decide))
  have so2 : callK tb NN 39 "sum_of" [PD q0, PD p0] [] = .ok (PD (addP p0 q0)) [] := by
    rw [addP_comm p0l q0l]
    exact sumof_spec (k := 39) (m := 30) (n := 30) (by decide) hasPt df_sum_of [] _ _ q0 p0 rfl rfl q0b p0b (by omega) (by decide) (nn (by decide))
  have ab := addP_b p0b q0b
  have im1 := im_ok (k := 39) (c := 3) (by decide) rows hrn (by omega) (addP p0 q0) ab (by rw [addP_len lpq]; omega) (by decide) (by decide) []
  have im2 := im_ok (k := 39) (c := 3) (by decide) rows hrn (by omega) p0 p0b (by omega) (by decide) (by decide) []
  have im3 := im_ok (k := 39) (c := 3) (by decide) rows hrn (by omega) q0 q0b (by omega) (by decide) (by decide) []
  have ip := ib p0 hp0.1 hp0.2
  have iq := ib q0 hz.1 hz.2
  have so3 : callK tb NN 39 "sum_of" [PD (imgP rows p0), PD (imgP rows q0)] [] = .ok (PD (addP (imgP rows p0) (imgP rows q0))) [] := sumof_spec (k := 39) (m := 112) (n := 112) (by decide) hasPt df_sum_of [] _ _ _ _ rfl rfl ip iq (by have := il p0; omega) (by decide) (nn (by decide))
  rw [img_addP p0l q0l lpq] at im1
  have n1 := ne_PD (by decide) (by decide) (addP_b ip iq) []
  rw [exs_nx (en' := [some (.scr ns), some (.int (Z : Nat)), some (.int (C : Nat)), some (.lst (L.map PD)), some (.tup (ws.map FD)), some (.lst (rows.map fun r => .lst (r.map D.int))), some (PD p0), some (PD q0), some (FD f), some (FD g), none, none, none]) (s2 := []) (by simp only [PI.gmK_cl, PI.gmK_gl, PI.gmK_N, PI.gmK_fill, PI.ev_var, PI.ev_fz, PI.ev_glob, PI.ev_int, PI.ev_str, PI.ev_bl, PI.ev_non, PI.ev_gap, PI.ev_bin, PI.negV_int, PI.ev_neg, PI.ev_not, PI.wayV_bl, PI.notV_bl, PI.ev_and, PI.ev_or, PI.ev_ite, PI.ev_cmp, PI.ev_chain, PI.ev_ix, PI.ev_slice, PI.ev_tup, PI.ev_lst, PI.ev_comp, PI.ev_call, PI.ev_bi, PI.ev_bm, PI.evs_nil, PI.evs_cons, PI.et_, PI.ex_asg, PI.ex_par, PI.ex_setIx, PI.ex_ex, PI.ex_ret, PI.ex_ifs, PI.ex_loop, PI.ex_each, PI.ex_pass, PI.ex_brk, PI.ex_cont, PI.exs_nil, PI.thenS_nx, PI.thenS_ret, PI.thenS_brk, PI.thenS_cont, PI.thenS_exc, PI.exs_cons, PI.ite_bind, PI.ite_lift, PI.bp_name, PI.bp_tup, PI.bps_nil, PI.bps_cons, PI.bv_add, PI.bv_sub, PI.bv_mul, PI.bv_fdiv, PI.bv_mod, PI.bv_pow, PI.cv_lt, PI.cv_le, PI.cv_gt, PI.cv_ge, PI.cv_eqs, PI.cv_nes, PI.cv_eq, PI.cv_ne, PI.bi_int, PI.bi_abs, PI.bi_len, PI.bi_tuple, PI.bi_list, PI.bi_isI, PI.bi_repr, PI.bi_max, PI.bi_min, PI.seq_tup, PI.seq_lst, PI.seq_scr, PI.len_tup, PI.len_lst, PI.len_scr, PI.ty_tup, PI.ty_lst, PI.ty_scr, PI.ty_int, PI.ty_bl, PI.ty_str, PI.ty_non, PI.norm_tup, PI.norm_lst, PI.norm_int, PI.norm_str, PI.norm_bl, PI.norm_non, PI.ix_t0, PI.ix_t1, PI.ix_t2, PI.ix_t3, PI.ix_l0, PI.ix_l1, PI.ix_l2, PI.ix_l3, PI.at_new, PI.set_new, PI.it_tup, PI.it_lst, PI.cv_eqb, PI.cv_neb, PI.bv_addT, PI.bv_addL, PI.bi_intb, PI.bi_sumL, Out.bind_ok, Out.lift_ok, Out.bind_exc, Out.lift_exc, Out.calm_ok, newL_t, newL_f, List.map, List.replicate, List.length_cons, List.length_nil, List.cons_append, List.nil_append, List.append_nil, List.getElem?_cons_succ, List.getElem?_cons_zero, List.set, Nat.reduceAdd, Nat.reduceSub, decide_true, decide_false, if_true, if_false, Bool.false_eq_true, Bool.not_true, Bool.not_false, decide_eq_true_eq, isTy, eq_self, Bool.or_false, Bool.or_true, Bool.true_or, Bool.false_or, f6, f8, so1, im1, im2, im3, so3, n1])]
  have fl' : Low f := ⟨hf.2.1, hf.2.2.2⟩
  have gl' : Low g := ⟨hg.2.1, hg.2.2.2⟩
  have sc1 : callK tb NN 39 "scaled" [PD p0, FD f] [] = .ok (PD (scaP p0 f)) [] := scaled_spec (k := 39) (m := 30) (n := 30) (by decide) hasPt df_scaled [] _ f p0 rfl p0b hf.b (by omega) (by decide) (nn (by decide))
  have sc2 : callK tb NN 39 "scaled" [PD (imgP rows p0), FD f] [] = .ok (PD (scaP (imgP rows p0) f)) [] := scaled_spec (k := 39) (m := 112) (n := 30) (by decide) hasPt df_scaled [] _ f _ rfl ip hf.b (by have := il p0; omega) (by decide) (nn (by decide))
  have im4 := im_ok (k := 39) (c := 3) (by decide) rows hrn (by omega) (scaP p0 f) (scaP_b p0b hf.b) (by rw [scaP_len]; omega) (by decide) (by decide) []
  rw [img_scaP p0l fl'] at im4
  have n2 := ne_PD (by decide) (by decide) (scaP_b ip hf.b) []
  have n3' := ne_PD (by decide) (by decide) ab []
  rw [exs_nx (en' := [some (.scr ns), some (.int (Z : Nat)), some (.int (C : Nat)), some (.lst (L.map PD)), some (.tup (ws.map FD)), some (.lst (rows.map fun r => .lst (r.map D.int))), some (PD p0), some (PD q0), some (FD f), some (FD g), none, none, none]) (s2 := []) (by simp only [PI.gmK_cl, PI.gmK_gl, PI.gmK_N, PI.gmK_fill, PI.ev_var, PI.ev_fz, PI.ev_glob, PI.ev_int, PI.ev_str, PI.ev_bl, PI.ev_non, PI.ev_gap, PI.ev_bin, PI.negV_int, PI.ev_neg, PI.ev_not, PI.wayV_bl, PI.notV_bl, PI.ev_and, PI.ev_or, PI.ev_ite, PI.ev_cmp, PI.ev_chain, PI.ev_ix, PI.ev_slice, PI.ev_tup, PI.ev_lst, PI.ev_comp, PI.ev_call, PI.ev_bi, PI.ev_bm, PI.evs_nil, PI.evs_cons, PI.et_, PI.ex_asg, PI.ex_par, PI.ex_setIx, PI.ex_ex, PI.ex_ret, PI.ex_ifs, PI.ex_loop, PI.ex_each, PI.ex_pass, PI.ex_brk, PI.ex_cont, PI.exs_nil, PI.thenS_nx, PI.thenS_ret, PI.thenS_brk, PI.thenS_cont, PI.thenS_exc, PI.exs_cons, PI.ite_bind, PI.ite_lift, PI.bp_name, PI.bp_tup, PI.bps_nil, PI.bps_cons, PI.bv_add, PI.bv_sub, PI.bv_mul, PI.bv_fdiv, PI.bv_mod, PI.bv_pow, PI.cv_lt, PI.cv_le, PI.cv_gt, PI.cv_ge, PI.cv_eqs, PI.cv_nes, PI.cv_eq, PI.cv_ne, PI.bi_int, PI.bi_abs, PI.bi_len, PI.bi_tuple, PI.bi_list, PI.bi_isI, PI.bi_repr, PI.bi_max, PI.bi_min, PI.seq_tup, PI.seq_lst, PI.seq_scr, PI.len_tup, PI.len_lst, PI.len_scr, PI.ty_tup, PI.ty_lst, PI.ty_scr, PI.ty_int, PI.ty_bl, PI.ty_str, PI.ty_non, PI.norm_tup, PI.norm_lst, PI.norm_int, PI.norm_str, PI.norm_bl, PI.norm_non, PI.ix_t0, PI.ix_t1, PI.ix_t2, PI.ix_t3, PI.ix_l0, PI.ix_l1, PI.ix_l2, PI.ix_l3, PI.at_new, PI.set_new, PI.it_tup, PI.it_lst, PI.cv_eqb, PI.cv_neb, PI.bv_addT, PI.bv_addL, PI.bi_intb, PI.bi_sumL, Out.bind_ok, Out.lift_ok, Out.bind_exc, Out.lift_exc, Out.calm_ok, newL_t, newL_f, List.map, List.replicate, List.length_cons, List.length_nil, List.cons_append, List.nil_append, List.append_nil, List.getElem?_cons_succ, List.getElem?_cons_zero, List.set, Nat.reduceAdd, Nat.reduceSub, decide_true, decide_false, if_true, if_false, Bool.false_eq_true, Bool.not_true, Bool.not_false, decide_eq_true_eq, isTy, eq_self, Bool.or_false, Bool.or_true, Bool.true_or, Bool.false_or, f6, f8, f9, sc1, im4, im2, sc2, n2, so1, so2, n3'])]
  -- the third fraction
  obtain ⟨h, pt, hpc⟩ : ∃ h pt, p0 = h :: pt := by
    have := hp0.1
    cases p0 with
    | nil => simp at this; omega
    | cons a b => exact ⟨a, b, rfl⟩
  have hh := hp0.2 h (by rw [hpc]; exact List.mem_cons_self ..)
  have hl' : Low h := ⟨hh.2.1, hh.2.2.2⟩
  have ih : ixV (PD p0) (.int 0) [] = .ok (FD h) [] := by
    rw [hpc]
    exact ix_t0 _ _ _
  rw [exs_nx (en' := [some (.scr ns), some (.int (Z : Nat)), some (.int (C : Nat)), some (.lst (L.map PD)), some (.tup (ws.map FD)), some (.lst (rows.map fun r => .lst (r.map D.int))), some (PD p0), some (PD q0), some (FD f), some (FD g), some (FD h), none, none]) (s2 := []) (by simp only [PI.gmK_cl, PI.gmK_gl, PI.gmK_N, PI.gmK_fill, PI.ev_var, PI.ev_fz, PI.ev_glob, PI.ev_int, PI.ev_str, PI.ev_bl, PI.ev_non, PI.ev_gap, PI.ev_bin, PI.negV_int, PI.ev_neg, PI.ev_not, PI.wayV_bl, PI.notV_bl, PI.ev_and, PI.ev_or, PI.ev_ite, PI.ev_cmp, PI.ev_chain, PI.ev_ix, PI.ev_slice, PI.ev_tup, PI.ev_lst, PI.ev_comp, PI.ev_call, PI.ev_bi, PI.ev_bm, PI.evs_nil, PI.evs_cons, PI.et_, PI.ex_asg, PI.ex_par, PI.ex_setIx, PI.ex_ex, PI.ex_ret, PI.ex_ifs, PI.ex_loop, PI.ex_each, PI.ex_pass, PI.ex_brk, PI.ex_cont, PI.exs_nil, PI.thenS_nx, PI.thenS_ret, PI.thenS_brk, PI.thenS_cont, PI.thenS_exc, PI.exs_cons, PI.ite_bind, PI.ite_lift, PI.bp_name, PI.bp_tup, PI.bps_nil, PI.bps_cons, PI.bv_add, PI.bv_sub, PI.bv_mul, PI.bv_fdiv, PI.bv_mod, PI.bv_pow, PI.cv_lt, PI.cv_le, PI.cv_gt, PI.cv_ge, PI.cv_eqs, PI.cv_nes, PI.cv_eq, PI.cv_ne, PI.bi_int, PI.bi_abs, PI.bi_len, PI.bi_tuple, PI.bi_list, PI.bi_isI, PI.bi_repr, PI.bi_max, PI.bi_min, PI.seq_tup, PI.seq_lst, PI.seq_scr, PI.len_tup, PI.len_lst, PI.len_scr, PI.ty_tup, PI.ty_lst, PI.ty_scr, PI.ty_int, PI.ty_bl, PI.ty_str, PI.ty_non, PI.norm_tup, PI.norm_lst, PI.norm_int, PI.norm_str, PI.norm_bl, PI.norm_non, PI.ix_t0, PI.ix_t1, PI.ix_t2, PI.ix_t3, PI.ix_l0, PI.ix_l1, PI.ix_l2, PI.ix_l3, PI.at_new, PI.set_new, PI.it_tup, PI.it_lst, PI.cv_eqb, PI.cv_neb, PI.bv_addT, PI.bv_addL, PI.bi_intb, PI.bi_sumL, Out.bind_ok, Out.lift_ok, Out.bind_exc, Out.lift_exc, Out.calm_ok, newL_t, newL_f, List.map, List.replicate, List.length_cons, List.length_nil, List.cons_append, List.nil_append, List.append_nil, List.getElem?_cons_succ, List.getElem?_cons_zero, List.set, Nat.reduceAdd, Nat.reduceSub, decide_true, decide_false, if_true, if_false, Bool.false_eq_true, Bool.not_true, Bool.not_false, decide_eq_true_eq, isTy, eq_self, Bool.or_false, Bool.or_true, Bool.true_or, Bool.false_or, ih])]
  have A : ∀ {m n : Nat} {p q : Int × Int}, FrB m p → FrB n q → m + n ≤ 2000 → callK tb NN 39 "added" [FD p, FD q] [] = .ok (FD (addF p q)) [] := fun hp hq hm => addF_spec (k := 39) (by decide) hasFr df_added [] hp hq (by omega) (nn hm)
  have M : ∀ {m n : Nat} {p q : Int × Int}, FrB m p → FrB n q → m + n ≤ 2000 → callK tb NN 39 "times" [FD p, FD q] [] = .ok (FD (mulF p q)) [] := fun hp hq hm => mulF_spec (k := 39) (by decide) hasFr df_times [] hp hq (by omega) (nn hm)
  have U : ∀ {m n : Nat} {p q : Int × Int}, FrB m p → FrB n q → m + n ≤ 2000 → callK tb NN 39 "subtracted" [FD p, FD q] [] = .ok (FD (subF p q)) [] := fun hp hq hm => subF_spec (k := 39) (by decide) hasFr df_subtracted [] hp hq (by omega) (nn hm)
  have fb := hf.b
  have gb := hg.b
  have hb := hh.b
  have fg := (addF_ok fb gb).1
  have hg2 := (addF_ok hb gb).1
  have gh := (addF_ok gb hb).1
  have a1 := A fb gb (by decide)
  have a2 := A fg hb (by decide)
  have a3 := A hb gb (by decide)
  have a4 := A fb hg2 (by decide)
  have lfg := add_low fl'.1 gl'.1
  have lhg := add_low hl'.1 gl'.1
  have lgh := add_low gl'.1 hl'.1
  have s1 : addF f (addF h g) = addF (addF f g) h := by
    refine val_inj (add_low fl'.1 lhg.1) (add_low lfg.1 hl'.1) ?_
    rw [val_add fl'.1 lhg.1, val_add hl'.1 gl'.1, val_add lfg.1 hl'.1, val_add fl'.1 gl'.1]
    grind
  rw [s1] at a4
  have m1 := ne_FD (by decide) (by decide) (addF_ok fg hb).1 []
  rw [exs_nx (en' := [some (.scr ns), some (.int (Z : Nat)), some (.int (C : Nat)), some (.lst (L.map PD)), some (.tup (ws.map FD)), some (.lst (rows.map fun r => .lst (r.map D.int))), some (PD p0), some (PD q0), some (FD f), some (FD g), some (FD h), none, none]) (s2 := []) (by simp only [PI.gmK_cl, PI.gmK_gl, PI.gmK_N, PI.gmK_fill, PI.ev_var, PI.ev_fz, PI.ev_glob, PI.ev_int, PI.ev_str, PI.ev_bl, PI.ev_non, PI.ev_gap, PI.ev_bin, PI.negV_int, PI.ev_neg, PI.ev_not, PI.wayV_bl, PI.notV_bl, PI.ev_and, PI.ev_or, PI.ev_ite, PI.ev_cmp, PI.ev_chain, PI.ev_ix, PI.ev_slice, PI.ev_tup, PI.ev_lst, PI.ev_comp, PI.ev_call, PI.ev_bi, PI.ev_bm, PI.evs_nil, PI.evs_cons, PI.et_, PI.ex_asg, PI.ex_par, PI.ex_setIx, PI.ex_ex, PI.ex_ret, PI.ex_ifs, PI.ex_loop, PI.ex_each, PI.ex_pass, PI.ex_brk, PI.ex_cont, PI.exs_nil, PI.thenS_nx, PI.thenS_ret, PI.thenS_brk, PI.thenS_cont, PI.thenS_exc, PI.exs_cons, PI.ite_bind, PI.ite_lift, PI.bp_name, PI.bp_tup, PI.bps_nil, PI.bps_cons, PI.bv_add, PI.bv_sub, PI.bv_mul, PI.bv_fdiv, PI.bv_mod, PI.bv_pow, PI.cv_lt, PI.cv_le, PI.cv_gt, PI.cv_ge, PI.cv_eqs, PI.cv_nes, PI.cv_eq, PI.cv_ne, PI.bi_int, PI.bi_abs, PI.bi_len, PI.bi_tuple, PI.bi_list, PI.bi_isI, PI.bi_repr, PI.bi_max, PI.bi_min, PI.seq_tup, PI.seq_lst, PI.seq_scr, PI.len_tup, PI.len_lst, PI.len_scr, PI.ty_tup, PI.ty_lst, PI.ty_scr, PI.ty_int, PI.ty_bl, PI.ty_str, PI.ty_non, PI.norm_tup, PI.norm_lst, PI.norm_int, PI.norm_str, PI.norm_bl, PI.norm_non, PI.ix_t0, PI.ix_t1, PI.ix_t2, PI.ix_t3, PI.ix_l0, PI.ix_l1, PI.ix_l2, PI.ix_l3, PI.at_new, PI.set_new, PI.it_tup, PI.it_lst, PI.cv_eqb, PI.cv_neb, PI.bv_addT, PI.bv_addL, PI.bi_intb, PI.bi_sumL, Out.bind_ok, Out.lift_ok, Out.bind_exc, Out.lift_exc, Out.calm_ok, newL_t, newL_f, List.map, List.replicate, List.length_cons, List.length_nil, List.cons_append, List.nil_append, List.append_nil, List.getElem?_cons_succ, List.getElem?_cons_zero, List.set, Nat.reduceAdd, Nat.reduceSub, decide_true, decide_false, if_true, if_false, Bool.false_eq_true, Bool.not_true, Bool.not_false, decide_eq_true_eq, isTy, eq_self, Bool.or_false, Bool.or_true, Bool.true_or, Bool.false_or, f10, a1, a2, a3, a4, m1])]
  have b1 := A gb hb (by decide)
  have b2 := M fb gh (by decide)
  have b3 := M fb gb (by decide)
  have b4 := M fb hb (by decide)
  have fgm := (mulF_ok fb gb).1
  have fhm := (mulF_ok fb hb).1
  have b5 := A fgm fhm (by decide)
  have s2 : addF (mulF f g) (mulF f h) = mulF f (addF g h) := sca_add fl' gl' hl'
  rw [s2] at b5
  have m2 := ne_FD (by decide) (by decide) (mulF_ok fb gh).1 []
  rw [exs_nx (en' := [some (.scr ns), some (.int (Z : Nat)), some (.int (C : Nat)), some (.lst (L.map PD)), some (.tup (ws.map FD)), some (.lst (rows.map fun r => .lst (r.map D.int))), some (PD p0), some (PD q0), some (FD f), some (FD g), some (FD h), none, none]) (s2 := []) (by simp only [PI.gmK_cl, PI.gmK_gl, PI.gmK_N, PI.gmK_fill, PI.ev_var, PI.ev_fz, PI.ev_glob, PI.ev_int, PI.ev_str, PI.ev_bl, PI.ev_non, PI.ev_gap, PI.ev_bin, PI.negV_int, PI.ev_neg, PI.ev_not, PI.wayV_bl, PI.notV_bl, PI.ev_and, PI.ev_or, PI.ev_ite, PI.ev_cmp, PI.ev_chain, PI.ev_ix, PI.ev_slice, PI.ev_tup, PI.ev_lst, PI.ev_comp, PI.ev_call, PI.ev_bi, PI.ev_bm, PI.evs_nil, PI.evs_cons, PI.et_, PI.ex_asg, PI.ex_par, PI.ex_setIx, PI.ex_ex, PI.ex_ret, PI.ex_ifs, PI.ex_loop, PI.ex_each, PI.ex_pass, PI.ex_brk, PI.ex_cont, PI.exs_nil, PI.thenS_nx, PI.thenS_ret, PI.thenS_brk, PI.thenS_cont, PI.thenS_exc, PI.exs_cons, PI.ite_bind, PI.ite_lift, PI.bp_name, PI.bp_tup, PI.bps_nil, PI.bps_cons, PI.bv_add, PI.bv_sub, PI.bv_mul, PI.bv_fdiv, PI.bv_mod, PI.bv_pow, PI.cv_lt, PI.cv_le, PI.cv_gt, PI.cv_ge, PI.cv_eqs, PI.cv_nes, PI.cv_eq, PI.cv_ne, PI.bi_int, PI.bi_abs, PI.bi_len, PI.bi_tuple, PI.bi_list, PI.bi_isI, PI.bi_repr, PI.bi_max, PI.bi_min, PI.seq_tup, PI.seq_lst, PI.seq_scr, PI.len_tup, PI.len_lst, PI.len_scr, PI.ty_tup, PI.ty_lst, PI.ty_scr, PI.ty_int, PI.ty_bl, PI.ty_str, PI.ty_non, PI.norm_tup, PI.norm_lst, PI.norm_int, PI.norm_str, PI.norm_bl, PI.norm_non, PI.ix_t0, PI.ix_t1, PI.ix_t2, PI.ix_t3, PI.ix_l0, PI.ix_l1, PI.ix_l2, PI.ix_l3, PI.at_new, PI.set_new, PI.it_tup, PI.it_lst, PI.cv_eqb, PI.cv_neb, PI.bv_addT, PI.bv_addL, PI.bi_intb, PI.bi_sumL, Out.bind_ok, Out.lift_ok, Out.bind_exc, Out.lift_exc, Out.calm_ok, newL_t, newL_f, List.map, List.replicate, List.length_cons, List.length_nil, List.cons_append, List.nil_append, List.append_nil, List.getElem?_cons_succ, List.getElem?_cons_zero, List.set, Nat.reduceAdd, Nat.reduceSub, decide_true, decide_false, if_true, if_false, Bool.false_eq_true, Bool.not_true, Bool.not_false, decide_eq_true_eq, isTy, eq_self, Bool.or_false, Bool.or_true, Bool.true_or, Bool.false_or, f10, f11, b1, b2, b3, b4, b5, m2])]
  have u1 := U fb fb (by decide)
  have u2 := U fg gb (by decide)
  have s3 : subF f f = (0, 1) := by
    refine val_inj (sub_low fl'.1 fl'.1) low_zero ?_
    rw [val_sub fl'.1 fl'.1, val_zero]
    grind
  have s4 : subF (addF f g) g = f := by
    refine val_inj (sub_low lfg.1 gl'.1) fl' ?_
    rw [val_sub lfg.1 gl'.1, val_add fl'.1 gl'.1]
    grind
  rw [s3] at u1
  rw [s4] at u2
  have m3 := ne_FD (m := 6) (p := (0, 1)) (by decide) (by decide) ⟨by decide, by decide, by decide⟩ []
  have m4 := ne_FD (by decide) (by decide) fb []
  rw [show FD (0, 1) = D.tup [.int 0, .int 1] from rfl] at u1 m3
  rw [exs_nx (en' := [some (.scr ns), some (.int (Z : Nat)), some (.int (C : Nat)), some (.lst (L.map PD)), some (.tup (ws.map FD)), some (.lst (rows.map fun r => .lst (r.map D.int))), some (PD p0), some (PD q0), some (FD f), some (FD g), some (FD h), none, none]) (s2 := []) (by simp only [PI.gmK_cl, PI.gmK_gl, PI.gmK_N, PI.gmK_fill, PI.ev_var, PI.ev_fz, PI.ev_glob, PI.ev_int, PI.ev_str, PI.ev_bl, PI.ev_non, PI.ev_gap, PI.ev_bin, PI.negV_int, PI.ev_neg, PI.ev_not, PI.wayV_bl, PI.notV_bl, PI.ev_and, PI.ev_or, PI.ev_ite, PI.ev_cmp, PI.ev_chain, PI.ev_ix, PI.ev_slice, PI.ev_tup, PI.ev_lst, PI.ev_comp, PI.ev_call, PI.ev_bi, PI.ev_bm, PI.evs_nil, PI.evs_cons, PI.et_, PI.ex_asg, PI.ex_par, PI.ex_setIx, PI.ex_ex, PI.ex_ret, PI.ex_ifs, PI.ex_loop, PI.ex_each, PI.ex_pass, PI.ex_brk, PI.ex_cont, PI.exs_nil, PI.thenS_nx, PI.thenS_ret, PI.thenS_brk, PI.thenS_cont, PI.thenS_exc, PI.exs_cons, PI.ite_bind, PI.ite_lift, PI.bp_name, PI.bp_tup, PI.bps_nil, PI.bps_cons, PI.bv_add, PI.bv_sub, PI.bv_mul, PI.bv_fdiv, PI.bv_mod, PI.bv_pow, PI.cv_lt, PI.cv_le, PI.cv_gt, PI.cv_ge, PI.cv_eqs, PI.cv_nes, PI.cv_eq, PI.cv_ne, PI.bi_int, PI.bi_abs, PI.bi_len, PI.bi_tuple, PI.bi_list, PI.bi_isI, PI.bi_repr, PI.bi_max, PI.bi_min, PI.seq_tup, PI.seq_lst, PI.seq_scr, PI.len_tup, PI.len_lst, PI.len_scr, PI.ty_tup, PI.ty_lst, PI.ty_scr, PI.ty_int, PI.ty_bl, PI.ty_str, PI.ty_non, PI.norm_tup, PI.norm_lst, PI.norm_int, PI.norm_str, PI.norm_bl, PI.norm_non, PI.ix_t0, PI.ix_t1, PI.ix_t2, PI.ix_t3, PI.ix_l0, PI.ix_l1, PI.ix_l2, PI.ix_l3, PI.at_new, PI.set_new, PI.it_tup, PI.it_lst, PI.cv_eqb, PI.cv_neb, PI.bv_addT, PI.bv_addL, PI.bi_intb, PI.bi_sumL, Out.bind_ok, Out.lift_ok, Out.bind_exc, Out.lift_exc, Out.calm_ok, newL_t, newL_f, List.map, List.replicate, List.length_cons, List.length_nil, List.cons_append, List.nil_append, List.append_nil, List.getElem?_cons_succ, List.getElem?_cons_zero, List.set, Nat.reduceAdd, Nat.reduceSub, decide_true, decide_false, if_true, if_false, Bool.false_eq_true, Bool.not_true, Bool.not_false, decide_eq_true_eq, isTy, eq_self, Bool.or_false, Bool.or_true, Bool.true_or, Bool.false_or, f10, f12, a1, u1, u2, m3, m4])]
  have if0 : ixV (FD f) (.int 0) [] = .ok (.int f.1) [] := ix_t0 _ _ _
  by_cases hf0 : f.1 = 0
  · exact exs_rt (by simp only [PI.gmK_cl, PI.gmK_gl, PI.gmK_N, PI.gmK_fill, PI.ev_var, PI.ev_fz, PI.ev_glob, PI.ev_int, PI.ev_str, PI.ev_bl, PI.ev_non, PI.ev_gap, PI.ev_bin, PI.negV_int, PI.ev_neg, PI.ev_not, PI.wayV_bl, PI.notV_bl, PI.ev_and, PI.ev_or, PI.ev_ite, PI.ev_cmp, PI.ev_chain, PI.ev_ix, PI.ev_slice, PI.ev_tup, PI.ev_lst, PI.ev_comp, PI.ev_call, PI.ev_bi, PI.ev_bm, PI.evs_nil, PI.evs_cons, PI.et_, PI.ex_asg, PI.ex_par, PI.ex_setIx, PI.ex_ex, PI.ex_ret, PI.ex_ifs, PI.ex_loop, PI.ex_each, PI.ex_pass, PI.ex_brk, PI.ex_cont, PI.exs_nil, PI.thenS_nx, PI.thenS_ret, PI.thenS_brk, PI.thenS_cont, PI.thenS_exc, PI.exs_cons, PI.ite_bind, PI.ite_lift, PI.bp_name, PI.bp_tup, PI.bps_nil, PI.bps_cons, PI.bv_add, PI.bv_sub, PI.bv_mul, PI.bv_fdiv, PI.bv_mod, PI.bv_pow, PI.cv_lt, PI.cv_le, PI.cv_gt, PI.cv_ge, PI.cv_eqs, PI.cv_nes, PI.cv_eq, PI.cv_ne, PI.bi_int, PI.bi_abs, PI.bi_len, PI.bi_tuple, PI.bi_list, PI.bi_isI, PI.bi_repr, PI.bi_max, PI.bi_min, PI.seq_tup, PI.seq_lst, PI.seq_scr, PI.len_tup, PI.len_lst, PI.len_scr, PI.ty_tup, PI.ty_lst, PI.ty_scr, PI.ty_int, PI.ty_bl, PI.ty_str, PI.ty_non, PI.norm_tup, PI.norm_lst, PI.norm_int, PI.norm_str, PI.norm_bl, PI.norm_non, PI.ix_t0, PI.ix_t1, PI.ix_t2, PI.ix_t3, PI.ix_l0, PI.ix_l1, PI.ix_l2, PI.ix_l3, PI.at_new, PI.set_new, PI.it_tup, PI.it_lst, PI.cv_eqb, PI.cv_neb, PI.bv_addT, PI.bv_addL, PI.bi_intb, PI.bi_sumL, Out.bind_ok, Out.lift_ok, Out.bind_exc, Out.lift_exc, Out.calm_ok, newL_t, newL_f, List.map, List.replicate, List.length_cons, List.length_nil, List.cons_append, List.nil_append, List.append_nil, List.getElem?_cons_succ, List.getElem?_cons_zero, List.set, Nat.reduceAdd, Nat.reduceSub, decide_true, decide_false, if_true, if_false, Bool.false_eq_true, Bool.not_true, Bool.not_false, decide_eq_true_eq, isTy, eq_self, Bool.or_false, Bool.or_true, Bool.true_or, Bool.false_or, if0, eq_true hf0])
  · have gfm := (mulF_ok gb fb).1
    have d1 := div_spec (T := tb) (N := NN) (k := 39) (by decide) hasFr df_divided [] fb.1 fb.2.2 fb.1 fb.2.2 (by have := fb.2.1; omega) hf0 (by decide) (nn (by decide))
    have d2 := div_spec (T := tb) (N := NN) (k := 39) (p := mulF g f) (q := f) (by decide) hasFr df_divided [] gfm.1 gfm.2.2 fb.1 fb.2.2 (by have := gfm.2.1; omega) hf0 (by decide) (nn (by decide))
    have t1 := M gb fb (by decide)
    have vf : val f ≠ 0 := by
      have e1 := ratne hf0
      have e2 := ratne (show f.2 ≠ 0 by have := fl'.1; omega)
      unfold val
      grind
    have s5 : divF f f = (1, 1) := by
      refine val_inj (fr_low' (Int.mul_ne_zero (by have := fl'.1; omega) hf0)) low_one ?_
      rw [val_div fl'.1 fl'.1 hf0, val_int]
      grind
    have s6 : divF (mulF g f) f = g := by
      refine val_inj (fr_low' (Int.mul_ne_zero (by have := gfm.2.1; omega) hf0)) gl' ?_
      rw [val_div gfm.2.1 fl'.1 hf0, val_mul gl'.1 fl'.1]
      grind
    have d1' : callK tb NN 39 "divided" [FD f, FD f] [] = .ok (.tup [.int 1, .int 1]) [] := d1.trans (by rw [show fr (f.1 * f.2) (f.2 * f.1) = (1, 1) from s5]; rfl)
    have d2' : callK tb NN 39 "divided" [FD (mulF g f), FD f] [] = .ok (FD g) [] := d2.trans (by rw [show fr ((mulF g f).1 * f.2) ((mulF g f).2 * f.1) = g from s6])
    have k1 := eq_FD (m := 6) (p := (1, 1)) (by decide) (by decide) ⟨by decide, by decide, by decide⟩ []
    have k2 := eq_FD (by decide) (by decide) gb []
    rw [show FD (1, 1) = D.tup [.int 1, .int 1] from rfl] at k1
    exact exs_rt (by simp only [PI.gmK_cl, PI.gmK_gl, PI.gmK_N, PI.gmK_fill, PI.ev_var, PI.ev_fz, PI.ev_glob, PI.ev_int, PI.ev_str, PI.ev_bl, PI.ev_non, PI.ev_gap, PI.ev_bin, PI.negV_int, PI.ev_neg, PI.ev_not, PI.wayV_bl, PI.notV_bl, PI.ev_and, PI.ev_or, PI.ev_ite, PI.ev_cmp, PI.ev_chain, PI.ev_ix, PI.ev_slice, PI.ev_tup, PI.ev_lst, PI.ev_comp, PI.ev_call, PI.ev_bi, PI.ev_bm, PI.evs_nil, PI.evs_cons, PI.et_, PI.ex_asg, PI.ex_par, PI.ex_setIx, PI.ex_ex, PI.ex_ret, PI.ex_ifs, PI.ex_loop, PI.ex_each, PI.ex_pass, PI.ex_brk, PI.ex_cont, PI.exs_nil, PI.thenS_nx, PI.thenS_ret, PI.thenS_brk, PI.thenS_cont, PI.thenS_exc, PI.exs_cons, PI.ite_bind, PI.ite_lift, PI.bp_name, PI.bp_tup, PI.bps_nil, PI.bps_cons, PI.bv_add, PI.bv_sub, PI.bv_mul, PI.bv_fdiv, PI.bv_mod, PI.bv_pow, PI.cv_lt, PI.cv_le, PI.cv_gt, PI.cv_ge, PI.cv_eqs, PI.cv_nes, PI.cv_eq, PI.cv_ne, PI.bi_int, PI.bi_abs, PI.bi_len, PI.bi_tuple, PI.bi_list, PI.bi_isI, PI.bi_repr, PI.bi_max, PI.bi_min, PI.seq_tup, PI.seq_lst, PI.seq_scr, PI.len_tup, PI.len_lst, PI.len_scr, PI.ty_tup, PI.ty_lst, PI.ty_scr, PI.ty_int, PI.ty_bl, PI.ty_str, PI.ty_non, PI.norm_tup, PI.norm_lst, PI.norm_int, PI.norm_str, PI.norm_bl, PI.norm_non, PI.ix_t0, PI.ix_t1, PI.ix_t2, PI.ix_t3, PI.ix_l0, PI.ix_l1, PI.ix_l2, PI.ix_l3, PI.at_new, PI.set_new, PI.it_tup, PI.it_lst, PI.cv_eqb, PI.cv_neb, PI.bv_addT, PI.bv_addL, PI.bi_intb, PI.bi_sumL, Out.bind_ok, Out.lift_ok, Out.bind_exc, Out.lift_exc, Out.calm_ok, newL_t, newL_f, List.map, List.replicate, List.length_cons, List.length_nil, List.cons_append, List.nil_append, List.append_nil, List.getElem?_cons_succ, List.getElem?_cons_zero, List.set, Nat.reduceAdd, Nat.reduceSub, decide_true, decide_false, if_true, if_false, Bool.false_eq_true, Bool.not_true, Bool.not_false, decide_eq_true_eq, isTy, eq_self, Bool.or_false, Bool.or_true, Bool.true_or, Bool.false_or, f11, f13, if0, eq_false hf0, d1', k1, t1, d2', k2])
end LW

open PySem PySem.W PyProof.Rows
set_option maxHeartbeats 0 in
theorem PySem.Challenge.cw_stayswithin_k08_whole_what_is_linear_holds : PySem.Challenge.rw_stayswithin_k08_whole_what_is_linear.Holds := by
  w_on; o_law; k_head; (case hw => w_witness2)
  k_fill
  refine PI.law_end (l := PySem.Challenge.rw_stayswithin_k08_whole_what_is_linear) (n := 63) (k := 40) (T := LW.tb) rfl (by decide) rfl ⟨rfl, by decide, by decide⟩ (fun w h Y => PySem.W.kIn_of Y) (by decide +kernel) ?F LW.law_ok rfl
  case F =>
    intro w mg h KX G
    refine' LW.all_mk KX G ?a0 ?l0 ?c0 ?k0 ?a1 ?l1 ?c1 ?k1 ?a2 ?l2 ?c2 ?k2 ?a3 ?l3 ?c3 ?k3 ?a4 ?l4 ?c4 ?k4 ?a5 ?l5 ?c5 ?k5 ?a6 ?l6 ?c6 ?k6 ?a7 ?l7 ?c7 ?k7 ?a8 ?l8 ?c8 ?k8 ?a9 ?l9 ?c9 ?k9 ?a10 ?l10 ?c10 ?k10 ?t10 ?r10 ?a11 ?l11 ?c11 ?k11 ?a12 ?l12 ?c12 ?k12 ?a13 ?l13 ?c13 ?k13 ?a14 ?l14 ?c14 ?k14 ?a15 ?l15 ?c15 ?k15 ?a16 ?l16 ?c16 ?k16 ?a17 ?l17 ?c17 ?k17 ?a18 ?l18 ?c18 ?k18 ?a19 ?l19 ?c19 ?k19 ?a20 ?l20 ?c20 ?k20 ?a21 ?l21 ?c21 ?k21 ?gg0 ?hh0 ?ww0 ?z0 ?z1 ?z2 ?z3 ?z4 ?z5 ?z6 ?z7 ?z8 ?z9 ?z10 ?z11 ?z12 ?z13 ?z14 ?z15 ?z16
    (case a0 => k_is); (case l0 => k_is); (case c0 => k_is); (case k0 => k_is); (case a1 => k_is); (case l1 => k_is); (case c1 => k_is); (case k1 => k_is); (case a2 => k_is); (case l2 => k_is); (case c2 => k_is); (case k2 => k_is); (case a3 => k_is); (case l3 => k_is); (case c3 => k_is); (case k3 => k_is); (case a4 => k_is); (case l4 => k_is); (case c4 => k_is); (case k4 => k_is); (case a5 => k_is); (case l5 => k_is); (case c5 => k_is); (case k5 => k_is); (case a6 => k_is); (case l6 => k_is); (case c6 => k_is); (case k6 => k_is); (case a7 => k_is); (case l7 => k_is); (case c7 => k_is); (case k7 => k_is); (case a8 => k_is); (case l8 => k_is); (case c8 => k_is); (case k8 => k_is); (case a9 => k_is); (case l9 => k_is); (case c9 => k_is); (case k9 => k_is); (case a10 => k_is); (case l10 => k_is); (case c10 => k_is); (case k10 => k_is); (case t10 => k_is); (case r10 => repeat (first | exact .nil | refine .cons ⟨_, rfl⟩ ?_)); (case a11 => k_is); (case l11 => k_is); (case c11 => k_is); (case k11 => k_is); (case a12 => k_is); (case l12 => k_is); (case c12 => k_is); (case k12 => k_is); (case a13 => k_is); (case l13 => k_is); (case c13 => k_is); (case k13 => k_is); (case a14 => k_is); (case l14 => k_is); (case c14 => k_is); (case k14 => k_is); (case a15 => k_is); (case l15 => k_is); (case c15 => k_is); (case k15 => k_is); (case a16 => k_is); (case l16 => k_is); (case c16 => k_is); (case k16 => k_is); (case a17 => k_is); (case l17 => k_is); (case c17 => k_is); (case k17 => k_is); (case a18 => k_is); (case l18 => k_is); (case c18 => k_is); (case k18 => k_is); (case a19 => k_is); (case l19 => k_is); (case c19 => k_is); (case k19 => k_is); (case a20 => k_is); (case l20 => k_is); (case c20 => k_is); (case k20 => k_is); (case a21 => k_is); (case l21 => k_is); (case c21 => k_is); (case k21 => k_is); (case gg0 => k_is); (case hh0 => k_is); (case ww0 => repeat (first | exact .nil | refine .cons ⟨_, rfl⟩ ?_)); (case z0 => k_is); (case z1 => k_is); (case z2 => k_is); (case z3 => k_is); (case z4 => k_is); (case z5 => k_is); (case z6 => k_is); (case z7 => k_is); (case z8 => k_is); (case z9 => k_is); (case z10 => k_is); (case z11 => k_is); (case z12 => k_is); (case z13 => k_is); (case z14 => k_is); (case z15 => k_is); (case z16 => k_is)

