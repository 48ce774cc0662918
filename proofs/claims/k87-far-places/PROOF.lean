import PyProof.Rows.All
import Wide.All
import OpenK.AllK
import Wide.FinOn
import KE.KStateDown
import HandS.Codes
import HandS.Defaults
import HandS.DictTup
import HandS.Ends
import HandS.Exc
import HandS.Flow
import HandS.ForMost
import HandS.Head0
import HandS.Head1
import HandS.Head2
import HandS.HeadEnd
import HandS.HeadHook1
import HandS.HeadHook2
import HandS.HeadHook4
import HandS.IsInst
import HandS.RaiseMore
import HandS.SetFor
import HandS.Strs
import HandS.TupAny
import HandS.Words
import HandS.Zip
import KE.GoesEnum
import Lean
import PyProof.ReprReads
import PyProof.ReprRoads
import PySem.Challenge.RW_ledalong_k87_whole_far_places
set_option Elab.async false
set_option linter.all false
set_option maxRecDepth 100000
set_option maxHeartbeats 4000000
/-! VA: values as plain data; a small core language; its predicate transformer (no heap in sight). -/
namespace Vs
open PySem L2

/-- what a def promises over plain data: the arguments (defaults behind), what is wanted of the result and of the final contents of the borrowed arguments -/
abbrev Spec := List PyData → (PyData → List PyData → Prop) → Prop
/-- a def: which parameters are borrowed; whether its result is a new object of its own; its defaults that fill up; its promise -/
structure Fn where
  modes : List Bool
  fresh : Bool := false
  dflt : List PyData := []
  spec : Spec

def Fn.run (f : Fn) (ds : List PyData) (K : PyData → List PyData → Prop) : Prop := f.spec ds K
/-- targets -/
inductive Tg where
  | one (i : Nat)
  | many (is : List Nat)
def Tg.slots : Tg → List Nat
  | .one i => [i]
  | .many is => is

/-- built-in functions of values -/
inductive Bi where
  | len | sum | max | min | max2 | min2 | tuple | list | int | all | any | repr | sorted | sortedSet | lenSet | dict | abs | str
  deriving DecidableEq

mutual
inductive C where
  | var (i : Nat)
  | con (d : PyData)
  | neg (a : C)
  | not (a : C)
  | and (a b : C)
  | or (a b : C)
  | bin (op : Operator) (a b : C)
  | cmp (op : CmpOp) (a b : C)
  | ite (t a b : C)
  | tup (es : Cs)
  | lst (es : Cs)
  | dct (es : Cs)
  | idx (a i : C)
  | sli (a : C) (lo hi : Co)
  | comp (vs : List Nat) (t : Tg) (it : Ci) (c : Co) (body : C)
  | comp2 (vs : List Nat) (t : Tg) (it : Ci) (c : Co) (t1 : Tg) (it1 : Ci) (c1 : Co) (body : C)
  | call (f : Fn) (as : Cs)
  | bi (b : Bi) (as : Cs)
  | isT (ty : String) (a : C)
  | cat (a b : C)
  | rep (a b : C)
inductive Cs where
  | nil
  | cons (e : C) (es : Cs)
inductive Co where
  | no
  | one (e : C)
inductive Ci where
  | range1 (a : C)
  | range2 (a b : C)
  | range3 (a b c : C)
  | seq (a : C)
  | enum (a : C)
  | zip (a b : C)
end

mutual
inductive S where
  | set (i : Nat) (e : C)
  | unpack (is : List Nat) (e : C)
  | par (is : List Nat) (es : Cs)
  | setIdx (i : Nat) (k e : C)
  | append (i : Nat) (e : C)
  | extend (i : Nat) (e : C)
  | expr (e : C)
  | ret (e : C)
  | retN
  | ite (t : C) (a b : Ss)
  | whl (t : C) (b : Ss)
  | forr (t : Tg) (it : Ci) (b : Ss)
  | never
  | pass
  | brk
  | cont
  | tryy (b : Ss)
inductive Ss where
  | nil
  | cons (s : S) (r : Ss)
end

/-! ### environments -/
/-- what a name holds: a value (never changed again), or an object that this def alone may change (b: lent by the caller) -/
inductive Slot where
  | val (d : PyData)
  | own (d : PyData) (b : Bool)
abbrev Env := List (Option Slot)
/-- an operand: a value, or the object a name holds (read where it is used) -/
inductive Opd where
  | dat (d : PyData)
  | slot (i : Nat)

def Env.rd (ρ : Env) (i : Nat) (k : PyData → Prop) : Prop :=
  match ρ[i]? with
  | some (some (.val d)) => k d
  | some (some (.own d _)) => k d
  | _ => False
def Opd.on (x : Opd) (ρ : Env) (k : PyData → Prop) : Prop :=
  match x with
  | .dat d => k d
  | .slot i => ρ.rd i k
/-- a name's value is taken: an object of one's own becomes a value -/
def Env.take (ρ : Env) (i : Nat) (k : PyData → Env → Prop) : Prop :=
  match ρ[i]? with
  | some (some (.val d)) => k d ρ
  | some (some (.own d false)) => k d (ρ.set i (some (.val d)))
  | _ => False
def Env.put (ρ : Env) (i : Nat) (s : Slot) : Env := ρ.set i (some s)
/-- the slots vs emptied -/
def wipeE (ρ : Env) : List Nat → Env
  | [] => ρ
  | v :: vs => (wipeE ρ vs).set v none
/-- a slot's value, where it holds one -/
def valOf (ρ0 : Env) (v : Nat) : Option Slot :=
  match ρ0[v]? with
  | some (some (.val d)) => some (.val d)
  | _ => none
/-- .. as they stood in ρ0 (values alone) -/
def backE (ρ0 ρ : Env) : List Nat → Env
  | [] => ρ
  | v :: vs => (backE ρ0 ρ vs).set v (valOf ρ0 v)
/-- several slots set to values -/
def putAll (ρ : Env) : List Nat → List PyData → Env
  | i :: is, d :: ds => putAll (ρ.set i (some (.val d))) is ds
  | _, _ => ρ
/-- a slot that may be stored: not an object that is lent -/
def Env.free (ρ : Env) (i : Nat) : Prop :=
  match ρ[i]? with
  | some (some (.own _ true)) => False
  | some _ => True
  | _ => False
def Tg.bind (t : Tg) (d : PyData) (ρ : Env) (k : Env → Prop) : Prop :=
  match t with
  | .one i => ρ.free i ∧ k (ρ.set i (some (.val d)))
  | .many is => match d with
    | .tuple ds => ds.length = is.length ∧ (∀ i ∈ is, ρ.free i) ∧ is.Nodup ∧ k (putAll ρ is ds)
    | _ => False

/-! ### what operations give, over data -/
def truthW (d : PyData) (k : Bool → Prop) : Prop :=
  match d with
  | .none => k false
  | .bool b => k b
  | .int i => k (i != 0)
  | .list xs => k (!xs.isEmpty)
  | .tuple xs => k (!xs.isEmpty)
  | _ => False
def binW (op : Operator) (x y : PyData) (k : PyData → Prop) : Prop :=
  match op, x, y with
  | .Add, .int i, .int j => k (.int (i + j))
  | .Sub, .int i, .int j => k (.int (i - j))
  | .Mult, .int i, .int j => CMul i j ∧ k (.int (i * j))
  | .FloorDiv, .int i, .int j => CDivN i j ∧ k (.int (i.fdiv j))
  | .Mod, .int i, .int j => j ≠ 0 ∧ k (.int (i.fmod j))
  | .Pow, .int i, .int j => CPow i j ∧ k (.int (i ^ j.toNat))
  | .Add, .tuple xs, .tuple ys => xs ≠ [] ∧ xs.length + ys.length ≤ 16777216 ∧ k (.tuple (xs ++ ys))
  | .Add, .list xs, .list ys => xs.length + ys.length ≤ 16777216 ∧ k (.list (xs ++ ys))
  | .Mult, .list xs, .int j => (0 ≤ j ∧ j < 2 ^ 62 ∧ xs.length * j.toNat ≤ 16777216) ∧ k (.list (List.replicate j.toNat xs).flatten)
  | _, _, _ => False
/-- a list of two lists; a list over and over -/
def catW (x y : PyData) (k : PyData → Prop) : Prop :=
  match x, y with
  | .list xs, .list ys => xs.length + ys.length ≤ 16777216 ∧ k (.list (xs ++ ys))
  | _, _ => False
def repW (x y : PyData) (k : PyData → Prop) : Prop :=
  match x, y with
  | .list xs, .int j => (0 ≤ j ∧ j < 2 ^ 62 ∧ xs.length * j.toNat ≤ 16777216) ∧ k (.list (List.replicate j.toNat xs).flatten)
  | _, _ => False
def cmpW (op : CmpOp) (x y : PyData) (k : Bool → Prop) : Prop :=
  match op with
  | .Lt => match x, y with | .int i, .int j => k (decide (i < j)) | _, _ => False
  | .LtE => match x, y with | .int i, .int j => k (decide (i ≤ j)) | _, _ => False
  | .Gt => match x, y with | .int i, .int j => k (decide (j < i)) | _, _ => False
  | .GtE => match x, y with | .int i, .int j => k (decide (j ≤ i)) | _, _ => False
  | .Eq => match x, y with
    | .int i, .int j => k (decide (i = j))
    | .bool i, .bool j => k (decide (i = j))
    | .str i, .str j => k (decide (i = j))
    | x, y => SeqAt.shaped x = true ∧ SeqAt.shaped y = true ∧ k (PyData.eqv x y)
  | .NotEq => match x, y with
    | .int i, .int j => k (!decide (i = j))
    | .bool i, .bool j => k (!decide (i = j))
    | .str i, .str j => k (!decide (i = j))
    | x, y => SeqAt.shaped x = true ∧ SeqAt.shaped y = true ∧ k (!PyData.eqv x y)
  | .Is => match y with | .none => k (match x with | .none => true | _ => false) | _ => False
  | .IsNot => match y with | .none => k (match x with | .none => false | _ => true) | _ => False
  | _ => False
def idxW (x y : PyData) (k : PyData → Prop) : Prop :=
  match x, y with
  | .list xs, .int i => ∃ d, atI xs i = some d ∧ k d
  | .tuple xs, .int i => ∃ d, atI xs i = some d ∧ k d
  | _, _ => False
/-- xs[lo:hi] -/
def cutD (xs : List PyData) (lo hi : Option Int) : List PyData := (xs.drop (HT.sIx xs.length 0 lo)).take (HT.sIx xs.length xs.length hi - HT.sIx xs.length 0 lo)
def sliW (x : PyData) (lo hi : Option Int) (k : PyData → Prop) : Prop :=
  match x with
  | .list xs => k (.list (cutD xs lo hi))
  | .tuple xs => k (.tuple (cutD xs lo hi))
  | _ => False
def isTB (ty : String) (d : PyData) : Bool :=
  match d with
  | .none => false
  | .bool _ => ty == "int" || ty == "bool"
  | .int _ => ty == "int"
  | .str _ => ty == "str"
  | .list _ => ty == "list"
  | .tuple _ => ty == "tuple"
  | .dict _ => ty == "dict"
/-- a key as data -/
def keyD : Key → PyData
  | .inl i => .int i
  | .inr x => .str x
/-- a dict's pairs as data -/
def encK (kds : List (Key × PyData)) : List (PyData × PyData) := kds.map fun p => (keyD p.1, p.2)
def getG {α : Type} (kds : List (Key × α)) (k : Key) : Option α := (kds.find? fun p => decide (p.1 = k)).map (·.2)
def putG {α : Type} (kds : List (Key × α)) (k : Key) (d : α) : List (Key × α) :=
  if (kds.any fun p => decide (p.1 = k)) = true then kds.map (fun p => if p.1 = k then (p.1, d) else p) else kds ++ [(k, d)]
def mergeG {α : Type} (kds more : List (Key × α)) : List (Key × α) := more.foldl (fun acc p => putG acc p.1 p.2) kds
abbrev intsD (ns : List Int) : List PyData := ns.map PyData.int
def biW (b : Bi) (as : List PyData) (k : PyData → Prop) : Prop :=
  match b with
  | .len => match as with | [.list xs] => k (.int xs.length) | [.tuple xs] => k (.int xs.length) | [.dict xs] => k (.int xs.length) | _ => False
  | .sum => match as with | [.list xs] => ∃ ns : List Int, xs = intsD ns ∧ k (.int ns.sum) | _ => False
  | .max => match as with | [.list xs] => ∃ ns : List Int, xs = intsD ns ∧ 0 < ns.length ∧ ∀ m, m ∈ ns → (∀ y, y ∈ ns → y ≤ m) → k (.int m) | _ => False
  | .min => match as with | [.list xs] => ∃ ns : List Int, xs = intsD ns ∧ 0 < ns.length ∧ ∀ m, m ∈ ns → (∀ y, y ∈ ns → m ≤ y) → k (.int m) | _ => False
  | .max2 => match as with | [.int i, .int j] => k (.int (if j > i then j else i)) | _ => False
  | .min2 => match as with | [.int i, .int j] => k (.int (if j < i then j else i)) | _ => False
  | .tuple => match as with | [.list xs] => k (.tuple xs) | [.tuple xs] => k (.tuple xs) | _ => False
  | .list => match as with | [.list xs] => k (.list xs) | [.tuple xs] => k (.list xs) | _ => False
  | .int => match as with | [.int i] => k (.int i) | [.bool b] => k (.int (if b = true then 1 else 0)) | _ => False
  | .all => match as with | [.list xs] => ∃ bs : List Bool, xs = bs.map PyData.bool ∧ k (.bool (bs.all id)) | _ => False
  | .any => match as with | [.list xs] => ∃ bs : List Bool, xs = bs.map PyData.bool ∧ k (.bool (bs.any id)) | _ => False
  | .sortedSet => match as with | [.tuple xs] => ∃ ns : List Int, xs = intsD ns ∧ ns.length < 63 ∧ ∀ ms : List Int, ms.Pairwise (· < ·) → (∀ n, n ∈ ms ↔ n ∈ ns) → k (.list (intsD ms)) | _ => False
  | .dict => match as with | [.list xs] => ∃ kds : List (Key × PyData), xs = kds.map (fun p => PyData.tuple [keyD p.1, p.2]) ∧ kds.length ≤ 100000 ∧ k (.dict (encK (mergeG [] kds))) | _ => False
  | .repr => match as with | [d] => (d.showable = true ∧ SeqAt.shaped d = true ∧ d.shown.length ≤ 16777216) ∧ k (.str d.shown) | _ => False
  | .abs => match as with | [.int i] => k (.int (if i < 0 then -i else i)) | _ => False
  | _ => False

/-! ### the transformer -/
structure Wp where
  v : Env → (PyData → Env → Prop) → Prop
  t : Env → (Bool → Env → Prop) → Prop
def Wp.ofV (v : Env → (PyData → Env → Prop) → Prop) : Wp := ⟨v, fun ρ Q => v ρ fun d ρ' => truthW d fun b => Q b ρ'⟩
/-- an operand -/
def opd (e : C) (w : Env → (PyData → Env → Prop) → Prop) (ρ : Env) (Q : Opd → Env → Prop) : Prop :=
  match e with
  | .var i => match ρ[i]? with
    | some (some _) => Q (.slot i) ρ
    | _ => False
  | _ => w ρ fun d ρ' => Q (.dat d) ρ'
def onAll : List Opd → Env → (List PyData → Prop) → Prop
  | [], _, k => k []
  | x :: xs, ρ, k => x.on ρ fun d => onAll xs ρ fun ds => k (d :: ds)
/-- an argument of a call: a value, or a name whose object is lent -/
inductive Arg where
  | v (d : PyData)
  | lend (i : Nat)
/-- the data of the arguments, at the call -/
def argsOn : List Arg → Env → (List PyData → Prop) → Prop
  | [], _, k => k []
  | .v d :: r, ρ, k => argsOn r ρ fun ds => k (d :: ds)
  | .lend i :: r, ρ, k => match ρ[i]? with
    | some (some (.own d _)) => argsOn r ρ fun ds => k (d :: ds)
    | _ => False
/-- behind the call: the lent objects hold what came of them -/
def argsBack : List Arg → Env → List PyData → Env
  | [], ρ, _ => ρ
  | .v _ :: r, ρ, os => argsBack r ρ os
  | .lend i :: r, ρ, os => match os, ρ[i]? with
    | o :: os, some (some (.own _ b)) => argsBack r (ρ.set i (some (.own o b))) os
    | _, _ => ρ
def Arg.lends : List Arg → List Nat
  | [] => []
  | .v _ :: r => Arg.lends r
  | .lend i :: r => i :: Arg.lends r
/-- one argument by its mode -/
def argW (e : C) (w : Env → (PyData → Env → Prop) → Prop) (m : Bool) (ρ : Env) (Q : Arg → Env → Prop) : Prop :=
  match m with
  | false => w ρ fun d ρ' => Q (.v d) ρ'
  | true => match e with
    | .var i => match ρ[i]? with
      | some (some (.own _ _)) => Q (.lend i) ρ
      | _ => False
    | _ => False
/-- the turns of a comprehension -/
def compW (vs : List Nat) (t : Tg) (c : Env → (Bool → Env → Prop) → Prop) (body : Env → (PyData → Env → Prop) → Prop) : List PyData → List PyData → Env → (List PyData → Env → Prop) → Prop
  | [], acc, ρ, Q => Q acc ρ
  | d :: ds, acc, ρ, Q => t.bind d ρ fun ρ1 => c ρ1 fun b ρ2 =>
    if b = true then body ρ2 fun r ρ3 => compW vs t c body ds (acc ++ [r]) (wipeE ρ3 vs) Q else compW vs t c body ds acc (wipeE ρ2 vs) Q
/-- .. of the second clause of a comprehension with two -/
def compIn (vs1 : List Nat) (t : Tg) (c : Env → (Bool → Env → Prop) → Prop) (body : Env → (PyData → Env → Prop) → Prop) : List PyData → List PyData → Env → (List PyData → Env → Prop) → Prop
  | [], acc, ρ, Q => Q acc ρ
  | d :: ds, acc, ρ, Q => t.bind d ρ fun ρ1 => c ρ1 fun b ρ2 =>
    if b = true then body ρ2 fun r ρ3 => acc.length < 16777216 ∧ compIn vs1 t c body ds (acc ++ [r]) (wipeE ρ3 vs1) Q else compIn vs1 t c body ds acc (wipeE ρ2 vs1) Q
def compW2 (vs : List Nat) (t : Tg) (c : Env → (Bool → Env → Prop) → Prop) (it1 : Env → (List PyData → Env → Prop) → Prop) (t1 : Tg) (c1 : Env → (Bool → Env → Prop) → Prop) (body : Env → (PyData → Env → Prop) → Prop) :
    List PyData → List PyData → Env → (List PyData → Env → Prop) → Prop
  | [], acc, ρ, Q => Q acc ρ
  | d :: ds, acc, ρ, Q => t.bind d ρ fun ρ1 => c ρ1 fun b ρ2 =>
    if b = true then it1 ρ2 fun es ρ3 => compIn t1.slots t1 c1 body es acc (wipeE ρ3 t1.slots) fun acc' ρ4 => compW2 vs t c it1 t1 c1 body ds acc' (wipeE ρ4 vs) Q
    else compW2 vs t c it1 t1 c1 body ds acc (wipeE ρ2 vs) Q
/-- what a walked value gives -/
def itemsW (d : PyData) (k : List PyData → Prop) : Prop :=
  match d with
  | .list xs => k xs
  | .tuple xs => k xs
  | .dict kvs => k (kvs.map (·.1))
  | _ => False
def rangeD (lo : Int) (n : Nat) : List PyData := (List.range n).map fun (i : Nat) => PyData.int (lo + (i : Int))
def enumD (xs : List PyData) : List PyData := xs.zipIdx.map fun p => PyData.tuple [.int p.2, p.1]
def zipD (xs ys : List PyData) : List PyData := (xs.zip ys).map fun p => PyData.tuple [p.1, p.2]
def IsR (i : Int) : Prop := -(2 ^ 62) ≤ i ∧ i < 2 ^ 62

mutual
def W : C → Wp
  | .var i => ⟨fun ρ Q => ρ.take i Q, fun ρ Q => ρ.rd i fun d => truthW d fun b => Q b ρ⟩
  | .con d => .ofV fun ρ Q => Q d ρ
  | .neg a => .ofV fun ρ Q => opd a (W a).v ρ fun x ρ1 => x.on ρ1 fun d => match d with | .int i => Q (.int (-i)) ρ1 | _ => False
  | .not a => ⟨fun ρ Q => opd a (W a).v ρ fun x ρ1 => x.on ρ1 fun d => truthW d fun b => Q (.bool (!b)) ρ1, fun ρ Q => (W a).t ρ fun b ρ1 => Q (!b) ρ1⟩
  | .and a b => ⟨fun ρ Q => (W a).v ρ fun x ρ1 => match x with | .bool t => (if t = true then (W b).v ρ1 Q else Q (.bool false) ρ1) | _ => False, fun ρ Q => (W a).t ρ fun t ρ1 => if t = true then (W b).t ρ1 Q else Q false ρ1⟩
  | .or a b => ⟨fun ρ Q => (W a).v ρ fun x ρ1 => match x with | .bool t => (if t = true then Q (.bool true) ρ1 else (W b).v ρ1 Q) | _ => False, fun ρ Q => (W a).t ρ fun t ρ1 => if t = true then Q true ρ1 else (W b).t ρ1 Q⟩
  | .bin op a b => .ofV fun ρ Q => opd a (W a).v ρ fun x ρ1 => opd b (W b).v ρ1 fun y ρ2 => x.on ρ2 fun d => y.on ρ2 fun e => binW op d e fun r => Q r ρ2
  | .cmp op a b => ⟨fun ρ Q => opd a (W a).v ρ fun x ρ1 => opd b (W b).v ρ1 fun y ρ2 => x.on ρ2 fun d => y.on ρ2 fun e => cmpW op d e fun r => Q (.bool r) ρ2,
      fun ρ Q => opd a (W a).v ρ fun x ρ1 => opd b (W b).v ρ1 fun y ρ2 => x.on ρ2 fun d => y.on ρ2 fun e => cmpW op d e fun r => Q r ρ2⟩
  | .ite t a b => ⟨fun ρ Q => (W t).t ρ fun c ρ1 => if c = true then (W a).v ρ1 Q else (W b).v ρ1 Q, fun _ _ => False⟩
  | .tup es => .ofV fun ρ Q => Ws es ρ fun ds ρ1 => Q (.tuple ds) ρ1
  | .lst es => .ofV fun ρ Q => Ws es ρ fun ds ρ1 => Q (.list ds) ρ1
  | .dct es => .ofV fun ρ Q => Ws es ρ fun ds ρ1 => ∃ kds : List (Key × PyData), ds = kds.flatMap (fun p => [keyD p.1, p.2]) ∧ kds.length ≤ 15 ∧ Q (.dict (encK (mergeG [] kds))) ρ1
  | .idx a i => .ofV fun ρ Q => opd a (W a).v ρ fun x ρ1 => opd i (W i).v ρ1 fun y ρ2 => x.on ρ2 fun d => y.on ρ2 fun e => idxW d e fun r => Q r ρ2
  | .sli a lo hi => .ofV fun ρ Q => opd a (W a).v ρ fun x ρ1 => Wpart lo ρ1 fun l ρ2 => Wpart hi ρ2 fun h ρ3 => x.on ρ3 fun d => sliW d l h fun r => Q r ρ3
  | .comp vs t it c body => .ofV fun ρ Q => Wi it ρ fun ds ρ1 => compW vs t (Wcond c) (W body).v ds [] (wipeE ρ1 vs) fun rs ρ2 => Q (.list rs) (backE ρ1 ρ2 vs)
  | .comp2 vs t it c t1 it1 c1 body => .ofV fun ρ Q => Wi it ρ fun ds ρ1 => compW2 vs t (Wcond c) (Wi it1) t1 (Wcond c1) (W body).v ds [] (wipeE ρ1 vs) fun rs ρ2 => Q (.list rs) (backE ρ1 ρ2 vs)
  | .call f as => .ofV fun ρ Q => Wa as f.modes ρ fun args ρ1 => argsOn args ρ1 fun ds => (Arg.lends args).Nodup ∧ f.run (ds ++ f.dflt) fun d os => os.length = (Arg.lends args).length ∧ Q d (argsBack args ρ1 os)
  | .bi b as => .ofV fun ρ Q => Wo as ρ fun xs ρ1 => onAll xs ρ1 fun ds => biW b ds fun r => Q r ρ1
  | .isT ty a => .ofV fun ρ Q => opd a (W a).v ρ fun x ρ1 => x.on ρ1 fun d => Q (.bool (isTB ty d)) ρ1
  | .cat a b => .ofV fun ρ Q => opd a (W a).v ρ fun x ρ1 => opd b (W b).v ρ1 fun y ρ2 => x.on ρ2 fun d => y.on ρ2 fun e => catW d e fun r => Q r ρ2
  | .rep a b => .ofV fun ρ Q => opd a (W a).v ρ fun x ρ1 => opd b (W b).v ρ1 fun y ρ2 => x.on ρ2 fun d => y.on ρ2 fun e => repW d e fun r => Q r ρ2
/-- values, from the left -/
def Ws : Cs → Env → (List PyData → Env → Prop) → Prop
  | .nil => fun ρ Q => Q [] ρ
  | .cons e es => fun ρ Q => (W e).v ρ fun d ρ1 => Ws es ρ1 fun ds ρ2 => Q (d :: ds) ρ2
/-- operands, from the left -/
def Wo : Cs → Env → (List Opd → Env → Prop) → Prop
  | .nil => fun ρ Q => Q [] ρ
  | .cons e es => fun ρ Q => opd e (W e).v ρ fun x ρ1 => Wo es ρ1 fun xs ρ2 => Q (x :: xs) ρ2
/-- arguments by their modes -/
def Wa : Cs → List Bool → Env → (List Arg → Env → Prop) → Prop
  | .nil => fun _ ρ Q => Q [] ρ
  | .cons e es => fun ms ρ Q => match ms with
    | m :: ms => argW e (W e).v m ρ fun x ρ1 => Wa es ms ρ1 fun xs ρ2 => Q (x :: xs) ρ2
    | [] => False
def Wcond : Co → Env → (Bool → Env → Prop) → Prop
  | .no => fun ρ Q => Q true ρ
  | .one e => fun ρ Q => (W e).t ρ Q
def Wpart : Co → Env → (Option Int → Env → Prop) → Prop
  | .no => fun ρ Q => Q none ρ
  | .one e => fun ρ Q => (W e).v ρ fun d ρ1 => match d with | .int i => Q (some i) ρ1 | _ => False
def Wi : Ci → Env → (List PyData → Env → Prop) → Prop
  | .range1 a => fun ρ Q => (W a).v ρ fun d ρ1 => match d with | .int n => (-(2 ^ 62) ≤ n ∧ n ≤ 16777216) ∧ Q (rangeD 0 n.toNat) ρ1 | _ => False
  | .range2 a b => fun ρ Q => (W a).v ρ fun d ρ1 => (W b).v ρ1 fun e ρ2 => match d, e with | .int i, .int j => (IsR i ∧ IsR j ∧ j - i ≤ 16777216) ∧ Q (rangeD i (j - i).toNat) ρ2 | _, _ => False
  | .range3 a b c => fun ρ Q => (W a).v ρ fun d ρ1 => (W b).v ρ1 fun e ρ2 => (W c).v ρ2 fun f ρ3 => match d, e, f with
    | .int i, .int j, .int c => (c = -1 ∧ IsR i ∧ IsR j ∧ i - j ≤ 16777216) ∧ Q ((List.range (i - j).toNat).map fun (n : Nat) => PyData.int (i - (n : Int))) ρ3
    | _, _, _ => False
  | .seq a => fun ρ Q => (W a).v ρ fun d ρ1 => itemsW d fun ds => Q ds ρ1
  | .enum a => fun ρ Q => (W a).v ρ fun d ρ1 => match d with | .list xs => Q (enumD xs) ρ1 | .tuple xs => Q (enumD xs) ρ1 | _ => False
  | .zip a b => fun ρ Q => (W a).v ρ fun d ρ1 => (W b).v ρ1 fun e ρ2 => match d, e with
    | .list xs, .list ys => Q (zipD xs ys) ρ2
    | .tuple xs, .tuple ys => Q (zipD xs ys) ρ2
    | _, _ => False
end

/-- a new object that nobody else holds -/
def C.fresh : C → Bool
  | .lst _ => true
  | .dct _ => true
  | .comp _ _ _ _ _ => true
  | .comp2 _ _ _ _ _ _ _ _ => true
  | .bi .list _ => true
  | .bi .dict _ => true
  | .bi .sorted _ => true
  | .bi .sortedSet _ => true
  | .cat _ _ => true
  | .rep _ _ => true
  | .call f _ => f.fresh
  | _ => false
def Cs.freshes : Cs → List Bool
  | .nil => []
  | .cons e es => e.fresh :: es.freshes
def mkSlot (f : Bool) (d : PyData) : Slot := if f = true then .own d false else .val d
/-- stores of a parallel assignment -/
def putPar (ρ : Env) : List Nat → List Bool → List PyData → Env
  | i :: is, f :: fs, d :: ds => (putPar ρ is fs ds).set i (some (mkSlot f d))
  | _, _, _ => ρ

/-- the contents of the lent parameters -/
def outsOf : List Bool → Nat → Env → (List PyData → Prop) → Prop
  | [], _, _, k => k []
  | true :: ms, i, ρ, k => (match ρ[i]? with
    | some (some (.own o true)) => outsOf ms (i + 1) ρ fun os => k (o :: os)
    | _ => False)
  | false :: ms, i, ρ, k => outsOf ms (i + 1) ρ k
/-- the names at a def's entry -/
def initE (ms : List Bool) (ds : List PyData) (n : Nat) : Env := (ms.zip ds).map (fun p => some (if p.1 = true then Slot.own p.2 true else Slot.val p.2)) ++ List.replicate (n - ds.length) none

/-! ### statements -/
structure En where
  nx : Env → Prop
  rt : PyData → Env → Prop
  bk : Env → Prop := fun _ => False
  ct : Env → Prop := fun _ => False
/-- the turns of a for loop -/
def forW (t : Tg) (body : Env → En → Prop) : List PyData → Env → En → Prop
  | [], ρ, E => E.nx ρ
  | d :: ds, ρ, E => t.bind d ρ fun ρ1 => body ρ1 { E with nx := fun ρ2 => forW t body ds ρ2 E, ct := fun ρ2 => forW t body ds ρ2 E, bk := E.nx }
def whileW (t : Env → (Bool → Env → Prop) → Prop) (body : Env → En → Prop) (ρ : Env) (E : En) : Prop :=
  ∃ I : Nat → Env → Prop, (∃ m, I m ρ) ∧ ∀ m ρ, I m ρ → t ρ fun b ρ1 => if b = true then body ρ1 { E with nx := fun ρ2 => ∃ m', m' < m ∧ I m' ρ2, ct := fun ρ2 => ∃ m', m' < m ∧ I m' ρ2, bk := E.nx } else E.nx ρ1
/-- a name that holds something; a list of one's own -/
def Env.has (ρ : Env) (i : Nat) : Prop := match ρ[i]? with | some (some _) => True | _ => False
def Env.isL (ρ : Env) (i : Nat) : Prop := match ρ[i]? with | some (some (.own (.list _) _)) => True | _ => False
def setOwn (d : PyData) (k v : PyData) (K : PyData → Prop) : Prop :=
  match d, k with
  | .list xs, .int i => ∃ j, ixN xs.length i = some j ∧ K (.list (xs.set j v))
  | _, _ => False
mutual
def WS : S → Env → En → Prop
  | .set i e => fun ρ E => (W e).v ρ fun d ρ1 => ρ1.free i ∧ E.nx (ρ1.set i (some (mkSlot e.fresh d)))
  | .unpack is e => fun ρ E => (W e).v ρ fun d ρ1 => (Tg.many is).bind d ρ1 E.nx
  | .par is es => fun ρ E => Ws es ρ fun ds ρ1 => ds.length = is.length ∧ (∀ i ∈ is, ρ1.free i) ∧ is.Nodup ∧ E.nx (putPar ρ1 is es.freshes ds)
  | .setIdx i k e => fun ρ E => (W e).v ρ fun d ρ1 => ρ1.has i ∧ (W k).v ρ1 fun x ρ2 => match ρ2[i]? with
    | some (some (.own o b)) => setOwn o x d fun o' => E.nx (ρ2.set i (some (.own o' b)))
    | _ => False
  | .append i e => fun ρ E => ρ.isL i ∧ (W e).v ρ fun d ρ1 => match ρ1[i]? with
    | some (some (.own (.list xs) b)) => xs.length < 16777216 ∧ E.nx (ρ1.set i (some (.own (.list (xs ++ [d])) b)))
    | _ => False
  | .extend i e => fun ρ E => ρ.isL i ∧ (W e).v ρ fun d ρ1 => match ρ1[i]? with
    | some (some (.own (.list xs) b)) => (match d with
      | .list ys => xs.length + ys.length ≤ 16777216 ∧ E.nx (ρ1.set i (some (.own (.list (xs ++ ys)) b)))
      | .tuple ys => xs.length + ys.length ≤ 16777216 ∧ E.nx (ρ1.set i (some (.own (.list (xs ++ ys)) b)))
      | _ => False)
    | _ => False
  | .expr e => fun ρ E => (W e).v ρ fun _ ρ1 => E.nx ρ1
  | .ret e => fun ρ E => (W e).v ρ E.rt
  | .retN => fun ρ E => E.rt .none ρ
  | .ite t a b => fun ρ E => (W t).t ρ fun c ρ1 => if c = true then WSs a ρ1 E else WSs b ρ1 E
  | .whl t b => fun ρ E => whileW (W t).t (WSs b) ρ E
  | .forr t it b => fun ρ E => Wi it ρ fun ds ρ1 => forW t (WSs b) ds ρ1 E
  | .never => fun _ _ => False
  | .pass => fun ρ E => E.nx ρ
  | .brk => fun ρ E => E.bk ρ
  | .cont => fun ρ E => E.ct ρ
  | .tryy b => fun ρ E => WSs b ρ E
def WSs : Ss → Env → En → Prop
  | .nil => fun ρ E => E.nx ρ
  | .cons s r => fun ρ E => WS s ρ { E with nx := fun ρ1 => WSs r ρ1 E }
end
/-- what is wanted at a def's end -/
def finE (fr : Bool) (ms : List Bool) (K : PyData → List PyData → Prop) : En := { nx := fun ρ => if fr = true then False else outsOf ms 0 ρ fun os => K .none os, rt := fun d ρ => outsOf ms 0 ρ fun os => K d os }
/-- the body keeps the promise -/
def Den (F : Fn) (n : Nat) (b : Ss) : Prop := ∀ ds K, F.spec ds K → ds.length = F.modes.length ∧ WSs b (initE F.modes ds n) (finE F.fresh F.modes K)
end Vs

set_option maxHeartbeats 4000000
/-! VB: how data stands in the abstract heap; the state relation. -/
namespace Vs
open PySem L2

/-! ### data in the heap -/
mutual
/-- the value reads as the data, all that it reaches lying in F -/
inductive Rp (K : PySem.W.Frag) (F : Hp) : V → PyData → Prop
  | non : Rp K F .non .none
  | bl (b : Bool) : Rp K F (.bl b) (.bool b)
  | int (i : Int) : Rp K F (.int i) (.int i)
  | str (x : Str) : Rp K F (.str x) (.str x)
  | lst {a : Addr} {xs : List V} {ds : List PyData} : F a = some (.lst xs) → RpAll K F xs ds → ds.length ≤ sizeLine → Rp K F (.ref a) (.list ds)
  | tup {a : Addr} {xs : List V} {ds : List PyData} : SqT K F a xs → RpAll K F xs ds → ds.length ≤ sizeLine → Rp K F (.ref a) (.tuple ds)
  | dct {a : Addr} {o : Obj} {kvs : List (Key × V)} {es : List (PyData × PyData)} : F a = some (.frz o (.dK kvs)) → RpKv K F kvs es → Rp K F (.ref a) (.dict es)
inductive RpAll (K : PySem.W.Frag) (F : Hp) : List V → List PyData → Prop
  | nil : RpAll K F [] []
  | cons {v : V} {vs : List V} {d : PyData} {ds : List PyData} : Rp K F v d → RpAll K F vs ds → RpAll K F (v :: vs) (d :: ds)
inductive RpKv (K : PySem.W.Frag) (F : Hp) : List (Key × V) → List (PyData × PyData) → Prop
  | nil : RpKv K F [] []
  | cons {k : Key} {v : V} {kvs : List (Key × V)} {d : PyData} {es : List (PyData × PyData)} : Rp K F v d → RpKv K F kvs es → RpKv K F ((k, v) :: kvs) ((keyD k, d) :: es)
end
theorem sqT_mono {K : PySem.W.Frag} {H H' : Hp} {a : Addr} {xs : List V} (e : Same H H') (h : SqT K H a xs) : SqT K H' a xs := by
  rcases h with (h | ⟨o, h⟩) | h
  · exact .inl (.inl (e _ _ h))
  · exact .inl (.inr ⟨o, e _ _ h⟩)
  · exact .inr h
section
variable {K : PySem.W.Frag} {F F' : Hp}
mutual
theorem Rp.mono (m : Same F F') : ∀ (d : PyData) (v : V), Rp K F v d → Rp K F' v d
  | .none, _, h => by cases h; exact .non
  | .bool b, _, h => by cases h; exact .bl b
  | .int i, _, h => by cases h; exact .int i
  | .str x, _, h => by cases h; exact .str x
  | .list ds, _, h => by
    cases h with
    | lst hs ha hl => exact .lst (m _ _ hs) (RpAll.mono m ds _ ha) hl
  | .tuple ds, _, h => by
    cases h with
    | tup hs ha hl => exact .tup (sqT_mono m hs) (RpAll.mono m ds _ ha) hl
  | .dict es, _, h => by
    cases h with
    | dct hs ha => exact .dct (m _ _ hs) (RpKv.mono m es _ ha)
theorem RpAll.mono (m : Same F F') : ∀ (ds : List PyData) (vs : List V), RpAll K F vs ds → RpAll K F' vs ds
  | [], _, h => by cases h; exact .nil
  | d :: ds, _, h => by
    cases h with
    | cons h1 h2 => exact .cons (Rp.mono m d _ h1) (RpAll.mono m ds _ h2)
theorem RpKv.mono (m : Same F F') : ∀ (es : List (PyData × PyData)) (kvs : List (Key × V)), RpKv K F kvs es → RpKv K F' kvs es
  | [], _, h => by cases h; exact .nil
  | e :: es, _, h => by
    cases h with
    | cons h1 h2 => exact .cons (Rp.mono m _ _ h1) (RpKv.mono m es _ h2)
end
theorem RpAll.length : ∀ {ds : List PyData} {vs : List V}, RpAll K F vs ds → vs.length = ds.length
  | [], _, h => by cases h; rfl
  | d :: ds, _, h => by
    cases h with
    | cons h1 h2 => simp [RpAll.length h2]
theorem RpAll.append : ∀ {ds es : List PyData} {vs us : List V}, RpAll K F vs ds → RpAll K F us es → RpAll K F (vs ++ us) (ds ++ es)
  | [], _, _, _, h, h' => by cases h; exact h'
  | d :: ds, _, _, _, h, h' => by
    cases h with
    | cons h1 h2 => exact .cons h1 (RpAll.append h2 h')
theorem RpAll.get : ∀ {ds : List PyData} {vs : List V} {i : Nat} {v : V}, RpAll K F vs ds → vs[i]? = some v → ∃ d, ds[i]? = some d ∧ Rp K F v d
  | [], _, _, _, h, e => by cases h; simp at e
  | d :: ds, _, 0, _, h, e => by
    cases h with
    | cons h1 h2 =>
      simp at e
      subst e
      exact ⟨d, rfl, h1⟩
  | d :: ds, _, i + 1, _, h, e => by
    cases h with
    | cons h1 h2 =>
      obtain ⟨d', e1, e2⟩ := RpAll.get (i := i) h2 (by simpa using e)
      exact ⟨d', by simpa using e1, e2⟩
theorem RpAll.getD : ∀ {ds : List PyData} {vs : List V} {i : Nat} {d : PyData}, RpAll K F vs ds → ds[i]? = some d → ∃ v, vs[i]? = some v ∧ Rp K F v d := fun {ds vs i d} h e => by
  have hi : i < ds.length := (List.getElem?_eq_some_iff.mp e).1
  have hi' : i < vs.length := by rw [h.length]; exact hi
  obtain ⟨d', e1, e2⟩ := h.get (i := i) (v := vs[i]) (by simp [hi'])
  rw [e] at e1
  cases e1
  exact ⟨_, by simp [hi'], e2⟩
theorem RpAll.set : ∀ {ds : List PyData} {vs : List V} (i : Nat) {v : V} {d : PyData}, RpAll K F vs ds → Rp K F v d → RpAll K F (vs.set i v) (ds.set i d)
  | [], _, _, _, _, h, _ => by cases h; exact .nil
  | d :: ds, _, 0, _, _, h, r => by
    cases h with
    | cons h1 h2 => exact .cons r h2
  | d :: ds, _, i + 1, _, _, h, r => by
    cases h with
    | cons h1 h2 => exact .cons h1 (RpAll.set i h2 r)
theorem RpAll.take : ∀ {ds : List PyData} {vs : List V} (n : Nat), RpAll K F vs ds → RpAll K F (vs.take n) (ds.take n)
  | [], _, n, h => by cases h; simp; exact .nil
  | d :: ds, _, 0, h => by simp; exact .nil
  | d :: ds, _, n + 1, h => by
    cases h with
    | cons h1 h2 => exact .cons h1 (RpAll.take n h2)
theorem RpAll.drop : ∀ {ds : List PyData} {vs : List V} (n : Nat), RpAll K F vs ds → RpAll K F (vs.drop n) (ds.drop n)
  | [], _, n, h => by cases h; simp; exact .nil
  | d :: ds, _, 0, h => h
  | d :: ds, _, n + 1, h => by
    cases h with
    | cons h1 h2 => exact RpAll.drop n h2
theorem RpKv.length : ∀ {es : List (PyData × PyData)} {kvs : List (Key × V)}, RpKv K F kvs es → kvs.length = es.length
  | [], _, h => by cases h; rfl
  | e :: es, _, h => by
    cases h with
    | cons h1 h2 => simp [RpKv.length h2]
/-- ints stand for themselves -/
theorem RpAll.ints : ∀ {ns : List Int} {vs : List V}, RpAll K F vs (intsD ns) → vs = ns.map V.int
  | [], _, h => by cases h; rfl
  | n :: ns, _, h => by
    cases h with
    | cons h1 h2 =>
      cases h1
      rw [RpAll.ints h2]
      rfl
theorem RpAll.of_ints : ∀ (ns : List Int), RpAll K F (ns.map V.int) (intsD ns)
  | [] => .nil
  | n :: ns => .cons (.int n) (RpAll.of_ints ns)
theorem RpAll.bools : ∀ {bs : List Bool} {vs : List V}, RpAll K F vs (bs.map PyData.bool) → vs = bs.map V.bl
  | [], _, h => by cases h; rfl
  | n :: ns, _, h => by
    cases h with
    | cons h1 h2 =>
      cases h1
      rw [RpAll.bools h2]
      rfl
end

/-- an object that one def alone may change: what it holds lies in F -/
def OwnAt (K : PySem.W.Frag) (F H : Hp) (a : Addr) (d : PyData) : Prop :=
  match d with
  | .list ds => ∃ xs, H a = some (.lst xs) ∧ RpAll K F xs ds ∧ ds.length ≤ sizeLine
  | .dict es => ∃ kvs, H a = some (.dK kvs) ∧ RpKv K F kvs es
  | _ => False
section
variable {K : PySem.W.Frag} {F F' H H' : Hp} {a : Addr} {d : PyData}
theorem OwnAt.mono (m : Same F F') (e : H' a = H a) (h : OwnAt K F H a d) : OwnAt K F' H' a d := by
  unfold OwnAt at *
  cases d with
  | list ds =>
    obtain ⟨xs, h1, h2, h3⟩ := h
    exact ⟨xs, e.trans h1, RpAll.mono m _ _ h2, h3⟩
  | dict es =>
    obtain ⟨kvs, h1, h2⟩ := h
    exact ⟨kvs, e.trans h1, RpKv.mono m _ _ h2⟩
  | _ => exact h
theorem OwnAt.some (h : OwnAt K F H a d) : H a ≠ none := by
  unfold OwnAt at h
  cases d with
  | list ds =>
    obtain ⟨xs, h1, _⟩ := h
    rw [h1]; simp
  | dict es =>
    obtain ⟨kvs, h1, _⟩ := h
    rw [h1]; simp
  | _ => exact h.elim
/-- what may be read: a value, or an object that a name holds -/
def Pk (K : PySem.W.Frag) (F H : Hp) (v : V) (d : PyData) : Prop := Rp K F v d ∨ ∃ a, v = .ref a ∧ OwnAt K F H a d
end

/-! ### the state -/
structure Gh where
  K : PySem.W.Frag
  F0 : Hp
  H0 : Hp
  Bs : List Addr
  sl : Nat → Option Addr
abbrev Tag := Sum Nat Nat
abbrev Ow := Addr → Option Tag
/-- F: what never changes again; O: who holds what may change; L: new objects that no name holds yet -/
structure SR (G : Gh) (F : Hp) (O : Ow) (ρ : Env) (σ : St) (H : Hp) (L : List (Addr × PyData)) : Prop where
  sub : Same F H
  f0 : Same G.F0 F
  fnew : ∀ a, F a ≠ none → G.F0 a ≠ none ∨ G.H0 a = none
  keep : ∀ a o, G.H0 a = some o → a ∉ G.Bs → H a = some o
  bs : ∀ a ∈ G.Bs, H a ≠ none ∧ G.H0 a ≠ none
  len : ρ.length = σ.length
  val : ∀ (i : Nat) (d : PyData), ρ[i]? = some (some (.val d)) → ∃ v, σ[i]? = some (some v) ∧ Rp G.K F v d
  own : ∀ (i : Nat) (d : PyData) (b : Bool), ρ[i]? = some (some (.own d b)) → ∃ a, σ[i]? = some (some (.ref a)) ∧ O a = some (.inl i) ∧ OwnAt G.K F H a d ∧ (b = true → a ∈ G.Bs ∧ G.sl i = some a) ∧ (b = false → G.H0 a = none)
  loo : ∀ (k : Nat) (a : Addr) (d : PyData), L[k]? = some (a, d) → O a = some (.inr k) ∧ OwnAt G.K F H a d ∧ G.H0 a = none
  of : ∀ a, O a ≠ none → F a = none ∧ H a ≠ none

section
variable {G : Gh} {F : Hp} {O : Ow} {ρ : Env} {σ : St} {H : Hp} {L : List (Addr × PyData)}
theorem same_upd {F : Hp} {p : Addr} {o : HO} (h : F p = none) : Same F (upd F p o) := fun b u e => by
  rw [upd_ne (ne_of_none e h)]
  exact e
theorem SR.fnone (S : SR G F O ρ σ H L) {p : Addr} (h : H p = none) : F p = none := S.sub.free h
theorem SR.h0 (S : SR G F O ρ σ H L) {p : Addr} (h : H p = none) : G.H0 p = none := by
  cases e : G.H0 p with
  | none => rfl
  | some o =>
    by_cases hb : p ∈ G.Bs
    · exact absurd h (S.bs p hb).1
    · rw [S.keep p o e hb] at h; cases h
theorem SR.onone (S : SR G F O ρ σ H L) {p : Addr} (h : H p = none) : O p = none := by
  cases e : O p with
  | none => rfl
  | some t => exact absurd h (S.of p (by rw [e]; simp)).2
/-- a new object that never changes -/
theorem SR.alloc (S : SR G F O ρ σ H L) {p : Addr} {o : HO} (h : H p = none) : SR G (upd F p o) O ρ σ (upd H p o) L := by
  have hF := S.fnone h
  have m : Same F (upd F p o) := same_upd hF
  have ne : ∀ a, H a ≠ none → a ≠ p := fun a ha e => ha (by rw [e]; exact h)
  refine ⟨fun a u e => ?_, S.f0.trans m, fun a ha => ?_, fun a u e hb => ?_, fun a ha => ?_, S.len, fun i d e => ?_, fun i d b e => ?_, fun k a d e => ?_, fun a ha => ?_⟩
  · by_cases hp : a = p
    · subst hp; rw [upd_same] at e ⊢; exact e
    · rw [upd_ne hp] at e ⊢; exact S.sub _ _ e
  · by_cases hp : a = p
    · subst hp; exact .inr (S.h0 h)
    · rw [upd_ne hp] at ha; exact S.fnew a ha
  · have := S.keep a u e hb
    rw [upd_ne (ne a (by rw [this]; simp))]; exact this
  · rw [upd_ne (ne a (S.bs a ha).1)]; exact S.bs a ha
  · obtain ⟨v, h1, h2⟩ := S.val i d e
    exact ⟨v, h1, Rp.mono m _ _ h2⟩
  · obtain ⟨a, h1, h2, h3, h4⟩ := S.own i d b e
    exact ⟨a, h1, h2, h3.mono m (upd_ne (ne a h3.some)), h4⟩
  · obtain ⟨h1, h2, h3⟩ := S.loo k a d e
    exact ⟨h1, h2.mono m (upd_ne (ne a h2.some)), h3⟩
  · obtain ⟨h1, h2⟩ := S.of a ha
    rw [upd_ne (ne a h2), upd_ne (ne a h2)]
    exact ⟨h1, h2⟩
/-- a new object that no name holds yet -/
theorem SR.allocL (S : SR G F O ρ σ H L) {p : Addr} {o : HO} {d : PyData} (h : H p = none) (ho : OwnAt G.K F (upd H p o) p d) : ∃ O', SR G F O' ρ σ (upd H p o) (L ++ [(p, d)]) := by
  have hF := S.fnone h
  have ne : ∀ a, H a ≠ none → a ≠ p := fun a ha e => ha (by rw [e]; exact h)
  refine ⟨fun a => if a = p then some (.inr L.length) else O a, ⟨fun a u e => ?_, S.f0, S.fnew, fun a u e hb => ?_, fun a ha => ?_, S.len, S.val, fun i d b e => ?_, fun k a d' e => ?_, fun a ha => ?_⟩⟩
  · rw [upd_ne (ne a (by rw [S.sub _ _ e]; simp))]; exact S.sub _ _ e
  · have := S.keep a u e hb
    rw [upd_ne (ne a (by rw [this]; simp))]; exact this
  · rw [upd_ne (ne a (S.bs a ha).1)]; exact S.bs a ha
  · obtain ⟨a, h1, h2, h3, h4⟩ := S.own i d b e
    exact ⟨a, h1, by simp only [if_neg (ne a h3.some)]; exact h2, h3.mono (Same.refl _) (upd_ne (ne a h3.some)), h4⟩
  · by_cases hk : k < L.length
    · rw [List.getElem?_append_left hk] at e
      obtain ⟨h1, h2, h3⟩ := S.loo k a d' e
      exact ⟨by simp only [if_neg (ne a h2.some)]; exact h1, h2.mono (Same.refl _) (upd_ne (ne a h2.some)), h3⟩
    · rw [List.getElem?_append_right (by omega)] at e
      have hk2 : k - L.length = 0 := by
        by_cases hz : k - L.length = 0
        · exact hz
        · rw [List.getElem?_eq_none (by simp; omega)] at e; cases e
      have : k = L.length := by omega
      subst this
      simp at e
      obtain ⟨rfl, rfl⟩ := e
      exact ⟨if_pos rfl, ho, S.h0 h⟩
  · by_cases hp : a = p
    · subst hp; exact ⟨hF, by rw [upd_same]; simp⟩
    · simp only [if_neg hp] at ha
      rw [upd_ne hp]
      exact S.of a ha
/-- nobody's any more -/
theorem SR.untag (S : SR G F O ρ σ H L) (a : Addr) (hs : ∀ i, O a = some (.inl i) → ∀ d b, ρ[i]? ≠ some (some (.own d b))) (hl : ∀ k, O a = some (.inr k) → L[k]? = none) : SR G F (fun b => if b = a then none else O b) ρ σ H L := by
  refine ⟨S.sub, S.f0, S.fnew, S.keep, S.bs, S.len, S.val, fun i d b e => ?_, fun k c d e => ?_, fun c hc => ?_⟩
  · obtain ⟨c, h1, h2, h3⟩ := S.own i d b e
    have : c ≠ a := fun z => by subst z; exact hs i h2 d b e
    exact ⟨c, h1, by simp only [if_neg this]; exact h2, h3⟩
  · obtain ⟨h1, h3⟩ := S.loo k c d e
    have : c ≠ a := fun z => by subst z; rw [hl k h1] at e; cases e
    exact ⟨by simp only [if_neg this]; exact h1, h3⟩
  · by_cases hca : c = a
    · simp [hca] at hc
    · simp only [if_neg hca] at hc
      exact S.of c hc
/-- what nobody holds, and stands in H, is fixed -/
theorem SR.fix (S : SR G F O ρ σ H L) {a : Addr} {o : HO} (ha : H a = some o) (hO : O a = none) (h0 : G.H0 a = none) (hF : F a = none) : SR G (upd F a o) O ρ σ H L := by
  have m : Same F (upd F a o) := same_upd hF
  refine ⟨fun b u e => ?_, S.f0.trans m, fun b hb => ?_, S.keep, S.bs, S.len, fun i d e => ?_, fun i d b e => ?_, fun k c d e => ?_, fun b hb => ?_⟩
  · by_cases hp : b = a
    · subst hp; rw [upd_same] at e; rw [ha]; exact e
    · rw [upd_ne hp] at e; exact S.sub _ _ e
  · by_cases hp : b = a
    · subst hp; exact .inr h0
    · rw [upd_ne hp] at hb; exact S.fnew b hb
  · obtain ⟨v, h1, h2⟩ := S.val i d e
    exact ⟨v, h1, Rp.mono m _ _ h2⟩
  · obtain ⟨c, h1, h2, h3, h4⟩ := S.own i d b e
    exact ⟨c, h1, h2, h3.mono m rfl, h4⟩
  · obtain ⟨h1, h2, h3⟩ := S.loo k c d e
    exact ⟨h1, h2.mono m rfl, h3⟩
  · have : b ≠ a := fun z => by subst z; exact hb hO
    rw [upd_ne this]
    exact S.of b hb
/-- an untracked change of what nobody holds: the object at a is locked -/
theorem SR.relock (S : SR G F O ρ σ H L) {a : Addr} {o : HO} (ha : H a ≠ none) (hO : O a = none) (h0 : G.H0 a = none) (hF : F a = none) (hB : a ∉ G.Bs) : SR G F O ρ σ (upd H a o) L := by
  refine ⟨fun b u e => ?_, S.f0, S.fnew, fun b u e hb => ?_, fun b hb => ?_, S.len, S.val, fun i d b e => ?_, fun k c d e => ?_, fun b hb => ?_⟩
  · rw [upd_ne (ne_of_none e hF)]; exact S.sub _ _ e
  · have : b ≠ a := fun z => by subst z; rw [h0] at e; cases e
    rw [upd_ne this]; exact S.keep b u e hb
  · by_cases hp : b = a
    · subst hp; exact absurd hb hB
    · rw [upd_ne hp]; exact S.bs b hb
  · obtain ⟨c, h1, h2, h3, h4⟩ := S.own i d b e
    have : c ≠ a := fun z => by subst z; rw [hO] at h2; cases h2
    exact ⟨c, h1, h2, h3.mono (Same.refl _) (upd_ne this), h4⟩
  · obtain ⟨h1, h2, h3⟩ := S.loo k c d e
    have : c ≠ a := fun z => by subst z; rw [hO] at h1; cases h1
    exact ⟨h1, h2.mono (Same.refl _) (upd_ne this), h3⟩
  · have : b ≠ a := fun z => hb (by rw [z]; exact hO)
    rw [upd_ne this]
    exact S.of b hb
/-- a slot forgotten -/
theorem SR.forget (S : SR G F O ρ σ H L) (i : Nat) : SR G F O (ρ.set i none) σ H L := by
  refine ⟨S.sub, S.f0, S.fnew, S.keep, S.bs, by simpa using S.len, fun j d e => ?_, fun j d b e => ?_, S.loo, S.of⟩
  · by_cases h : i = j
    · subst h
      by_cases hl : i < ρ.length
      · rw [List.getElem?_set_self hl] at e; cases e
      · rw [List.getElem?_eq_none (by simpa using hl)] at e; cases e
    · rw [List.getElem?_set_ne h] at e; exact S.val j d e
  · by_cases h : i = j
    · subst h
      by_cases hl : i < ρ.length
      · rw [List.getElem?_set_self hl] at e; cases e
      · rw [List.getElem?_eq_none (by simpa using hl)] at e; cases e
    · rw [List.getElem?_set_ne h] at e; exact S.own j d b e
/-- a slot's value in σ changes where ρ forgets it -/
theorem SR.sig (S : SR G F O ρ σ H L) (i : Nat) (o : Option V) (h : ∀ s, ρ[i]? ≠ some (some s)) : SR G F O ρ (σ.set i o) H L := by
  have ne : ∀ j s, ρ[j]? = some (some s) → i ≠ j := fun j s e z => by subst z; exact h s e
  refine ⟨S.sub, S.f0, S.fnew, S.keep, S.bs, by simpa using S.len, fun j d e => ?_, fun j d b e => ?_, S.loo, S.of⟩
  · rw [List.getElem?_set_ne (ne _ _ e)]; exact S.val j d e
  · rw [List.getElem?_set_ne (ne _ _ e)]; exact S.own j d b e
theorem getElem?_set_none {ρ : Env} {i : Nat} : ∀ s, (ρ.set i none)[i]? ≠ some (some s) := fun s e => by
  by_cases hl : i < ρ.length
  · rw [List.getElem?_set_self hl] at e; cases e
  · rw [List.getElem?_eq_none (by simpa using hl)] at e; cases e
/-- a value is stored -/
theorem SR.store (S : SR G F O ρ σ H L) (i : Nat) {v : V} {d : PyData} (r : Rp G.K F v d) : SR G F O (ρ.set i (some (.val d))) (σ.set i (some v)) H L := by
  refine ⟨S.sub, S.f0, S.fnew, S.keep, S.bs, by simpa using S.len, fun j d' e => ?_, fun j d' b e => ?_, S.loo, S.of⟩
  · by_cases h : i = j
    · subst h
      by_cases hl : i < ρ.length
      · rw [List.getElem?_set_self hl] at e
        cases e
        exact ⟨v, by rw [List.getElem?_set_self (by rw [← S.len]; exact hl)], r⟩
      · rw [List.getElem?_eq_none (by simpa using hl)] at e; cases e
    · rw [List.getElem?_set_ne h] at e ⊢; exact S.val j d' e
  · by_cases h : i = j
    · subst h
      by_cases hl : i < ρ.length
      · rw [List.getElem?_set_self hl] at e; cases e
      · rw [List.getElem?_eq_none (by simpa using hl)] at e; cases e
    · rw [List.getElem?_set_ne h] at e ⊢; exact S.own j d' b e
theorem loo_lt {k : Nat} {p : Addr × PyData} {L : List (Addr × PyData)} (e : L[k]? = some p) : k < L.length := (List.getElem?_eq_some_iff.mp e).1
theorem SR.last {a : Addr} {d : PyData} (S : SR G F O ρ σ H (L ++ [(a, d)])) : O a = some (.inr L.length) ∧ OwnAt G.K F H a d ∧ G.H0 a = none := S.loo L.length a d (by simp)
theorem SR.loo' {a : Addr} {d : PyData} (S : SR G F O ρ σ H (L ++ [(a, d)])) {k : Nat} {c : Addr} {d' : PyData} (e : L[k]? = some (c, d')) : c ≠ a ∧ O c = some (.inr k) ∧ OwnAt G.K F H c d' ∧ G.H0 c = none := by
  have hk := loo_lt e
  obtain ⟨h1, h2, h3⟩ := S.loo k c d' (by rw [List.getElem?_append_left hk]; exact e)
  refine ⟨fun z => ?_, h1, h2, h3⟩
  subst z
  have q := h1.symm.trans S.last.1
  injection q with q
  injection q with q
  omega
/-- the last loose object is stored: the name holds it -/
theorem SR.storeOwn {a : Addr} {d : PyData} (S : SR G F O ρ σ H (L ++ [(a, d)])) (i : Nat) : ∃ O', SR G F O' (ρ.set i (some (.own d false))) (σ.set i (some (.ref a))) H L := by
  obtain ⟨t1, t2, t3⟩ := S.last
  refine ⟨fun b => if b = a then some (.inl i) else if O b = some (.inl i) then none else O b, S.sub, S.f0, S.fnew, S.keep, S.bs, by simpa using S.len, fun j d' e => ?_, fun j d' b e => ?_, fun k c d' e => ?_, fun b hb => ?_⟩
  · by_cases h : i = j
    · subst h
      by_cases hl : i < ρ.length
      · rw [List.getElem?_set_self hl] at e; cases e
      · rw [List.getElem?_eq_none (by simpa using hl)] at e; cases e
    · rw [List.getElem?_set_ne h] at e ⊢; exact S.val j d' e
  · by_cases h : i = j
    · subst h
      by_cases hl : i < ρ.length
      · rw [List.getElem?_set_self hl] at e
        cases e
        exact ⟨a, by rw [List.getElem?_set_self (by rw [← S.len]; exact hl)], if_pos rfl, t2, (fun z => nomatch z), (fun _ => t3)⟩
      · rw [List.getElem?_eq_none (by simpa using hl)] at e; cases e
    · rw [List.getElem?_set_ne h] at e ⊢
      obtain ⟨c, h1, h2, h3⟩ := S.own j d' b e
      have hc : c ≠ a := fun z => by subst z; rw [t1] at h2; cases h2
      refine ⟨c, h1, ?_, h3⟩
      show (if c = a then _ else if O c = some (.inl i) then none else O c) = _
      rw [if_neg hc, if_neg (by rw [h2]; intro z; injection z with z; injection z with z; exact h z.symm)]
      exact h2
  · obtain ⟨hc, h1, h2, h3⟩ := S.loo' e
    refine ⟨?_, h2, h3⟩
    show (if c = a then _ else if O c = some (.inl i) then none else O c) = _
    rw [if_neg hc, if_neg (by rw [h1]; intro z; cases z)]
    exact h1
  · by_cases hba : b = a
    · subst hba
      exact S.of b (by rw [t1]; simp)
    · simp only [if_neg hba] at hb
      refine S.of b fun z => hb ?_
      split
      · rfl
      · exact z
/-- the last loose object is let go -/
theorem SR.drop {a : Addr} {d : PyData} (S : SR G F O ρ σ H (L ++ [(a, d)])) : ∃ O', SR G F O' ρ σ H L ∧ O' a = none ∧ OwnAt G.K F H a d ∧ G.H0 a = none ∧ F a = none ∧ a ∉ G.Bs := by
  obtain ⟨t1, t2, t3⟩ := S.last
  have hb : a ∉ G.Bs := fun z => (S.bs a z).2 t3
  have hF : F a = none := (S.of a (by rw [t1]; simp)).1
  refine ⟨fun b => if b = a then none else O b, ?_, if_pos rfl, t2, t3, hF, hb⟩
  refine ⟨S.sub, S.f0, S.fnew, S.keep, S.bs, S.len, S.val, fun i d b e => ?_, fun k c d e => ?_, fun c hc => ?_⟩
  · obtain ⟨c, h1, h2, h3⟩ := S.own i d b e
    have : c ≠ a := fun z => by subst z; rw [t1] at h2; cases h2
    exact ⟨c, h1, by simp only [if_neg this]; exact h2, h3⟩
  · obtain ⟨this, h1, h3⟩ := S.loo' e
    exact ⟨by simp only [if_neg this]; exact h1, h3⟩
  · by_cases hca : c = a
    · simp [hca] at hc
    · simp only [if_neg hca] at hc
      exact S.of c hc
/-- .. and fixed, where it is a list -/
theorem SR.freezeL {a : Addr} {ds : List PyData} (S : SR G F O ρ σ H (L ++ [(a, .list ds)])) : ∃ F' O', SR G F' O' ρ σ H L ∧ Same F F' ∧ Rp G.K F' (.ref a) (.list ds) := by
  obtain ⟨O', S1, h1, h2, h3, h4, h5⟩ := S.drop
  obtain ⟨xs, e1, e2, e3⟩ := h2
  have m : Same F (upd F a (.lst xs)) := same_upd h4
  exact ⟨_, O', S1.fix e1 h1 h3 h4, m, .lst upd_same (RpAll.mono m _ _ e2) e3⟩
/-- .. a dict: the object is locked -/
theorem SR.freezeD {a : Addr} {es : List (PyData × PyData)} (S : SR G F O ρ σ H (L ++ [(a, .dict es)])) : ∃ kvs, H a = some (.dK kvs) ∧ ∀ ob, ∃ F' O', SR G F' O' ρ σ (upd H a (.frz ob (.dK kvs))) L ∧ Same F F' ∧ Rp G.K F' (.ref a) (.dict es) := by
  obtain ⟨O', S1, h1, h2, h3, h4, h5⟩ := S.drop
  obtain ⟨kvs, e1, e2⟩ := h2
  refine ⟨kvs, e1, fun ob => ?_⟩
  have m : Same F (upd F a (.frz ob (.dK kvs))) := same_upd h4
  have S2 := S1.relock (o := .frz ob (.dK kvs)) (by rw [e1]; simp) h1 h3 h4 h5
  exact ⟨_, O', S2.fix upd_same h1 h3 h4, m, .dct upd_same (RpKv.mono m _ _ e2)⟩
/-- an object of a name's own becomes loose: the name is emptied -/
theorem SR.loosen {i : Nat} {d : PyData} (S : SR G F O ρ σ H L) (e : ρ[i]? = some (some (.own d false))) : ∃ a O', σ[i]? = some (some (.ref a)) ∧ SR G F O' (ρ.set i none) σ H (L ++ [(a, d)]) := by
  obtain ⟨a, h1, h2, h3, _, h4⟩ := S.own i d false e
  refine ⟨a, fun b => if b = a then some (.inr L.length) else O b, h1, S.sub, S.f0, S.fnew, S.keep, S.bs, by simpa using S.len, fun j d' e' => ?_, fun j d' b e' => ?_, fun k c d' e' => ?_, fun c hc => ?_⟩
  · have hj : i ≠ j := fun z => by subst z; exact getElem?_set_none _ e'
    rw [List.getElem?_set_ne hj] at e'; exact S.val j d' e'
  · have hj : i ≠ j := fun z => by subst z; exact getElem?_set_none _ e'
    rw [List.getElem?_set_ne hj] at e'
    obtain ⟨c, g1, g2, g3⟩ := S.own j d' b e'
    have hc : c ≠ a := fun z => by
      subst z
      rw [h2] at g2
      injection g2 with g2
      injection g2 with g2
      exact hj g2
    exact ⟨c, g1, by simp only [if_neg hc]; exact g2, g3⟩
  · by_cases hk : k < L.length
    · rw [List.getElem?_append_left hk] at e'
      obtain ⟨g1, g2, g3⟩ := S.loo k c d' e'
      have hc : c ≠ a := fun z => by subst z; rw [h2] at g1; cases g1
      exact ⟨by simp only [if_neg hc]; exact g1, g2, g3⟩
    · rw [List.getElem?_append_right (by omega)] at e'
      have hk2 : k - L.length = 0 := by
        by_cases hz : k - L.length = 0
        · exact hz
        · rw [List.getElem?_eq_none (by simp; omega)] at e'; cases e'
      have : k = L.length := by omega
      subst this
      simp at e'
      obtain ⟨rfl, rfl⟩ := e'
      exact ⟨if_pos rfl, h3, h4 rfl⟩
  · by_cases hp : c = a
    · subst hp; exact S.of c (by rw [h2]; simp)
    · simp only [if_neg hp] at hc
      exact S.of c hc
/-- a value is put where ρ is empty and σ holds it -/
theorem SR.show (S : SR G F O ρ σ H L) {i : Nat} {v : V} {d : PyData} (e : σ[i]? = some (some v)) (r : Rp G.K F v d) : SR G F O (ρ.set i (some (.val d))) σ H L := by
  refine ⟨S.sub, S.f0, S.fnew, S.keep, S.bs, by simpa using S.len, fun j d' e' => ?_, fun j d' b e' => ?_, S.loo, S.of⟩
  · by_cases h : i = j
    · subst h
      by_cases hl : i < ρ.length
      · rw [List.getElem?_set_self hl] at e'
        cases e'
        exact ⟨v, e, r⟩
      · rw [List.getElem?_eq_none (by simpa using hl)] at e'; cases e'
    · rw [List.getElem?_set_ne h] at e'; exact S.val j d' e'
  · by_cases h : i = j
    · subst h
      by_cases hl : i < ρ.length
      · rw [List.getElem?_set_self hl] at e'; cases e'
      · rw [List.getElem?_eq_none (by simpa using hl)] at e'; cases e'
    · rw [List.getElem?_set_ne h] at e'; exact S.own j d' b e'
/-- an object of a name's own is changed -/
theorem SR.mutate {i : Nat} {d d' : PyData} {b : Bool} {a : Addr} {o : HO} (S : SR G F O ρ σ H L) (e : ρ[i]? = some (some (.own d b))) (ea : σ[i]? = some (some (.ref a))) (ho : OwnAt G.K F (upd H a o) a d') :
    SR G F O (ρ.set i (some (.own d' b))) σ (upd H a o) L := by
  obtain ⟨a', h1, h2, h3, h4, h5⟩ := S.own i d b e
  rw [ea] at h1
  cases h1
  have hF : F a = none := (S.of a (by rw [h2]; simp)).1
  have hi : i < ρ.length := (List.getElem?_eq_some_iff.mp e).1
  refine ⟨fun c u q => ?_, S.f0, S.fnew, fun c u q hb => ?_, fun c hc => ?_, by simpa using S.len, fun j d2 q => ?_, fun j d2 b2 q => ?_, fun k c d2 q => ?_, fun c hc => ?_⟩
  · rw [upd_ne (ne_of_none q hF)]; exact S.sub _ _ q
  · have : c ≠ a := fun z => by
      subst z
      cases b with
      | true => exact hb (h4 rfl).1
      | false => rw [h5 rfl] at q; cases q
    rw [upd_ne this]; exact S.keep c u q hb
  · by_cases hp : c = a
    · subst hp; exact ⟨by rw [upd_same]; simp, (S.bs c hc).2⟩
    · rw [upd_ne hp]; exact S.bs c hc
  · by_cases h : i = j
    · subst h
      rw [List.getElem?_set_self hi] at q; cases q
    · rw [List.getElem?_set_ne h] at q; exact S.val j d2 q
  · by_cases h : i = j
    · subst h
      rw [List.getElem?_set_self hi] at q
      cases q
      exact ⟨a, ea, h2, ho, h4, h5⟩
    · rw [List.getElem?_set_ne h] at q
      obtain ⟨c, g1, g2, g3, g4⟩ := S.own j d2 b2 q
      have hc : c ≠ a := fun z => by
        subst z
        rw [h2] at g2
        injection g2 with g2
        injection g2 with g2
        exact h g2
      exact ⟨c, g1, g2, g3.mono (Same.refl _) (upd_ne hc), g4⟩
  · obtain ⟨g1, g2, g3⟩ := S.loo k c d2 q
    have hc : c ≠ a := fun z => by subst z; rw [h2] at g1; cases g1
    exact ⟨g1, g2.mono (Same.refl _) (upd_ne hc), g3⟩
  · by_cases hp : c = a
    · subst hp; exact ⟨hF, by rw [upd_same]; simp⟩
    · rw [upd_ne hp]; exact S.of c hc
/-- what stands in H, held by nobody and not fixed, becomes loose -/
theorem SR.tagL {a : Addr} {d : PyData} (S : SR G F O ρ σ H L) (hF : F a = none) (ho : OwnAt G.K F H a d) (hO : O a = none) (h0 : G.H0 a = none) : ∃ O', SR G F O' ρ σ H (L ++ [(a, d)]) := by
  refine ⟨fun b => if b = a then some (.inr L.length) else O b, S.sub, S.f0, S.fnew, S.keep, S.bs, S.len, S.val, fun j d' b e' => ?_, fun k c d' e' => ?_, fun c hc => ?_⟩
  · obtain ⟨c, g1, g2, g3⟩ := S.own j d' b e'
    have hc : c ≠ a := fun z => by subst z; rw [hO] at g2; cases g2
    exact ⟨c, g1, by simp only [if_neg hc]; exact g2, g3⟩
  · by_cases hk : k < L.length
    · rw [List.getElem?_append_left hk] at e'
      obtain ⟨g1, g2, g3⟩ := S.loo k c d' e'
      have hc : c ≠ a := fun z => by subst z; rw [hO] at g1; cases g1
      exact ⟨by simp only [if_neg hc]; exact g1, g2, g3⟩
    · rw [List.getElem?_append_right (by omega)] at e'
      have hk2 : k - L.length = 0 := by
        by_cases hz : k - L.length = 0
        · exact hz
        · rw [List.getElem?_eq_none (by simp; omega)] at e'; cases e'
      have : k = L.length := by omega
      subst this
      simp at e'
      obtain ⟨rfl, rfl⟩ := e'
      exact ⟨if_pos rfl, ho, h0⟩
  · by_cases hp : c = a
    · subst hp; exact ⟨hF, ho.some⟩
    · simp only [if_neg hp] at hc
      exact S.of c hc
end
end Vs

set_option maxHeartbeats 4000000
/-! VC: judgements over data; operations. -/
namespace Vs
open PySem L2

/-! ### general -/
section
variable {X : Cx} {e : Expr}
theorem _root_.L2.PE.imp {t t' : TE} (h : PE X e t) (i : ∀ σ H Q, t' σ H Q → t σ H Q) : PE X e t' := ⟨fun pins s σ H Q I w => h.run pins s σ H Q I (i σ H Q w)⟩
theorem _root_.L2.PT.imp {t t' : TT} (h : PT X e t) (i : ∀ σ H Q, t' σ H Q → t σ H Q) : PT X e t' := ⟨fun pins s σ H Q I w => h.run pins s σ H Q I (i σ H Q w)⟩
theorem _root_.L2.PA.imp {es : List Expr} {t t' : TA} (h : PA X es t) (i : ∀ σ H Q, t' σ H Q → t σ H Q) : PA X es t' := ⟨fun pos pins s σ H Q I w => h.run pos pins s σ H Q I (i σ H Q w)⟩
theorem _root_.L2.PS.imp {st : Stmt} {t t' : TS} (h : PS X st t) (i : ∀ D σ H, t' D σ H → t D σ H) : PS X st t' := ⟨fun pins s σ H D I w => h.run pins s σ H D I (i D σ H w)⟩
theorem _root_.L2.PSs.imp {st : List Stmt} {t t' : TS} (h : PSs X st t) (i : ∀ D σ H, t' D σ H → t D σ H) : PSs X st t' := ⟨fun pins s σ H D I w => h.run pins s σ H D I (i D σ H w)⟩
theorem _root_.L2.PI.imp {tg : Expr} {t t' : TI} (h : PI X tg e t) (i : ∀ σ H R, t' σ H R → t σ H R) : PI X tg e t' := ⟨fun pins s σ H R I w => h.run pins s σ H R I (i σ H R w)⟩
/-- the heap is seen otherwise behind the expression, the state staying -/
theorem _root_.L2.PE.ghost {t t' : TE} (h : PE X e t) (i : ∀ σ H Q, t' σ H Q → t σ H (fun v H1 => ∀ pins s, Inv X pins σ H1 s → ∃ H2, Inv X pins σ H2 s ∧ Q v H2)) : PE X e t' := by
  refine ⟨fun pins s σ H Q I w => ?_⟩
  refine thn (h.run pins s σ H _ I (i σ H Q w)) fun u s1 ⟨v, H1, I1, r, q⟩ => ?_
  obtain ⟨H2, I2, q2⟩ := q pins s1 I1
  exact ⟨v, H2, I2, r, q2⟩
end

/-- what grows: nothing, or one new object that never changes -/
inductive Grown (F H : Hp) : Hp → Hp → Prop
  | refl : Grown F H F H
  | new {p : Addr} {o : HO} : H p = none → Grown F H (upd F p o) (upd H p o)
section
variable {G : Gh} {F F' : Hp} {O : Ow} {ρ : Env} {σ : St} {H H' : Hp} {L : List (Addr × PyData)}
theorem SR.grown (S : SR G F O ρ σ H L) (g : Grown F H F' H') : SR G F' O ρ σ H' L := by
  cases g with
  | refl => exact S
  | new h => exact S.alloc h
theorem Grown.same (g : Grown F H F' H') (s : Same F H) : Same F F' := by
  cases g with
  | refl => exact Same.refl _
  | new h => exact same_upd (s.free h)
theorem Pk.mono {K : PySem.W.Frag} {v : V} {d : PyData} (m : Same F F') (h : Pk K F H v d) (e : ∀ a, OwnAt K F H a d → H' a = H a) : Pk K F' H' v d := by
  rcases h with h | ⟨a, rfl, h⟩
  · exact .inl (Rp.mono m _ _ h)
  · exact .inr ⟨a, rfl, h.mono m (e a h)⟩
/-- an operand's value -/
def OpRel (K : PySem.W.Frag) (F : Hp) (σ : St) (v : V) : Opd → Prop
  | .dat d => Rp K F v d
  | .slot i => σ[i]? = some (some v)
theorem OpRel.mono {K : PySem.W.Frag} {v : V} {x : Opd} (m : Same F F') (h : OpRel K F σ v x) : OpRel K F' σ v x := by
  cases x with
  | dat d => exact Rp.mono m _ _ h
  | slot i => exact h
theorem SR.rd (S : SR G F O ρ σ H L) {i : Nat} {v : V} {k : PyData → Prop} (e : σ[i]? = some (some v)) (h : ρ.rd i k) : ∃ d, Pk G.K F H v d ∧ k d := by
  unfold Env.rd at h
  split at h
  · next d q =>
    obtain ⟨v', h1, h2⟩ := S.val i d q
    rw [e] at h1
    cases h1
    exact ⟨d, .inl h2, h⟩
  · next d b q =>
    obtain ⟨a, h1, h2, h3, _⟩ := S.own i d b q
    rw [e] at h1
    cases h1
    exact ⟨d, .inr ⟨a, rfl, h3⟩, h⟩
  · exact h.elim
theorem SR.on (S : SR G F O ρ σ H L) {x : Opd} {v : V} {k : PyData → Prop} (r : OpRel G.K F σ v x) (h : x.on ρ k) : ∃ d, Pk G.K F H v d ∧ k d := by
  cases x with
  | dat d => exact ⟨d, .inl r, h⟩
  | slot i => exact S.rd r h
end

/-! ### judgements: expressions -/
abbrev VT := Env → (PyData → Env → Prop) → Prop
/-- a value that never changes -/
def tD (G : Gh) (w : VT) : TE := fun σ H Q => ∃ F O ρ L K, SR G F O ρ σ H L ∧ w ρ K ∧ ∀ d ρ' v H' F' O', K d ρ' → SR G F' O' ρ' σ H' L → Same F F' → Rp G.K F' v d → Q v H'
/-- a new object that nobody holds -/
def tF (G : Gh) (w : VT) : TE := fun σ H Q => ∃ F O ρ L K, SR G F O ρ σ H L ∧ w ρ K ∧ ∀ d ρ' a H' F' O', K d ρ' → SR G F' O' ρ' σ H' (L ++ [(a, d)]) → Same F F' → Q (.ref a) H'
/-- an operand -/
def tO (G : Gh) (w : Env → (Opd → Env → Prop) → Prop) : TE := fun σ H Q => ∃ F O ρ L K, SR G F O ρ σ H L ∧ w ρ K ∧ ∀ x ρ' v H' F' O', K x ρ' → SR G F' O' ρ' σ H' L → Same F F' → OpRel G.K F' σ v x → Q v H'
def tTs (G : Gh) (w : Env → (Bool → Env → Prop) → Prop) : TT := fun σ H Q => ∃ F O ρ L K, SR G F O ρ σ H L ∧ w ρ K ∧ ∀ b ρ' H' F' O', K b ρ' → SR G F' O' ρ' σ H' L → Same F F' → Q b H'
abbrev opC (c : C) : Env → (Opd → Env → Prop) → Prop := opd c (W c).v

/-- all that is said of an expression -/
structure Sd (X : Cx) (G : Gh) (e : Expr) (c : C) : Prop where
  v : PE X e (tD G (W c).v)
  o : PE X e (tO G (opC c))
  t : PT X e (tTs G (W c).t)
  f : c.fresh = true → PE X e (tF G (W c).v)

section
variable {X : Cx} {G : Gh} {e : Expr}
theorem opd_val {c : C} (h : ∀ i, c ≠ .var i) (w : VT) (ρ : Env) (Q : Opd → Env → Prop) : opd c w ρ Q = w ρ fun d ρ' => Q (.dat d) ρ' := by
  cases c <;> first | rfl | exact absurd rfl (h _)
theorem so_of {c : C} (h : ∀ i, c ≠ .var i) (p : PE X e (tD G (W c).v)) : PE X e (tO G (opC c)) := by
  refine p.imp fun σ H Q ⟨F, O, ρ, L, K, S, w, q⟩ => ?_
  rw [opC, opd_val h] at w
  exact ⟨F, O, ρ, L, _, S, w, fun d ρ' v H' F' O' k S' m r => q (.dat d) ρ' v H' F' O' k S' m r⟩
/-- a loose object becomes a value that never changes -/
theorem freeze (hK : X.K = G.K) {pins : List (Addr × Obj)} {s : Shared} {F : Hp} {O : Ow} {ρ : Env} {σ σ' : St} {H : Hp} {L : List (Addr × PyData)} {a : Addr} {d : PyData} (S : SR G F O ρ σ H (L ++ [(a, d)])) (I : Inv X pins σ' H s) :
    ∃ H' F' O', Inv X pins σ' H' s ∧ SR G F' O' ρ σ H' L ∧ Same F F' ∧ Rp G.K F' (.ref a) d := by
  cases d with
  | list ds =>
    obtain ⟨F', O', S', m, r⟩ := S.freezeL
    exact ⟨H, F', O', I, S', m, r⟩
  | dict es =>
    obtain ⟨kvs, e1, h⟩ := S.freezeD
    obtain ⟨ob, I'⟩ := I.lock e1 trivial
    obtain ⟨F', O', S', m, r⟩ := h ob
    exact ⟨_, F', O', I', S', m, r⟩
  | _ => exact (S.last.2.1 : False).elim
theorem sv_of_f {w : VT} (hK : X.K = G.K) (p : PE X e (tF G w)) : PE X e (tD G w) := by
  refine p.ghost fun σ H Q ⟨F, O, ρ, L, K, S, w, q⟩ => ?_
  refine ⟨F, O, ρ, L, K, S, w, fun d ρ' a H' F' O' k S' m => ?_⟩
  intro pins s I
  obtain ⟨H2, F2, O2, I2, S2, m2, r2⟩ := freeze hK S' I
  exact ⟨H2, I2, q d ρ' _ H2 F2 O2 k S2 (m.trans m2) r2⟩
/-- a value's truth -/
theorem truth_ok {K : PySem.W.Frag} {F H : Hp} {v : V} {d : PyData} {k : Bool → Prop} (s : Same F H) (p : Pk K F H v d) (h : truthW d k) : ∃ b, TruV K v H b ∧ k b := by
  unfold truthW at h
  rcases p with p | ⟨a, rfl, p⟩
  · cases p with
    | non => exact ⟨false, rfl, h⟩
    | bl b => exact ⟨b, rfl, h⟩
    | int i => exact ⟨_, rfl, h⟩
    | str x => exact h.elim
    | lst e r l =>
      refine ⟨_, .inl ⟨_, .of (s _ _ e), rfl⟩, ?_⟩
      cases r <;> exact h
    | tup e r l =>
      refine ⟨_, .inr (.inl ⟨_, sqT_mono s e, rfl⟩), ?_⟩
      cases r <;> exact h
    | dct e r => exact h.elim
  · cases d with
    | list ds =>
      obtain ⟨xs, h1, h2, h3⟩ := p
      refine ⟨_, .inl ⟨_, .of h1, rfl⟩, ?_⟩
      cases h2 <;> exact h
    | dict es => exact h.elim
    | _ => exact (p : False).elim
/-- expressions whose test is their value's truth -/
def plainT : Expr → Bool
  | .UnaryOp .Not _ _ => false
  | .BoolOp _ _ _ => false
  | .IfExp _ _ _ _ => false
  | .Compare _ _ _ _ => false
  | _ => true
theorem plain_true {e : Expr} (h : plainT e = true) : ∀ whole, isTrue e X.env whole = (do let v ← whole; standAt e.pos; holding [v] (truthy v)) := by
  intro whole
  cases e with
  | UnaryOp op a p => cases op <;> first | rfl | exact Bool.noConfusion h
  | BoolOp op a p => exact Bool.noConfusion h
  | IfExp a b c p => exact Bool.noConfusion h
  | Compare a b c p => exact Bool.noConfusion h
  | _ => rfl
theorem st_of {w : VT} (hK : X.K = G.K) (p : PE X e (tD G w)) (h : plainT e = true) : PT X e (tTs G (Wp.ofV w).t) := by
  refine (pt_truth p (plain_true h)).imp fun σ H Q ⟨F, O, ρ, L, K, S, w', q⟩ => ?_
  refine ⟨F, O, ρ, L, _, S, w', fun d ρ' v H' F' O' k S' m r => ?_⟩
  obtain ⟨b, t, k⟩ := truth_ok S'.sub (.inl r) k
  rw [hK]
  exact ⟨b, t, q b ρ' H' F' O' k S' m⟩
/-- from the value alone -/
theorem Sd.of_v {c : C} {w : VT} (hK : X.K = G.K) (hw : W c = Wp.ofV w) (hv : ∀ i, c ≠ .var i) (hf : c.fresh = false) (h : plainT e = true) (p : PE X e (tD G w)) : Sd X G e c := by
  have p' : PE X e (tD G (W c).v) := by rw [hw]; exact p
  refine ⟨p', so_of hv p', ?_, fun z => by rw [hf] at z; cases z⟩
  rw [hw]
  exact st_of hK p h
theorem Sd.of_f {c : C} {w : VT} (hK : X.K = G.K) (hw : W c = Wp.ofV w) (hv : ∀ i, c ≠ .var i) (h : plainT e = true) (p : PE X e (tF G w)) : Sd X G e c := by
  have p0 : PE X e (tD G w) := sv_of_f hK p
  have p' : PE X e (tD G (W c).v) := by rw [hw]; exact p0
  refine ⟨p', so_of hv p', ?_, fun _ => by rw [hw]; exact p⟩
  rw [hw]
  exact st_of hK p0 h
/-! ### names, constants -/
theorem sd_con {d : PyData} {v : V} (hK : X.K = G.K) (h : PE X e (tC v)) (r : ∀ F, Rp G.K F v d) (hp : plainT e = true) : Sd X G e (.con d) := by
  refine Sd.of_v hK rfl (fun i z => nomatch z) rfl hp (h.imp fun σ H Q ⟨F, O, ρ, L, K, S, w, q⟩ => ?_)
  exact q d ρ v H F O w S (Same.refl _) (r F)
theorem sd_var {i : Nat} {x : Str} {pos : Pos} (hK : X.K = G.K) (h : PE X (.Name x pos) (tVar i)) : Sd X G (.Name x pos) (.var i) := by
  refine ⟨?_, ?_, ?_, fun z => nomatch z⟩
  · refine h.ghost fun σ H Q ⟨F, O, ρ, L, K, S, w, q⟩ => ?_
    have w : ρ.take i K := w
    unfold Env.take at w
    split at w
    · next d e =>
      obtain ⟨v, h1, h2⟩ := S.val i d e
      exact ⟨v, h1, fun pins s I => ⟨H, I, q d ρ v H F O w S (Same.refl _) h2⟩⟩
    · next d e =>
      obtain ⟨a, O', h1, S1⟩ := S.loosen e
      refine ⟨_, h1, fun pins s I => ?_⟩
      obtain ⟨H2, F2, O2, I2, S2, m2, r2⟩ := freeze hK S1 I
      have S3 := S2.show (i := i) h1 r2
      rw [List.set_set] at S3
      exact ⟨H2, I2, q d _ _ H2 F2 O2 w S3 m2 r2⟩
    · exact w.elim
  · refine h.imp fun σ H Q ⟨F, O, ρ, L, K, S, w, q⟩ => ?_
    have w : (match ρ[i]? with | some (some _) => K (.slot i) ρ | _ => False) := w
    split at w
    · next sl e =>
      have : ∃ v, σ[i]? = some (some v) := by
        cases sl with
        | val d => exact let ⟨v, h1, _⟩ := S.val i d e; ⟨v, h1⟩
        | own d b => exact let ⟨a, h1, _⟩ := S.own i d b e; ⟨_, h1⟩
      obtain ⟨v, h1⟩ := this
      exact ⟨v, h1, q (.slot i) ρ v H F O w S (Same.refl _) h1⟩
    · exact w.elim
  · refine (pt_truth h (plain_true rfl)).imp fun σ H Q ⟨F, O, ρ, L, K, S, w, q⟩ => ?_
    have w : ρ.rd i fun d => truthW d fun b => K b ρ := w
    have : ∃ v, σ[i]? = some (some v) := by
      unfold Env.rd at w
      split at w
      · next d e => exact let ⟨v, h1, _⟩ := S.val i d e; ⟨v, h1⟩
      · next d b e => exact let ⟨a, h1, _⟩ := S.own i d b e; ⟨_, h1⟩
      · exact w.elim
    obtain ⟨v, h1⟩ := this
    obtain ⟨d, p, w⟩ := S.rd h1 w
    obtain ⟨b, t, k⟩ := truth_ok S.sub p w
    rw [hK]
    exact ⟨v, h1, b, t, q b ρ H F O k S (Same.refl _)⟩

/-! ### operations of two operands -/
def R2ok (G : Gh) (r : R2) (f : PyData → PyData → (PyData → Prop) → Prop) : Prop :=
  ∀ F H v u d e k Q, Same F H → Pk G.K F H v d → Pk G.K F H u e → f d e k → (∀ d' w F' H', k d' → Grown F H F' H' → Rp G.K F' w d' → Q w H') → r v u H Q
theorem op2 {a b : Expr} {ca cb : C} {f : PyData → PyData → (PyData → Prop) → Prop} {r : R2} (hr : R2ok G r f) (ha : PE X a (tO G (opC ca))) (hb : PE X b (tO G (opC cb))) (σ : St) (H : Hp) (Q : VK)
    (h : tD G (fun ρ Q => opC ca ρ fun x ρ1 => opC cb ρ1 fun y ρ2 => x.on ρ2 fun d => y.on ρ2 fun e => f d e fun r => Q r ρ2) σ H Q) : tOp r (tO G (opC ca)) (tO G (opC cb)) σ H Q := by
  obtain ⟨F, O, ρ, L, K, S, w, q⟩ := h
  refine ⟨F, O, ρ, L, _, S, w, fun x ρ1 v H1 F1 O1 w1 S1 m1 r1 => ?_⟩
  refine ⟨F1, O1, ρ1, L, _, S1, w1, fun y ρ2 u H2 F2 O2 w2 S2 m2 r2 => ?_⟩
  obtain ⟨d, p1, w2⟩ := S2.on (r1.mono m2) w2
  obtain ⟨d', p2, w2⟩ := S2.on r2 w2
  refine hr F2 H2 v u d d' _ Q S2.sub p1 p2 w2 fun d2 w F3 H3 k g rp => ?_
  exact q d2 ρ2 w H3 F3 O2 k (S2.grown g) (m1.trans (m2.trans (g.same S2.sub))) rp
theorem sd_bin {op : Operator} {a b : Expr} {ca cb : C} {r : R2} {pos : Pos} (hK : X.K = G.K) (ho : OpR X (binaryOp op) r) (hr : R2ok G r (binW op)) (ha : Sd X G a ca) (hb : Sd X G b cb) (hf : (C.bin op ca cb).fresh = false) : Sd X G (.BinOp a op b pos) (.bin op ca cb) :=
  Sd.of_v hK rfl (fun i z => nomatch z) hf rfl ((pe_op ho ha.o hb.o).imp fun σ H Q h => op2 hr ha.o hb.o σ H Q h)
end
end Vs

set_option maxHeartbeats 4000000
/-! VD: operations over data, one by one. -/
namespace Vs
open PySem L2

section
variable {K : PySem.W.Frag} {F H : Hp} {v : V}
theorem Pk.int {i : Int} (p : Pk K F H v (.int i)) : v = .int i := by
  rcases p with p | ⟨a, rfl, p⟩
  · cases p; rfl
  · exact (p : False).elim
theorem Pk.bool {b : Bool} (p : Pk K F H v (.bool b)) : v = .bl b := by
  rcases p with p | ⟨a, rfl, p⟩
  · cases p; rfl
  · exact (p : False).elim
theorem Pk.str {b : Str} (p : Pk K F H v (.str b)) : v = .str b := by
  rcases p with p | ⟨a, rfl, p⟩
  · cases p; rfl
  · exact (p : False).elim
theorem Pk.none (p : Pk K F H v .none) : v = .non := by
  rcases p with p | ⟨a, rfl, p⟩
  · cases p; rfl
  · exact (p : False).elim
theorem Pk.tup {ds : List PyData} (p : Pk K F H v (.tuple ds)) : ∃ a xs, v = .ref a ∧ SqT K F a xs ∧ RpAll K F xs ds ∧ ds.length ≤ sizeLine := by
  rcases p with p | ⟨a, rfl, p⟩
  · cases p with
    | tup e r l => exact ⟨_, _, rfl, e, r, l⟩
  · exact (p : False).elim
theorem Pk.lst {ds : List PyData} (s : Same F H) (p : Pk K F H v (.list ds)) : ∃ a xs, v = .ref a ∧ H a = some (.lst xs) ∧ RpAll K F xs ds ∧ ds.length ≤ sizeLine := by
  rcases p with p | ⟨a, rfl, p⟩
  · cases p with
    | lst e r l => exact ⟨_, _, rfl, s _ _ e, r, l⟩
  · exact let ⟨xs, h1, h2, h3⟩ := p; ⟨a, xs, rfl, h1, h2, h3⟩
theorem Pk.dct {es : List (PyData × PyData)} (s : Same F H) (p : Pk K F H v (.dict es)) : ∃ a kvs, v = .ref a ∧ Rd H a (.dK kvs) ∧ RpKv K F kvs es := by
  rcases p with p | ⟨a, rfl, p⟩
  · cases p with
    | dct e r => exact ⟨_, _, rfl, .inr ⟨_, s _ _ e⟩, r⟩
  · exact let ⟨xs, h1, h2⟩ := p; ⟨a, xs, rfl, .inl h1, h2⟩
theorem line_eq : (sizeLine : Nat) = 16777216 := sizeLine_eq
/-- a new tuple -/
theorem rp_tup {p : Addr} {xs : List V} {ds : List PyData} (h : F p = none) (r : RpAll K F xs ds) (l : ds.length ≤ 16777216) : Rp K (upd F p (.tup xs)) (.ref p) (.tuple ds) :=
  .tup (.of upd_same) (RpAll.mono (same_upd h) _ _ r) (by rw [line_eq]; exact l)
theorem rp_lst {p : Addr} {xs : List V} {ds : List PyData} (h : F p = none) (r : RpAll K F xs ds) (l : ds.length ≤ 16777216) : Rp K (upd F p (.lst xs)) (.ref p) (.list ds) :=
  .lst upd_same (RpAll.mono (same_upd h) _ _ r) (by rw [line_eq]; exact l)
end
theorem RpAll.nil_iff {K : PySem.W.Frag} {F : Hp} {xs : List V} {ds : List PyData} (r : RpAll K F xs ds) : xs = [] ↔ ds = [] := by
  cases r with
  | nil => simp
  | cons _ _ => simp
theorem atI_len {α β : Type} {xs : List α} {ys : List β} {i : Int} (h : xs.length = ys.length) : ixN xs.length i = ixN ys.length i := by rw [h]
theorem RpAll.atI {K : PySem.W.Frag} {F : Hp} {xs : List V} {ds : List PyData} {i : Int} {d : PyData} (r : RpAll K F xs ds) (h : L2.atI ds i = some d) : ∃ v, L2.atI xs i = some v ∧ Rp K F v d := by
  unfold L2.atI at *
  rw [r.length]
  cases e : ixN ds.length i with
  | none => rw [e] at h; cases h
  | some j =>
    rw [e] at h
    have h : ds[j]? = some d := h
    obtain ⟨v, h1, h2⟩ := r.getD h
    exact ⟨v, h1, h2⟩
theorem RpAll.flat {K : PySem.W.Frag} {F : Hp} {xs : List V} {ds : List PyData} (r : RpAll K F xs ds) : ∀ n : Nat, RpAll K F (List.replicate n xs).flatten (List.replicate n ds).flatten
  | 0 => by simp; exact .nil
  | n + 1 => by
    rw [List.replicate_succ, List.replicate_succ, List.flatten_cons, List.flatten_cons]
    exact r.append (RpAll.flat r n)

section
variable {X : Cx} {G : Gh}
theorem r2_I0 {r : R2} {f : PyData → PyData → (PyData → Prop) → Prop} (h : R2ok G r f) : R2ok G r f := h
/-! ### arithmetic -/
def rAddD (K : PySem.W.Frag) : R2 := fun x y H Q => rI0 (fun i j => .int (i + j)) x y H Q ∨ rCatA K x y H Q ∨ rCat x y H Q
theorem op_addD : OpR X (binaryOp .Add) (rAddD X.K) := OpR.or op_add (OpR.or op_catA op_cat)
theorem r2_add : R2ok G (rAddD G.K) (binW .Add) := by
  intro F H v u d e k Q s p1 p2 h q
  unfold binW at h
  split at h
  all_goals try (rename_i hop; cases hop)
  all_goals try exact h.elim
  · obtain rfl := p1.int
    obtain rfl := p2.int
    exact .inl ⟨_, _, rfl, rfl, q _ _ _ _ h .refl (.int _)⟩
  · next xs ys _ =>
    obtain ⟨a, vs, rfl, e1, r1, l1⟩ := p1.tup
    obtain ⟨b, us, rfl, e2, r2, l2⟩ := p2.tup
    obtain ⟨h1, h2, h3⟩ := h
    refine .inr (.inl ⟨a, b, vs, us, rfl, rfl, sqT_mono s e1, sqT_mono s e2, by rw [r1.length, r2.length, line_eq]; exact h2, fun z => absurd (r1.nil_iff.mp z) h1, fun _ z => ?_, fun _ _ p hp => ?_⟩)
    · have z2 := r2.nil_iff.mp z
      subst z2
      rw [List.append_nil] at h3
      exact q _ _ _ _ h3 .refl (.tup e1 r1 l1)
    · exact q _ _ _ _ h3 (.new hp) (rp_tup (s.free hp) (r1.append r2) (by rw [List.length_append]; exact h2))
  · next xs ys _ =>
    obtain ⟨a, vs, rfl, e1, r1, l1⟩ := p1.lst s
    obtain ⟨b, us, rfl, e2, r2, l2⟩ := p2.lst s
    obtain ⟨h2, h3⟩ := h
    refine .inr (.inr ⟨a, b, vs, us, rfl, rfl, e1, e2, by rw [r1.length, r2.length, line_eq]; exact h2, fun p hp => ?_⟩)
    exact q _ _ _ _ h3 (.new hp) (rp_lst (s.free hp) (r1.append r2) (by rw [List.length_append]; exact h2))
theorem r2_sub : R2ok G (rI0 fun i j => .int (i - j)) (binW .Sub) := by
  intro F H v u d e k Q s p1 p2 h q
  unfold binW at h
  split at h
  all_goals try (rename_i hop; cases hop)
  all_goals try exact h.elim
  obtain rfl := p1.int
  obtain rfl := p2.int
  exact ⟨_, _, rfl, rfl, q _ _ _ _ h .refl (.int _)⟩
def rMulD : R2 := fun x y H Q => rI CMul (fun i j => .int (i * j)) x y H Q ∨ rRep x y H Q
theorem op_mulD : OpR X (binaryOp .Mult) rMulD := OpR.or op_mul op_rep
theorem r2_mul : R2ok G rMulD (binW .Mult) := by
  intro F H v u d e k Q s p1 p2 h q
  unfold binW at h
  split at h
  all_goals try (rename_i hop; cases hop)
  all_goals try exact h.elim
  · obtain rfl := p1.int
    obtain rfl := p2.int
    exact .inl ⟨_, _, rfl, rfl, h.1, q _ _ _ _ h.2 .refl (.int _)⟩
  · next xs j =>
    obtain ⟨a, vs, rfl, e1, r1, l1⟩ := p1.lst s
    obtain rfl := p2.int
    obtain ⟨⟨h1, h2, h3⟩, h4⟩ := h
    have el : ∀ (n : Nat), ((List.replicate n xs).flatten).length = xs.length * n := fun n => by simp [Nat.mul_comm]
    refine .inr ⟨a, j, vs, rfl, rfl, e1, by omega, by omega, by rw [r1.length, line_eq]; exact h3, fun p hp => ?_⟩
    exact q _ _ _ _ h4 (.new hp) (rp_lst (s.free hp) (r1.flat _) (by rw [el]; exact h3))
theorem r2_fdiv : R2ok G (rI CDivN fun i j => .int (i.fdiv j)) (binW .FloorDiv) := by
  intro F H v u d e k Q s p1 p2 h q
  unfold binW at h
  split at h
  all_goals try (rename_i hop; cases hop)
  all_goals try exact h.elim
  obtain rfl := p1.int
  obtain rfl := p2.int
  exact ⟨_, _, rfl, rfl, h.1, q _ _ _ _ h.2 .refl (.int _)⟩
theorem r2_mod : R2ok G (rI (fun _ j => j ≠ 0) fun i j => .int (i.fmod j)) (binW .Mod) := by
  intro F H v u d e k Q s p1 p2 h q
  unfold binW at h
  split at h
  all_goals try (rename_i hop; cases hop)
  all_goals try exact h.elim
  obtain rfl := p1.int
  obtain rfl := p2.int
  exact ⟨_, _, rfl, rfl, h.1, q _ _ _ _ h.2 .refl (.int _)⟩
theorem r2_pow : R2ok G (rI CPow fun i j => .int (i ^ j.toNat)) (binW .Pow) := by
  intro F H v u d e k Q s p1 p2 h q
  unfold binW at h
  split at h
  all_goals try (rename_i hop; cases hop)
  all_goals try exact h.elim
  obtain rfl := p1.int
  obtain rfl := p2.int
  exact ⟨_, _, rfl, rfl, h.1, q _ _ _ _ h.2 .refl (.int _)⟩

/-! ### comparisons -/
def RCok (G : Gh) (r : R2) (f : PyData → PyData → (Bool → Prop) → Prop) : Prop :=
  ∀ F H v u d e k Q, Same F H → Pk G.K F H v d → Pk G.K F H u e → f d e k → (∀ b, k b → Q (.bl b) H) → r v u H Q
theorem RCok.two {r : R2} {f : PyData → PyData → (Bool → Prop) → Prop} (h : RCok G r f) : R2ok G r fun d e k => f d e fun b => k (.bool b) := by
  intro F H v u d e k Q s p1 p2 w q
  exact h F H v u d e _ Q s p1 p2 w fun b kb => q _ _ _ _ kb .refl (.bl b)
theorem sd_cmp {op : CmpOp} {a b : Expr} {ca cb : C} {r : R2} {pos : Pos} (hK : X.K = G.K) (ho : OpR X (compareOp op) r) (hr : RCok G r (cmpW op)) (ha : Sd X G a ca) (hb : Sd X G b cb) (hm : behindInMarks op b = false) : Sd X G (.Compare a [op] [b] pos) (.cmp op ca cb) := by
  have hv : PE X (.Compare a [op] [b] pos) (tD G (W (.cmp op ca cb)).v) := (pe_cmpR ho ha.o hb.o hm).imp fun σ H Q h => op2 hr.two ha.o hb.o σ H Q h
  refine ⟨hv, so_of (fun i z => nomatch z) hv, ?_, fun z => nomatch z⟩
  refine (pt_cmpR ho ha.o hb.o hm).imp fun σ H Q h => ?_
  obtain ⟨F, O, ρ, L, K, S, w, q⟩ := h
  have w : opC ca ρ fun x ρ1 => opC cb ρ1 fun y ρ2 => x.on ρ2 fun d => y.on ρ2 fun e => cmpW op d e fun r => K r ρ2 := w
  refine ⟨F, O, ρ, L, _, S, w, fun x ρ1 v H1 F1 O1 w1 S1 m1 r1 => ?_⟩
  refine ⟨F1, O1, ρ1, L, _, S1, w1, fun y ρ2 u H2 F2 O2 w2 S2 m2 r2 => ?_⟩
  obtain ⟨d, p1, w2⟩ := S2.on (r1.mono m2) w2
  obtain ⟨d', p2, w2⟩ := S2.on r2 w2
  exact hr F2 H2 v u d d' _ _ S2.sub p1 p2 w2 fun b k => ⟨b, rfl, q b ρ2 H2 F2 O2 k S2 (m1.trans m2)⟩
theorem rc_lt : RCok G (rI0 fun i j => .bl (decide (i < j))) (cmpW .Lt) := by
  intro F H v u d e k Q s p1 p2 h q
  simp only [cmpW] at h
  split at h
  · obtain rfl := p1.int
    obtain rfl := p2.int
    exact ⟨_, _, rfl, rfl, q _ h⟩
  · exact h.elim
theorem rc_le : RCok G (rI0 fun i j => .bl (decide (i ≤ j))) (cmpW .LtE) := by
  intro F H v u d e k Q s p1 p2 h q
  simp only [cmpW] at h
  split at h
  · obtain rfl := p1.int
    obtain rfl := p2.int
    exact ⟨_, _, rfl, rfl, q _ h⟩
  · exact h.elim
theorem rc_gt : RCok G (rI0 fun i j => .bl (decide (j < i))) (cmpW .Gt) := by
  intro F H v u d e k Q s p1 p2 h q
  simp only [cmpW] at h
  split at h
  · obtain rfl := p1.int
    obtain rfl := p2.int
    exact ⟨_, _, rfl, rfl, q _ h⟩
  · exact h.elim
theorem rc_ge : RCok G (rI0 fun i j => .bl (decide (j ≤ i))) (cmpW .GtE) := by
  intro F H v u d e k Q s p1 p2 h q
  simp only [cmpW] at h
  split at h
  · obtain rfl := p1.int
    obtain rfl := p2.int
    exact ⟨_, _, rfl, rfl, q _ h⟩
  · exact h.elim
theorem rc_is : RCok G (fun x y H Q => y = .non ∧ Q (.bl (decide (x = .non))) H) (cmpW .Is) := by
  intro F H v u d e k Q s p1 p2 h q
  simp only [cmpW] at h
  split at h
  · refine ⟨p2.none, ?_⟩
    cases d with
    | none => rw [p1.none]; exact q _ h
    | _ =>
      rw [show decide (v = V.non) = false from decide_eq_false fun z => by
        subst z
        rcases p1 with p | ⟨a, z, _⟩
        · cases p
        · cases z]
      exact q _ h
  · exact h.elim
theorem rc_isnot : RCok G (fun x y H Q => y = .non ∧ Q (.bl (!decide (x = .non))) H) (cmpW .IsNot) := by
  intro F H v u d e k Q s p1 p2 h q
  simp only [cmpW] at h
  split at h
  · refine ⟨p2.none, ?_⟩
    cases d with
    | none => rw [p1.none]; exact q _ h
    | _ =>
      rw [show decide (v = V.non) = false from decide_eq_false fun z => by
        subst z
        rcases p1 with p | ⟨a, z, _⟩
        · cases p
        · cases z]
      exact q _ h
  · exact h.elim
end
section
variable {K : PySem.W.Frag} {F H : Hp}
mutual
theorem Rp.dp (s : Same F H) : ∀ (d : PyData) (v : V), Rp K F v d → d.canLay0 = true → Dp K H v d
  | .none, _, h, _ => by cases h; exact .non
  | .bool b, _, h, _ => by cases h; exact .bl b
  | .int i, _, h, _ => by cases h; exact .int i
  | .str x, _, h, _ => by cases h; exact .str x
  | .list ds, _, h, n => by
    cases h with
    | lst hs ha hl => exact .lst (.of (s _ _ hs)) (RpAll.dp s ds _ ha (by simpa [PyData.canLay0] using n))
  | .tuple ds, _, h, n => by
    cases h with
    | tup hs ha hl => exact .tup (sqT_mono s hs) (RpAll.dp s ds _ ha (by simpa [PyData.canLay0] using n))
  | .dict es, _, h, n => by simp [PyData.canLay0] at n
theorem RpAll.dp (s : Same F H) : ∀ (ds : List PyData) (vs : List V), RpAll K F vs ds → PyData.canLayAll0 ds = true → DpAll K H vs ds
  | [], _, h, _ => by cases h; exact .nil
  | d :: ds, _, h, n => by
    simp only [PyData.canLayAll0, Bool.and_eq_true] at n
    cases h with
    | cons h1 h2 => exact .cons (Rp.dp s d _ h1 n.1) (RpAll.dp s ds _ h2 n.2)
end
theorem Pk.dp {v : V} {d : PyData} (s : Same F H) (p : Pk K F H v d) (n : d.canLay0 = true) : Dp K H v d := by
  rcases p with p | ⟨a, rfl, p⟩
  · exact Rp.dp s d v p n
  · cases d with
    | list ds =>
      obtain ⟨xs, h1, h2, h3⟩ := p
      exact .lst (.of h1) (RpAll.dp s ds _ h2 (by simpa [PyData.canLay0] using n))
    | dict es => simp [PyData.canLay0] at n
    | _ => exact (p : False).elim
end
section
variable {X : Cx} {G : Gh}
def rEqA (K : PySem.W.Frag) : R2 := fun x y H Q => rEq x y H Q ∨ rEqD K x y H Q
def rNeA (K : PySem.W.Frag) : R2 := fun x y H Q => rNe x y H Q ∨ rNeD K x y H Q
theorem op_eqA (hu : X.A.units + 64 < cLine) : OpR X (compareOp .Eq) (rEqA X.K) := OpR.or op_eq (op_eqD hu)
theorem op_neA (hu : X.A.units + 64 < cLine) : OpR X (compareOp .NotEq) (rNeA X.K) := OpR.or op_ne (op_neD hu)
theorem dec_int' (i j : Int) : decide (V.int i = V.int j) = decide (i = j) := by
  by_cases h : i = j
  · subst h; simp
  · rw [decide_eq_false h, decide_eq_false fun z => h (V.int.inj z)]
theorem dec_bl' (i j : Bool) : decide (V.bl i = V.bl j) = decide (i = j) := by
  by_cases h : i = j
  · subst h; simp
  · rw [decide_eq_false h, decide_eq_false fun z => h (V.bl.inj z)]
theorem dec_str' (i j : Str) : decide (V.str i = V.str j) = decide (i = j) := by
  by_cases h : i = j
  · subst h; simp
  · rw [decide_eq_false h, decide_eq_false fun z => h (V.str.inj z)]
theorem rc_eq : RCok G (rEqA G.K) (cmpW .Eq) := by
  intro F H v u d e k Q s p1 p2 h q
  simp only [cmpW] at h
  split at h
  · obtain rfl := p1.int
    obtain rfl := p2.int
    exact .inl ⟨rfl, by rw [dec_int']; exact q _ h⟩
  · obtain rfl := p1.bool
    obtain rfl := p2.bool
    exact .inl ⟨rfl, by rw [dec_bl']; exact q _ h⟩
  · obtain rfl := p1.str
    obtain rfl := p2.str
    exact .inl ⟨rfl, by rw [dec_str']; exact q _ h⟩
  · obtain ⟨h1, h2, h3⟩ := h
    exact .inr ⟨_, _, p1.dp s (SeqAt.canLay_of_shaped h1), p2.dp s (SeqAt.canLay_of_shaped h2), h1, h2, q _ h3⟩
theorem rc_ne : RCok G (rNeA G.K) (cmpW .NotEq) := by
  intro F H v u d e k Q s p1 p2 h q
  simp only [cmpW] at h
  split at h
  · obtain rfl := p1.int
    obtain rfl := p2.int
    exact .inl ⟨rfl, by rw [dec_int']; exact q _ h⟩
  · obtain rfl := p1.bool
    obtain rfl := p2.bool
    exact .inl ⟨rfl, by rw [dec_bl']; exact q _ h⟩
  · obtain rfl := p1.str
    obtain rfl := p2.str
    exact .inl ⟨rfl, by rw [dec_str']; exact q _ h⟩
  · obtain ⟨h1, h2, h3⟩ := h
    exact .inr ⟨_, _, p1.dp s (SeqAt.canLay_of_shaped h1), p2.dp s (SeqAt.canLay_of_shaped h2), h1, h2, q _ h3⟩
end
end Vs

set_option maxHeartbeats 4000000
/-! VE: items, slices, displays, built-in functions. -/
namespace Vs
open PySem L2

section
variable {X : Cx} {G : Gh}
/-! ### items -/
def rIxD2 (K : PySem.W.Frag) : R2 := fun x y H Q => rIxL K x y H Q ∨ rIxT K x y H Q
theorem ix_D : IxR X (rIxD2 X.K) := ix_list.or ix_tup
theorem r2_idx : R2ok G (rIxD2 G.K) idxW := by
  intro F H v u d e k Q s p1 p2 h q
  unfold idxW at h
  split at h
  · obtain ⟨a, vs, rfl, e1, r1, l1⟩ := p1.lst s
    obtain rfl := p2.int
    obtain ⟨d, h1, h2⟩ := h
    obtain ⟨w, h3, h4⟩ := r1.atI h1
    exact .inl ⟨a, vs, _, w, rfl, rfl, .of e1, h3, q _ _ _ _ h2 .refl h4⟩
  · obtain ⟨a, vs, rfl, e1, r1, l1⟩ := p1.tup
    obtain rfl := p2.int
    obtain ⟨d, h1, h2⟩ := h
    obtain ⟨w, h3, h4⟩ := r1.atI h1
    exact .inr ⟨a, vs, _, w, rfl, rfl, sqT_mono s e1, h3, q _ _ _ _ h2 .refl h4⟩
  · exact h.elim
theorem sd_idx {a b : Expr} {ca cb : C} {pos : Pos} (hK : X.K = G.K) (ha : Sd X G a ca) (hb : Sd X G b cb) (hs : PlainIx b) : Sd X G (.Subscript a b pos) (.idx ca cb) :=
  Sd.of_v hK rfl (fun i z => nomatch z) rfl rfl ((pe_ix (hK ▸ ix_D) ha.o hb.o hs).imp fun σ H Q h => op2 r2_idx ha.o hb.o σ H Q h)
/-! ### slices -/
/-- a slice's part -/
def tP (G : Gh) (w : Env → (Option Int → Env → Prop) → Prop) : TO := fun σ H Q => ∃ F O ρ L K, SR G F O ρ σ H L ∧ w ρ K ∧ ∀ o ρ' H' F' O', K o ρ' → SR G F' O' ρ' σ H' L → Same F F' → Q o H'
theorem _root_.L2.PO.imp {e : Option Expr} {t t' : TO} (h : PO X e t) (i : ∀ σ H Q, t' σ H Q → t σ H Q) : PO X e t' := ⟨fun pins s σ H Q I w => h.run pins s σ H Q I (i σ H Q w)⟩
theorem sp_no : PO X none (tP G (Wpart .no)) := po_none.imp fun σ H Q ⟨F, O, ρ, L, K, S, w, q⟩ => q none ρ H F O w S (Same.refl _)
theorem sp_one {e : Expr} {c : C} (h : Sd X G e c) : PO X (some e) (tP G (Wpart (.one c))) := by
  refine (po_some h.v).imp fun σ H Q ⟨F, O, ρ, L, K, S, w, q⟩ => ?_
  refine ⟨F, O, ρ, L, _, S, w, fun d ρ' v H' F' O' k S' m r => ?_⟩
  split at k
  · cases r
    exact ⟨_, rfl, q _ ρ' H' F' O' k S' m⟩
  · exact k.elim
def rSlD (K : PySem.W.Frag) : V → Option Int → Option Int → Hp → VK → Prop := fun x lo hi H Q => rSlL K x lo hi H Q ∨ rSlA K x lo hi H Q
theorem sl_D : SlR X (rSlD X.K) := sl_list.or sl_tupA
theorem sIx_le (n : Nat) (lo : Option Int) : HT.sIx n 0 lo ≤ n := by
  cases lo with
  | none => exact Nat.zero_le _
  | some i => unfold HT.sIx; dsimp only; split <;> omega
theorem RpAll.cut {K : PySem.W.Frag} {F : Hp} {xs : List V} {ds : List PyData} (r : RpAll K F xs ds) (lo hi : Option Int) : RpAll K F (cutV xs lo hi) (cutD ds lo hi) := by
  unfold cutV cutD
  rw [r.length]
  exact (r.drop _).take _
theorem cutD_length (xs : List PyData) (lo hi : Option Int) : (cutD xs lo hi).length ≤ xs.length := by
  unfold cutD
  rw [List.length_take, List.length_drop]
  omega
theorem cutD_whole {xs : List PyData} {lo hi : Option Int} (h : HT.sIx xs.length 0 lo = 0 ∧ HT.sIx xs.length xs.length hi = xs.length) : cutD xs lo hi = xs := by
  unfold cutD
  rw [h.1, h.2]
  simp
theorem sd_sli {a : Expr} {ca : C} {lo hi : Option Expr} {cl ch : Co} {pos p2 : Pos} (hK : X.K = G.K) (ha : Sd X G a ca) (hl : PO X lo (tP G (Wpart cl))) (hh : PO X hi (tP G (Wpart ch))) : Sd X G (.Subscript a (.Slice lo hi none p2) pos) (.sli ca cl ch) := by
  refine Sd.of_v hK rfl (fun i z => nomatch z) rfl rfl ((pe_slice (hK ▸ sl_D) ha.o hl hh).imp fun σ H Q h => ?_)
  obtain ⟨F, O, ρ, L, K, S, w, q⟩ := h
  refine ⟨F, O, ρ, L, _, S, w, fun x ρ1 v H1 F1 O1 w1 S1 m1 r1 => ?_⟩
  refine ⟨F1, O1, ρ1, L, _, S1, w1, fun l ρ2 H2 F2 O2 w2 S2 m2 => ?_⟩
  refine ⟨F2, O2, ρ2, L, _, S2, w2, fun h ρ3 H3 F3 O3 w3 S3 m3 => ?_⟩
  obtain ⟨d, p, w3⟩ := S3.on (r1.mono (m2.trans m3)) w3
  have s := S3.sub
  have m := m1.trans (m2.trans m3)
  unfold sliW at w3
  split at w3
  · obtain ⟨a', vs, rfl, e1, r1, l1⟩ := p.lst s
    refine .inl ⟨a', vs, rfl, .of e1, fun p hp => ?_⟩
    exact q _ ρ3 _ _ _ _ w3 (S3.alloc hp) (m.trans (same_upd (s.free hp))) (rp_lst (s.free hp) (r1.cut l h) (Nat.le_trans (cutD_length _ _ _) (by rw [← line_eq]; exact l1)))
  · obtain ⟨a', vs, rfl, e1, r1, l1⟩ := p.tup
    refine .inr ⟨a', vs, rfl, sqT_mono s e1, fun hw => ?_, fun hw p hp => ?_⟩
    · rw [r1.length] at hw
      rw [cutD_whole hw] at w3
      exact q _ ρ3 _ _ _ _ w3 S3 m (.tup e1 r1 l1)
    · exact q _ ρ3 _ _ _ _ w3 (S3.alloc hp) (m.trans (same_upd (s.free hp))) (rp_tup (s.free hp) (r1.cut l h) (Nat.le_trans (cutD_length _ _ _) (by rw [← line_eq]; exact l1)))
  · exact w3.elim
/-! ### lists of expressions -/
/-- values -/
def tDs (G : Gh) (n : Nat) (w : Env → (List PyData → Env → Prop) → Prop) : TA := fun σ H Q => ∃ F O ρ L K, SR G F O ρ σ H L ∧ w ρ K ∧ ∀ ds ρ' vs H' F' O', K ds ρ' → SR G F' O' ρ' σ H' L → Same F F' → RpAll G.K F' vs ds → ds.length = n → Q vs H'
/-- operands -/
inductive OpAll (K : PySem.W.Frag) (F : Hp) (σ : St) : List V → List Opd → Prop
  | nil : OpAll K F σ [] []
  | cons {v : V} {vs : List V} {x : Opd} {xs : List Opd} : OpRel K F σ v x → OpAll K F σ vs xs → OpAll K F σ (v :: vs) (x :: xs)
def tOs (G : Gh) (w : Env → (List Opd → Env → Prop) → Prop) : TA := fun σ H Q => ∃ F O ρ L K, SR G F O ρ σ H L ∧ w ρ K ∧ ∀ xs ρ' vs H' F' O', K xs ρ' → SR G F' O' ρ' σ H' L → Same F F' → OpAll G.K F' σ vs xs → Q vs H'
/-- no star -/
def noStar : Expr → Bool
  | .Starred _ _ => false
  | _ => true
theorem star_each {e : Expr} {es : List Expr} {env : PySem.Env} (h : noStar e = true) : starEach (e :: es) env = (false, eval e env) :: starEach es env := by
  cases e <;> first | rfl | exact Bool.noConfusion h
theorem sds_nil : PA X [] (tDs G 0 (Ws .nil)) := pa_nil.imp fun σ H Q ⟨F, O, ρ, L, K, S, w, q⟩ => q [] ρ [] H F O w S (Same.refl _) .nil rfl
theorem sds_cons {e : Expr} {es : List Expr} {c : C} {cs : Cs} {n : Nat} (hs : noStar e = true) (h : Sd X G e c) (hr : PA X es (tDs G n (Ws cs))) : PA X (e :: es) (tDs G (n + 1) (Ws (.cons c cs))) := by
  refine (pa_cons h.v hr (star_each hs)).imp fun σ H Q ⟨F, O, ρ, L, K, S, w, q⟩ => ?_
  refine ⟨F, O, ρ, L, _, S, w, fun d ρ1 v H1 F1 O1 k1 S1 m1 r1 => ?_⟩
  refine ⟨F1, O1, ρ1, L, _, S1, k1, fun ds ρ2 vs H2 F2 O2 k2 S2 m2 r2 l2 => ?_⟩
  exact q (d :: ds) ρ2 (v :: vs) H2 F2 O2 k2 S2 (m1.trans m2) (.cons (Rp.mono m2 _ _ r1) r2) (by rw [List.length_cons, l2])
theorem sos_nil : PA X [] (tOs G (Wo .nil)) := pa_nil.imp fun σ H Q ⟨F, O, ρ, L, K, S, w, q⟩ => q [] ρ [] H F O w S (Same.refl _) .nil
theorem sos_cons {e : Expr} {es : List Expr} {c : C} {cs : Cs} (hs : noStar e = true) (h : Sd X G e c) (hr : PA X es (tOs G (Wo cs))) : PA X (e :: es) (tOs G (Wo (.cons c cs))) := by
  refine (pa_cons h.o hr (star_each hs)).imp fun σ H Q ⟨F, O, ρ, L, K, S, w, q⟩ => ?_
  have w : opC c ρ fun x ρ1 => Wo cs ρ1 fun xs ρ2 => K (x :: xs) ρ2 := w
  refine ⟨F, O, ρ, L, _, S, w, fun d ρ1 v H1 F1 O1 k1 S1 m1 r1 => ?_⟩
  refine ⟨F1, O1, ρ1, L, _, S1, k1, fun ds ρ2 vs H2 F2 O2 k2 S2 m2 r2 => ?_⟩
  exact q (d :: ds) ρ2 (v :: vs) H2 F2 O2 k2 S2 (m1.trans m2) (.cons (r1.mono m2) r2)
/-! ### displays -/
theorem sd_tup {es : List Expr} {cs : Cs} {k n : Nat} {pos : Pos} (hK : X.K = G.K) (hl : n ≤ 16777216) (h : PA X es (tDs G n (Ws cs))) : Sd X G (.Tuple es k pos) (.tup cs) := by
  refine Sd.of_v hK rfl (fun i z => nomatch z) rfl rfl ((pe_tup h).imp fun σ H Q ⟨F, O, ρ, L, K, S, w, q⟩ => ?_)
  refine ⟨F, O, ρ, L, _, S, w, fun ds ρ1 vs H1 F1 O1 k1 S1 m1 r1 l1 => ?_⟩
  refine ⟨by rw [r1.length, l1, line_eq]; exact hl, fun p hp => ?_⟩
  exact q _ ρ1 _ _ _ _ k1 (S1.alloc hp) (m1.trans (same_upd (S1.sub.free hp))) (rp_tup (S1.sub.free hp) r1 (by rw [l1]; exact hl))
theorem own_lst {K : PySem.W.Frag} {F H : Hp} {p : Addr} {xs : List V} {ds : List PyData} (r : RpAll K F xs ds) (l : ds.length ≤ 16777216) : OwnAt K F (upd H p (.lst xs)) p (.list ds) := ⟨xs, upd_same, r, by rw [line_eq]; exact l⟩
theorem sd_lst {es : List Expr} {cs : Cs} {n : Nat} {pos : Pos} (hK : X.K = G.K) (hl : n ≤ 16777216) (h : PA X es (tDs G n (Ws cs))) : Sd X G (.List es pos) (.lst cs) := by
  refine Sd.of_f hK rfl (fun i z => nomatch z) rfl ((pe_lst h).imp fun σ H Q ⟨F, O, ρ, L, K, S, w, q⟩ => ?_)
  refine ⟨F, O, ρ, L, _, S, w, fun ds ρ1 vs H1 F1 O1 k1 S1 m1 r1 l1 => ?_⟩
  refine ⟨by rw [r1.length, l1, line_eq]; exact hl, fun p hp => ?_⟩
  obtain ⟨O2, S2⟩ := S1.allocL (o := .lst vs) (d := .list ds) hp (own_lst r1 (by rw [l1]; exact hl))
  exact q _ ρ1 p _ _ O2 k1 S2 m1
/-! ### built-in functions -/
/-- a built-in function of operands: what it asks, what it gives -/
def BiOk (G : Gh) (b : Bi) (r : List V → Hp → VK → Prop) : Prop :=
  ∀ (F H : Hp) (vs : List V) (ds : List PyData) (k : PyData → Prop) (Q : VK), Same F H → (∀ i : Nat, ∀ v d, vs[i]? = some v → ds[i]? = some d → Pk G.K F H v d) → vs.length = ds.length → biW b ds k → (∀ d' w F' H', k d' → Grown F H F' H' → Rp G.K F' w d' → Q w H') → r vs H Q
theorem on_all {F H : Hp} {O : Ow} {ρ : Env} {σ : St} {L : List (Addr × PyData)} (S : SR G F O ρ σ H L) : ∀ {xs : List Opd} {vs : List V} {k : List PyData → Prop}, OpAll G.K F σ vs xs → onAll xs ρ k →
    ∃ ds, (∀ i : Nat, ∀ v d, vs[i]? = some v → ds[i]? = some d → Pk G.K F H v d) ∧ vs.length = ds.length ∧ k ds
  | [], _, k, .nil, h => ⟨[], fun i v d e => by simp at e, rfl, h⟩
  | x :: xs, _, k, .cons (v := v) (vs := vs) r rr, h => by
    have h : x.on ρ fun d => onAll xs ρ fun ds => k (d :: ds) := h
    obtain ⟨d, p, h⟩ := S.on r h
    obtain ⟨ds, ps, l, h⟩ := on_all S rr h
    refine ⟨d :: ds, fun i v' d' e1 e2 => ?_, by simp [l], h⟩
    cases i with
    | zero =>
      simp at e1 e2
      subst e1 e2
      exact p
    | succ i => exact ps i v' d' (by simpa using e1) (by simpa using e2)
theorem sd_bi {b : Bi} {id : String} {x : Str} {e : Expr} {es : List Expr} {cs : Cs} {r : List V → Hp → VK → Prop} {p pos : Pos} (hK : X.K = G.K) (hb : BiOk G b r) (hf : (C.bi b cs).fresh = false) (h : ∀ t : TA, PA X (e :: es) t → PE X (.Call (.Name x p) (e :: es) [] pos) (tCB r t)) (ha : PA X (e :: es) (tOs G (Wo cs))) :
    Sd X G (.Call (.Name x p) (e :: es) [] pos) (.bi b cs) := by
  refine Sd.of_v hK rfl (fun i z => nomatch z) hf rfl ((h _ ha).imp fun σ H Q ⟨F, O, ρ, L, K, S, w, q⟩ => ?_)
  refine ⟨F, O, ρ, L, _, S, w, fun xs ρ1 vs H1 F1 O1 k1 S1 m1 r1 => ?_⟩
  obtain ⟨ds, ps, l, k1⟩ := on_all S1 r1 k1
  refine hb F1 H1 vs ds _ Q S1.sub ps l k1 fun d' w' F2 H2 k2 g rp => ?_
  exact q d' ρ1 w' H2 F2 O1 k2 (S1.grown g) (m1.trans (g.same S1.sub)) rp
/-- .. whose result is a new object -/
def BiNew (G : Gh) (b : Bi) (r : List V → Hp → VK → Prop) : Prop :=
  ∀ (F H : Hp) (vs : List V) (ds : List PyData) (k : PyData → Prop) (Q : VK), Same F H → (∀ i : Nat, ∀ v d, vs[i]? = some v → ds[i]? = some d → Pk G.K F H v d) → vs.length = ds.length → biW b ds k → (∀ d' p o, k d' → H p = none → OwnAt G.K F (upd H p o) p d' → Q (.ref p) (upd H p o)) → r vs H Q
theorem sd_biN {b : Bi} {x : Str} {e : Expr} {es : List Expr} {cs : Cs} {r : List V → Hp → VK → Prop} {p pos : Pos} (hK : X.K = G.K) (hb : BiNew G b r) (h : ∀ t : TA, PA X (e :: es) t → PE X (.Call (.Name x p) (e :: es) [] pos) (tCB r t)) (ha : PA X (e :: es) (tOs G (Wo cs))) :
    Sd X G (.Call (.Name x p) (e :: es) [] pos) (.bi b cs) := by
  refine Sd.of_f hK rfl (fun i z => nomatch z) rfl ((h _ ha).imp fun σ H Q ⟨F, O, ρ, L, K, S, w, q⟩ => ?_)
  refine ⟨F, O, ρ, L, _, S, w, fun xs ρ1 vs H1 F1 O1 k1 S1 m1 r1 => ?_⟩
  obtain ⟨ds, ps, l, k1⟩ := on_all S1 r1 k1
  refine hb F1 H1 vs ds _ Q S1.sub ps l k1 fun d' p o k2 hp ho => ?_
  obtain ⟨O2, S2⟩ := S1.allocL hp ho
  exact q d' ρ1 p _ F1 O2 k2 S2 m1
theorem one_of {vs : List V} {d : PyData} {K : PySem.W.Frag} {F H : Hp} (ps : ∀ i : Nat, ∀ v d', vs[i]? = some v → [d][i]? = some d' → Pk K F H v d') (l : vs.length = [d].length) : ∃ v, vs = [v] ∧ Pk K F H v d := by
  match vs, l with
  | [v], _ => exact ⟨v, rfl, ps 0 v d rfl rfl⟩
def rLenD (K : PySem.W.Frag) : List V → Hp → VK → Prop := fun xs H Q => (∃ x n, xs = [x] ∧ LenV K x H n ∧ Q (.int n) H) ∨ ∃ a kvs, xs = [.ref a] ∧ Rd H a (.dK kvs) ∧ Q (.int kvs.length) H
theorem call_lenRd : CallR X (.builtin "len") (fun xs H Q => ∃ a kvs, xs = [V.ref a] ∧ Rd H a (.dK kvs) ∧ Q (.int kvs.length) H) := by
  intro pins s σ H xs us Q I r h
  obtain ⟨a, kvs, rfl, hd, q⟩ := h
  obtain ⟨u, rfl, rx⟩ := vals1 r
  cases rx
  exact d_len I hd fun t s' I' => ⟨.int kvs.length, H, I', ⟨t, rfl⟩, q⟩
theorem call_lenDD : CallR X (.builtin "len") (rLenD X.K) := call_len.or call_lenRd
theorem bi_len : BiOk G .len (rLenD G.K) := by
  intro F H vs ds k Q s ps l h q
  simp only [biW] at h
  split at h
  · obtain ⟨v, rfl, p⟩ := one_of ps l
    obtain ⟨a, xs, rfl, e, r, _⟩ := p.lst s
    exact .inl ⟨_, _, rfl, .inl ⟨xs, .of e, rfl⟩, by rw [r.length]; exact q _ _ _ _ h .refl (.int _)⟩
  · obtain ⟨v, rfl, p⟩ := one_of ps l
    obtain ⟨a, xs, rfl, e, r, _⟩ := p.tup
    exact .inl ⟨_, _, rfl, .inr ⟨xs, sqT_mono s e, rfl⟩, by rw [r.length]; exact q _ _ _ _ h .refl (.int _)⟩
  · obtain ⟨v, rfl, p⟩ := one_of ps l
    obtain ⟨a, kvs, rfl, e, r⟩ := p.dct s
    exact .inr ⟨a, kvs, rfl, e, by rw [r.length]; exact q _ _ _ _ h .refl (.int _)⟩
  · exact h.elim
theorem bi_sum : BiOk G .sum (rSum G.K) := by
  intro F H vs ds k Q s ps l h q
  simp only [biW] at h
  split at h
  · obtain ⟨v, rfl, p⟩ := one_of ps l
    obtain ⟨a, xs, rfl, e, r, _⟩ := p.lst s
    obtain ⟨ns, rfl, h⟩ := h
    obtain rfl := r.ints
    exact ⟨a, ns, rfl, .of e, q _ _ _ _ h .refl (.int _)⟩
  · exact h.elim
theorem bi_max : BiOk G .max (rMax G.K) := by
  intro F H vs ds k Q s ps l h q
  simp only [biW] at h
  split at h
  · obtain ⟨v, rfl, p⟩ := one_of ps l
    obtain ⟨a, xs, rfl, e, r, _⟩ := p.lst s
    obtain ⟨ns, rfl, h1, h⟩ := h
    obtain rfl := r.ints
    exact ⟨a, ns, rfl, .of e, h1, fun m h2 h3 => q _ _ _ _ (h m h2 h3) .refl (.int _)⟩
  · exact h.elim
theorem bi_min : BiOk G .min (rMin G.K) := by
  intro F H vs ds k Q s ps l h q
  simp only [biW] at h
  split at h
  · obtain ⟨v, rfl, p⟩ := one_of ps l
    obtain ⟨a, xs, rfl, e, r, _⟩ := p.lst s
    obtain ⟨ns, rfl, h1, h⟩ := h
    obtain rfl := r.ints
    exact ⟨a, ns, rfl, .of e, h1, fun m h2 h3 => q _ _ _ _ (h m h2 h3) .refl (.int _)⟩
  · exact h.elim
theorem two_of {vs : List V} {d e : PyData} {K : PySem.W.Frag} {F H : Hp} (ps : ∀ i : Nat, ∀ v d', vs[i]? = some v → [d, e][i]? = some d' → Pk K F H v d') (l : vs.length = [d, e].length) : ∃ v u, vs = [v, u] ∧ Pk K F H v d ∧ Pk K F H u e := by
  match vs, l with
  | [v, u], _ => exact ⟨v, u, rfl, ps 0 v d rfl rfl, ps 1 u e rfl rfl⟩
theorem bi_max2 : BiOk G .max2 (fun xs H Q => ∃ i j, xs = [.int i, .int j] ∧ Q (.int (if j > i then j else i)) H) := by
  intro F H vs ds k Q s ps l h q
  simp only [biW] at h
  split at h
  · obtain ⟨v, u, rfl, p1, p2⟩ := two_of ps l
    obtain rfl := p1.int
    obtain rfl := p2.int
    exact ⟨_, _, rfl, q _ _ _ _ h .refl (.int _)⟩
  · exact h.elim
theorem bi_min2 : BiOk G .min2 (fun xs H Q => ∃ i j, xs = [.int i, .int j] ∧ Q (.int (if j < i then j else i)) H) := by
  intro F H vs ds k Q s ps l h q
  simp only [biW] at h
  split at h
  · obtain ⟨v, u, rfl, p1, p2⟩ := two_of ps l
    obtain rfl := p1.int
    obtain rfl := p2.int
    exact ⟨_, _, rfl, q _ _ _ _ h .refl (.int _)⟩
  · exact h.elim
theorem bi_abs : BiOk G .abs (fun xs H Q => ∃ i, xs = [.int i] ∧ Q (.int (if i < 0 then -i else i)) H) := by
  intro F H vs ds k Q s ps l h q
  simp only [biW] at h
  split at h
  · obtain ⟨v, rfl, p⟩ := one_of ps l
    obtain rfl := p.int
    exact ⟨_, rfl, q _ _ _ _ h .refl (.int _)⟩
  · exact h.elim
theorem bi_tuple : BiOk G .tuple (fun xs H Q => ∃ p ys, xs = [.ref p] ∧ ((SqL G.K H p ys ∧ ∀ l, H l = none → Q (.ref l) (upd H l (.tup ys))) ∨ (SqT G.K H p ys ∧ Q (.ref p) H))) := by
  intro F H vs ds k Q s ps l h q
  simp only [biW] at h
  split at h
  · obtain ⟨v, rfl, p⟩ := one_of ps l
    obtain ⟨a, xs, rfl, e, r, l1⟩ := p.lst s
    exact ⟨a, xs, rfl, .inl ⟨.of e, fun p hp => q _ _ _ _ h (.new hp) (rp_tup (s.free hp) r (by rw [← line_eq]; exact l1))⟩⟩
  · obtain ⟨v, rfl, p⟩ := one_of ps l
    obtain ⟨a, xs, rfl, e, r, l1⟩ := p.tup
    exact ⟨a, xs, rfl, .inr ⟨sqT_mono s e, q _ _ _ _ h .refl (.tup e r l1)⟩⟩
  · exact h.elim
theorem bi_list : BiNew G .list (fun xs H Q => ∃ p ys, xs = [.ref p] ∧ (SqL G.K H p ys ∨ SqT G.K H p ys) ∧ ∀ l, H l = none → Q (.ref l) (upd H l (.lst ys))) := by
  intro F H vs ds k Q s ps l h q
  simp only [biW] at h
  split at h
  · obtain ⟨v, rfl, p⟩ := one_of ps l
    obtain ⟨a, xs, rfl, e, r, l1⟩ := p.lst s
    exact ⟨a, xs, rfl, .inl (.of e), fun p hp => q _ _ _ h hp (own_lst r (by rw [← line_eq]; exact l1))⟩
  · obtain ⟨v, rfl, p⟩ := one_of ps l
    obtain ⟨a, xs, rfl, e, r, l1⟩ := p.tup
    exact ⟨a, xs, rfl, .inr (sqT_mono s e), fun p hp => q _ _ _ h hp (own_lst r (by rw [← line_eq]; exact l1))⟩
  · exact h.elim
theorem bi_int : BiOk G .int (fun xs H Q => (∃ i, xs = [.int i] ∧ Q (.int i) H) ∨ ∃ k, xs = [.bl k] ∧ Q (.int (if k then 1 else 0)) H) := by
  intro F H vs ds k Q s ps l h q
  simp only [biW] at h
  split at h
  · obtain ⟨v, rfl, p⟩ := one_of ps l
    obtain rfl := p.int
    exact .inl ⟨_, rfl, q _ _ _ _ h .refl (.int _)⟩
  · obtain ⟨v, rfl, p⟩ := one_of ps l
    obtain rfl := p.bool
    exact .inr ⟨_, rfl, q _ _ _ _ h .refl (.int _)⟩
  · exact h.elim
theorem bi_all : BiOk G .all (rAll G.K) := by
  intro F H vs ds k Q s ps l h q
  simp only [biW] at h
  split at h
  · obtain ⟨v, rfl, p⟩ := one_of ps l
    obtain ⟨a, xs, rfl, e, r, _⟩ := p.lst s
    obtain ⟨bs, rfl, h⟩ := h
    obtain rfl := r.bools
    exact ⟨a, bs, rfl, .of e, q _ _ _ _ h .refl (.bl _)⟩
  · exact h.elim
theorem bi_any : BiOk G .any (rAny G.K) := by
  intro F H vs ds k Q s ps l h q
  simp only [biW] at h
  split at h
  · obtain ⟨v, rfl, p⟩ := one_of ps l
    obtain ⟨a, xs, rfl, e, r, _⟩ := p.lst s
    obtain ⟨bs, rfl, h⟩ := h
    obtain rfl := r.bools
    exact ⟨a, bs, rfl, .of e, q _ _ _ _ h .refl (.bl _)⟩
  · exact h.elim
/-- repr of data at any depth -/
def rRepr (K : PySem.W.Frag) : List V → Hp → VK → Prop := fun xs H Q => ∃ x d, xs = [x] ∧ Dp K H x d ∧ d.showable = true ∧ SeqAt.shaped d = true ∧ d.shown.length ≤ 16777216 ∧ Q (.str d.shown) H
theorem bi_repr : BiOk G .repr (rRepr G.K) := by
  intro F H vs ds k Q s ps l h q
  simp only [biW] at h
  split at h
  · obtain ⟨v, rfl, p⟩ := one_of ps l
    obtain ⟨⟨h1, h2, h3⟩, h⟩ := h
    exact ⟨v, _, rfl, p.dp s (SeqAt.canLay_of_shaped h2), h1, h2, h3, q _ _ _ _ h .refl (.str _)⟩
  · exact h.elim
end
end Vs

set_option maxHeartbeats 4000000
/-! VF: repr, isinstance, dicts, sorted(set(..)). -/
namespace Vs
open PySem L2

section
variable {X : Cx} {G : Gh}
theorem call_reprD (hg : X.A.guards = some []) (hu : X.A.units + 70 < cLine) : CallR X (.builtin "repr") (rRepr X.K) := by
  intro pins s σ H xs us Q I r h
  obtain ⟨x, d, rfl, dp, h1, h2, h3, q⟩ := h
  obtain ⟨u, rfl, ru⟩ := vals1 r
  have hz : d.shown.length ≤ sizeLine := by rw [line_eq]; exact h3
  obtain ⟨as, rd⟩ := Dp.reads I d x u dp ru
  have hdep := SeqAt.depth_of_shaped h2
  have hnd := PyData.hasDict_of_canLay d (SeqAt.canLay_of_shaped h2)
  have seen : ∀ {a : Addr} {d : PyData}, u = .ref a → Reads s.heap u d as → d.showable = true → d.depth ≤ 64 → d.hasDict = false → d.shown.length ≤ sizeLine → Q (.str d.shown) H → wpAny (model X.prog X.w) X.A (call (.builtin "repr") [u]) (EP X pins σ Q) X.xe s := by
    intro a d e rd h1 hdep hnd hz q
    subst e
    refine repr_of_reads' rd h1 (fun z => by rw [hnd] at z; cases z) hg (by omega) (fun b o e => e) (fun h' u' tk hk => ?_) hz
    exact ⟨.str d.shown, H, I.kept (t' := tk) hk, ⟨_, rfl⟩, q⟩
  cases dp with
  | non =>
    obtain rfl : u = Value.none := ru
    refine P.repr_of_none ⟨.str "None", H, I.tok _, ⟨_, rfl⟩, ?_⟩
    rw [PyData.shown_none] at q
    exact q
  | bl b =>
    obtain rfl : u = Value.bool b := ru
    refine P.repr_of_bool ⟨.str (if b then "True" else "False"), H, I.tok _, ⟨_, rfl⟩, ?_⟩
    rw [PyData.shown_bool] at q
    exact q
  | int i =>
    obtain ⟨t, rfl⟩ := ru
    refine P.repr_of_int (by simpa [PyData.showable] using h1) ⟨.str (toString i), H, I.tok _, ⟨_, rfl⟩, ?_⟩
    rw [PyData.shown_int] at q
    exact q
  | str y =>
    obtain ⟨t, rfl⟩ := ru
    refine P.repr_of_str ⟨.str (reprText y), H, I.tok _, ⟨_, rfl⟩, ?_⟩ (by rw [PyData.shown_str] at hz; exact hz)
    rw [PyData.shown_str] at q
    exact q
  | lst e r => exact seen (show u = Value.ref _ from ru) rd h1 hdep hnd hz q
  | tup e r => exact seen (show u = Value.ref _ from ru) rd h1 hdep hnd hz q
/-! ### isinstance -/
def tyD : PyData → String
  | .none => "NoneType"
  | .bool _ => "bool"
  | .int _ => "int"
  | .str _ => "str"
  | .list _ => "list"
  | .tuple _ => "tuple"
  | .dict _ => "dict"
theorem tyx_of {K : PySem.W.Frag} {F H : Hp} {v : V} {d : PyData} (s : Same F H) (p : Pk K F H v d) : TyX K H v (.type (tyD d)) := by
  cases d with
  | none => rw [p.none]; exact .base .non
  | bool b => rw [p.bool]; exact .base (.bl b)
  | int i => rw [p.int]; exact .base (.int i)
  | str x => rw [p.str]; exact .base (.str x)
  | list ds =>
    obtain ⟨a, xs, rfl, e, _⟩ := p.lst s
    exact .base (.lst e)
  | tuple ds =>
    obtain ⟨a, xs, rfl, e, _⟩ := p.tup
    rcases sqT_mono s e with (e | ⟨o, e⟩) | ⟨o, its, n, e, c, _⟩
    · exact .base (.tup e)
    · exact .fTuple e
    · exact .kTuple e c
  | dict es =>
    obtain ⟨a, kvs, rfl, e, _⟩ := p.dct s
    rcases e with e | ⟨o, e⟩
    · exact .base (.dK e)
    · exact .fDict e
/-- the six types that are asked for -/
def askedTy : List String := ["int", "bool", "str", "list", "tuple", "dict"]
theorem kitB_all : ∀ ty ∈ askedTy, ∀ t ∈ ["NoneType", "bool", "int", "str", "list", "tuple", "dict"], kitB t ty = some (t == ty || (t == "bool" && ty == "int")) := by decide +kernel
theorem kitB_of {ty : String} (h : ty ∈ askedTy) (d : PyData) : kitB (tyD d) ty = some (isTB ty d) := by
  have q := kitB_all ty h (tyD d) (by cases d <;> simp [tyD])
  rw [q]
  congr 1
  simp only [askedTy, List.mem_cons, List.not_mem_nil, or_false] at h
  rcases h with rfl | rfl | rfl | rfl | rfl | rfl <;> cases d <;> rfl
theorem sd_isT {e : Expr} {c : C} {ty : String} {x : Str} {p p2 pos : Pos} (hK : X.K = G.K) (h : Sd X G e c) (hs : noStar e = true) (hg : Gl X "isinstance") (hm : X.mg "isinstance" = none) (hg2 : Gl X x) (hm2 : X.mg x = none) (hb : bootBuiltins x = some (.type ty)) (hn : x ≠ "__name__") (hd : (x == ("__debug__" : Str)) = false) (hty : ty ∈ askedTy) :
    Sd X G (.Call (.Name "isinstance" p) [e, .Name x p2] [] pos) (.isT ty c) := by
  refine Sd.of_v hK rfl (fun i z => nomatch z) rfl rfl ((pe_callB call_isi hg hm (by decide +kernel) (pa_cons h.o (pa_cons (pe_bltn (v := .ty ty) hg2 hm2 hb rfl hn hd) pa_nil) (star_each hs)) (he := star_each hs)).imp fun σ H Q ⟨F, O, ρ, L, K, S, w, q⟩ => ?_)
  refine ⟨F, O, ρ, L, _, S, w, fun o ρ1 v H1 F1 O1 k1 S1 m1 r1 => ?_⟩
  obtain ⟨d, p, k1⟩ := S1.on r1 k1
  refine ⟨v, .ty ty, _, _, _, rfl, .ty ty, ?_, kit_ty (kitB_of hty d), q _ ρ1 _ H1 F1 O1 k1 S1 m1 (.bl _)⟩
  rw [hK]
  exact tyx_of S1.sub p
/-! ### dicts -/
inductive RpK (K : PySem.W.Frag) (F : Hp) : List (Key × V) → List (Key × PyData) → Prop
  | nil : RpK K F [] []
  | cons {k : Key} {v : V} {d : PyData} {kvs : List (Key × V)} {kds : List (Key × PyData)} : Rp K F v d → RpK K F kvs kds → RpK K F ((k, v) :: kvs) ((k, d) :: kds)
theorem RpK.kv {K : PySem.W.Frag} {F : Hp} : ∀ {kvs : List (Key × V)} {kds : List (Key × PyData)}, RpK K F kvs kds → RpKv K F kvs (encK kds)
  | _, _, .nil => .nil
  | _, _, .cons r t => .cons r (RpK.kv t)
theorem keyD_inj {a b : Key} (h : keyD a = keyD b) : a = b := by
  cases a <;> cases b <;> simp [keyD] at h <;> simp [h]
theorem RpK.of_kv {K : PySem.W.Frag} {F : Hp} : ∀ {kds : List (Key × PyData)} {kvs : List (Key × V)}, RpKv K F kvs (encK kds) → RpK K F kvs kds
  | [], _, h => by
    have h : RpKv K F _ [] := h
    cases h
    exact .nil
  | (k, d) :: kds, _, h => by
    have h : RpKv K F _ ((keyD k, d) :: encK kds) := h
    generalize e : keyD k = dk at h
    cases h with
    | cons h1 h2 =>
      have := keyD_inj e
      subst this
      exact .cons h1 (RpK.of_kv h2)
theorem RpKv.keys {K : PySem.W.Frag} {F : Hp} : ∀ {es : List (PyData × PyData)} {kvs : List (Key × V)}, RpKv K F kvs es → ∃ kds, es = encK kds ∧ RpK K F kvs kds
  | [], _, h => by cases h; exact ⟨[], rfl, .nil⟩
  | e :: es, _, h => by
    cases h with
    | cons h1 h2 =>
      obtain ⟨kds, rfl, h3⟩ := RpKv.keys h2
      exact ⟨(_, _) :: kds, rfl, .cons h1 h3⟩
theorem RpK.any {K : PySem.W.Frag} {F : Hp} {k : Key} : ∀ {kvs : List (Key × V)} {kds : List (Key × PyData)}, RpK K F kvs kds → (kvs.any fun p => decide (p.1 = k)) = (kds.any fun p => decide (p.1 = k))
  | _, _, .nil => rfl
  | _, _, .cons r t => by simp [RpK.any t]
theorem RpK.map {K : PySem.W.Frag} {F : Hp} {k : Key} {v : V} {d : PyData} (r : Rp K F v d) : ∀ {kvs : List (Key × V)} {kds : List (Key × PyData)}, RpK K F kvs kds → RpK K F (kvs.map fun p => if p.1 = k then (p.1, v) else p) (kds.map fun p => if p.1 = k then (p.1, d) else p)
  | _, _, .nil => .nil
  | _, _, .cons (k := k') r' t => by
    simp only [List.map_cons]
    by_cases h : k' = k
    · rw [if_pos h, if_pos h]; exact .cons r (RpK.map r t)
    · rw [if_neg h, if_neg h]; exact .cons r' (RpK.map r t)
theorem RpK.append {K : PySem.W.Frag} {F : Hp} : ∀ {a c : List (Key × V)} {b d : List (Key × PyData)}, RpK K F a b → RpK K F c d → RpK K F (a ++ c) (b ++ d)
  | _, _, _, _, .nil, h => h
  | _, _, _, _, .cons r t, h => .cons r (RpK.append t h)
theorem RpK.put {K : PySem.W.Frag} {F : Hp} {k : Key} {v : V} {d : PyData} {kvs : List (Key × V)} {kds : List (Key × PyData)} (h : RpK K F kvs kds) (r : Rp K F v d) : RpK K F (putK kvs k v) (putG kds k d) := by
  unfold putK putG
  rw [h.any]
  split
  · exact RpK.map r h
  · exact RpK.append h (.cons r .nil)
theorem RpK.merge {K : PySem.W.Frag} {F : Hp} : ∀ {more : List (Key × V)} {dm : List (Key × PyData)} {kvs : List (Key × V)} {kds : List (Key × PyData)}, RpK K F more dm → RpK K F kvs kds → RpK K F (mergeK kvs more) (mergeG kds dm)
  | _, _, _, _, .nil, h => h
  | _, _, _, _, .cons r t, h => by
    unfold mergeK mergeG
    simp only [List.foldl_cons]
    exact RpK.merge t (h.put r)
/-- dict(pairs) -/
theorem pairs_rel {K : PySem.W.Frag} {F : Hp} : ∀ {kds : List (Key × PyData)} {xs : List V}, RpAll K F xs (kds.map fun p => PyData.tuple [keyD p.1, p.2]) →
    ∃ ps kvs, xs = ps.map V.ref ∧ Paired (fun p (kv : Key × V) => SqT K F p [kV kv.1, kv.2]) ps kvs ∧ RpK K F kvs kds
  | [], _, h => by
    cases h
    exact ⟨[], [], rfl, .nil, .nil⟩
  | (k, d) :: kds, _, h => by
    have h : RpAll K F _ (PyData.tuple [keyD k, d] :: kds.map fun p => PyData.tuple [keyD p.1, p.2]) := h
    cases h with
    | cons h1 h2 =>
      obtain ⟨ps, kvs, rfl, h3, h4⟩ := pairs_rel h2
      generalize e : PyData.tuple [keyD k, d] = dd at h1
      cases h1 with
      | tup a b l =>
        injection e with e
        subst e
        cases b with
        | cons b1 b2 =>
          cases b2 with
          | cons b2 b3 =>
            cases b3
            have hk : ∀ {v : V}, Rp K F v (keyD k) → v = kV k := by
              intro v r
              cases k with
              | inl i => have r : Rp K F v (.int i) := r; cases r; rfl
              | inr x => have r : Rp K F v (.str x) := r; cases r; rfl
            obtain rfl := hk b1
            exact ⟨_ :: ps, (k, _) :: kvs, rfl, .cons a h3, .cons b2 h4⟩
      | _ => cases e
def rDictP (K : PySem.W.Frag) : List V → Hp → VK → Prop := fun xs H Q => ∃ (a : Addr) (ps : List Addr) (kvs : List (Key × V)), xs = [.ref a] ∧ SqL K H a (ps.map V.ref) ∧ Paired (fun p kv => SqT K H p [kV kv.1, kv.2]) ps kvs ∧
    ∀ p, H p = none → Q (.ref p) (upd H p (.dK (mergeK [] kvs)))
theorem bi_dict : BiNew G .dict (rDictP G.K) := by
  intro F H vs ds k Q s ps l h q
  simp only [biW] at h
  split at h
  · obtain ⟨v, rfl, p⟩ := one_of ps l
    obtain ⟨a, xs, rfl, e, r, l1⟩ := p.lst s
    obtain ⟨kds, rfl, h1, h⟩ := h
    obtain ⟨ps, kvs, rfl, h3, h4⟩ := pairs_rel r
    refine ⟨a, ps, kvs, rfl, .of e, Paired.mono (fun p kv z => sqT_mono s z) h3, fun p hp => q _ _ _ h hp ⟨_, upd_same, (RpK.merge h4 .nil).kv⟩⟩
  · exact h.elim
end
end Vs

set_option maxHeartbeats 4000000
/-! VG: targets, what is walked, comprehensions. -/
namespace Vs
open PySem L2

/-! ### slots emptied and put back -/
theorem wipeE_len (ρ : Env) : ∀ vs, (wipeE ρ vs).length = ρ.length
  | [] => rfl
  | v :: vs => by unfold wipeE; rw [List.length_set, wipeE_len ρ vs]
theorem wipeE_get (ρ : Env) (j : Nat) : ∀ vs, (wipeE ρ vs)[j]? = if j ∈ vs ∧ j < ρ.length then some none else ρ[j]?
  | [] => by simp [wipeE]
  | v :: vs => by
    unfold wipeE
    by_cases h : v = j
    · subst h
      by_cases hl : v < ρ.length
      · rw [List.getElem?_set_self (by rw [wipeE_len]; exact hl), if_pos ⟨by simp, hl⟩]
      · rw [List.getElem?_eq_none (by rw [List.length_set, wipeE_len]; omega), if_neg (fun z => hl z.2), List.getElem?_eq_none (by omega)]
    · rw [List.getElem?_set_ne h, wipeE_get ρ j vs]
      have : (j ∈ v :: vs ∧ j < ρ.length) ↔ (j ∈ vs ∧ j < ρ.length) := by
        constructor
        · rintro ⟨a, b⟩
          rcases List.mem_cons.mp a with z | z
          · exact absurd z.symm h
          · exact ⟨z, b⟩
        · rintro ⟨a, b⟩
          exact ⟨List.mem_cons_of_mem _ a, b⟩
      simp only [this]
theorem backE_len (ρ0 ρ : Env) : ∀ vs, (backE ρ0 ρ vs).length = ρ.length
  | [] => rfl
  | v :: vs => by unfold backE; rw [List.length_set, backE_len ρ0 ρ vs]
theorem backE_get (ρ0 ρ : Env) (j : Nat) : ∀ vs, (backE ρ0 ρ vs)[j]? = if j ∈ vs ∧ j < ρ.length then some (valOf ρ0 j) else ρ[j]?
  | [] => by simp [backE]
  | v :: vs => by
    unfold backE
    by_cases h : v = j
    · subst h
      by_cases hl : v < ρ.length
      · rw [List.getElem?_set_self (by rw [backE_len]; exact hl), if_pos ⟨by simp, hl⟩]
      · rw [List.getElem?_eq_none (by rw [List.length_set, backE_len]; omega), if_neg (fun z => hl z.2), List.getElem?_eq_none (by omega)]
    · rw [List.getElem?_set_ne h, backE_get ρ0 ρ j vs]
      have : (j ∈ v :: vs ∧ j < ρ.length) ↔ (j ∈ vs ∧ j < ρ.length) := by
        constructor
        · rintro ⟨a, b⟩
          rcases List.mem_cons.mp a with z | z
          · exact absurd z.symm h
          · exact ⟨z, b⟩
        · rintro ⟨a, b⟩
          exact ⟨List.mem_cons_of_mem _ a, b⟩
      simp only [this]
theorem wipe_eq_none {σ : St} {i : Nat} : ∀ {vs : List Nat}, i ∈ vs → i < σ.length → (wipe σ vs)[i]? = some none
  | v :: vs, hi, hl => by
    unfold wipe
    by_cases h : v = i
    · subst h
      rw [List.getElem?_set_self (by rw [wipe_length]; exact hl)]
    · rw [List.getElem?_set_ne h]
      rcases List.mem_cons.mp hi with z | z
      · exact absurd z.symm h
      · exact wipe_eq_none z hl
theorem list_ext {α : Type} {a b : List α} (h : ∀ i : Nat, a[i]? = b[i]?) : a = b := List.ext_getElem? h
theorem wipe_set {σ : St} {i : Nat} {x : Option V} {vs : List Nat} (hi : i ∈ vs) : wipe (σ.set i x) vs = wipe σ vs := by
  refine list_ext fun j => ?_
  by_cases hj : j ∈ vs
  · by_cases hl : j < σ.length
    · rw [wipe_eq_none hj (by simpa using hl), wipe_eq_none hj hl]
    · rw [List.getElem?_eq_none (by rw [wipe_length]; simp; omega), List.getElem?_eq_none (by rw [wipe_length]; omega)]
  · rw [wipe_out hj, wipe_out hj, List.getElem?_set_ne (fun z => hj (by rw [← z]; exact hi))]
theorem wipe_wipe {σ : St} {vs ws : List Nat} (h : ∀ i ∈ ws, i ∈ vs) : wipe (wipe σ ws) vs = wipe σ vs := by
  induction ws with
  | nil => rfl
  | cons w ws ih =>
    show wipe ((wipe σ ws).set w none) vs = wipe σ vs
    rw [wipe_set (h w (by simp)), ih fun i hi => h i (List.mem_cons_of_mem _ hi)]
section
variable {G : Gh} {F F1 : Hp} {O O1 : Ow} {ρ ρ1 : Env} {σ : St} {H H1 : Hp} {L L1 : List (Addr × PyData)}
theorem SR.wipe (S : SR G F O ρ σ H L) (vs : List Nat) : SR G F O (wipeE ρ vs) (L2.wipe σ vs) H L := by
  induction vs with
  | nil => exact S
  | cons v vs ih =>
    unfold wipeE L2.wipe
    exact (ih.forget v).sig v none fun s e => getElem?_set_none s e
/-- behind a block: its own slots as they stood ahead -/
theorem SR.back {vs : List Nat} (S : SR G F O ρ (L2.wipe σ vs) H L) (S1 : SR G F1 O1 ρ1 σ H1 L1) (m : Same F1 F) : SR G F O (backE ρ1 ρ vs) σ H L := by
  have hl : ρ.length = σ.length := by rw [S.len, wipe_length]
  refine ⟨S.sub, S.f0, S.fnew, S.keep, S.bs, by rw [backE_len]; exact hl, fun i d e => ?_, fun i d b e => ?_, S.loo, S.of⟩
  · rw [backE_get] at e
    split at e
    · unfold valOf at e
      split at e
      · next d' q =>
        cases e
        obtain ⟨v, h1, h2⟩ := S1.val i _ q
        exact ⟨v, h1, Rp.mono m _ _ h2⟩
      · cases e
    · next hn =>
      obtain ⟨v, h1, h2⟩ := S.val i d e
      have hi : i ∉ vs := fun z => hn ⟨z, (List.getElem?_eq_some_iff.mp e).1⟩
      rw [wipe_out hi] at h1
      exact ⟨v, h1, h2⟩
  · rw [backE_get] at e
    split at e
    · unfold valOf at e
      split at e <;> cases e
    · next hn =>
      obtain ⟨a, h1, h2⟩ := S.own i d b e
      have hi : i ∉ vs := fun z => hn ⟨z, (List.getElem?_eq_some_iff.mp e).1⟩
      rw [wipe_out hi] at h1
      exact ⟨a, h1, h2⟩
/-- the last loose object is changed -/
theorem SR.mutL {a : Addr} {d d' : PyData} {o : HO} (S : SR G F O ρ σ H (L ++ [(a, d)])) (ho : OwnAt G.K F (upd H a o) a d') : SR G F O ρ σ (upd H a o) (L ++ [(a, d')]) := by
  obtain ⟨t1, t2, t3⟩ := S.last
  have hb : a ∉ G.Bs := fun z => (S.bs a z).2 t3
  have hF : F a = none := (S.of a (by rw [t1]; simp)).1
  refine ⟨fun c u q => ?_, S.f0, S.fnew, fun c u q hb => ?_, fun c hc => ?_, S.len, S.val, fun j d2 b2 q => ?_, fun k c d2 q => ?_, fun c hc => ?_⟩
  · rw [upd_ne (ne_of_none q hF)]; exact S.sub _ _ q
  · have : c ≠ a := fun z => by subst z; rw [t3] at q; cases q
    rw [upd_ne this]; exact S.keep c u q hb
  · have : c ≠ a := fun z => by subst z; exact hb hc
    rw [upd_ne this]; exact S.bs c hc
  · obtain ⟨c, g1, g2, g3, g4⟩ := S.own j d2 b2 q
    have hc : c ≠ a := fun z => by subst z; rw [t1] at g2; cases g2
    exact ⟨c, g1, g2, g3.mono (Same.refl _) (upd_ne hc), g4⟩
  · by_cases hk : k < L.length
    · rw [List.getElem?_append_left hk] at q
      obtain ⟨hc, g1, g2, g3⟩ := S.loo' q
      exact ⟨g1, g2.mono (Same.refl _) (upd_ne hc), g3⟩
    · rw [List.getElem?_append_right (by omega)] at q
      have hk2 : k - L.length = 0 := by
        by_cases hz : k - L.length = 0
        · exact hz
        · rw [List.getElem?_eq_none (by simp; omega)] at q; cases q
      have : k = L.length := by omega
      subst this
      simp at q
      obtain ⟨rfl, rfl⟩ := q
      exact ⟨t1, ho, t3⟩
  · by_cases hp : c = a
    · subst hp; exact ⟨hF, by rw [upd_same]; simp⟩
    · rw [upd_ne hp]; exact S.of c hc
end

/-! ### targets -/
def tG (G : Gh) (t : Tg) : TG := fun v σ H Q => ∃ F O ρ L K d, SR G F O ρ σ H L ∧ Rp G.K F v d ∧ t.bind d ρ K ∧
  ∀ ρ' σ' H' F' O', K ρ' → SR G F' O' ρ' σ' H' L → Same F F' → (∀ vs, (∀ i ∈ t.slots, i ∈ vs) → wipe σ' vs = wipe σ vs) → Q σ' H'
section
variable {X : Cx} {G : Gh}
theorem _root_.L2.PG.imp {e : Expr} {t t' : TG} (h : PG X e t) (i : ∀ v σ H Q, t' v σ H Q → t v σ H Q) : PG X e t' := ⟨fun pins s σ H v u Q I r w => h.run pins s σ H v u Q I r (i v σ H Q w)⟩
theorem sg_one {e : Expr} {i : Nat} (h : PG X e (gName i)) : PG X e (tG G (.one i)) :=
  h.imp fun v σ H Q ⟨F, O, ρ, L, K, d, S, r, w, q⟩ => q _ _ H F O w.2 (S.store i r) (Same.refl _) fun vs hv => wipe_set (hv i (by simp [Tg.slots]))
/-- several names -/
def gNames : List Nat → TGs
  | [] => gNil
  | i :: is => gCons (gName i) (gNames is)
theorem gNames_run {F : Hp} {O : Ow} : ∀ {is : List Nat} {ds : List PyData} {xs : List V} {ρ : Env} {σ : St} {H : Hp} {L : List (Addr × PyData)} {Q : St → Hp → Prop}, SR G F O ρ σ H L → RpAll G.K F xs ds → ds.length = is.length →
    (∀ σ', SR G F O (putAll ρ is ds) σ' H L → (∀ vs, (∀ i ∈ is, i ∈ vs) → wipe σ' vs = wipe σ vs) → Q σ' H) → gNames is xs σ H Q
  | [], ds, xs, ρ, σ, H, L, Q, S, r, l, q => by
    cases r with
    | nil => exact ⟨rfl, q σ S fun vs _ => rfl⟩
    | cons _ _ => simp at l
  | i :: is, ds, xs, ρ, σ, H, L, Q, S, r, l, q => by
    cases r with
    | nil => simp at l
    | cons r1 r2 =>
      refine ⟨_, _, rfl, ?_⟩
      refine gNames_run (S.store i r1) r2 (by simpa using l) fun σ' S' hw => q σ' S' fun vs hv => ?_
      rw [hw vs fun j hj => hv j (List.mem_cons_of_mem _ hj), wipe_set (hv i (by simp))]
theorem sg_many {e : Expr} {is : List Nat} (hK : X.K = G.K) (h : PG X e (gTup X.K is.length (gNames is))) : PG X e (tG G (.many is)) := by
  refine h.imp fun v σ H Q ⟨F, O, ρ, L, K, d, S, r, w, q⟩ => ?_
  cases d with
  | tuple ds =>
    obtain ⟨w1, w2, w3, w4⟩ : ds.length = is.length ∧ (∀ i ∈ is, ρ.free i) ∧ is.Nodup ∧ K (putAll ρ is ds) := w
    cases r with
    | tup e r l =>
      refine ⟨_, _, rfl, hK ▸ sqT_mono S.sub e, by rw [r.length]; exact w1, ?_⟩
      exact gNames_run S r w1 fun σ' S' hw => q _ σ' H F O w4 S' (Same.refl _) hw
  | _ => exact (w : False).elim
end

/-! ### what is walked -/
structure Feeds (K : PySem.W.Frag) (F : Hp) (J : It) (ds : List PyData) : Prop where
  len : ds.length ≤ 16777216
  go : ∀ i H, Same F H → i < ds.length → J.go i H
  stop : ∀ H, Same F H → J.stop ds.length H
  yld : ∀ i H x H' F1, Same F F1 → Same F1 H → i < ds.length → J.yld i H x H' → ∃ d F2, ds[i]? = some d ∧ Grown F1 H F2 H' ∧ Rp K F2 x d
def tI (G : Gh) (w : Env → (List PyData → Env → Prop) → Prop) : TI := fun σ H R => ∃ F O ρ L K, SR G F O ρ σ H L ∧ w ρ K ∧ ∀ ds ρ' H' F' O' J, K ds ρ' → SR G F' O' ρ' σ H' L → Same F F' → Feeds G.K F' J ds → R J H'
section
variable {K : PySem.W.Frag} {F : Hp}
theorem feeds_list {a : Addr} {xs : List V} {ds : List PyData} (h : F a = some (.lst xs)) (r : RpAll K F xs ds) (l : ds.length ≤ sizeLine) : Feeds K F (Itl K a) ds := by
  have hl := r.length
  refine ⟨by rw [← line_eq]; exact l, fun i H m hi => ⟨xs, xs[i]'(by omega), .of (m _ _ h), by simp⟩, fun H m => ⟨xs, .of (m _ _ h), by omega⟩, fun i H x H' F1 m m1 hi y => ?_⟩
  obtain ⟨rfl, y⟩ := y
  obtain ⟨d, h1, h2⟩ := r.get (y xs (.of (m1 _ _ (m _ _ h))))
  exact ⟨d, F1, h1, .refl, Rp.mono m _ _ h2⟩
theorem feeds_tup {a : Addr} {xs : List V} {ds : List PyData} (h : SqT K F a xs) (r : RpAll K F xs ds) (l : ds.length ≤ sizeLine) : Feeds K F (Itt K a) ds := by
  have hl := r.length
  refine ⟨by rw [← line_eq]; exact l, fun i H m hi => ⟨xs, xs[i]'(by omega), sqT_mono m h, by simp⟩, fun H m => ⟨xs, sqT_mono m h, by omega⟩, fun i H x H' F1 m m1 hi y => ?_⟩
  obtain ⟨rfl, y⟩ := y
  obtain ⟨d, h1, h2⟩ := r.get (y xs (sqT_mono m1 (sqT_mono m h)))
  exact ⟨d, F1, h1, .refl, Rp.mono m _ _ h2⟩
theorem feeds_range {lo : Int} {n : Nat} (hn : n ≤ 16777216) : Feeds K F (Itr lo n) (rangeD lo n) := by
  have hl : (rangeD lo n).length = n := by simp [rangeD]
  refine ⟨by rw [hl]; exact hn, fun i H m hi => by rw [hl] at hi; exact hi, fun H m => by rw [hl]; exact Nat.le_refl n, fun i H x H' F1 m m1 hi y => ?_⟩
  rw [hl] at hi
  obtain ⟨rfl, rfl⟩ := y
  exact ⟨_, F1, by simp [rangeD, hi], .refl, .int _⟩
theorem RpK.keyAt : ∀ {kds : List (Key × PyData)} {kvs : List (Key × V)}, RpK K F kvs kds → ∀ {i : Nat} {k : Key} {v : V}, kvs[i]? = some (k, v) → ((encK kds).map (·.1))[i]? = some (keyD k)
  | _, _, .nil, i, k, v, h => by simp at h
  | _, _, .cons r t, 0, k, v, h => by
    simp at h
    obtain ⟨rfl, rfl⟩ := h
    rfl
  | _, _, .cons r t, i + 1, k, v, h => by
    have q := RpK.keyAt t (i := i) (k := k) (v := v) (by simpa using h)
    simpa [encK] using q
theorem RpKv.keyAt {es : List (PyData × PyData)} {kvs : List (Key × V)} (r : RpKv K F kvs es) {i : Nat} {k : Key} {v : V} (h : kvs[i]? = some (k, v)) : (es.map (·.1))[i]? = some (keyD k) := by
  obtain ⟨kds, rfl, r'⟩ := r.keys
  exact r'.keyAt h
theorem rp_key (k : Key) : Rp K F (kV k) (keyD k) := by
  cases k with
  | inl i => exact .int i
  | inr x => exact .str x
theorem feeds_keys {a : Addr} {o : Obj} {kvs : List (Key × V)} {es : List (PyData × PyData)} (h : F a = some (.frz o (.dK kvs))) (r : RpKv K F kvs es) (l : es.length ≤ 16777216) : Feeds K F (Itk a o kvs) (es.map (·.1)) := by
  have hl := r.length
  refine ⟨by simpa using l, fun i H m hi => ⟨m _ _ h, by simp at hi; omega⟩, fun H m => ⟨m _ _ h, by simp; omega⟩, fun i H x H' F1 m m1 hi y => ?_⟩
  obtain ⟨rfl, k, v, y1, rfl⟩ := y
  exact ⟨keyD k, F1, r.keyAt y1, .refl, rp_key k⟩
end
section
variable {X : Cx} {G : Gh} {tg : Expr}
/-- a list, a tuple, a locked dict, walked -/
theorem it_list {pins : List (Addr × Obj)} {s : Shared} {σ : St} {H : Hp} {R : It → Hp → Prop} {a : Addr} {xs : List V} (I : Inv X pins σ H s) (h : SqL X.K H a xs) (q : R (Itl X.K a) H) : wpAny (model X.prog X.w) X.A (pyIter (.ref a)) (PIE X pins σ tg R) X.xe s := by
  obtain ⟨its, rv, p, hz⟩ := I.list h
  refine wpAny_pyIter_list p.isList ⟨s.heap.objs.size, [s.heap.objs.size], _, _, H, rfl, I.kept (t' := s.toks) fun b o e => Heap.get?_push_of_some _ e, turn_list a _, ⟨_, Heap.get?_push_size _ rfl, rfl, rfl⟩, fun b hb => ?_, q⟩
  obtain rfl : b = s.heap.objs.size := by simpa using hb
  exact I.fpOk (Nat.le_refl _) (I.hok.fresh (Nat.le_refl _))
theorem it_tup {pins : List (Addr × Obj)} {s : Shared} {σ : St} {H : Hp} {R : It → Hp → Prop} {a : Addr} {xs : List V} (I : Inv X pins σ H s) (h : SqT X.K H a xs) (q : R (Itt X.K a) H) : wpAny (model X.prog X.w) X.A (pyIter (.ref a)) (PIE X pins σ tg R) X.xe s := by
  obtain ⟨its, rv, p, hz⟩ := I.tuple h
  refine wpAny_pyIter_tuple (show s.heap.IsTuple a its.toArray from p) ⟨s.heap.objs.size, [s.heap.objs.size], _, _, H, rfl, I.kept (t' := s.toks) fun b o e => Heap.get?_push_of_some _ e, turn_tuple a _, ⟨_, Heap.get?_push_size _ rfl, rfl, rfl⟩, fun b hb => ?_, q⟩
  obtain rfl : b = s.heap.objs.size := by simpa using hb
  exact I.fpOk (Nat.le_refl _) (I.hok.fresh (Nat.le_refl _))
theorem it_keys {pins : List (Addr × Obj)} {s : Shared} {σ : St} {H : Hp} {R : It → Hp → Prop} {d : Addr} {o : Obj} {kvs : List (Key × V)} (I : Inv X pins σ H s) (hd : H d = some (.frz o (.dK kvs))) (q : R (Itk d o kvs) H) : wpAny (model X.prog X.w) X.A (pyIter (.ref d)) (PIE X pins σ tg R) X.xe s := by
  obtain ⟨hs, hgd, hx, es, ep, vs, hdt, hsz, kv, hm⟩ := I.frzK hd
  refine iter_keys hs hgd hx hdt (pi_one (tk := s.toks) I _ (turn_keys _ hdt) ⟨_, Heap.get?_push_size _ rfl, rfl, ?_⟩ q)
  rw [hsz] <;> rfl
theorem frz_len {pins : List (Addr × Obj)} {s : Shared} {σ : St} {H : Hp} {d : Addr} {o : Obj} {kvs : List (Key × V)} (I : Inv X pins σ H s) (hd : H d = some (.frz o (.dK kvs))) : kvs.length ≤ 16777216 := by
  obtain ⟨_, z, _⟩ := I.hok d _ hd
  rw [line_eq] at z
  exact z
theorem si_seq {e : Expr} {c : C} (hK : X.K = G.K) (h : Sd X G e c) : PI X tg e (tI G (Wi (.seq c))) := by
  refine ⟨fun pins s σ H R I ⟨F, O, ρ, L, K, S, w, q⟩ => ?_⟩
  have w : (W c).v ρ fun d ρ1 => itemsW d fun ds => K ds ρ1 := w
  refine thn (h.v.run pins s σ H _ I ⟨F, O, ρ, L, _, S, w, fun d ρ1 v H1 F1 O1 k1 S1 m1 r1 => (⟨d, ρ1, F1, O1, k1, S1, m1, r1⟩ : ∃ d ρ1 F1 O1, (itemsW d fun ds => K ds ρ1) ∧ SR G F1 O1 ρ1 σ H1 L ∧ Same F F1 ∧ Rp G.K F1 v d)⟩) fun v s1 ⟨x, H1, I1, rx, d, ρ1, F1, O1, k1, S1, m1, r1⟩ => ?_
  unfold itemsW at k1
  split at k1
  · cases r1 with
    | lst e r l =>
      cases rx
      exact it_list I1 (.of (S1.sub _ _ e)) (q _ ρ1 H1 F1 O1 _ k1 S1 m1 (by rw [hK]; exact feeds_list e r l))
  · cases r1 with
    | tup e r l =>
      cases rx
      exact it_tup I1 (hK ▸ sqT_mono S1.sub e) (q _ ρ1 H1 F1 O1 _ k1 S1 m1 (by rw [hK]; exact feeds_tup e r l))
  · cases r1 with
    | dct e r =>
      cases rx
      have e' := S1.sub _ _ e
      exact it_keys I1 e' (q _ ρ1 H1 F1 O1 _ k1 S1 m1 (feeds_keys e r (by rw [← r.length]; exact frz_len I1 e')))
  · exact k1.elim
theorem si_range1 {a : Expr} {c : C} {p pos : Pos} (hg : Gl X "range") (hm : X.mg "range" = none) (hs : noStar a = true) (h : Sd X G a c) : PI X tg (.Call (.Name "range" p) [a] [] pos) (tI G (Wi (.range1 c))) := by
  refine (pi_range1 hg hm (pa_cons h.v pa_nil (star_each hs)) (star_each hs)).imp fun σ H R ⟨F, O, ρ, L, K, S, w, q⟩ => ?_
  refine ⟨F, O, ρ, L, _, S, w, fun d ρ1 v H1 F1 O1 k1 S1 m1 r1 => ?_⟩
  cases d with
  | int n =>
    cases r1
    obtain ⟨⟨k2, k3⟩, k4⟩ := k1
    exact ⟨n, rfl, k2, by omega, q _ ρ1 H1 F1 O1 _ k4 S1 m1 (feeds_range (by omega))⟩
  | _ => exact (k1 : False).elim
theorem si_range2 {a b : Expr} {c c2 : C} {p pos : Pos} (hg : Gl X "range") (hm : X.mg "range" = none) (hs : noStar a = true) (hs2 : noStar b = true) (h : Sd X G a c) (h2 : Sd X G b c2) : PI X tg (.Call (.Name "range" p) [a, b] [] pos) (tI G (Wi (.range2 c c2))) := by
  refine (pi_range2 hg hm (pa_cons h.v (pa_cons h2.v pa_nil (star_each hs2)) (star_each hs)) (by rw [star_each hs, star_each hs2]; rfl) (star_each hs2)).imp fun σ H R ⟨F, O, ρ, L, K, S, w, q⟩ => ?_
  refine ⟨F, O, ρ, L, _, S, w, fun d ρ1 v H1 F1 O1 k1 S1 m1 r1 => ?_⟩
  refine ⟨F1, O1, ρ1, L, _, S1, k1, fun d2 ρ2 v2 H2 F2 O2 k2 S2 m2 r2 => ?_⟩
  cases d with
  | int n =>
    cases d2 with
    | int n2 =>
      cases r1
      cases r2
      obtain ⟨⟨⟨a1, a2⟩, ⟨a3, a4⟩, a5⟩, k4⟩ := k2
      exact ⟨n, n2, rfl, ⟨a1, a2, a3, a4⟩, q _ ρ2 H2 F2 O2 _ k4 S2 (m1.trans m2) (feeds_range (by omega))⟩
    | _ => exact (k2 : False).elim
  | _ => exact (by cases d2 <;> exact (k2 : False).elim)
end
end Vs

set_option maxHeartbeats 4000000
/-! VH: comprehensions. -/
namespace Vs
open PySem L2

section
variable {X : Cx} {G : Gh}
theorem _root_.L2.PTs.imp {ifs : List Expr} {t t' : TT} (h : PTs X ifs t) (i : ∀ σ H Q, t' σ H Q → t σ H Q) : PTs X ifs t' := ⟨fun pins s σ H Q I w => h.run pins s σ H Q I (i σ H Q w)⟩
theorem sc_no : PTs X [] (tTs G (Wcond .no)) := pts_nil.imp fun σ H Q ⟨F, O, ρ, L, K, S, w, q⟩ => q true ρ H F O w S (Same.refl _)
theorem sc_one {e : Expr} {c : C} (h : Sd X G e c) : PTs X [e] (tTs G (Wcond (.one c))) := pts_one h.t

theorem own_len {K : PySem.W.Frag} {F H : Hp} {D : Addr} {acc : List PyData} (h : OwnAt K F H D (.list acc)) : ∃ xs, H D = some (.lst xs) ∧ RpAll K F xs acc ∧ acc.length ≤ sizeLine := h
theorem drop_cons {ds : List PyData} {i : Nat} {d : PyData} (h : ds[i]? = some d) : ds.drop i = d :: ds.drop (i + 1) := by
  obtain ⟨hi, e⟩ := List.getElem?_eq_some_iff.mp h
  rw [List.drop_eq_getElem_cons hi, e]

theorem lc_ok {vs : List Nat} {t : Tg} {it : Ci} {c : Co} {body : C} (hsub : ∀ i ∈ t.slots, i ∈ vs) (σ : St) (H : Hp) (Q : VK) (h : tF G (W (.comp vs t it c body)).v σ H Q) :
    tLc (tI G (Wi it)) (tG G t) (tTs G (Wcond c)) (tD G (W body).v) vs σ H Q := by
  obtain ⟨F, O, ρ, L, K, S, w, q⟩ := h
  refine ⟨F, O, ρ, L, _, S, w, fun ds ρ1 H1 F1 O1 J k1 S1 m1 fd => ?_⟩
  intro D hD
  have hfl := fd.len
  refine ⟨fun i m H => m = ds.length - i ∧ i ≤ ds.length ∧ ∃ F' O' ρ' acc, SR G F' O' ρ' (wipe σ vs) H (L ++ [(D, .list acc)]) ∧ Same F1 F' ∧ acc.length ≤ i ∧ compW vs t (Wcond c) (W body).v (ds.drop i) acc ρ' (fun rs ρ2 => K (.list rs) (backE ρ1 ρ2 vs)), ⟨ds.length, by simp, Nat.zero_le _, ?_⟩, ?_⟩
  · obtain ⟨O2, S2⟩ := (S1.wipe vs).allocL (o := .lst []) (d := .list []) hD ⟨[], upd_same, .nil, Nat.zero_le _⟩
    exact ⟨F1, O2, _, [], S2, Same.refl _, Nat.le_refl _, k1⟩
  · rintro i m H2 ⟨rfl, hi, F2, O2, ρ2, acc, S2, m2, la, k2⟩
    by_cases hlt : i < ds.length
    · refine .inr ⟨fd.go i H2 (m2.trans S2.sub) hlt, fun H' => ∃ F' O' ρ' acc, SR G F' O' ρ' (wipe σ vs) H' (L ++ [(D, .list acc)]) ∧ Same F1 F' ∧ acc.length ≤ i + 1 ∧ compW vs t (Wcond c) (W body).v (ds.drop (i + 1)) acc ρ' (fun rs ρ2 => K (.list rs) (backE ρ1 ρ2 vs)), fun H' nx => ⟨ds.length - (i + 1), by omega, rfl, hlt, nx⟩, fun x H3 y => ?_⟩
      obtain ⟨d, F3, e3, g3, r3⟩ := fd.yld i H2 x H3 F2 m2 S2.sub hlt y
      rw [drop_cons e3] at k2
      have S3 := S2.grown g3
      have m3 := m2.trans (g3.same S2.sub)
      refine ⟨F3, O2, ρ2, _, _, d, S3, r3, k2, fun ρ4 σ4 H4 F4 O4 k4 S4 m4 hw => ?_⟩
      have ew : wipe σ4 vs = wipe σ vs := by rw [hw vs hsub, wipe_wipe fun i hi => hi]
      refine ⟨ew, F4, O4, ρ4, _, _, S4, k4, fun b ρ5 H5 F5 O5 k5 S5 m5 => ?_⟩
      cases b with
      | true =>
        rw [if_pos rfl] at k5 ⊢
        refine ⟨F5, O5, ρ5, _, _, S5, k5, fun r ρ6 v H6 F6 O6 k6 S6 m6 r6 => ?_⟩
        obtain ⟨xs, e6, rx, lx⟩ := own_len S6.last.2.1
        have hx := rx.length
        refine ⟨xs, e6, by rw [line_eq]; omega, F6, O6, wipeE ρ6 vs, acc ++ [r], ?_, m3.trans (m4.trans (m5.trans m6)), by simp; omega, k6⟩
        have S7 := S6.mutL (o := .lst (xs ++ [v])) (d' := .list (acc ++ [r])) ⟨_, upd_same, rx.append (.cons r6 .nil), by rw [line_eq]; simp; omega⟩
        rw [← ew]
        exact S7.wipe vs
      | false =>
        rw [if_neg Bool.false_ne_true] at k5 ⊢
        refine ⟨F5, O5, wipeE ρ5 vs, acc, ?_, m3.trans (m4.trans m5), by omega, k5⟩
        rw [← ew]
        exact S5.wipe vs
    · have e : i = ds.length := by omega
      subst e
      rw [List.drop_length] at k2
      refine .inl ⟨fd.stop H2 (m2.trans S2.sub), ?_⟩
      exact q (.list acc) (backE ρ1 ρ2 vs) D H2 F2 O2 k2 (S2.back S1 m2) (m1.trans m2)
/-- [elt for t in iter if ..] -/
theorem sd_comp {elt tg iter : Expr} {ifs : List Expr} {scope : Scope} {own : List (Str × Nat)} {pos : Pos} {t : Tg} {it : Ci} {c : Co} {body : C} (hK : X.K = G.K) (hc : X.calm = true) (hN : X.N.Nodup) (hi : PI X tg iter (tI G (Wi it))) (ok : BlkOk X.N X.env.scope scope own) (hsub : ∀ i ∈ t.slots, i ∈ own.map (·.2))
    (hg : ∀ (s : Shared) (H : Hp) (C : Addr) (cl : List (Str × Addr)) (fp : List Addr), PG (X.blk s H scope (compEnvC scope cl C X.env) fp) tg (tG G t))
    (ht : ∀ (s : Shared) (H : Hp) (C : Addr) (cl : List (Str × Addr)) (fp : List Addr), PTs (X.blk s H scope (compEnvC scope cl C X.env) fp) ifs (tTs G (Wcond c)))
    (he : ∀ (s : Shared) (H : Hp) (C : Addr) (cl : List (Str × Addr)) (fp : List Addr), PE (X.blk s H scope (compEnvC scope cl C X.env) fp) elt (tD G (W body).v))
    (hs : ∀ x, foldedSetIterable iter X.env x = pure x) : Sd X G (.ListComp elt [⟨tg, iter, ifs, 0⟩] scope pos) (.comp (own.map (·.2)) t it c body) :=
  Sd.of_f hK rfl (fun i z => nomatch z) rfl ((pe_lc hc hN hi ok hg ht he hs).imp fun σ H Q h => lc_ok hsub σ H Q h)

/-! ### two clauses -/
theorem lc2_ok {vs : List Nat} {t t1 : Tg} {it it1 : Ci} {c c1 : Co} {body : C} (hsub : ∀ i ∈ t.slots, i ∈ vs) (hsub1 : ∀ i ∈ t1.slots, i ∈ vs) (σ : St) (H : Hp) (Q : VK) (h : tF G (W (.comp2 vs t it c t1 it1 c1 body)).v σ H Q) :
    tLc2 (tI G (Wi it)) (tG G t) (tTs G (Wcond c)) (tI G (Wi it1)) (tG G t1) (tTs G (Wcond c1)) (tD G (W body).v) vs t1.slots σ H Q := by
  obtain ⟨F, O, ρ, L, K, S, w, q⟩ := h
  refine ⟨F, O, ρ, L, _, S, w, fun ds ρ1 H1 F1 O1 J k1 S1 m1 fd => ?_⟩
  intro D hD
  have hfl := fd.len
  refine ⟨fun i m H => m = ds.length - i ∧ i ≤ ds.length ∧ ∃ F' O' ρ' acc, SR G F' O' ρ' (wipe σ vs) H (L ++ [(D, .list acc)]) ∧ Same F1 F' ∧ compW2 vs t (Wcond c) (Wi it1) t1 (Wcond c1) (W body).v (ds.drop i) acc ρ' (fun rs ρ2 => K (.list rs) (backE ρ1 ρ2 vs)), ⟨ds.length, by simp, Nat.zero_le _, ?_⟩, ?_⟩
  · obtain ⟨O2, S2⟩ := (S1.wipe vs).allocL (o := .lst []) (d := .list []) hD ⟨[], upd_same, .nil, Nat.zero_le _⟩
    exact ⟨F1, O2, _, [], S2, Same.refl _, k1⟩
  · rintro i m H2 ⟨rfl, hi, F2, O2, ρ2, acc, S2, m2, k2⟩
    by_cases hlt : i < ds.length
    · refine .inr ⟨fd.go i H2 (m2.trans S2.sub) hlt, fun H' => ∃ F' O' ρ' acc, SR G F' O' ρ' (wipe σ vs) H' (L ++ [(D, .list acc)]) ∧ Same F1 F' ∧ compW2 vs t (Wcond c) (Wi it1) t1 (Wcond c1) (W body).v (ds.drop (i + 1)) acc ρ' (fun rs ρ2 => K (.list rs) (backE ρ1 ρ2 vs)), fun H' nx => ⟨ds.length - (i + 1), by omega, rfl, hlt, nx⟩, fun x H3 y => ?_⟩
      obtain ⟨d, F3, e3, g3, r3⟩ := fd.yld i H2 x H3 F2 m2 S2.sub hlt y
      rw [drop_cons e3] at k2
      have S3 := S2.grown g3
      have m3 := m2.trans (g3.same S2.sub)
      refine ⟨F3, O2, ρ2, _, _, d, S3, r3, k2, fun ρ4 σ4 H4 F4 O4 k4 S4 m4 hw => ?_⟩
      have ew : wipe σ4 vs = wipe σ vs := by rw [hw vs hsub, wipe_wipe fun i hi => hi]
      refine ⟨ew, F4, O4, ρ4, _, _, S4, k4, fun b ρ5 H5 F5 O5 k5 S5 m5 => ?_⟩
      cases b with
      | true =>
        rw [if_pos rfl] at k5 ⊢
        refine ⟨F5, O5, ρ5, _, _, S5, k5, fun es ρ6 H6 F6 O6 J1 k6 S6 m6 fd1 => ?_⟩
        have mm := m3.trans (m4.trans (m5.trans m6))
        refine ⟨fun j m H => m = es.length - j ∧ j ≤ es.length ∧ ∃ F' O' ρ' acc, SR G F' O' ρ' (wipe σ4 t1.slots) H (L ++ [(D, .list acc)]) ∧ Same F6 F' ∧ compIn t1.slots t1 (Wcond c1) (W body).v (es.drop j) acc ρ' (fun acc' ρ4 => compW2 vs t (Wcond c) (Wi it1) t1 (Wcond c1) (W body).v (ds.drop (i + 1)) acc' (wipeE ρ4 vs) (fun rs ρ2 => K (.list rs) (backE ρ1 ρ2 vs))), ⟨es.length, by simp, Nat.zero_le _, ?_⟩, ?_⟩
        · exact ⟨F6, O6, _, acc, S6.wipe _, Same.refl _, k6⟩
        · rintro j m H7 ⟨rfl, hj, F7, O7, ρ7, acc7, S7, m7, k7⟩
          by_cases hlt1 : j < es.length
          · refine .inr ⟨fd1.go j H7 (m7.trans S7.sub) hlt1, fun H' => ∃ F' O' ρ' acc, SR G F' O' ρ' (wipe σ4 t1.slots) H' (L ++ [(D, .list acc)]) ∧ Same F6 F' ∧ compIn t1.slots t1 (Wcond c1) (W body).v (es.drop (j + 1)) acc ρ' (fun acc' ρ4 => compW2 vs t (Wcond c) (Wi it1) t1 (Wcond c1) (W body).v (ds.drop (i + 1)) acc' (wipeE ρ4 vs) (fun rs ρ2 => K (.list rs) (backE ρ1 ρ2 vs))), fun H' nx => ⟨es.length - (j + 1), by omega, rfl, hlt1, nx⟩, fun x1 H8 y1 => ?_⟩
            obtain ⟨d8, F8, e8, g8, r8⟩ := fd1.yld j H7 x1 H8 F7 m7 S7.sub hlt1 y1
            rw [drop_cons e8] at k7
            have S8 := S7.grown g8
            have m8 := m7.trans (g8.same S7.sub)
            refine ⟨F8, O7, ρ7, _, _, d8, S8, r8, k7, fun ρ9 σ9 H9 F9 O9 k9 S9 m9 hw9 => ?_⟩
            have ew9 : wipe σ9 t1.slots = wipe σ4 t1.slots := by rw [hw9 _ fun i hi => hi, wipe_wipe fun i hi => hi]
            refine ⟨ew9, F9, O9, ρ9, _, _, S9, k9, fun b1 ρa Ha Fa Oa ka Sa ma => ?_⟩
            cases b1 with
            | true =>
              rw [if_pos rfl] at ka ⊢
              refine ⟨Fa, Oa, ρa, _, _, Sa, ka, fun r ρb v Hb Fb Ob kb Sb mb rb => ?_⟩
              obtain ⟨lb, kb⟩ := kb
              obtain ⟨xs, eb, rx, lx⟩ := own_len Sb.last.2.1
              have hx := rx.length
              refine ⟨xs, eb, by rw [line_eq]; omega, Fb, Ob, wipeE ρb t1.slots, acc7 ++ [r], ?_, m8.trans (m9.trans (ma.trans mb)), kb⟩
              have Sc := Sb.mutL (o := .lst (xs ++ [v])) (d' := .list (acc7 ++ [r])) ⟨_, upd_same, rx.append (.cons rb .nil), by rw [line_eq]; simp; omega⟩
              rw [← ew9]
              exact Sc.wipe _
            | false =>
              rw [if_neg Bool.false_ne_true] at ka ⊢
              refine ⟨Fa, Oa, wipeE ρa t1.slots, acc7, ?_, m8.trans (m9.trans ma), ka⟩
              rw [← ew9]
              exact Sa.wipe _
          · have e : j = es.length := by omega
            subst e
            rw [List.drop_length] at k7
            refine .inl ⟨fd1.stop H7 (m7.trans S7.sub), F7, O7, wipeE ρ7 vs, acc7, ?_, mm.trans m7, k7⟩
            have Sx := S7.wipe vs
            rw [wipe_wipe (fun i hi => hsub1 i hi), ew] at Sx
            exact Sx
      | false =>
        rw [if_neg Bool.false_ne_true] at k5 ⊢
        refine ⟨F5, O5, wipeE ρ5 vs, acc, ?_, m3.trans (m4.trans m5), k5⟩
        rw [← ew]
        exact S5.wipe vs
    · have e : i = ds.length := by omega
      subst e
      rw [List.drop_length] at k2
      refine .inl ⟨fd.stop H2 (m2.trans S2.sub), ?_⟩
      exact q (.list acc) (backE ρ1 ρ2 vs) D H2 F2 O2 k2 (S2.back S1 m2) (m1.trans m2)
end
end Vs

set_option maxHeartbeats 4000000
/-! VX: list.extend by a tuple. -/
namespace Vs
open PySem L2
open Sem (wp)
theorem extend_tup (l : Addr) (items : Array Value) (n : Nat) (b : Addr) (dct : Option Addr) (sl : Array (Option Value)) (items2 : Array Value) (n2 : Nat) (hs0 : ¬(!items.isEmpty && Builtin.List.listTooLong (items.size + items2.size)) = true) (hs1 : items.size ≤ sizeLine) (hs2 : items.size + items2.size ≤ sizeLine + 1) :
    Meets (Builtin.«list.extend» ⟨[.ref l, .ref b], []⟩) (fun _ R s => s.heap.get? l = some { cls := .type "list", dict := none, data := .seq items n, slots := #[] } ∧ s.heap.get? b = some { cls := .type "tuple", dict := dct, data := .seq items2 n2, slots := sl } ∧ R (.ok (.ret Value.none)) { s with heap := s.heap.update l (Obj.mapSeq fun x => x ++ items2), toks := s.toks }) :=
  .of_wp fun prog w A R s h => by
    obtain ⟨hp, g, d, tk, os⟩ := s; obtain ⟨hl, hb, h⟩ := h
    have f1 := AutoSeq1.idx_int; have f2 := AutoSeq1.sub_tuple_tuple; have f3 := AutoSeq1.sub_list_list; have f4 := AutoSeq1.sub_tuple_list; have f5 := AutoSeq1.sub_list_tuple
    have hz' : (items ++ items2).size ≤ sizeLine + 1 := by rw [Array.size_append]; exact hs2
    wp_walk using (wpAny_updateSeq hl rfl (hz := hs1) (_hz' := hz')), AutoSeq1.wpAny_loadPart' hl, AutoSeq1.wpAny_loadPart' hb
    exact ⟨_, rfl, h⟩
section
variable {X : Cx} {G : Gh}
def rExtT (K : PySem.W.Frag) : V → List V → Hp → VK → Prop := fun x vs H Q => ∃ l b xs zs, x = .ref l ∧ vs = [.ref b] ∧ H l = some (.lst xs) ∧ SqT K H b zs ∧ xs.length + zs.length ≤ sizeLine ∧ Q .non (upd H l (.lst (xs ++ zs)))
theorem mt_extendT : MtR X "list.extend" (rExtT X.K) := by
  intro pins s σ H x vs v us Q I rx rv h
  obtain ⟨l, b, xs, zs, rfl, rfl, hH, hB, hz, q⟩ := h
  cases rx
  obtain ⟨u, rfl, ru⟩ := rv.one
  cases ru
  obtain ⟨z, its, n, r, hl, e⟩ := I.lstM hH
  obtain ⟨its2, r2, ⟨o, ho, hc, n2, hd⟩, z2⟩ := I.tuple hB
  obtain ⟨oc, od, dt, sl⟩ := o
  simp only at hc hd
  subst hc hd
  have hl2 := r2.length
  have hsz : its.toArray.size + its2.toArray.size ≤ sizeLine := by rw [List.size_toArray, List.size_toArray]; omega
  have hlong : ¬ (!its.toArray.isEmpty && Builtin.List.listTooLong (its.toArray.size + its2.toArray.size)) = true := by
    rw [notLongL hsz, Bool.and_false]
    exact Bool.false_ne_true
  refine call_meets F.slot_list_extend ⟨_, e, rfl⟩ F.entry_list_extend (F.args_list_extend_2 _ _)
    (extend_tup l its.toArray n b od sl its2.toArray n2 hlong (by rw [List.size_toArray]; omega) (by omega)) ⟨e, ho, ?_⟩
  refine ⟨.non, _, I.lset (its' := its ++ its2) hH e (by simp) (r.append r2) ?_, rfl, q⟩
  rw [List.length_append]
  omega
end
end Vs

set_option maxHeartbeats 4000000
/-! VI: statements. -/
namespace Vs
open PySem L2

/-- what is wanted over data, against what is wanted of the heap -/
structure Link (G : Gh) (fr : Bool) (F0 : Hp) (E : En) (D : Ends) : Prop where
  nx : ∀ ρ σ H F O, E.nx ρ → SR G F O ρ σ H [] → Same F0 F → D.nx σ H
  bk : ∀ ρ σ H F O, E.bk ρ → SR G F O ρ σ H [] → Same F0 F → D.bk σ H
  ct : ∀ ρ σ H F O, E.ct ρ → SR G F O ρ σ H [] → Same F0 F → D.ct σ H
  rt : fr = false → ∀ d ρ σ v H F O, E.rt d ρ → SR G F O ρ σ H [] → Rp G.K F v d → D.rt v H
  rf : fr = true → ∀ d ρ σ a H F O, E.rt d ρ → SR G F O ρ σ H [(a, d)] → D.rt (.ref a) H
def tS (G : Gh) (fr : Bool) (w : Env → En → Prop) : TS := fun D σ H => ∃ F O ρ E, SR G F O ρ σ H [] ∧ w ρ E ∧ Link G fr F E D
theorem Link.later {G : Gh} {fr : Bool} {F F1 : Hp} {E : En} {D : Ends} (k : Link G fr F E D) (m : Same F F1) : Link G fr F1 E D :=
  ⟨fun ρ σ H F' O h S m' => k.nx ρ σ H F' O h S (m.trans m'), fun ρ σ H F' O h S m' => k.bk ρ σ H F' O h S (m.trans m'), fun ρ σ H F' O h S m' => k.ct ρ σ H F' O h S (m.trans m'), k.rt, k.rf⟩

section
variable {X : Cx} {G : Gh} {fr : Bool}
theorem ss_nil : PSs X [] (tS G fr (WSs .nil)) := pss_nil.imp fun D σ H ⟨F, O, ρ, E, S, w, k⟩ => k.nx ρ σ H F O w S (Same.refl _)
theorem ss_cons {s : Stmt} {r : List Stmt} {c : S} {cs : Ss} (h : PS X s (tS G fr (WS c))) (hr : PSs X r (tS G fr (WSs cs))) : PSs X (s :: r) (tS G fr (WSs (.cons c cs))) := by
  refine (pss_cons h hr).imp fun D σ H ⟨F, O, ρ, E, S, w, k⟩ => ?_
  refine ⟨F, O, ρ, { E with nx := fun ρ1 => WSs cs ρ1 E }, S, w, fun ρ1 σ1 H1 F1 O1 h1 S1 m1 => ?_, k.bk, k.ct, k.rt, k.rf⟩
  exact ⟨F1, O1, ρ1, E, S1, h1, k.later m1⟩
/-! ### x = e -/
theorem set_run {i : Nat} {c : C} {σ : St} {H : Hp} {D : Ends} (h : tS G fr (WS (.set i c)) D σ H) :
    (c.fresh = false → tD G (W c).v σ H fun x H1 => gName i x σ H1 D.nx) ∧ (c.fresh = true → tF G (W c).v σ H fun x H1 => gName i x σ H1 D.nx) := by
  obtain ⟨F, O, ρ, E, S, w, k⟩ := h
  have w : (W c).v ρ fun d ρ1 => ρ1.free i ∧ E.nx (ρ1.set i (some (mkSlot c.fresh d))) := w
  refine ⟨fun hf => ?_, fun hf => ?_⟩
  · rw [hf] at w
    refine ⟨F, O, ρ, _, _, S, w, fun d ρ1 v H1 F1 O1 k1 S1 m1 r1 => ?_⟩
    exact k.nx _ _ H1 F1 O1 k1.2 (S1.store i r1) m1
  · rw [hf] at w
    refine ⟨F, O, ρ, [], _, S, w, fun d ρ1 a H1 F1 O1 k1 S1 m1 => ?_⟩
    obtain ⟨O2, S2⟩ := S1.storeOwn (L := []) i
    exact k.nx _ _ H1 F1 O2 k1.2 S2 m1
theorem ss_set {i : Nat} {x : Str} {e : Expr} {c : C} {py pos : Pos} (hN : X.N.Nodup) (hi : X.N[i]? = some x) (hx : Loc X.env.scope x) (hf : X.fn x = true ∨ X.env.scope.names.lookup x = some .local) (hs : swapsWith e (some (.Name x py)) pos.line X.env = pure false) (he : Sd X G e c) :
    PS X (.Assign [.Name x py] e pos) (tS G fr (WS (.set i c))) := by
  cases hfr : c.fresh with
  | false => exact (ps_set hN hi hx he.v hs hf).imp fun D σ H h => (set_run h).1 hfr
  | true => exact (ps_set hN hi hx (he.f hfr) hs hf).imp fun D σ H h => (set_run h).2 hfr
theorem ss_comp {i : Nat} {y : Str} {elt tg iter : Expr} {ifs : List Expr} {scope : Scope} {own : List (Str × Nat)} {pos spos py : Pos} {t : Tg} {it : Ci} {c : Co} {body : C} (hc : X.calm = true) (hN : X.N.Nodup) (hy : X.N[i]? = some y) (hyl : X.env.scope.names.lookup y = some .local)
    (hsw : swapsWith (.ListComp elt [⟨tg, iter, ifs, 0⟩] scope pos) (some (.Name y py)) spos.line X.env = pure true) (hi : PI X tg iter (tI G (Wi it))) (ok : BlkOk X.N X.env.scope scope own) (hsub : ∀ i ∈ t.slots, i ∈ own.map (·.2))
    (hg : ∀ (s : Shared) (H : Hp) (C : Addr) (cl : List (Str × Addr)) (fp : List Addr), PG (X.blk s H scope (compEnvC scope cl C X.env) fp) tg (tG G t))
    (ht : ∀ (s : Shared) (H : Hp) (C : Addr) (cl : List (Str × Addr)) (fp : List Addr), PTs (X.blk s H scope (compEnvC scope cl C X.env) fp) ifs (tTs G (Wcond c)))
    (he : ∀ (s : Shared) (H : Hp) (C : Addr) (cl : List (Str × Addr)) (fp : List Addr), PE (X.blk s H scope (compEnvC scope cl C X.env) fp) elt (tD G (W body).v))
    (hs : ∀ x, foldedSetIterable iter X.env x = pure x) : PS X (.Assign [.Name y py] (.ListComp elt [⟨tg, iter, ifs, 0⟩] scope pos) spos) (tS G fr (WS (.set i (.comp (own.map (·.2)) t it c body)))) :=
  (ps_setLc hc hN hy hyl hsw hi ok hg ht he hs).imp fun D σ H h => lc_ok hsub σ H _ ((set_run h).2 rfl)
theorem ss_comp2 {i : Nat} {y : Str} {elt tg iter tg1 iter1 : Expr} {ifs ifs1 : List Expr} {scope : Scope} {own : List (Str × Nat)} {pos spos py : Pos} {t t1 : Tg} {it it1 : Ci} {c c1 : Co} {body : C} (hc : X.calm = true) (hN : X.N.Nodup) (hy : X.N[i]? = some y) (hyl : X.env.scope.names.lookup y = some .local)
    (hsw : swapsWith (.ListComp elt [⟨tg, iter, ifs, 0⟩, ⟨tg1, iter1, ifs1, 0⟩] scope pos) (some (.Name y py)) spos.line X.env = pure true) (hi : PI X tg iter (tI G (Wi it))) (ok : BlkOk X.N X.env.scope scope own) (hsub : ∀ i ∈ t.slots, i ∈ own.map (·.2)) (hsub1 : ∀ i ∈ t1.slots, i ∈ own.map (·.2))
    (hg : ∀ (s : Shared) (H : Hp) (C : Addr) (cl : List (Str × Addr)) (fp : List Addr), PG (X.blk s H scope (compEnvC scope cl C X.env) fp) tg (tG G t))
    (ht : ∀ (s : Shared) (H : Hp) (C : Addr) (cl : List (Str × Addr)) (fp : List Addr), PTs (X.blk s H scope (compEnvC scope cl C X.env) fp) ifs (tTs G (Wcond c)))
    (hi1 : ∀ (s : Shared) (H : Hp) (C : Addr) (cl : List (Str × Addr)) (fp : List Addr), PI (X.blk s H scope (compEnvC scope cl C X.env) fp) tg1 iter1 (tI G (Wi it1)))
    (hg1 : ∀ (s : Shared) (H : Hp) (C : Addr) (cl : List (Str × Addr)) (fp : List Addr), PG (X.blk s H scope (compEnvC scope cl C X.env) fp) tg1 (tG G t1))
    (ht1 : ∀ (s : Shared) (H : Hp) (C : Addr) (cl : List (Str × Addr)) (fp : List Addr), PTs (X.blk s H scope (compEnvC scope cl C X.env) fp) ifs1 (tTs G (Wcond c1)))
    (he : ∀ (s : Shared) (H : Hp) (C : Addr) (cl : List (Str × Addr)) (fp : List Addr), PE (X.blk s H scope (compEnvC scope cl C X.env) fp) elt (tD G (W body).v))
    (hs : ∀ x, foldedSetIterable iter X.env x = pure x) (hs1 : ∀ env x, foldedSetIterable iter1 env x = pure x) : PS X (.Assign [.Name y py] (.ListComp elt [⟨tg, iter, ifs, 0⟩, ⟨tg1, iter1, ifs1, 0⟩] scope pos) spos) (tS G fr (WS (.set i (.comp2 (own.map (·.2)) t it c t1 it1 c1 body)))) :=
  (ps_setLc2 hc hN hy hyl hsw hi ok hsub1 hg ht hi1 hg1 ht1 he hs hs1).imp fun D σ H h => lc2_ok hsub hsub1 σ H _ ((set_run h).2 rfl)
theorem sd_comp2 {elt tg iter tg1 iter1 : Expr} {ifs ifs1 : List Expr} {scope : Scope} {own : List (Str × Nat)} {pos : Pos} {t t1 : Tg} {it it1 : Ci} {c c1 : Co} {body : C} (hK : X.K = G.K) (hc : X.calm = true) (hN : X.N.Nodup) (hi : PI X tg iter (tI G (Wi it))) (ok : BlkOk X.N X.env.scope scope own) (hsub : ∀ i ∈ t.slots, i ∈ own.map (·.2)) (hsub1 : ∀ i ∈ t1.slots, i ∈ own.map (·.2))
    (hg : ∀ (s : Shared) (H : Hp) (C : Addr) (cl : List (Str × Addr)) (fp : List Addr), PG (X.blk s H scope (compEnvC scope cl C X.env) fp) tg (tG G t))
    (ht : ∀ (s : Shared) (H : Hp) (C : Addr) (cl : List (Str × Addr)) (fp : List Addr), PTs (X.blk s H scope (compEnvC scope cl C X.env) fp) ifs (tTs G (Wcond c)))
    (hi1 : ∀ (s : Shared) (H : Hp) (C : Addr) (cl : List (Str × Addr)) (fp : List Addr), PI (X.blk s H scope (compEnvC scope cl C X.env) fp) tg1 iter1 (tI G (Wi it1)))
    (hg1 : ∀ (s : Shared) (H : Hp) (C : Addr) (cl : List (Str × Addr)) (fp : List Addr), PG (X.blk s H scope (compEnvC scope cl C X.env) fp) tg1 (tG G t1))
    (ht1 : ∀ (s : Shared) (H : Hp) (C : Addr) (cl : List (Str × Addr)) (fp : List Addr), PTs (X.blk s H scope (compEnvC scope cl C X.env) fp) ifs1 (tTs G (Wcond c1)))
    (he : ∀ (s : Shared) (H : Hp) (C : Addr) (cl : List (Str × Addr)) (fp : List Addr), PE (X.blk s H scope (compEnvC scope cl C X.env) fp) elt (tD G (W body).v))
    (hs : ∀ x, foldedSetIterable iter X.env x = pure x) (hs1 : ∀ env x, foldedSetIterable iter1 env x = pure x) : Sd X G (.ListComp elt [⟨tg, iter, ifs, 0⟩, ⟨tg1, iter1, ifs1, 0⟩] scope pos) (.comp2 (own.map (·.2)) t it c t1 it1 c1 body) :=
  Sd.of_f hK rfl (fun i z => nomatch z) rfl ((pe_lc2 hc hN hi ok hsub1 hg ht hi1 hg1 ht1 he hs hs1).imp fun σ H Q h => lc2_ok hsub hsub1 σ H Q h)
/-! ### a, b = e -/
theorem ss_unpack {e tge : Expr} {is : List Nat} {c : C} {pos : Pos} (he : Sd X G e c) (hg : PG X tge (tG G (.many is))) (hs : swapsWithSole [tge] e pos.line X.env = pure false) (hw : swappedStores [tge] e X.env = pure none) (h1 : (assignEach [tge] X.env).map (·.2) = [assign tge X.env]) :
    PS X (.Assign [tge] e pos) (tS G fr (WS (.unpack is c))) := by
  refine (ps_asg he.v hg hs hw h1).imp fun D σ H ⟨F, O, ρ, E, S, w, k⟩ => ?_
  refine ⟨F, O, ρ, _, _, S, w, fun d ρ1 v H1 F1 O1 k1 S1 m1 r1 => ?_⟩
  exact ⟨F1, O1, ρ1, _, _, d, S1, r1, k1, fun ρ2 σ2 H2 F2 O2 k2 S2 m2 hw => k.nx ρ2 σ2 H2 F2 O2 k2 S2 (m1.trans m2)⟩
/-! ### a, b = e1, e2 -/
/-- values and new objects side by side -/
inductive ParRel (K : PySem.W.Frag) (F : Hp) : List Bool → List V → List PyData → List (Addr × PyData) → Prop
  | nil : ParRel K F [] [] [] []
  | val {f v d fs vs ds ns} : f = false → Rp K F v d → ParRel K F fs vs ds ns → ParRel K F (f :: fs) (v :: vs) (d :: ds) ns
  | new {f a d fs vs ds ns} : f = true → ParRel K F fs vs ds ns → ParRel K F (f :: fs) (.ref a :: vs) (d :: ds) ((a, d) :: ns)
def tPar2 (G : Gh) (fs : List Bool) (w : Env → (List PyData → Env → Prop) → Prop) : TA := fun σ H Q => ∃ F O ρ L K, SR G F O ρ σ H L ∧ w ρ K ∧ ∀ ds ρ' vs H' F' O' ns, K ds ρ' → SR G F' O' ρ' σ H' (L ++ ns) → Same F F' → ParRel G.K F' fs vs ds ns → Q vs H'
theorem sp2_nil : PA X [] (tPar2 G [] (Ws .nil)) := pa_nil.imp fun σ H Q ⟨F, O, ρ, L, K, S, w, q⟩ => q [] ρ [] H F O [] w (by rw [List.append_nil]; exact S) (Same.refl _) .nil
theorem sp2_cons {e : Expr} {es : List Expr} {c : C} {cs : Cs} {fs : List Bool} (hs : noStar e = true) (h : Sd X G e c) (hr : PA X es (tPar2 G fs (Ws cs))) : PA X (e :: es) (tPar2 G (c.fresh :: fs) (Ws (.cons c cs))) := by
  cases hf : c.fresh with
  | false =>
    refine (pa_cons h.v hr (star_each hs)).imp fun σ H Q ⟨F, O, ρ, L, K, S, w, q⟩ => ?_
    refine ⟨F, O, ρ, L, _, S, w, fun d ρ1 v H1 F1 O1 k1 S1 m1 r1 => ?_⟩
    refine ⟨F1, O1, ρ1, L, _, S1, k1, fun ds ρ2 vs H2 F2 O2 ns k2 S2 m2 r2 => ?_⟩
    exact q (d :: ds) ρ2 (v :: vs) H2 F2 O2 ns k2 S2 (m1.trans m2) (.val rfl (Rp.mono m2 _ _ r1) r2)
  | true =>
    refine (pa_cons (h.f hf) hr (star_each hs)).imp fun σ H Q ⟨F, O, ρ, L, K, S, w, q⟩ => ?_
    refine ⟨F, O, ρ, L, _, S, w, fun d ρ1 a H1 F1 O1 k1 S1 m1 => ?_⟩
    refine ⟨F1, O1, ρ1, L ++ [(a, d)], _, S1, k1, fun ds ρ2 vs H2 F2 O2 ns k2 S2 m2 r2 => ?_⟩
    exact q (d :: ds) ρ2 (.ref a :: vs) H2 F2 O2 ((a, d) :: ns) k2 (by rw [List.append_assoc] at S2; exact S2) (m1.trans m2) (.new rfl r2)
/-- the slots' values, the head stored last -/
def setR (σ : St) : List Nat → List V → St
  | i :: is, v :: vs => (setR σ is vs).set i (some v)
  | _, _ => σ
theorem par_store {F : Hp} {ρ : Env} {σ : St} {H : Hp} : ∀ {is : List Nat} {fs : List Bool} {ds : List PyData} {vs : List V} {ns : List (Addr × PyData)} {L : List (Addr × PyData)} {O : Ow}, SR G F O ρ σ H (L ++ ns) → ParRel G.K F fs vs ds ns → ds.length = is.length →
    ∃ O', SR G F O' (putPar ρ is fs ds) (setR σ is vs) H L
  | [], fs, ds, vs, ns, L, O, S, r, l => by
    cases r with
    | nil => exact ⟨O, by rw [List.append_nil] at S; exact S⟩
    | val _ _ _ => simp at l
    | new _ _ => simp at l
  | i :: is, fs, ds, vs, ns, L, O, S, r, l => by
    cases r with
    | nil => simp at l
    | val hf r t =>
      subst hf
      obtain ⟨O', S'⟩ := par_store S t (is := is) (by simpa using l)
      exact ⟨O', S'.store i r⟩
    | @new f a d fs vs ds ns hf t =>
      subst hf
      obtain ⟨O', S'⟩ := par_store (L := L ++ [(a, d)]) (by rw [List.append_assoc]; exact S) t (is := is) (by simpa using l)
      exact S'.storeOwn i
/-- stores one behind another -/
def setL (σ : St) : List Nat → List V → St
  | i :: is, v :: vs => setL (σ.set i (some v)) is vs
  | _, _ => σ
theorem setR_set : ∀ (is : List Nat) (vs : List V) (σ : St) (i : Nat) (x : Option V), i ∉ is → setR (σ.set i x) is vs = (setR σ is vs).set i x
  | [], _, _, _, _, _ => by simp [setR]
  | j :: is, [], _, _, _, _ => by simp [setR]
  | j :: is, v :: vs, σ, i, x, h => by
    have h1 : i ≠ j := fun z => h (by simp [z])
    have h2 : i ∉ is := fun z => h (by simp [z])
    show ((setR (σ.set i x) is vs).set j (some v)) = ((setR σ is vs).set j (some v)).set i x
    rw [setR_set is vs σ i x h2, List.set_comm _ _ h1]
theorem setL_setR : ∀ (is : List Nat) (vs : List V) (σ : St), is.Nodup → setL σ is vs = setR σ is vs
  | [], _, _, _ => by simp [setL, setR]
  | j :: is, [], _, _ => by simp [setL, setR]
  | j :: is, v :: vs, σ, h => by
    obtain ⟨h1, h2⟩ := List.nodup_cons.mp h
    show setL (σ.set j (some v)) is vs = (setR σ is vs).set j (some v)
    rw [setL_setR is vs _ h2, setR_set is vs σ j _ h1]
theorem gNames_setL : ∀ {is : List Nat} {vs : List V} {σ : St} {H : Hp} {Q : St → Hp → Prop}, vs.length = is.length → Q (setL σ is vs) H → gNames is vs σ H Q
  | [], [], σ, H, Q, _, q => ⟨rfl, q⟩
  | [], v :: vs, σ, H, Q, l, _ => by simp at l
  | i :: is, [], σ, H, Q, l, _ => by simp at l
  | i :: is, v :: vs, σ, H, Q, l, q => ⟨v, vs, rfl, gNames_setL (is := is) (by simpa using l) q⟩
theorem ParRel.len {K : PySem.W.Frag} {F : Hp} : ∀ {fs : List Bool} {vs : List V} {ds : List PyData} {ns : List (Addr × PyData)}, ParRel K F fs vs ds ns → vs.length = ds.length
  | _, _, _, _, .nil => rfl
  | _, _, _, _, .val _ _ t => by simp [t.len]
  | _, _, _, _, .new _ t => by simp [t.len]
/-- what a parallel assignment's stores come to -/
theorem par_run {is : List Nat} {cs : Cs} {σ : St} {H : Hp} {D : Ends} (h : tS G fr (WS (.par is cs)) D σ H) (n : Nat) (hn : is.length = n) : tPar2 G cs.freshes (Ws cs) σ H fun vs H1 => vs.length = n ∧ is.Nodup ∧ ∀ p, (H1 p = none → D.nx (setR σ is vs) (upd H1 p (.tup vs))) ∧ D.nx (setR σ is vs) H1 := by
  obtain ⟨F, O, ρ, E, S, w, k⟩ := h
  refine ⟨F, O, ρ, [], _, S, w, fun ds ρ1 vs H1 F1 O1 ns k1 S1 m1 r1 => ?_⟩
  obtain ⟨e1, e2, e3, e4⟩ := k1
  refine ⟨by rw [r1.len, e1, hn], e3, fun p => ⟨fun hp => ?_, ?_⟩⟩
  · obtain ⟨O2, S2⟩ := par_store S1 r1 (L := []) e1
    exact k.nx _ _ _ _ O2 e4 (S2.alloc hp) (m1.trans (same_upd (S2.sub.free hp)))
  · obtain ⟨O2, S2⟩ := par_store S1 r1 (L := []) e1
    exact k.nx _ _ _ _ O2 e4 S2 m1
theorem ss_par {tge : Expr} {es : List Expr} {is : List Nat} {cs : Cs} {k : Nat} {pos pos' : Pos} (hl : is.length ≤ 100) (ha : PA X es (tPar2 G cs.freshes (Ws cs))) (hg : PG X tge (gTup X.K is.length (gNames is))) (hs : swapsWithSole [tge] (.Tuple es k pos') pos.line X.env = pure false) (hw : swappedStores [tge] (.Tuple es k pos') X.env = pure none) (h1 : (assignEach [tge] X.env).map (·.2) = [assign tge X.env]) :
    PS X (.Assign [tge] (.Tuple es k pos') pos) (tS G fr (WS (.par is cs))) := by
  refine (ps_asg (pe_tup ha) hg hs hw h1).imp fun D σ H h => ?_
  obtain ⟨F, O, ρ, L, K, S, w, q⟩ := par_run h _ rfl
  refine ⟨F, O, ρ, L, K, S, w, fun ds ρ1 vs H1 F1 O1 ns k1 S1 m1 r1 => ?_⟩
  obtain ⟨l, nd, q⟩ := q ds ρ1 vs H1 F1 O1 ns k1 S1 m1 r1
  refine ⟨by rw [l, line_eq]; omega, fun p hp => ⟨p, vs, rfl, .of upd_same, l, gNames_setL l ?_⟩⟩
  rw [setL_setR _ _ _ nd]
  exact (q p).1 hp
end
end Vs

set_option maxHeartbeats 4000000
/-! VJ: statements, further. -/
namespace Vs
open PySem L2

/-! ### stores exchanged -/
structure Names (X : Cx) (ns : List Str) (is : List Nat) : Prop where
  len : is.length = ns.length
  at_ : ∀ (k i : Nat) (n : Str), is[k]? = some i → ns[k]? = some n → X.N[i]? = some n ∧ X.env.scope.names.lookup n = some .local
theorem setL_snoc : ∀ (a : List Nat) (b : List V) (σ : St) (i : Nat) (v : V), b.length = a.length → setL σ (a ++ [i]) (b ++ [v]) = (setL σ a b).set i (some v)
  | [], [], _, _, _, _ => rfl
  | [], _ :: _, _, _, _, l => by simp at l
  | _ :: _, [], _, _, _, l => by simp at l
  | j :: a, w :: b, σ, i, v, l => by
    show setL (σ.set j (some w)) (a ++ [i]) (b ++ [v]) = (setL (σ.set j (some w)) a b).set i (some v)
    exact setL_snoc a b _ i v (by simpa using l)
theorem setL_rev : ∀ (is : List Nat) (vs : List V) (σ : St), vs.length = is.length → setL σ is.reverse vs.reverse = setR σ is vs
  | [], [], _, _ => rfl
  | [], _ :: _, _, l => by simp at l
  | _ :: _, [], _, l => by simp at l
  | i :: is, v :: vs, σ, l => by
    rw [List.reverse_cons, List.reverse_cons, setL_snoc _ _ _ _ _ (by simpa using l), setL_rev is vs σ (by simpa using l)]
    rfl
section
variable {X : Cx} {G : Gh} {fr : Bool}
theorem has_val {F : Hp} {O : Ow} {ρ : Env} {σ : St} {H : Hp} {L : List (Addr × PyData)} {i : Nat} (S : SR G F O ρ σ H L) (h : ρ.has i) : ∃ v, σ[i]? = some (some v) := by
  unfold Env.has at h
  split at h
  · next sl e =>
    cases sl with
    | val d => exact let ⟨v, h1, _⟩ := S.val i d e; ⟨v, h1⟩
    | own d b => exact let ⟨a, h1, _⟩ := S.own i d b e; ⟨_, h1⟩
  · exact h.elim
theorem isL_at {F : Hp} {O : Ow} {ρ : Env} {σ : St} {H : Hp} {L : List (Addr × PyData)} {i : Nat} (S : SR G F O ρ σ H L) (h : ρ.isL i) : ∃ a xs, σ[i]? = some (some (.ref a)) ∧ H a = some (.lst xs) := by
  unfold Env.isL at h
  split at h
  · next ds b e =>
    obtain ⟨a, g1, g2, ⟨ys, hy, _⟩, _⟩ := S.own i _ b e
    exact ⟨a, ys, g1, hy⟩
  · exact h.elim
theorem bind_all {M : Model} {A : Around} {E : Value → Shared → Prop} {pins : List (Addr × Obj)} {H : Hp} (hN : X.N.Nodup) : ∀ {is : List Nat} {ns : List Str} {vs : List V} {us : List Value} {σ : St} {s : Shared} {Q : Unit → Shared → Prop}, Inv X pins σ H s → Names X ns is → Vals vs us → vs.length = is.length →
    (∀ s', Inv X pins (setL σ is vs) H s' → Q () s') → wpAny M A (assignInOrder (ns.map fun n v => bindName X.env n v) us) Q E s
  | [], [], [], us, σ, s, Q, I, h, r, l, q => by
    cases r
    exact PyProof.Rows.assignInOrder_nil (q s I)
  | [], n :: ns, _, us, σ, s, Q, I, h, r, l, q => by have := h.len; simp at this
  | i :: is, [], _, us, σ, s, Q, I, h, r, l, q => by have := h.len; simp at this
  | [], [], v :: vs, us, σ, s, Q, I, h, r, l, q => by simp at l
  | i :: is, n :: ns, [], us, σ, s, Q, I, h, r, l, q => by simp at l
  | i :: is, n :: ns, v :: vs, us, σ, s, Q, I, h, r, l, q => by
    cases r with
    | cons r1 r2 =>
      obtain ⟨a1, a2⟩ := h.at_ 0 i n rfl rfl
      refine PyProof.Rows.assignInOrder_cons (wpAny_bindName (store_ok I hN a1 (.inl a2) r1 (fun s2 I2 => ?_) (.inr a2)))
      exact bind_all hN I2 ⟨by have := h.len; simpa using this, fun k i n e1 e2 => h.at_ (k + 1) i n (by simpa using e1) (by simpa using e2)⟩ r2 (by simpa using l) q
theorem Names.rev {ns : List Str} {is : List Nat} (h : Names X ns is) : Names X ns.reverse is.reverse := by
  refine ⟨by simpa using h.len, fun k i n e1 e2 => ?_⟩
  have l := h.len
  have hk : k < is.length := by
    have := (List.getElem?_eq_some_iff.mp e1).1
    simpa using this
  rw [List.getElem?_reverse (by omega)] at e1 e2
  rw [← l] at e2
  exact h.at_ _ i n e1 e2
theorem Vals.rev : ∀ {vs : List V} {us : List Value}, Vals vs us → Vals vs.reverse us.reverse
  | _, _, .nil => .nil
  | _, _, .cons r t => by
    rw [List.reverse_cons, List.reverse_cons]
    exact L2.Vals.append (Vals.rev t) (.cons r .nil)
theorem ps_parN {tge : Expr} {es : List Expr} {ns : List Str} {is : List Nat} {ta : TA} {pos pt2 : Pos} {k2 : Nat} (hc : X.calm = true) (hN : X.N.Nodup) (hn : Names X ns is) (hl : ns.length ≤ 100) (ha : PA X es ta)
    (hw : swappedStores [tge] (.Tuple es k2 pt2) X.env = pure (some ns)) (hs : swapsWithSole [tge] (.Tuple es k2 pt2) pos.line X.env = pure false) :
    PS X (.Assign [tge] (.Tuple es k2 pt2) pos) (fun D σ H => ta σ H fun vs H1 => vs.length = is.length ∧ D.nx (setR σ is vs) H1) := by
  refine ⟨fun pins s σ H D I h => ?_⟩
  rw [exec_Assign_arm]
  refine wpAny_bind (wpAny_standAt ?_)
  rw [hs]
  refine wpAny_bind (wpAny_pure ?_)
  rw [if_neg (by decide)]
  refine wpAny_bind (PyProof.Rows.Tuple_ (thn (ha.run _ pins s σ H _ I h) fun us s1 ⟨vs, H1, I1, r1, lv, q1⟩ => ?_))
  have lu := r1.length
  have ln := hn.len
  refine wpAny_newObj_type ?_ (by show us.toArray.size ≤ sizeLine; rw [List.size_toArray, ← lu, lv, line_eq]; omega)
  have I2 : Inv X pins σ H1 { s1 with heap := s1.heap.push { cls := .type "tuple", data := .seq us.toArray } } := I1.kept (t' := s1.toks) fun b o e => Heap.get?_push_of_some _ e
  rw [hw]
  refine wpAny_bind (wpAny_pure ?_)
  show wpAny (model X.prog X.w) X.A (do rule "assign.swapped-stores"; let items ← unpackItems (.ref s1.heap.objs.size) ns.length none; assignInOrder (ns.reverse.map fun n v => bindName X.env n v) items.reverse; pure Flow.next) _ _ _
  refine wpAny_bind (wpAny_rule (wpAny_bind ?_))
  have lz : us.toArray.size = ns.length := by rw [List.size_toArray, ← lu, lv, ln]
  rw [← lz]
  refine PyProof.Rows.unpackItems_tuple (items := us.toArray) (I.ok.hd hc) (PyProof.Rows.IsTup.new s1.heap _) fun h' hx' => ?_
  have I3 := I2.kept (h' := h') (t' := s1.toks) fun b o e => hx' b o (Nat.ne_of_lt (Heap.lt_size e)) e
  refine wpAny_bind (bind_all hN I3 hn.rev (vs := vs.reverse) (by simpa using Vals.rev r1) (by simpa using lv) fun s2 I4 => wpAny_pure ?_)
  rw [setL_rev _ _ _ lv] at I4
  exact ⟨_, H1, I4, q1⟩
theorem ss_parS {tge : Expr} {es : List Expr} {ns : List Str} {is : List Nat} {cs : Cs} {k2 : Nat} {pos pt2 : Pos} (hc : X.calm = true) (hN : X.N.Nodup) (hn : Names X ns is) (hl : ns.length ≤ 100) (ha : PA X es (tPar2 G cs.freshes (Ws cs)))
    (hw : swappedStores [tge] (.Tuple es k2 pt2) X.env = pure (some ns)) (hs : swapsWithSole [tge] (.Tuple es k2 pt2) pos.line X.env = pure false) : PS X (.Assign [tge] (.Tuple es k2 pt2) pos) (tS G fr (WS (.par is cs))) := by
  refine (ps_parN hc hN hn hl ha hw hs).imp fun D σ H h => ?_
  obtain ⟨F, O, ρ, L, K, S, w, q⟩ := par_run h _ rfl
  refine ⟨F, O, ρ, L, K, S, w, fun ds ρ1 vs H1 F1 O1 ns k1 S1 m1 r1 => ?_⟩
  obtain ⟨l, nd, q⟩ := q ds ρ1 vs H1 F1 O1 ns k1 S1 m1 r1
  exact ⟨l, (q 0).2⟩
/-! ### x[k] = e, x.append(e), x.extend(e) -/
theorem ss_setIdx {o k e : Expr} {i : Nat} {ck ce : C} {tpos pos : Pos} (hK : X.K = G.K) (ho : PE X o (tVar i)) (hk : Sd X G k ck) (he : Sd X G e ce)
    (ha : ∀ v, assign (.Subscript o k tpos) X.env v = (do
      let ov ← holding [v] (eval o X.env)
      let iv ← holding [v, ov] (eval k X.env)
      standAt tpos
      holding [v, ov, iv] (setItem ov iv v)
      release [v, ov, iv] []))
    (hs : swapsWithSole [.Subscript o k tpos] e pos.line X.env = pure false) (hw : swappedStores [.Subscript o k tpos] e X.env = pure none) (h1 : (assignEach [.Subscript o k tpos] X.env).map (·.2) = [assign (.Subscript o k tpos) X.env]) :
    PS X (.Assign [.Subscript o k tpos] e pos) (tS G fr (WS (.setIdx i ck ce))) := by
  refine (ps_asg he.v (pg_sub ho hk.v set_list ha) hs hw h1).imp fun D σ H ⟨F, O, ρ, E, S, w, kk⟩ => ?_
  refine ⟨F, O, ρ, _, _, S, w, fun d ρ1 v H1 F1 O1 k1 S1 m1 r1 => ?_⟩
  obtain ⟨hh, k1⟩ := k1
  obtain ⟨v0, ev⟩ := has_val S1 hh
  refine ⟨v0, ev, F1, O1, ρ1, _, _, S1, k1, fun x ρ2 u H2 F2 O2 k2 S2 m2 r2 => ?_⟩
  split at k2
  · next d0 b e2 =>
    obtain ⟨a, g1, g2, g3, _⟩ := S2.own i d0 b e2
    rw [ev] at g1
    cases g1
    unfold setOwn at k2
    split at k2
    · obtain ⟨j, h1, h2⟩ := k2
      obtain ⟨xs, hx, rx, lx⟩ := g3
      cases r2
      refine ⟨a, xs, _, j, rfl, rfl, hx, by rw [rx.length]; exact h1, ?_⟩
      exact kk.nx _ _ _ F2 O2 h2 (S2.mutate e2 ev ⟨_, upd_same, rx.set j (Rp.mono m2 _ _ r1), by simpa using lx⟩) (m1.trans m2)
    · exact k2.elim
  · exact k2.elim
theorem ss_append {o e : Expr} {i : Nat} {ce : C} {apos cpos pos : Pos} (ho : PE X o (tVar i)) (he : Sd X G e ce) (hst : noStar e = true) (hbase : attributeBase o "append" X.env (eval o X.env) = eval o X.env) (hline : (apos.endLine == cpos.line) = true) (hKG : X.K = G.K) :
    PS X (.Expr (.Call (.Attribute o "append" apos) [e] [] cpos) pos) (tS G fr (WS (.append i ce))) := by
  refine (ps_expr (pe_bm PySem.F.plainAttrs_list PySem.F.slot_list_append PySem.F.type_list_append mt_append ho (pa_cons he.v pa_nil (star_each hst)) hbase (by rw [star_each hst]; rfl) hline (star_each hst)) rfl).imp fun D σ H ⟨F, O, ρ, E, S, w, kk⟩ => ?_
  obtain ⟨hl, w⟩ := w
  obtain ⟨a, xs, ea, ha⟩ := isL_at S hl
  refine ⟨.ref a, ea, .inl ⟨rfl, xs, .of ha⟩, F, O, ρ, _, _, S, w, fun d ρ1 v H1 F1 O1 k1 S1 m1 r1 => ?_⟩
  split at k1
  · next ds b e2 =>
    obtain ⟨a', g1, g2, ⟨ys, hy, ry, ly⟩, _⟩ := S1.own i _ b e2
    rw [ea] at g1
    cases g1
    obtain ⟨k2, k3⟩ := k1
    have lr := ry.length
    refine ⟨a, ys, v, rfl, rfl, hy, by rw [line_eq]; omega, ?_⟩
    exact kk.nx _ _ _ F1 O1 k3 (S1.mutate e2 ea ⟨_, upd_same, ry.append (.cons r1 .nil), by rw [line_eq]; simp; omega⟩) m1
  · exact k1.elim
def rExtA (K : PySem.W.Frag) : V → List V → Hp → VK → Prop := fun x vs H Q => rExtend x vs H Q ∨ rExtT K x vs H Q
theorem mt_extendA : MtR X "list.extend" (rExtA X.K) := MtR.or mt_extend mt_extendT
theorem ss_extend {o e : Expr} {i : Nat} {ce : C} {apos cpos pos : Pos} (ho : PE X o (tVar i)) (he : Sd X G e ce) (hst : noStar e = true) (hbase : attributeBase o "extend" X.env (eval o X.env) = eval o X.env) (hline : (apos.endLine == cpos.line) = true) (hKG : X.K = G.K) :
    PS X (.Expr (.Call (.Attribute o "extend" apos) [e] [] cpos) pos) (tS G fr (WS (.extend i ce))) := by
  refine (ps_expr (pe_bm PySem.F.plainAttrs_list PySem.F.slot_list_extend PySem.F.type_list_extend mt_extendA ho (pa_cons he.v pa_nil (star_each hst)) hbase (by rw [star_each hst]; rfl) hline (star_each hst)) rfl).imp fun D σ H ⟨F, O, ρ, E, S, w, kk⟩ => ?_
  obtain ⟨hl, w⟩ := w
  obtain ⟨a, xs, ea, ha⟩ := isL_at S hl
  refine ⟨.ref a, ea, .inl ⟨rfl, xs, .of ha⟩, F, O, ρ, _, _, S, w, fun d ρ1 v H1 F1 O1 k1 S1 m1 r1 => ?_⟩
  split at k1
  · next ds b e2 =>
    obtain ⟨a', g1, g2, ⟨ys, hy, ry, ly⟩, _⟩ := S1.own i _ b e2
    rw [ea] at g1
    cases g1
    have lr := ry.length
    split at k1
    · obtain ⟨k2, k3⟩ := k1
      cases r1 with
      | lst e3 r3 l3 =>
        have lr3 := r3.length
        refine .inl ⟨a, _, ys, _, rfl, rfl, hy, S1.sub _ _ e3, by rw [line_eq]; omega, ?_⟩
        exact kk.nx _ _ _ F1 O1 k3 (S1.mutate e2 ea ⟨_, upd_same, ry.append r3, by rw [line_eq]; simp; omega⟩) m1
    · obtain ⟨k2, k3⟩ := k1
      cases r1 with
      | tup e3 r3 l3 =>
        have lr3 := r3.length
        refine .inr ⟨a, _, ys, _, rfl, rfl, hy, hKG ▸ sqT_mono S1.sub e3, by rw [line_eq]; omega, ?_⟩
        exact kk.nx _ _ _ F1 O1 k3 (S1.mutate e2 ea ⟨_, upd_same, ry.append r3, by rw [line_eq]; simp; omega⟩) m1
    · exact k1.elim
  · exact k1.elim
/-! ### small ones -/
theorem ss_expr {e : Expr} {c : C} {pos : Pos} (he : Sd X G e c) (hs : swapsWith e none pos.line X.env = pure false) : PS X (.Expr e pos) (tS G fr (WS (.expr c))) := by
  refine (ps_expr he.v hs).imp fun D σ H ⟨F, O, ρ, E, S, w, k⟩ => ?_
  exact ⟨F, O, ρ, _, _, S, w, fun d ρ1 v H1 F1 O1 k1 S1 m1 r1 => k.nx ρ1 σ H1 F1 O1 k1 S1 m1⟩
theorem ss_ret {e : Expr} {c : C} {pos : Pos} (he : Sd X G e c) (hf : fr = true → c.fresh = true) : PS X (.Return (some e) pos) (tS G fr (WS (.ret c))) := by
  cases fr with
  | false =>
    refine (ps_ret he.v).imp fun D σ H ⟨F, O, ρ, E, S, w, k⟩ => ?_
    exact ⟨F, O, ρ, _, _, S, w, fun d ρ1 v H1 F1 O1 k1 S1 m1 r1 => k.rt rfl d ρ1 σ v H1 F1 O1 k1 S1 r1⟩
  | true =>
    refine (ps_ret (he.f (hf rfl))).imp fun D σ H ⟨F, O, ρ, E, S, w, k⟩ => ?_
    exact ⟨F, O, ρ, [], _, S, w, fun d ρ1 a H1 F1 O1 k1 S1 m1 => k.rf rfl d ρ1 σ a H1 F1 O1 k1 S1⟩
theorem ss_retN {pos : Pos} (hf : fr = false) : PS X (.Return none pos) (tS G fr (WS .retN)) :=
  ps_retN.imp fun D σ H ⟨F, O, ρ, E, S, w, k⟩ => k.rt hf .none ρ σ .non H F O w S .non
theorem ss_if {t : Expr} {a b : List Stmt} {ct : C} {ca cb : Ss} {pos : Pos} (ht : Sd X G t ct) (ha : PSs X a (tS G fr (WSs ca))) (hb : PSs X b (tS G fr (WSs cb))) : PS X (.If t a b pos) (tS G fr (WS (.ite ct ca cb))) := by
  refine (ps_if ht.t ha hb).imp fun D σ H ⟨F, O, ρ, E, S, w, k⟩ => ?_
  refine ⟨F, O, ρ, _, _, S, w, fun c ρ1 H1 F1 O1 k1 S1 m1 => ?_⟩
  cases c with
  | true =>
    rw [if_pos rfl] at k1 ⊢
    exact ⟨F1, O1, ρ1, E, S1, k1, k.later m1⟩
  | false =>
    rw [if_neg Bool.false_ne_true] at k1 ⊢
    exact ⟨F1, O1, ρ1, E, S1, k1, k.later m1⟩
theorem ss_while {t : Expr} {b : List Stmt} {ct : C} {cb : Ss} {pos : Pos} (hp : PassesOwn (model X.prog X.w) X.A X.env X.xe) (ht : Sd X G t ct) (hb : PSs X b (tS G fr (WSs cb))) : PS X (.While t b [] pos) (tS G fr (WS (.whl ct cb))) := by
  refine (ps_while hp ht.t hb).imp fun D σ H ⟨F, O, ρ, E, S, w, k⟩ => ?_
  obtain ⟨I, ⟨m0, h0⟩, step⟩ := w
  refine ⟨fun m σ H => ∃ F' O ρ, SR G F' O ρ σ H [] ∧ Same F F' ∧ I m ρ, ⟨m0, F, O, ρ, S, Same.refl _, h0⟩, ?_⟩
  rintro m σ H ⟨F', O, ρ, S, mF, hI⟩
  refine ⟨F', O, ρ, _, _, S, step m ρ hI, fun c ρ1 H1 F1 O1 k1 S1 m1 => ?_⟩
  cases c with
  | true =>
    rw [if_pos rfl] at k1 ⊢
    refine ⟨fun σ H => ∃ F2 O ρ, SR G F2 O ρ σ H [] ∧ Same F F2 ∧ ∃ m', m' < m ∧ I m' ρ, fun σ' H' ⟨F2, O, ρ, S, mm, m', hm, h⟩ => ⟨m', hm, F2, O, ρ, S, mm, h⟩, ?_⟩
    exact ⟨F1, O1, ρ1, _, S1, k1, fun ρ σ H F2 O h S m2 => ⟨F2, O, ρ, S, mF.trans (m1.trans m2), h⟩, (k.later (mF.trans m1)).nx, fun ρ σ H F2 O h S m2 => ⟨F2, O, ρ, S, mF.trans (m1.trans m2), h⟩, k.rt, k.rf⟩
  | false =>
    rw [if_neg Bool.false_ne_true] at k1 ⊢
    exact k.nx ρ1 σ H1 F1 O1 k1 S1 (mF.trans m1)
theorem ss_for {tg iter : Expr} {b : List Stmt} {t : Tg} {it : Ci} {cb : Ss} {pos : Pos} (hp : PassesOwn (model X.prog X.w) X.A X.env X.xe) (hc : X.calm = true) (hi : PI X tg iter (tI G (Wi it))) (hg : PG X tg (tG G t)) (hb : PSs X b (tS G fr (WSs cb))) (hs : ∀ x, foldedSetIterable iter X.env x = pure x) :
    PS X (.For tg iter b [] pos) (tS G fr (WS (.forr t it cb))) := by
  refine (ps_for hp hc hi hg hb hs).imp fun D σ H ⟨F, O, ρ, E, S, w, k⟩ => ?_
  refine ⟨F, O, ρ, [], _, S, w, fun ds ρ1 H1 F1 O1 J k1 S1 m1 fd => ?_⟩
  refine ⟨fun i m σ H => m = ds.length - i ∧ i ≤ ds.length ∧ ∃ F' O' ρ', SR G F' O' ρ' σ H [] ∧ Same F1 F' ∧ forW t (WSs cb) (ds.drop i) ρ' E, ⟨ds.length, by simp, Nat.zero_le _, F1, O1, ρ1, S1, Same.refl _, k1⟩, ?_⟩
  rintro i m σ2 H2 ⟨rfl, hi, F2, O2, ρ2, S2, m2, k2⟩
  by_cases hlt : i < ds.length
  · refine .inr ⟨fd.go i H2 (m2.trans S2.sub) hlt, fun σ H => ∃ F' O' ρ', SR G F' O' ρ' σ H [] ∧ Same F1 F' ∧ forW t (WSs cb) (ds.drop (i + 1)) ρ' E, fun σ' H' nx => ⟨ds.length - (i + 1), by omega, rfl, hlt, nx⟩, fun x H3 y => ?_⟩
    obtain ⟨d, F3, e3, g3, r3⟩ := fd.yld i H2 x H3 F2 m2 S2.sub hlt y
    rw [drop_cons e3] at k2
    have S3 := S2.grown g3
    have m3 := m2.trans (g3.same S2.sub)
    have k2 : t.bind d ρ2 fun ρ1 => WSs cb ρ1 { E with nx := fun ρ2 => forW t (WSs cb) (ds.drop (i + 1)) ρ2 E, ct := fun ρ2 => forW t (WSs cb) (ds.drop (i + 1)) ρ2 E, bk := E.nx } := k2
    refine ⟨F3, O2, ρ2, _, _, d, S3, r3, k2, fun ρ4 σ4 H4 F4 O4 k4 S4 m4 hw => ?_⟩
    have mm := m3.trans m4
    exact ⟨F4, O4, ρ4, _, S4, k4, fun ρ σ H F5 O5 h S m5 => ⟨F5, O5, ρ, S, mm.trans m5, h⟩, (k.later (m1.trans mm)).nx, fun ρ σ H F5 O5 h S m5 => ⟨F5, O5, ρ, S, mm.trans m5, h⟩, k.rt, k.rf⟩
  · have e : i = ds.length := by omega
    subst e
    rw [List.drop_length] at k2
    exact .inl ⟨fd.stop H2 (m2.trans S2.sub), k.nx ρ2 σ2 H2 F2 O2 k2 S2 (m1.trans m2)⟩
theorem ss_pass {pos : Pos} : PS X (.Pass pos) (tS G fr (WS .pass)) := ps_pass.imp fun D σ H ⟨F, O, ρ, E, S, w, k⟩ => k.nx ρ σ H F O w S (Same.refl _)
theorem ss_brk {pos : Pos} : PS X (.Break pos) (tS G fr (WS .brk)) := ps_break.imp fun D σ H ⟨F, O, ρ, E, S, w, k⟩ => k.bk ρ σ H F O w S (Same.refl _)
theorem ss_cont {pos : Pos} : PS X (.Continue pos) (tS G fr (WS .cont)) := ps_continue.imp fun D σ H ⟨F, O, ρ, E, S, w, k⟩ => k.ct ρ σ H F O w S (Same.refl _)
theorem ss_never {st : Stmt} : PS X st (tS G fr (WS .never)) := ps_never.imp fun D σ H ⟨F, O, ρ, E, S, w, k⟩ => w
theorem nox_eq (h : X.xe = fun _ _ => False) : X.nox = X := by
  cases X
  simp only at h
  subst h
  rfl
theorem ss_try {b : List Stmt} {h0 : ExceptHandler} {hs : List ExceptHandler} {cb : Ss} {pos : Pos} (hx : X.xe = fun _ _ => False) (hb : PSs X b (tS G fr (WSs cb))) : PS X (.Try b (h0 :: hs) [] [] pos) (tS G fr (WS (.tryy cb))) :=
  (ps_try_thru0 (by rw [nox_eq hx]; exact hb)).imp fun D σ H h => h
end
end Vs

set_option maxHeartbeats 4000000
/-! VK: calls of defs. -/
namespace Vs
open PySem L2
open PyProof.Rows (envOfC)

/-! ### a def's promise where no repr is under way -/
structure FnG (P : Program) (w : World) (K : PySem.W.Frag) (mg : Str → Option Value) (base : Heap) (CX : CXT) (k : Nat) (f : Addr) (fd : FuncData) (ps : List Str) (sp : Sp) : Prop where
  len : ∀ vs H Q E, sp vs H Q E → vs.length = ps.length
  run : ∀ (A : Around) (outer : List PySem.Env) (s : Shared) (H : Hp) (args : Args) (us : List Value) (vs : List V) (Q : VK) (E : XK), Room k A → A.guards = some [] → Env0 P w K mg base A outer s H → BindsTo s fd args (ps.zip us) → Vals vs us → sp vs H Q E →
    codeAny (model P w) A (.call (.ref f) args) (CR CX outer P w H s Q E) s
theorem FnG.mono {P : Program} {w : World} {K : PySem.W.Frag} {mg : Str → Option Value} {base : Heap} {CX : CXT} {j k : Nat} {f : Addr} {fd : FuncData} {ps : List Str} {sp : Sp} (F : FnG P w K mg base CX j f fd ps sp) (h : j ≤ k) : FnG P w K mg base CX k f fd ps sp :=
  ⟨F.len, fun A outer s H args us vs Q E hr => F.run A outer s H args us vs Q E (hr.mono h)⟩
section
variable {X : Cx} {CX : CXT} {k : Nat} {f C : Addr} {fd : FuncData} {ps : List Str} {sp : Sp} {dvs : List V} {ds : List Value} {E : XK} {x m : Str} {p pos apos : Pos} {e o : Expr} {es : List Expr} {ta : TE} {t : TA}
theorem run_fnG {pins : List (Addr × Obj)} {σ : St} {H : Hp} {s : Shared} {Q : VK} {us : List Value} {vs : List V} (F : FnG X.prog X.w X.K X.mg X.base CX k f fd ps sp) (hr : Room k X.A) (hg : X.A.guards = some []) (hb : Binds X.K fd ps ds) (hd : Vals dvs ds) (hx : Passes CX X E)
    (I : Inv X pins σ H s) (r : Vals vs us) (h : sp (vs ++ dvs) H Q E) : wpAny (model X.prog X.w) X.A (call (.ref f) us) (EP X pins σ Q) X.xe s := by
  have r2 : Vals (vs ++ dvs) (us ++ ds) := r.append hd
  have hl : (us ++ ds).length = ps.length := (r2.length).symm.trans (F.len _ _ _ _ h)
  refine wpAny_call (codeAny_mono (F.run X.A X.stack s H ⟨us, []⟩ (us ++ ds) (vs ++ dvs) Q E hr hg I.env0 (hb s us I.kIn hl) r2 h) fun r s' hq => ?_)
  match r, hq with
  | .error e, hq => exact hx pins σ H s e s' I hq
  | .ok (.ret u), hq => exact I.after hq
  | .ok .next, hq => exact False.elim hq
  | .ok .brk, hq => exact False.elim hq
  | .ok .cont, hq => exact False.elim hq
theorem pe_callG (F : FnG X.prog X.w X.K X.mg X.base CX k f fd ps sp) (hr : Room k X.A) (hgd : X.A.guards = some []) (hg : Gl X x) (hm : X.mg x = some (.ref f)) (hk : PySem.W.keepIn X.K (.ref f) = true) (hb : Binds X.K fd ps ds) (hd : Vals dvs ds) (hx : Passes CX X E)
    (ha : PA X (e :: es) t) (hdb : (x == ("__debug__" : Str)) = false) (he : starEach (e :: es) X.env = (false, eval e X.env) :: starEach es X.env) (hpl : (backTo pos (starEach es X.env)).any (·.1) = false) :
    PE X (.Call (.Name x p) (e :: es) [] pos) (tCall sp dvs E t) := by
  refine ⟨fun pins s σ H Q I h => wpAny_Call_Name_kw (ld_glob I hg hm ?_ hdb)⟩
  exact PySem.W.callWith_K (h₀ := X.base) I.ok.mod.kin hk (thn (ha.run pos pins s σ H _ I h) fun us s1 ⟨vs, H1, I1, r, q⟩ => ⟨I1.kIn, run_fnG F hr hgd hb hd hx I1 r q⟩) he hpl
theorem pe_callG0 (F : FnG X.prog X.w X.K X.mg X.base CX k f fd ps sp) (hr : Room k X.A) (hgd : X.A.guards = some []) (hg : Gl X x) (hm : X.mg x = some (.ref f)) (hk : PySem.W.keepIn X.K (.ref f) = true) (hb : Binds X.K fd ps ds) (hd : Vals dvs ds) (hx : Passes CX X E)
    (hdb : (x == ("__debug__" : Str)) = false) : PE X (.Call (.Name x p) [] [] pos) (tCall sp dvs E tNil) := by
  refine ⟨fun pins s σ H Q I h => wpAny_Call_Name_kw (ld_glob I hg hm ?_ hdb)⟩
  exact PySem.W.callWith_K0 I.kIn hk (run_fnG (us := []) F hr hgd hb hd hx I .nil h)
end
/-- a def by its body -/
theorem fnG_of {CX : CXT} {P : Program} {w : World} {K : PySem.W.Frag} {mg : Str → Option Value} {base : Heap} {k : Nat} {f : Addr} {name qual : Str} {params : Arguments} {body : List Stmt} {scope : Scope} {dV kV doc pm cdv ct oc : Value} {an od : Option Addr}
    {osl : Array (Option Value)} {N ps : List Str} {sp : Sp} (lk : K.lookup f = some ⟨oc, od, .func (PySem.W.fnOf name qual params body scope dV kV doc pm an cdv ct), osl⟩) (hcd : PySem.W.codeIn K cdv qual = true) (S : FnScope N ps scope)
    (len : ∀ vs H Q E, sp vs H Q E → vs.length = ps.length)
    (hbody : ∀ (A : Around) (outer : List PySem.Env) (s : Shared) (H : Hp) (vs : List V) (Q : VK) (E : XK), Room k (A.deeper (envOfC qual scope s.heap.objs.size f cdv)) → A.guards = some [] → sp vs H Q E →
      ∃ t, PSs (cxOf CX P w K mg base N qual scope f cdv A outer s H E) body t ∧ t { nx := fun _ H' => Q .non H', rt := Q } (start N vs) H) :
    FnG P w K mg base CX (k + 1) f (PySem.W.fnOf name qual params body scope dV kV doc pm an cdv ct) ps sp := by
  refine ⟨len, fun A outer s H args us vs Q E hr hgd e0 hb r hsp => ?_⟩
  have hl := len _ _ _ _ hsp
  have KX : K.In s.heap := e0.mod.kin.keeps fun b o e => (e0.bs b o e).1
  have lim : s.heap.NoLimit := e0.mod.nolimit.keeps fun b o e => (e0.bs b o e).1
  have kinds : ∀ y ∈ ps.zip us, scope.names.lookup y.1 = some .local ∨ (scope.names.lookup y.1 = some .cell ∧ ((cellsFrom (s.heap.objs.size + 1) scope.names []).lookup y.1).isSome = true) := by
    rintro ⟨n, v⟩ hy
    exact (S.par n (List.of_mem_zip hy).1).imp id fun q => ⟨q, PySem.W.cellsFrom_some _ _ _ (.inl q)⟩
  refine codeAny_call_function hr.depth (KX _ _ lk) rfl S.co S.gen rfl (PySem.W.codeRec_of KX hcd) (hb _ _ _ _ ?_)
  refine wpAny_newFunctionEnv_cells S.kind kinds fun env he s1 x => ?_
  subst he
  refine ⟨lim.keeps x.toInCall.keep, codeAny_func ?_⟩
  obtain ⟨t, ht, hq⟩ := hbody A outer s H vs Q E (hr.deeper _) hgd hsp
  have I : Inv (cxOf CX P w K mg base N qual scope f cdv A outer s H E) [] (start N vs) H s1 := inv_start S hr.hd e0 hl r x
  refine wpAny_mono (ht.run [] s1 (start N vs) H _ I hq) (fun fl s' hs => ?_) fun e s' hs => hs
  match fl, hs with
  | .ret u, ⟨v, σ', H', J, rv, q⟩ => exact ⟨v, H', J.os, J.bare, J.base, J.hok, rv, q⟩
  | .next, ⟨σ', H', J, q⟩ => exact ⟨V.non, H', J.os, J.bare, J.base, J.hok, rfl, q⟩
  | .brk, ⟨_, _, _, q⟩ => exact False.elim q
  | .cont, ⟨_, _, _, q⟩ => exact False.elim q

/-! ### arguments -/
inductive ArgR (K : PySem.W.Frag) (F H : Hp) : List Bool → List V → List PyData → List Addr → Prop
  | nil : ArgR K F H [] [] [] []
  | val {ms : List Bool} {v : V} {vs : List V} {d : PyData} {ds : List PyData} {as : List Addr} : Rp K F v d → ArgR K F H ms vs ds as → ArgR K F H (false :: ms) (v :: vs) (d :: ds) as
  | lend {ms : List Bool} {a : Addr} {vs : List V} {d : PyData} {ds : List PyData} {as : List Addr} : F a = none → OwnAt K F H a d → ArgR K F H ms vs ds as → ArgR K F H (true :: ms) (.ref a :: vs) (d :: ds) (a :: as)
/-- what has come of the lent objects -/
inductive OutR (K : PySem.W.Frag) (F H : Hp) : List Addr → List PyData → Prop
  | nil : OutR K F H [] []
  | cons {a : Addr} {d : PyData} {as : List Addr} {ds : List PyData} : F a = none → OwnAt K F H a d → OutR K F H as ds → OutR K F H (a :: as) (d :: ds)
/-- the result: a value, or a new object -/
def ResR (K : PySem.W.Frag) (fr : Bool) (F H0 H : Hp) (v : V) (d : PyData) : Prop := if fr = true then ∃ a, v = .ref a ∧ F a = none ∧ OwnAt K F H a d ∧ H0 a = none else Rp K F v d
/-- a def's promise over the heap, from that over data -/
def spF (K : PySem.W.Frag) (fn : Fn) : Sp := fun vs H Q _ => ∃ (F : Hp) (ds : List PyData) (as : List Addr) (Kt : PyData → List PyData → Prop), Same F H ∧ ArgR K F H fn.modes vs ds as ∧ as.Nodup ∧ fn.spec ds Kt ∧
  ∀ d os v H' F', Kt d os → Same F F' → Same F' H' → (∀ a, F' a ≠ none → F a ≠ none ∨ H a = none) → (∀ a o, H a = some o → a ∉ as → H' a = some o) → OutR K F' H' as os → ResR K fn.fresh F' H H' v d → Q v H'
theorem ArgR.len {K : PySem.W.Frag} {F H : Hp} : ∀ {ms : List Bool} {vs : List V} {ds : List PyData} {as : List Addr}, ArgR K F H ms vs ds as → vs.length = ms.length ∧ ds.length = ms.length
  | _, _, _, _, .nil => ⟨rfl, rfl⟩
  | _, _, _, _, .val _ t => by simp [t.len.1, t.len.2]
  | _, _, _, _, .lend _ _ t => by simp [t.len.1, t.len.2]
/-! ### the caller's side -/
/-- an argument's value -/
inductive ArgV (K : PySem.W.Frag) (F : Hp) (σ : St) : List Bool → List V → List Arg → Prop
  | nil : ArgV K F σ [] [] []
  | v {ms : List Bool} {v : V} {vs : List V} {d : PyData} {xs : List Arg} : Rp K F v d → ArgV K F σ ms vs xs → ArgV K F σ (false :: ms) (v :: vs) (.v d :: xs)
  | lend {ms : List Bool} {v : V} {vs : List V} {i : Nat} {xs : List Arg} : σ[i]? = some (some v) → ArgV K F σ ms vs xs → ArgV K F σ (true :: ms) (v :: vs) (.lend i :: xs)
def tAr (G : Gh) (ms : List Bool) (w : Env → (List Arg → Env → Prop) → Prop) : TA := fun σ H Q => ∃ F O ρ L K, SR G F O ρ σ H L ∧ w ρ K ∧ ∀ xs ρ' vs H' F' O', K xs ρ' → SR G F' O' ρ' σ H' L → Same F F' → ArgV G.K F' σ ms vs xs → Q vs H'
section
variable {X : Cx} {G : Gh}
theorem sa_nil : PA X [] (tAr G [] (Wa .nil ms)) := pa_nil.imp fun σ H Q ⟨F, O, ρ, L, K, S, w, q⟩ => q [] ρ [] H F O w S (Same.refl _) .nil
theorem sa_cons {e : Expr} {es : List Expr} {c : C} {cs : Cs} {m : Bool} {ms rest : List Bool} (hs : noStar e = true) (h : Sd X G e c) (hr : PA X es (tAr G ms (Wa cs (ms ++ rest)))) : PA X (e :: es) (tAr G (m :: ms) (Wa (.cons c cs) ((m :: ms) ++ rest))) := by
  cases m with
  | false =>
    refine (pa_cons h.v hr (star_each hs)).imp fun σ H Q ⟨F, O, ρ, L, K, S, w, q⟩ => ?_
    have w : (W c).v ρ fun d ρ' => Wa cs (ms ++ rest) ρ' fun xs ρ2 => K (.v d :: xs) ρ2 := w
    refine ⟨F, O, ρ, L, _, S, w, fun d ρ1 v H1 F1 O1 k1 S1 m1 r1 => ?_⟩
    refine ⟨F1, O1, ρ1, L, _, S1, k1, fun xs ρ2 vs H2 F2 O2 k2 S2 m2 r2 => ?_⟩
    exact q _ ρ2 _ H2 F2 O2 k2 S2 (m1.trans m2) (.v (Rp.mono m2 _ _ r1) r2)
  | true =>
    refine (pa_cons h.o hr (star_each hs)).imp fun σ H Q ⟨F, O, ρ, L, K, S, w, q⟩ => ?_
    cases c with
    | var i =>
      have w : (match ρ[i]? with | some (some (.own _ _)) => Wa cs (ms ++ rest) ρ fun xs ρ2 => K (.lend i :: xs) ρ2 | _ => False) := w
      split at w
      · next d b e =>
        refine ⟨F, O, ρ, L, fun x ρ' => x = .slot i ∧ ρ' = ρ, S, ?_, fun x ρ1 v H1 F1 O1 k1 S1 m1 r1 => ?_⟩
        · show (match ρ[i]? with | some (some _) => ((Opd.slot i) = .slot i ∧ ρ = ρ) | _ => False)
          rw [e]
          exact ⟨rfl, rfl⟩
        · obtain ⟨rfl, rfl⟩ := k1
          refine ⟨F1, O1, ρ1, L, _, S1, w, fun xs ρ2 vs H2 F2 O2 k2 S2 m2 r2 => ?_⟩
          exact q _ ρ2 _ H2 F2 O2 k2 S2 (m1.trans m2) (.lend r1 r2)
      · exact w.elim
    | _ => exact (w : False).elim
/-- the lent slots and their addresses -/
inductive LentR (ρ : Env) (σ : St) : List Nat → List Addr → Prop
  | nil : LentR ρ σ [] []
  | cons {i : Nat} {is : List Nat} {a : Addr} {as : List Addr} {d : PyData} {b : Bool} : ρ[i]? = some (some (.own d b)) → σ[i]? = some (some (.ref a)) → LentR ρ σ is as → LentR ρ σ (i :: is) (a :: as)
theorem args_at {F H : Hp} {O : Ow} {ρ : Env} {σ : St} {L : List (Addr × PyData)} (S : SR G F O ρ σ H L) : ∀ {xs : List Arg} {ms : List Bool} {vs : List V} {k : List PyData → Prop}, ArgV G.K F σ ms vs xs → argsOn xs ρ k →
    ∃ ds as, ArgR G.K F H ms vs ds as ∧ LentR ρ σ (Arg.lends xs) as ∧ k ds
  | [], _, _, k, .nil, h => ⟨[], [], .nil, .nil, h⟩
  | .v d :: xs, _, _, k, .v r t, h => by
    have h : argsOn xs ρ fun ds => k (d :: ds) := h
    obtain ⟨ds, as, h1, h2, h3⟩ := args_at S t h
    exact ⟨d :: ds, as, .val r h1, h2, h3⟩
  | .lend i :: xs, _, _, k, .lend e t, h => by
    have h : (match ρ[i]? with | some (some (.own d _)) => argsOn xs ρ fun ds => k (d :: ds) | _ => False) := h
    split at h
    · next d b q =>
      obtain ⟨ds, as, h1, h2, h3⟩ := args_at S t h
      obtain ⟨a, g1, g2, g3, _⟩ := S.own i d b q
      rw [e] at g1
      cases g1
      exact ⟨d :: ds, a :: as, .lend (S.of a (by rw [g2]; simp)).1 g3 h1, .cons q e h2, h3⟩
    · exact h.elim
theorem LentR.mem {F H : Hp} {O : Ow} {ρ : Env} {σ : St} {L : List (Addr × PyData)} (S : SR G F O ρ σ H L) : ∀ {is : List Nat} {as : List Addr}, LentR ρ σ is as → ∀ a ∈ as, ∃ i ∈ is, O a = some (.inl i) ∧ σ[i]? = some (some (.ref a)) ∧ (G.H0 a = none ∨ a ∈ G.Bs)
  | _, _, .nil, a, h => by simp at h
  | _, _, .cons (i := i) (b := b) q e t, a, h => by
    rcases List.mem_cons.mp h with rfl | h
    · obtain ⟨a', g1, g2, g3, g4, g5⟩ := S.own i _ b q
      rw [e] at g1
      cases g1
      refine ⟨i, by simp, g2, e, ?_⟩
      cases b with
      | true => exact .inr (g4 rfl).1
      | false => exact .inl (g5 rfl)
    · obtain ⟨j, h1, h2⟩ := t.mem S a h
      exact ⟨j, List.mem_cons_of_mem _ h1, h2⟩
theorem LentR.nodup {F H : Hp} {O : Ow} {ρ : Env} {σ : St} {L : List (Addr × PyData)} (S : SR G F O ρ σ H L) : ∀ {is : List Nat} {as : List Addr}, LentR ρ σ is as → is.Nodup → as.Nodup
  | _, _, .nil, _ => List.nodup_nil
  | _, _, .cons (i := i) (is := is) (a := a) (as := as) (b := b) q e t, h => by
    obtain ⟨h1, h2⟩ := List.nodup_cons.mp h
    refine List.nodup_cons.mpr ⟨fun z => ?_, t.nodup S h2⟩
    obtain ⟨j, h3, h4, _⟩ := t.mem S a z
    obtain ⟨a', g1, g2, _⟩ := S.own i _ b q
    rw [e] at g1
    cases g1
    rw [g2] at h4
    injection h4 with h4
    injection h4 with h4
    exact h1 (h4 ▸ h3)
/-- behind a call -/
theorem SR.called {F F' H H' : Hp} {O : Ow} {ρ : Env} {σ : St} {L : List (Addr × PyData)} {is : List Nat} {as : List Addr} (S : SR G F O ρ σ H L) (l : LentR ρ σ is as) (m : Same F F') (s' : Same F' H') (fn : ∀ a, F' a ≠ none → F a ≠ none ∨ H a = none)
    (kp : ∀ a o, H a = some o → a ∉ as → H' a = some o) (nf : ∀ a ∈ as, F' a = none ∧ H' a ≠ none) {ρ' : Env} (hl : ρ'.length = ρ.length)
    (h' : ∀ (j : Nat) (s : Slot), ρ'[j]? = some (some s) → (j ∉ is ∧ ρ[j]? = some (some s)) ∨ (∃ d b o a, ρ[j]? = some (some (.own d b)) ∧ s = .own o b ∧ σ[j]? = some (some (.ref a)) ∧ OwnAt G.K F' H' a o)) : SR G F' O ρ' σ H' L := by
  have out : ∀ a i, O a = some (.inr i) → a ∉ as := fun a i e z => by
    obtain ⟨j, _, g, _⟩ := l.mem S a z
    rw [e] at g; cases g
  have eqH : ∀ a, H a ≠ none → a ∉ as → H' a = H a := fun a h n => by
    cases e : H a with
    | none => exact absurd e h
    | some o => exact kp a o e n
  refine ⟨s', S.f0.trans m, fun a ha => ?_, fun a o e hb => ?_, fun a ha => ?_, hl.trans S.len, fun j d e => ?_, fun j d b e => ?_, fun k a d e => ?_, fun a ha => ?_⟩
  · rcases fn a ha with z | z
    · exact S.fnew a z
    · exact .inr (S.h0 z)
  · refine kp a o (S.keep a o e hb) fun z => ?_
    obtain ⟨j, _, _, _, g⟩ := l.mem S a z
    rcases g with g | g
    · rw [g] at e; cases e
    · exact hb g
  · refine ⟨?_, (S.bs a ha).2⟩
    by_cases z : a ∈ as
    · exact (nf a z).2
    · rw [eqH a (S.bs a ha).1 z]; exact (S.bs a ha).1
  · rcases h' j _ e with ⟨_, q⟩ | ⟨_, _, _, _, _, q, _⟩
    · obtain ⟨v, g1, g2⟩ := S.val j d q
      exact ⟨v, g1, Rp.mono m _ _ g2⟩
    · cases q
  · rcases h' j _ e with ⟨hn, q⟩ | ⟨d0, b0, o, a0, q, q2, q3, q4⟩
    · obtain ⟨a, g1, g2, g3, g4⟩ := S.own j d b q
      have hna : a ∉ as := fun z => by
        obtain ⟨i, hi, g, _⟩ := l.mem S a z
        rw [g2] at g
        injection g with g
        injection g with g
        exact hn (g ▸ hi)
      exact ⟨a, g1, g2, g3.mono m (eqH a g3.some hna), g4⟩
    · cases q2
      obtain ⟨a, g1, g2, g3, g4⟩ := S.own j d0 b q
      rw [q3] at g1
      cases g1
      exact ⟨a0, q3, g2, q4, g4⟩
  · obtain ⟨g1, g2, g3⟩ := S.loo k a d e
    exact ⟨g1, g2.mono m (eqH a g2.some (out a k g1)), g3⟩
  · obtain ⟨g1, g2⟩ := S.of a ha
    by_cases z : a ∈ as
    · exact nf a z
    · refine ⟨?_, by rw [eqH a g2 z]; exact g2⟩
      cases e : F' a with
      | none => rfl
      | some o =>
        rcases fn a (by rw [e]; simp) with q | q
        · exact absurd g1 q
        · exact absurd q g2
/-- the data of the lent slots behind a call -/
theorem back_at {F' H' : Hp} {σ : St} : ∀ {xs : List Arg} {as : List Addr} {os : List PyData} {ρ : Env}, LentR ρ σ (Arg.lends xs) as → (Arg.lends xs).Nodup → OutR G.K F' H' as os →
    (argsBack xs ρ os).length = ρ.length ∧ ∀ (j : Nat) (s : Slot), (argsBack xs ρ os)[j]? = some (some s) → (j ∉ Arg.lends xs ∧ ρ[j]? = some (some s)) ∨ (∃ d b o a, ρ[j]? = some (some (.own d b)) ∧ s = .own o b ∧ σ[j]? = some (some (.ref a)) ∧ OwnAt G.K F' H' a o)
  | [], _, _, ρ, _, _, _ => ⟨rfl, fun j s e => .inl ⟨by simp [Arg.lends], e⟩⟩
  | .v d :: xs, as, os, ρ, l, n, o => back_at (xs := xs) l n o
  | .lend i :: xs, as, os, ρ, l, n, o => by
    have l : LentR ρ σ (i :: Arg.lends xs) as := l
    have n : (i :: Arg.lends xs).Nodup := n
    obtain ⟨n1, n2⟩ := List.nodup_cons.mp n
    cases l with
    | @cons _ _ a as d b q e t =>
      cases o with
      | @cons _ dd _ os f1 f2 f3 =>
        have hi : i < ρ.length := (List.getElem?_eq_some_iff.mp q).1
        have eb : argsBack (.lend i :: xs) ρ (dd :: os) = argsBack xs (ρ.set i (some (.own dd b))) os := by
          show (match (dd :: os), ρ[i]? with | o :: os, some (some (.own _ b)) => argsBack xs (ρ.set i (some (.own o b))) os | _, _ => ρ) = _
          rw [q]
        have t' : LentR (ρ.set i (some (.own dd b))) σ (Arg.lends xs) as := by
          clear eb e q f3 l n
          revert n1 n2
          generalize Arg.lends xs = js at t
          intro n1 n2
          induction t with
          | nil => exact .nil
          | @cons j js a' as' d' b' q' e' t' ih =>
            refine .cons (d := d') (b := b') ?_ e' (ih (fun z => n1 (List.mem_cons_of_mem _ z)) (List.nodup_cons.mp n2).2)
            rw [List.getElem?_set_ne (fun z => n1 (by rw [z]; exact List.mem_cons_self ..))]
            exact q'
        obtain ⟨h1, h2⟩ := back_at (xs := xs) t' n2 f3
        rw [eb]
        refine ⟨by simpa using h1, fun j s es => ?_⟩
        rcases h2 j s es with ⟨g1, g2⟩ | ⟨d1, b1, o1, a1, g1, g2, g3, g4⟩
        · by_cases hj : i = j
          · subst hj
            rw [List.getElem?_set_self hi] at g2
            cases g2
            exact .inr ⟨d, b, dd, a, q, rfl, e, f2⟩
          · rw [List.getElem?_set_ne hj] at g2
            exact .inl ⟨by show j ∉ i :: Arg.lends xs; simp [g1]; exact fun z => hj z.symm, g2⟩
        · by_cases hj : i = j
          · subst hj
            rw [List.getElem?_set_self hi] at g1
            cases g1
            exact .inr ⟨d, b, o1, a1, q, g2, g3, g4⟩
          · rw [List.getElem?_set_ne hj] at g1
            exact .inr ⟨d1, b1, o1, a1, g1, g2, g3, g4⟩
theorem OutR.mem {K : PySem.W.Frag} {F H : Hp} : ∀ {as : List Addr} {os : List PyData}, OutR K F H as os → ∀ a ∈ as, F a = none ∧ H a ≠ none
  | _, _, .nil, a, h => by simp at h
  | _, _, .cons f1 f2 t, a, h => by
    rcases List.mem_cons.mp h with rfl | h
    · exact ⟨f1, f2.some⟩
    · exact t.mem a h
/-- what a caller knows of a def -/
structure FnHyp (X : Cx) (k : Nat) (x : Str) (n : Nat) (fn : Fn) : Prop where
  ex : ∃ (f : Addr) (fd : FuncData) (ps : List Str) (dvs : List V) (ds : List Value), FnG X.prog X.w X.K X.mg X.base CX0 k f fd ps (spF X.K fn) ∧ X.mg x = some (.ref f) ∧ PySem.W.keepIn X.K (.ref f) = true ∧ Binds X.K fd ps ds ∧ Vals dvs ds ∧ ∀ F, RpAll X.K F dvs fn.dflt
  many : fn.modes.length = n + fn.dflt.length
  tail : fn.modes.drop n = List.replicate fn.dflt.length false
theorem ArgR.vals {K : PySem.W.Frag} {F H : Hp} : ∀ {dd : List PyData} {dvs : List V}, RpAll K F dvs dd → ArgR K F H (List.replicate dd.length false) dvs dd []
  | [], _, .nil => .nil
  | _ :: _, _, .cons r1 r2 => .val r1 (ArgR.vals r2)
theorem ArgR.dflt {K : PySem.W.Frag} {F H : Hp} : ∀ {dvs : List V} {dd : List PyData} {ms : List Bool} {vs : List V} {ds : List PyData} {as : List Addr}, RpAll K F dvs dd → ArgR K F H ms vs ds as → ArgR K F H (ms ++ List.replicate dd.length false) (vs ++ dvs) (ds ++ dd) as
  | dvs, dd, [], _, _, _, r, .nil => ArgR.vals r
  | dvs, dd, _, _, _, _, r, .val r1 t => .val r1 (ArgR.dflt r t)
  | dvs, dd, _, _, _, _, r, .lend a b t => .lend a b (ArgR.dflt r t)
theorem call_run {n : Nat} {fn : Fn} {cs : Cs} (hK : X.K = G.K) {dvs : List V} (hdv : ∀ F, RpAll X.K F dvs fn.dflt) (hm : fn.modes = fn.modes.take n ++ List.replicate fn.dflt.length false) (σ : St) (H : Hp) (Q : VK)
    (hQ : (fn.fresh = false ∧ tD G (W (.call fn cs)).v σ H Q) ∨ (fn.fresh = true ∧ tF G (W (.call fn cs)).v σ H Q)) : tAr G (fn.modes.take n) (Wa cs fn.modes) σ H fun vs H1 => spF X.K fn (vs ++ dvs) H1 Q E0 := by
  have go : ∀ {F : Hp} {O : Ow} {ρ : Env} {L : List (Addr × PyData)} {K : PyData → Env → Prop}, SR G F O ρ σ H L → (W (.call fn cs)).v ρ K →
      (∀ d ρ' v H1 H' F' O', K d ρ' → SR G F' O' ρ' σ H' L → Same F F' → ResR G.K fn.fresh F' H1 H' v d → (∀ a, H1 a = none → O' a = none ∧ G.H0 a = none) → Q v H') →
      tAr G (fn.modes.take n) (Wa cs fn.modes) σ H fun vs H1 => spF X.K fn (vs ++ dvs) H1 Q E0 := by
    intro F O ρ L K S w q
    refine ⟨F, O, ρ, L, _, S, w, fun xs ρ1 vs H1 F1 O1 k1 S1 m1 r1 => ?_⟩
    obtain ⟨ds, as, ar, lr, nd, k1⟩ := args_at S1 r1 k1
    rw [hK]
    refine ⟨F1, ds ++ fn.dflt, as, _, S1.sub, ?_, lr.nodup S1 nd, k1, fun d os v H' F' kk m2 s2 fnw kp ou rr => ?_⟩
    · have z := ArgR.dflt (hK ▸ hdv F1) ar
      rw [← hm] at z
      exact z
    · obtain ⟨_, kk⟩ := kk
      obtain ⟨b1, b2⟩ := back_at lr nd ou
      have S2 := S1.called lr m2 s2 fnw kp ou.mem b1 b2
      exact q d _ v H1 H' F' O1 kk S2 (m1.trans m2) rr fun a ha => ⟨S1.onone ha, S1.h0 ha⟩
  rcases hQ with ⟨hf, F, O, ρ, L, K, S, w, q⟩ | ⟨hf, F, O, ρ, L, K, S, w, q⟩
  · refine go S w fun d ρ' v H1 H' F' O' k S' m r _ => q d ρ' v H' F' O' k S' m ?_
    unfold ResR at r
    rw [hf] at r
    exact r
  · refine go S w fun d ρ' v H1 H' F' O' k S' m r hn => ?_
    unfold ResR at r
    rw [hf, if_pos rfl] at r
    obtain ⟨a, rfl, g1, g2, g3⟩ := r
    obtain ⟨h1, h2⟩ := hn a g3
    obtain ⟨O2, S2⟩ := S'.tagL g1 g2 h1 h2
    exact q d ρ' a H' F' O2 k S2 m
end
end Vs

set_option maxHeartbeats 4000000
/-! VL: a call as an expression; a def by its body over data. -/
namespace Vs
open PySem L2
open PyProof.Rows (envOfC)

section
variable {X : Cx} {G : Gh}
theorem backTo_any (pos : Pos) : ∀ l : List (Bool × Sem Value), (backTo pos l).any (·.1) = l.any (·.1)
  | [] => rfl
  | a :: l => by
    have := backTo_any pos l
    unfold backTo at this ⊢
    rw [List.map_cons, List.any_cons, List.any_cons, this]
theorem star_any {env : PySem.Env} : ∀ {es : List Expr}, es.all noStar = true → (starEach es env).any (·.1) = false
  | [], _ => rfl
  | e :: es, h => by
    rw [List.all_cons, Bool.and_eq_true] at h
    rw [star_each h.1, List.any_cons, star_any h.2]
    rfl
theorem sd_call {x : Str} {p pos : Pos} {e : Expr} {es : List Expr} {cs : Cs} {fn : Fn} {k : Nat} (hK : X.K = G.K) (h : FnHyp X k x (e :: es).length fn) (hr : Room k X.A) (hgd : X.A.guards = some []) (hgl : Gl X x)
    (ha : PA X (e :: es) (tAr G (fn.modes.take (e :: es).length) (Wa cs fn.modes))) (hdb : (x == ("__debug__" : Str)) = false) (hst : (e :: es).all noStar = true) : Sd X G (.Call (.Name x p) (e :: es) [] pos) (.call fn cs) := by
  obtain ⟨f, fd, ps, dvs, ds, F, hm, hk, hb, hd, hv⟩ := h.ex
  have h1 : noStar e = true := by rw [List.all_cons, Bool.and_eq_true] at hst; exact hst.1
  have h2 : es.all noStar = true := by rw [List.all_cons, Bool.and_eq_true] at hst; exact hst.2
  have hmod : fn.modes = fn.modes.take (e :: es).length ++ List.replicate fn.dflt.length false := by
    rw [← h.tail, List.take_append_drop]
  have P : PE X (.Call (.Name x p) (e :: es) [] pos) (tCall (spF X.K fn) dvs E0 (tAr G (fn.modes.take (e :: es).length) (Wa cs fn.modes))) :=
    pe_callG F hr hgd hgl hm hk hb hd pass0 ha hdb (star_each h1) (by rw [backTo_any]; exact star_any h2)
  cases hf : fn.fresh with
  | false => exact Sd.of_v hK rfl (fun i z => nomatch z) hf rfl (P.imp fun σ H Q h => call_run hK hv hmod σ H Q (.inl ⟨hf, h⟩))
  | true => exact Sd.of_f hK rfl (fun i z => nomatch z) rfl (P.imp fun σ H Q h => call_run hK hv hmod σ H Q (.inr ⟨hf, h⟩))
theorem sd_call0 {x : Str} {p pos : Pos} {fn : Fn} {k : Nat} (hK : X.K = G.K) (h : FnHyp X k x 0 fn) (hr : Room k X.A) (hgd : X.A.guards = some []) (hgl : Gl X x)
    (hdb : (x == ("__debug__" : Str)) = false) : Sd X G (.Call (.Name x p) [] [] pos) (.call fn .nil) := by
  obtain ⟨f, fd, ps, dvs, ds, F, hm, hk, hb, hd, hv⟩ := h.ex
  have hmod : fn.modes = fn.modes.take 0 ++ List.replicate fn.dflt.length false := by
    rw [← h.tail, List.take_append_drop]
  have P : PE X (.Call (.Name x p) [] [] pos) (tCall (spF X.K fn) dvs E0 tNil) :=
    pe_callG0 F hr hgd hgl hm hk hb hd pass0 hdb
  have go : ∀ {σ H Q}, tAr G (fn.modes.take 0) (Wa .nil fn.modes) σ H (fun vs H1 => spF X.K fn (vs ++ dvs) H1 Q E0) → tNil σ H fun vs H1 => spF X.K fn (vs ++ dvs) H1 Q E0 := by
    rintro σ H Q ⟨F, O, ρ, L, K, S, w, q⟩
    exact q [] ρ [] H F O w S (Same.refl _) .nil
  cases hf : fn.fresh with
  | false => exact Sd.of_v hK rfl (fun i z => nomatch z) hf rfl (P.imp fun σ H Q h => go (call_run hK hv hmod σ H Q (.inl ⟨hf, h⟩)))
  | true => exact Sd.of_f hK rfl (fun i z => nomatch z) rfl (P.imp fun σ H Q h => go (call_run hK hv hmod σ H Q (.inr ⟨hf, h⟩)))
end

/-! ### the callee's side -/
theorem ArgR.at {K : PySem.W.Frag} {F H : Hp} : ∀ {ms : List Bool} {vs : List V} {ds : List PyData} {as : List Addr}, ArgR K F H ms vs ds as → ∀ (i : Nat) (m : Bool) (d : PyData), ms[i]? = some m → ds[i]? = some d →
    (m = false ∧ ∃ v, vs[i]? = some v ∧ Rp K F v d) ∨ (m = true ∧ ∃ a, vs[i]? = some (.ref a) ∧ a ∈ as ∧ F a = none ∧ OwnAt K F H a d)
  | _, _, _, _, .nil, i, m, d, e1, e2 => by simp at e1
  | _, _, _, _, .val r t, 0, m, d, e1, e2 => by
    simp at e1 e2
    subst e1; subst e2
    exact .inl ⟨rfl, _, rfl, r⟩
  | _, _, _, _, .val r t, i + 1, m, d, e1, e2 => by
    simpa using t.at i m d (by simpa using e1) (by simpa using e2)
  | _, _, _, _, .lend (a := a) h1 h2 t, 0, m, d, e1, e2 => by
    simp at e1 e2
    subst e1; subst e2
    exact .inr ⟨rfl, a, rfl, by simp, h1, h2⟩
  | _, _, _, _, .lend h1 h2 t, i + 1, m, d, e1, e2 => by
    rcases t.at i m d (by simpa using e1) (by simpa using e2) with ⟨a, v, b, c⟩ | ⟨a, x, b, c, d⟩
    · exact .inl ⟨a, v, by simpa using b, c⟩
    · exact .inr ⟨a, x, by simpa using b, List.mem_cons_of_mem _ c, d⟩
theorem ArgR.of_mem {K : PySem.W.Frag} {F H : Hp} : ∀ {ms : List Bool} {vs : List V} {ds : List PyData} {as : List Addr}, ArgR K F H ms vs ds as → ∀ a ∈ as, ∃ i : Nat, ms[i]? = some true ∧ vs[i]? = some (.ref a) ∧ F a = none ∧ H a ≠ none
  | _, _, _, _, .nil, a, h => by simp at h
  | _, _, _, _, .val r t, a, h => by
    obtain ⟨i, h1, h2, h3⟩ := t.of_mem a h
    exact ⟨i + 1, by simpa using h1, by simpa using h2, h3⟩
  | _, _, _, _, .lend f1 f2 t, a, h => by
    rcases List.mem_cons.mp h with rfl | h
    · exact ⟨0, rfl, rfl, f1, f2.some⟩
    · obtain ⟨i, h1, h2, h3⟩ := t.of_mem a h
      exact ⟨i + 1, by simpa using h1, by simpa using h2, h3⟩
theorem ArgR.mem_of {K : PySem.W.Frag} {F H : Hp} : ∀ {ms : List Bool} {vs : List V} {ds : List PyData} {as : List Addr}, ArgR K F H ms vs ds as → ∀ (i : Nat) (a : Addr), ms[i]? = some true → vs[i]? = some (.ref a) → a ∈ as
  | _, _, _, _, .nil, i, a, e1, _ => by simp at e1
  | _, _, _, _, .val r t, 0, a, e1, e2 => by simp at e1
  | _, _, _, _, .val r t, i + 1, a, e1, e2 => t.mem_of i a (by simpa using e1) (by simpa using e2)
  | _, _, _, _, .lend f1 f2 t, 0, a, e1, e2 => by
    simp at e2
    subst e2
    simp
  | _, _, _, _, .lend f1 f2 t, i + 1, a, e1, e2 => List.mem_cons_of_mem _ (t.mem_of i a (by simpa using e1) (by simpa using e2))
theorem ArgR.inj {K : PySem.W.Frag} {F H : Hp} : ∀ {ms : List Bool} {vs : List V} {ds : List PyData} {as : List Addr}, ArgR K F H ms vs ds as → as.Nodup → ∀ (i j : Nat) (a : Addr), ms[i]? = some true → vs[i]? = some (.ref a) → ms[j]? = some true → vs[j]? = some (.ref a) → i = j
  | _, _, _, _, .nil, _, i, j, a, e1, _, _, _ => by simp at e1
  | _, _, _, _, .val r t, n, i, j, a, e1, e2, e3, e4 => by
    cases i with
    | zero => simp at e1
    | succ i =>
      cases j with
      | zero => simp at e3
      | succ j => rw [t.inj n i j a (by simpa using e1) (by simpa using e2) (by simpa using e3) (by simpa using e4)]
  | _, _, _, _, .lend f1 f2 t, n, i, j, a, e1, e2, e3, e4 => by
    obtain ⟨n1, n2⟩ := List.nodup_cons.mp n
    cases i with
    | zero =>
      simp at e2
      subst e2
      cases j with
      | zero => rfl
      | succ j => exact absurd (t.mem_of j _ (by simpa using e3) (by simpa using e4)) n1
    | succ i =>
      cases j with
      | zero =>
        simp at e4
        subst e4
        exact absurd (t.mem_of i _ (by simpa using e1) (by simpa using e2)) n1
      | succ j => rw [t.inj n2 i j a (by simpa using e1) (by simpa using e2) (by simpa using e3) (by simpa using e4)]
def slOf (ms : List Bool) (vs : List V) (i : Nat) : Option Addr := match ms[i]?, vs[i]? with
  | some true, some (.ref a) => some a
  | _, _ => none
theorem slOf_eq {ms : List Bool} {vs : List V} {i : Nat} {a : Addr} (h : slOf ms vs i = some a) : ms[i]? = some true ∧ vs[i]? = some (.ref a) := by
  unfold slOf at h
  split at h
  · next e1 e2 => cases h; exact ⟨e1, e2⟩
  · cases h
theorem slOf_mk {ms : List Bool} {vs : List V} {i : Nat} {a : Addr} (h1 : ms[i]? = some true) (h2 : vs[i]? = some (.ref a)) : slOf ms vs i = some a := by
  unfold slOf
  rw [h1, h2]
open Classical in
noncomputable def owOf (ms : List Bool) (vs : List V) : Ow := fun a => if h : ∃ i, slOf ms vs i = some a then some (.inl (choose h)) else none
theorem start_at {N : List Str} {vs : List V} {i : Nat} {v : V} (h : vs[i]? = some v) : (start N vs)[i]? = some (some v) := by
  unfold L2.start
  rw [List.getElem?_append_left (by simpa using (List.getElem?_eq_some_iff.mp h).1)]
  simp [h]
theorem initE_at {ms : List Bool} {ds : List PyData} {n i : Nat} {s : Slot} (h : (initE ms ds n)[i]? = some (some s)) : ∃ m d, ms[i]? = some m ∧ ds[i]? = some d ∧ s = if m = true then Slot.own d true else Slot.val d := by
  unfold initE at h
  by_cases hi : i < (ms.zip ds).length
  · rw [List.getElem?_append_left (by simpa using hi)] at h
    rw [List.getElem?_map] at h
    obtain ⟨⟨m, d⟩, e, h⟩ := Option.map_eq_some_iff.mp h
    rw [List.getElem?_zip_eq_some] at e
    simp only [Option.some.injEq] at h
    exact ⟨m, d, e.1, e.2, h.symm⟩
  · rw [List.getElem?_append_right (by simpa using hi)] at h
    rw [List.getElem?_replicate] at h
    split at h <;> cases h
theorem sr_start {K : PySem.W.Frag} {F H : Hp} {ms : List Bool} {vs : List V} {ds : List PyData} {as : List Addr} {N : List Str} (s : Same F H) (ar : ArgR K F H ms vs ds as) (nd : as.Nodup) : SR ⟨K, F, H, as, slOf ms vs⟩ F (owOf ms vs) (initE ms ds N.length) (start N vs) H [] := by
  obtain ⟨l1, l2⟩ := ar.len
  refine ⟨s, Same.refl _, fun a h => .inl h, fun a o e _ => e, fun a h => ?_, ?_, fun i d e => ?_, fun i d b e => ?_, fun k a d e => by simp at e, fun a h => ?_⟩
  · obtain ⟨i, _, _, _, h4⟩ := ar.of_mem a h
    exact ⟨h4, h4⟩
  · unfold initE L2.start
    simp [l1, l2]
  · obtain ⟨m, d', e1, e2, e3⟩ := initE_at e
    cases m with
    | true => cases e3
    | false =>
      cases e3
      rcases ar.at i _ _ e1 e2 with ⟨_, v, h1, h2⟩ | ⟨z, _⟩
      · exact ⟨v, start_at h1, h2⟩
      · cases z
  · obtain ⟨m, d', e1, e2, e3⟩ := initE_at e
    cases m with
    | false => cases e3
    | true =>
      cases e3
      rcases ar.at i _ _ e1 e2 with ⟨z, _⟩ | ⟨_, a, h1, h2, h3, h4⟩
      · cases z
      · have hs := slOf_mk e1 h1
        refine ⟨a, start_at h1, ?_, h4, fun _ => ⟨h2, hs⟩, fun z => nomatch z⟩
        have hex : ∃ i, slOf ms vs i = some a := ⟨i, hs⟩
        have hc := Classical.choose_spec hex
        obtain ⟨c1, c2⟩ := slOf_eq hc
        have := ar.inj nd _ i a c1 c2 e1 h1
        unfold owOf
        rw [dif_pos hex, this]
  · unfold owOf at h
    split at h
    · next hex =>
      obtain ⟨i, hi⟩ := hex
      obtain ⟨c1, c2⟩ := slOf_eq hi
      obtain ⟨_, _, _, h3, h4⟩ := ar.of_mem a (ar.mem_of i a c1 c2)
      exact ⟨h3, h4⟩
    · exact absurd rfl h
theorem outs_at {G : Gh} {F F' H H' : Hp} {O : Ow} {ρ : Env} {σ : St} {L : List (Addr × PyData)} (S : SR G F' O ρ σ H' L) : ∀ {ms : List Bool} {vs : List V} {ds : List PyData} {as : List Addr} (i0 : Nat) {k : List PyData → Prop}, ArgR G.K F H ms vs ds as →
    (∀ j a, ms[j]? = some true → vs[j]? = some (.ref a) → G.sl (i0 + j) = some a) → outsOf ms i0 ρ k → ∃ os, OutR G.K F' H' as os ∧ k os
  | _, _, _, _, i0, k, .nil, _, h => ⟨[], .nil, h⟩
  | _, _, _, _, i0, k, .val (ms := ms) r t, hs, h => by
    have h : outsOf ms (i0 + 1) ρ k := h
    exact outs_at S (i0 + 1) t (fun j a e1 e2 => by rw [show i0 + 1 + j = i0 + (j + 1) by omega]; exact hs (j + 1) a (by simpa using e1) (by simpa using e2)) h
  | _, _, _, _, i0, k, .lend (a := a) (ms := ms) f1 f2 t, hs, h => by
    have h : (match ρ[i0]? with | some (some (.own o true)) => outsOf ms (i0 + 1) ρ fun os => k (o :: os) | _ => False) := h
    split at h
    · next o e =>
      obtain ⟨os, h1, h2⟩ := outs_at S (i0 + 1) t (fun j a e1 e2 => by rw [show i0 + 1 + j = i0 + (j + 1) by omega]; exact hs (j + 1) a (by simpa using e1) (by simpa using e2)) h
      obtain ⟨a', g1, g2, g3, g4, _⟩ := S.own i0 o true e
      have := hs 0 a rfl rfl
      rw [Nat.add_zero, (g4 rfl).2] at this
      cases this
      exact ⟨o :: os, .cons (S.of a (by rw [g2]; simp)).1 g3 h1, h2⟩
    · exact h.elim
theorem fnG_mk {P : Program} {w : World} {K : PySem.W.Frag} {mg : Str → Option Value} {base : Heap} {k : Nat} {f : Addr} {name qual : Str} {params : Arguments} {body : List Stmt} {scope : Scope} {dV kV doc pm cdv ct oc : Value} {an od : Option Addr}
    {osl : Array (Option Value)} {N ps : List Str} {fn : Fn} {cb : Ss} (lk : K.lookup f = some ⟨oc, od, .func (PySem.W.fnOf name qual params body scope dV kV doc pm an cdv ct), osl⟩) (hcd : PySem.W.codeIn K cdv qual = true) (S : FnScope N ps scope)
    (hlen : fn.modes.length = ps.length) (hden : Den fn N.length cb)
    (hbody : ∀ (A : Around) (outer : List PySem.Env) (s : Shared) (H : Hp) (E : XK) (G : Gh), G.K = K → Room k (A.deeper (envOfC qual scope s.heap.objs.size f cdv)) → A.guards = some [] → PSs (cxOf CX0 P w K mg base N qual scope f cdv A outer s H E).nox body (tS G fn.fresh (WSs cb))) :
    FnG P w K mg base CX0 (k + 1) f (PySem.W.fnOf name qual params body scope dV kV doc pm an cdv ct) ps (spF K fn) := by
  refine fnG_of lk hcd S (fun vs H Q E ⟨F, ds, as, Kt, _, ar, _⟩ => ar.len.1.trans hlen) fun A outer s H vs Q E hr hgd ⟨F, ds, as, Kt, sm, ar, nd, sp, q⟩ => ?_
  refine ⟨_, (hbody A outer s H E ⟨K, F, H, as, slOf fn.modes vs⟩ rfl hr hgd).nox, ?_⟩
  obtain ⟨_, w⟩ := hden ds Kt sp
  refine ⟨F, owOf fn.modes vs, _, _, sr_start sm ar nd, w, ?_⟩
  have sl0 : ∀ j a, fn.modes[j]? = some true → vs[j]? = some (.ref a) → slOf fn.modes vs (0 + j) = some a := fun j a e1 e2 => by rw [Nat.zero_add]; exact slOf_mk e1 e2
  refine ⟨fun ρ σ H' F' O h S' m => ?_, fun _ _ _ _ _ h => h.elim, fun _ _ _ _ _ h => h.elim, fun hf d ρ σ v H' F' O h S' r => ?_, fun hf d ρ σ a H' F' O h S' => ?_⟩
  · have h : if fn.fresh = true then False else outsOf fn.modes 0 ρ fun os => Kt .none os := h
    split at h
    · exact h.elim
    · next hf =>
      obtain ⟨os, h1, h2⟩ := outs_at S' 0 ar sl0 h
      refine q .none os .non H' F' h2 S'.f0 S'.sub S'.fnew S'.keep h1 ?_
      unfold ResR
      rw [if_neg hf]
      exact .non
  · obtain ⟨os, h1, h2⟩ := outs_at S' 0 ar sl0 h
    refine q d os v H' F' h2 S'.f0 S'.sub S'.fnew S'.keep h1 ?_
    unfold ResR
    rw [hf, if_neg Bool.false_ne_true]
    exact r
  · obtain ⟨os, h1, h2⟩ := outs_at S' 0 ar sl0 h
    obtain ⟨t1, t2, t3⟩ := S'.loo 0 a d rfl
    refine q d os (.ref a) H' F' h2 S'.f0 S'.sub S'.fnew S'.keep h1 ?_
    unfold ResR
    rw [hf, if_pos rfl]
    exact ⟨a, rfl, (S'.of a (by rw [t1]; simp)).1, t2, t3⟩
end Vs

set_option maxHeartbeats 4000000
/-! VM: list + list, list * int, {k: v}, sorted(set(t)), enumerate, zip, range downward. -/
namespace Vs
open PySem PySem.Spec L2 RZ

section
variable {X : Cx} {G : Gh} {tg : Expr}
/-! ### new lists by operators -/
def R2new (G : Gh) (r : R2) (f : PyData → PyData → (PyData → Prop) → Prop) : Prop :=
  ∀ F H v u d e k Q, Same F H → Pk G.K F H v d → Pk G.K F H u e → f d e k → (∀ d' p o, k d' → H p = none → OwnAt G.K F (upd H p o) p d' → Q (.ref p) (upd H p o)) → r v u H Q
theorem op2F {a b : Expr} {ca cb : C} {f : PyData → PyData → (PyData → Prop) → Prop} {r : R2} (hr : R2new G r f) (ha : PE X a (tO G (opC ca))) (hb : PE X b (tO G (opC cb))) (σ : St) (H : Hp) (Q : VK)
    (h : tF G (fun ρ Q => opC ca ρ fun x ρ1 => opC cb ρ1 fun y ρ2 => x.on ρ2 fun d => y.on ρ2 fun e => f d e fun r => Q r ρ2) σ H Q) : tOp r (tO G (opC ca)) (tO G (opC cb)) σ H Q := by
  obtain ⟨F, O, ρ, L, K, S, w, q⟩ := h
  refine ⟨F, O, ρ, L, _, S, w, fun x ρ1 v H1 F1 O1 w1 S1 m1 r1 => ?_⟩
  refine ⟨F1, O1, ρ1, L, _, S1, w1, fun y ρ2 u H2 F2 O2 w2 S2 m2 r2 => ?_⟩
  obtain ⟨d, p1, w2⟩ := S2.on (r1.mono m2) w2
  obtain ⟨d', p2, w2⟩ := S2.on r2 w2
  refine hr F2 H2 v u d d' _ Q S2.sub p1 p2 w2 fun d2 p o k hp ho => ?_
  obtain ⟨O3, S3⟩ := S2.allocL hp ho
  exact q d2 ρ2 p _ F2 O3 k S3 (m1.trans m2)
theorem r2n_cat : R2new G (rAddD G.K) catW := by
  intro F H v u d e k Q s p1 p2 h q
  unfold catW at h
  split at h
  · obtain ⟨a, vs, rfl, e1, r1, l1⟩ := p1.lst s
    obtain ⟨b, us, rfl, e2, r2, l2⟩ := p2.lst s
    obtain ⟨h2, h3⟩ := h
    refine .inr (.inr ⟨a, b, vs, us, rfl, rfl, e1, e2, by rw [r1.length, r2.length, line_eq]; exact h2, fun p hp => ?_⟩)
    exact q _ _ _ h3 hp (own_lst (r1.append r2) (by rw [List.length_append]; exact h2))
  · exact h.elim
theorem r2n_rep : R2new G rMulD repW := by
  intro F H v u d e k Q s p1 p2 h q
  unfold repW at h
  split at h
  · next xs j =>
    obtain ⟨a, vs, rfl, e1, r1, l1⟩ := p1.lst s
    obtain rfl := p2.int
    obtain ⟨⟨h1, h2, h3⟩, h4⟩ := h
    have el : ∀ (n : Nat), ((List.replicate n xs).flatten).length = xs.length * n := fun n => by simp [Nat.mul_comm]
    refine .inr ⟨a, j, vs, rfl, rfl, e1, by omega, by omega, by rw [r1.length, line_eq]; exact h3, fun p hp => ?_⟩
    exact q _ _ _ h4 hp (own_lst (r1.flat _) (by rw [el]; exact h3))
  · exact h.elim
theorem sd_cat {a b : Expr} {ca cb : C} {pos : Pos} (hK : X.K = G.K) (ha : Sd X G a ca) (hb : Sd X G b cb) : Sd X G (.BinOp a .Add b pos) (.cat ca cb) :=
  Sd.of_f hK rfl (fun i z => nomatch z) rfl ((pe_op op_addD ha.o hb.o).imp fun σ H Q h => hK ▸ op2F r2n_cat ha.o hb.o σ H Q h)
theorem sd_rep {a b : Expr} {ca cb : C} {pos : Pos} (hK : X.K = G.K) (ha : Sd X G a ca) (hb : Sd X G b cb) : Sd X G (.BinOp a .Mult b pos) (.rep ca cb) :=
  Sd.of_f hK rfl (fun i z => nomatch z) rfl ((pe_op op_mulD ha.o hb.o).imp fun σ H Q h => op2F r2n_rep ha.o hb.o σ H Q h)

/-! ### range(i, j, -1) -/
theorem feeds_rangeC {K : PySem.W.Frag} {F : Hp} {lo : Int} {n : Nat} (hn : n ≤ 16777216) : Feeds K F (Itc lo (-1) n) ((List.range n).map fun (i : Nat) => PyData.int (lo - (i : Int))) := by
  have hl : ((List.range n).map fun (i : Nat) => PyData.int (lo - (i : Int))).length = n := by simp
  refine ⟨by rw [hl]; exact hn, fun i H m hi => by rw [hl] at hi; exact hi, fun H m => by rw [hl]; exact Nat.le_refl _, fun i H x H' F1 m m1 hi y => ?_⟩
  rw [hl] at hi
  obtain ⟨rfl, rfl⟩ := y
  exact ⟨.int (lo + (i : Int) * -1), F1, by simp [hi]; omega, .refl, .int _⟩
theorem si_range3 {a b c : Expr} {ca cb cc : C} {p pos : Pos} (hg : Gl X "range") (hm : X.mg "range" = none) (hs : noStar a = true) (hs2 : noStar b = true) (hs3 : noStar c = true) (h : Sd X G a ca) (h2 : Sd X G b cb) (h3 : Sd X G c cc) :
    PI X tg (.Call (.Name "range" p) [a, b, c] [] pos) (tI G (Wi (.range3 ca cb cc))) := by
  refine (pi_range3 hg hm (pa_cons h.v (pa_cons h2.v (pa_cons h3.v pa_nil (star_each hs3)) (star_each hs2)) (star_each hs)) (by rw [star_each hs]) (by rw [star_each hs2, star_each hs3]; rfl)).imp fun σ H R ⟨F, O, ρ, L, K, S, w, q⟩ => ?_
  refine ⟨F, O, ρ, L, _, S, w, fun d ρ1 v H1 F1 O1 k1 S1 m1 r1 => ?_⟩
  refine ⟨F1, O1, ρ1, L, _, S1, k1, fun d2 ρ2 v2 H2 F2 O2 k2 S2 m2 r2 => ?_⟩
  refine ⟨F2, O2, ρ2, L, _, S2, k2, fun d3 ρ3 v3 H3 F3 O3 k3 S3 m3 r3 => ?_⟩
  cases d with
  | int i =>
    cases d2 with
    | int j =>
      cases d3 with
      | int c =>
        cases r1
        cases r2
        cases r3
        obtain ⟨⟨rfl, ⟨a1, a2⟩, ⟨a3, a4⟩, a5⟩, k4⟩ := k3
        exact ⟨i, j, -1, _, rfl, RgC.neg a1 a2 a3 a4, q _ ρ3 H3 F3 O3 _ k4 S3 (m1.trans (m2.trans m3)) (feeds_rangeC (by omega))⟩
      | _ => exact (k3 : False).elim
    | _ => exact (by cases d3 <;> exact (k3 : False).elim)
  | _ => exact (by cases d2 <;> cases d3 <;> exact (k3 : False).elim)

/-! ### enumerate -/
theorem meets_enum1 {v : Value} {o : Obj} {H : Heap → Prop} (B : Begins v o H) :
    Meets (Builtin.«enumerate.__new__» ⟨[.type "enumerate", v], []⟩) (fun _ R s => H s.heap ∧
      R (.ok (.ret (.ref (s.heap.push o).objs.size))) { s with heap := (s.heap.push o).push { cls := .type "enumerate", data := .fields #[.none, .bool false, .ref s.heap.objs.size, rawInt 0, .none, .none] } }) :=
  .of_wp fun prog w A R s h => by
    obtain ⟨hp, g, d, tk, os⟩ := s
    obtain ⟨h1, h⟩ := h
    have hsub := sub_enumerate
    have q1 : ∀ {A' : Around} {E : Value → Shared → Prop} {Q : Value → Shared → Prop}, Q (.ref hp.objs.size) ⟨hp.push o, g, d, tk, os⟩ → wpAny (model prog w) A' (pyIter v) Q E ⟨hp, g, d, tk, os⟩ :=
      fun q => B.iter prog w _ _ ⟨hp, g, d, tk, os⟩ _ h1 q
    wp_walk using q1
    refine wpAny_stack_any fun st => wpAny_pure ?_
    split
    · rename_i c _ _ _ _ _
      cases (c == Value.type "enumerate")
      · wp_walk using q1
        exact ⟨_, rfl, h⟩
      · wp_walk using q1
        exact ⟨_, rfl, h⟩
    · wp_walk using q1
      exact ⟨_, rfl, h⟩
theorem enum_begins1 {prog : Program} {w : World} {A : Around} {E : Value → Shared → Prop} {s : Shared} {v : Value} {o : Obj} {H : Heap → Prop} {Q : Value → Shared → Prop} (B : Begins v o H) (h1 : H s.heap)
    (h : ∀ h', IsEnum h' (s.heap.objs.size + 1) s.heap.objs.size 0 .none → h'.get? s.heap.objs.size = some o → h'.objs.size = s.heap.objs.size + 2 →
      (∀ b o, s.heap.get? b = some o → h'.get? b = some o) → Q (.ref (s.heap.objs.size + 1)) { s with heap := h' }) :
    wpAny (model prog w) A (call (.type "enumerate") [v]) Q E s := by
  refine callType_new F.called_enumerate (by decide) (F.typeCall_enumerate_1 _) (F.newCall_enumerate_1 _) (fun obj => F.args_object_init_2 obj _) F.entry_enumerate_new
    (meets_enum1 B) ⟨h1, ?_⟩
  have hz : (s.heap.push o).objs.size = s.heap.objs.size + 1 := Heap.size_push ..
  show _ ∧ _
  rw [hz]
  have he : IsEnum ((s.heap.push o).push { cls := .type "enumerate", data := .fields #[.none, .bool false, .ref s.heap.objs.size, rawInt 0, .none, .none] }) (s.heap.objs.size + 1) s.heap.objs.size 0 .none := by
    have := Heap.get?_push_size (s.heap.push o) (o := { cls := .type "enumerate", data := .fields #[.none, .bool false, .ref s.heap.objs.size, rawInt 0, .none, .none] }) rfl
    rw [hz] at this; exact this
  refine ⟨⟨_, he, rfl⟩, h _ he (Heap.get?_push_of_some _ (Heap.get?_push_size _ B.free)) (by rw [Heap.size_push, hz]) fun b o x => Heap.get?_push_of_some _ (Heap.get?_push_of_some _ x)⟩
/-- the tuple at a, each item in a new pair -/
def IteT (K : PySem.W.Frag) (a : Addr) : It :=
  ⟨fun i H => ∃ (xs : List V) (x : V), SqT K H a xs ∧ xs[i]? = some x, fun i H v H' => ∃ T x, v = .ref T ∧ H T = none ∧ H' = upd H T (.tup [.int (i : Nat), x]) ∧ ∀ xs, SqT K H a xs → xs[i]? = some x, fun i H => ∃ xs : List V, SqT K H a xs ∧ xs.length = i⟩
theorem turn_enumT {P : Program} {w : World} {K : PySem.W.Frag} {elts : List Expr} {kk : Nat} {tpos : Pos} (a e it : Addr) :
    Turn P w K (.Tuple elts kk tpos) (IteT K a) [e, it] e (fun i h => (∃ old, IsEnum h e it ((i : Nat) : Int) old) ∧ h.IsTupleIter it a i ∧ e ≠ it ∧ e ≠ a ∧ a ≠ it) where
  mem := by simp
  obj := fun i h st b hb => by
    obtain ⟨⟨old, he⟩, ⟨o, ho, hc, hd⟩, _⟩ := st
    have e' : b = e ∨ b = it := by simpa using hb
    rcases e' with z | z
    · rw [z]; exact ⟨_, he, fun v q => nomatch q⟩
    · rw [z]; exact ⟨o, ho, fun v q => by rw [hd] at q; cases q⟩
  keep := fun i h h' st k => let ⟨⟨old, he⟩, hi, hne⟩ := st; ⟨⟨old, k e (by simp) _ he⟩, hi.at fun o q => k it (by simp) o q, hne⟩
  item := by
    intro X hP hw hK hc i pins s σ H E I hf st hg
    subst hP hw hK
    obtain ⟨⟨old, he⟩, hit, hne, hea, hai⟩ := st
    obtain ⟨xs, x, hq, hx⟩ := hg
    obtain ⟨its, rv, p, hz⟩ := I.tuple hq
    obtain ⟨u0, hu, ru0⟩ := rv.get hx
    have hi : i < its.toArray.size := by
      have := (List.getElem?_eq_some_iff.mp hu).1
      simpa using this
    have hel : e < s.heap.objs.size := Heap.lt_size he
    have hil : it < s.heap.objs.size := by obtain ⟨_, q, _⟩ := hit; exact Heap.lt_size q
    refine wpAny_pyNext_enum_itemC (Draws.tuple (show X.A.in1.handled = none from I.ok.hd hc) it a hai its.toArray) he ⟨hit, p⟩ hi hne (by simp; exact ⟨hne, hea⟩) fun u h' tk hu2 ho hst' hT hsz hk => ?_
    obtain ⟨hit', _⟩ := hst'
    have ru : RelV x u := by
      have hu2 : its[i]? = some u := by simpa using hu2
      rw [hu] at hu2
      cases hu2
      exact ru0
    refine ⟨_, rfl, wpAny_letOwnedTupleGo_enum (s := { s with heap := h', toks := tk + 1 }) ho fun h'' he' sb => ?_⟩
    have hT2 : h''.get? s.heap.objs.size = some { cls := .type "tuple", data := .seq #[.int i tk, u] } := (sb.2 _ (Nat.ne_of_gt hel)).trans hT
    have new : ObjOk X.prog X.w (upd H s.heap.objs.size (.tup [.int (i : Nat), x])) h'' s.heap.objs.size (.tup [.int (i : Nat), x]) :=
      ⟨by show 2 ≤ sizeLine; decide, [.int i tk, u], .cons ⟨_, rfl⟩ (.cons ru .nil), ⟨_, hT2, rfl, _, rfl⟩⟩
    have I1 : Inv X pins σ (upd H s.heap.objs.size (.tup [.int (i : Nat), x])) { s with heap := h'', toks := tk + 1 } :=
      I.turnedNew (ch := [e, it]) (fun b ob hb q => (sb.2 b (fun z => hb (by simp [z]))).trans (hk b ob (fun z => hb (by simp [z])) (fun z => hb (by simp [z])) q)) hf (Nat.le_refl _) new
    refine ⟨.ref s.heap.objs.size, _, I1, rfl, ⟨_, x, rfl, I.hok.fresh (Nat.le_refl _), rfl, fun ys hy => by rw [I.tuple_inj hy hq]; exact hx⟩, ⟨⟨u, ?_⟩, hit'.at fun o q => (sb.2 it (Ne.symm hne)).trans q, hne, hea, hai⟩, fun b hb => ?_⟩
    · have e1 : ((i + 1 : Nat) : Int) = (i : Int) + 1 := by omega
      rw [e1]; exact he'
    · have hb' : b < s.heap.objs.size := by
        have e' : b = e ∨ b = it := by simpa using hb
        rcases e' with z | z
        · rw [z]; exact hel
        · rw [z]; exact hil
      rw [upd_ne (Nat.ne_of_lt hb')]
      exact (hf b hb).1
  done := by
    intro X hP hw hK hc i pins s σ H E I hf st hg
    subst hP hw hK
    obtain ⟨⟨old, he⟩, hit, hne, hea, hai⟩ := st
    obtain ⟨xs, hq, hx⟩ := hg
    obtain ⟨its, rv, p, hz⟩ := I.tuple hq
    obtain ⟨f0, f1, f2, f3, f4, f5⟩ := hf it (by simp)
    have hl := rv.length
    have hn : i = its.toArray.size := by simp; omega
    have D := Draws.tuple (prog := X.prog) (w := X.w) (show X.A.in1.handled = none from I.ok.hd hc) it a hai its.toArray
    exact wpAny_pyNext_enum_endD D he (by rw [← hn]; exact ⟨hit, p⟩) fun h' eb => ⟨rfl, I.turned (t' := s.toks) (fun b o hb q => eb b o hb q) f0 f1 f3 f4 f5⟩
  self := fun A i s Q E st h => let ⟨⟨_, he⟩, _⟩ := st; wpAny_pyIter_enum he h
def iEnumA (K : PySem.W.Frag) (ta : TA) : TI := fun σ H R => ta σ H fun vs H1 => ∃ a xs, vs = [.ref a] ∧ ((SqL K H1 a xs ∧ R (Ite K a) H1) ∨ (SqT K H1 a xs ∧ R (IteT K a) H1))
theorem pi_enumA {e : Expr} {ta : TA} {p pos tpos : Pos} {elts : List Expr} {kk : Nat} (hg : Gl X "enumerate") (hm : X.mg "enumerate" = none) (ha : PA X [e] ta) (hs : starEach [e] X.env = [(false, eval e X.env)]) :
    PI X (.Tuple elts kk tpos) (.Call (.Name "enumerate" p) [e] [] pos) (iEnumA X.K ta) := by
  refine ⟨fun pins s σ H R I h => ?_⟩
  refine PyProof.Rows.Call_ (ld_blt I hg hm PyProof.Rows.boot_enumerate (PyProof.Rows.callWith_type1 (thn (ha.run pos pins s σ H _ I h) fun us s1 ⟨vs, H1, I1, r1, q1⟩ => ?_) hs rfl))
  obtain ⟨a, xs, ex, q1⟩ := q1
  subst ex
  cases r1 with
  | cons r rr =>
    cases rr
    cases r
    have hfp : ∀ b ∈ [s1.heap.objs.size + 1, s1.heap.objs.size], FpOk X pins H1 b := fun b hb => by
      have e' : b = s1.heap.objs.size + 1 ∨ b = s1.heap.objs.size := by simpa using hb
      have hle : s1.heap.objs.size ≤ b := by
        rcases e' with z | z
        · rw [z]; exact Nat.le_add_right _ _
        · rw [z]; exact Nat.le_refl _
      exact I1.fpOk hle (I1.hok.fresh hle)
    rcases q1 with ⟨hq, q⟩ | ⟨hq, q⟩
    · obtain ⟨its, rv, p', hz⟩ := I1.list hq
      refine call_enumerate_list p'.isList fun h' he hit hsz hk => wpAny_pyIter_enum he ?_
      have I2 : Inv X pins σ H1 { s1 with heap := h' } := I1.kept (t' := s1.toks) hk
      exact ⟨s1.heap.objs.size + 1, [s1.heap.objs.size + 1, s1.heap.objs.size], _, _, H1, rfl, I2, turn_enum a (s1.heap.objs.size + 1) s1.heap.objs.size, ⟨⟨.none, he⟩, hit, Nat.succ_ne_self _⟩, hfp, q⟩
    · obtain ⟨its, rv, p', hz⟩ := I1.tuple hq
      have hal : a < s1.heap.objs.size := by obtain ⟨o, ho, _⟩ := p'; exact Heap.lt_size ho
      refine enum_begins1 (begins_tuple a its.toArray) p' fun h' he hit hsz hk => wpAny_pyIter_enum he ?_
      have I2 : Inv X pins σ H1 { s1 with heap := h' } := I1.kept (t' := s1.toks) hk
      exact ⟨s1.heap.objs.size + 1, [s1.heap.objs.size + 1, s1.heap.objs.size], _, _, H1, rfl, I2, turn_enumT a (s1.heap.objs.size + 1) s1.heap.objs.size, ⟨⟨.none, he⟩, ⟨_, hit, rfl, rfl⟩, Nat.succ_ne_self _, Ne.symm (Nat.ne_of_lt (Nat.lt_succ_of_lt hal)), Nat.ne_of_lt hal⟩, hfp, q⟩
theorem enumD_at {xs : List PyData} {i : Nat} {d : PyData} (h : xs[i]? = some d) : (enumD xs)[i]? = some (.tuple [.int i, d]) := by
  unfold enumD
  rw [List.getElem?_map, List.getElem?_zipIdx, h]
  simp
theorem enumD_len (xs : List PyData) : (enumD xs).length = xs.length := by simp [enumD]
theorem feeds_enum {K : PySem.W.Frag} {F : Hp} {a : Addr} {xs : List V} {ds : List PyData} (h : F a = some (.lst xs)) (r : RpAll K F xs ds) (l : ds.length ≤ sizeLine) : Feeds K F (Ite K a) (enumD ds) := by
  have hl := r.length
  have el := enumD_len ds
  refine ⟨by rw [el, ← line_eq]; exact l, fun i H m hi => ⟨xs, xs[i]'(by omega), .of (m _ _ h), by simp⟩, fun H m => ⟨xs, .of (m _ _ h), by omega⟩, fun i H x H' F1 m m1 hi y => ?_⟩
  obtain ⟨T, x, rfl, hT, rfl, y⟩ := y
  obtain ⟨d, h1, h2⟩ := r.get (y xs (.of (m1 _ _ (m _ _ h))))
  exact ⟨_, _, enumD_at h1, .new hT, rp_tup (m1.free hT) (.cons (.int _) (.cons (Rp.mono m _ _ h2) .nil)) (by simp)⟩
theorem feeds_enumT {K : PySem.W.Frag} {F : Hp} {a : Addr} {xs : List V} {ds : List PyData} (h : SqT K F a xs) (r : RpAll K F xs ds) (l : ds.length ≤ sizeLine) : Feeds K F (IteT K a) (enumD ds) := by
  have hl := r.length
  have el := enumD_len ds
  refine ⟨by rw [el, ← line_eq]; exact l, fun i H m hi => ⟨xs, xs[i]'(by omega), sqT_mono m h, by simp⟩, fun H m => ⟨xs, sqT_mono m h, by omega⟩, fun i H x H' F1 m m1 hi y => ?_⟩
  obtain ⟨T, x, rfl, hT, rfl, y⟩ := y
  obtain ⟨d, h1, h2⟩ := r.get (y xs (sqT_mono m1 (sqT_mono m h)))
  exact ⟨_, _, enumD_at h1, .new hT, rp_tup (m1.free hT) (.cons (.int _) (.cons (Rp.mono m _ _ h2) .nil)) (by simp)⟩
theorem si_enum {e : Expr} {c : C} {p pos tpos : Pos} {elts : List Expr} {kk : Nat} (hK : X.K = G.K) (hg : Gl X "enumerate") (hm : X.mg "enumerate" = none) (hs : noStar e = true) (h : Sd X G e c) :
    PI X (.Tuple elts kk tpos) (.Call (.Name "enumerate" p) [e] [] pos) (tI G (Wi (.enum c))) := by
  refine (pi_enumA hg hm (pa_cons h.v pa_nil (star_each hs)) (star_each hs)).imp fun σ H R ⟨F, O, ρ, L, K, S, w, q⟩ => ?_
  refine ⟨F, O, ρ, L, _, S, w, fun d ρ1 v H1 F1 O1 k1 S1 m1 r1 => ?_⟩
  cases r1 with
  | lst e' r l =>
    rw [hK]
    exact ⟨_, _, rfl, .inl ⟨.of (S1.sub _ _ e'), q _ ρ1 H1 F1 O1 _ k1 S1 m1 (feeds_enum e' r l)⟩⟩
  | tup e' r l =>
    rw [hK]
    exact ⟨_, _, rfl, .inr ⟨sqT_mono S1.sub e', q _ ρ1 H1 F1 O1 _ k1 S1 m1 (feeds_enumT e' r l)⟩⟩
  | _ => exact (k1 : False).elim
/-! ### zip -/
theorem zipD_at {xs ys : List PyData} {i : Nat} {d e : PyData} (h : xs[i]? = some d) (h' : ys[i]? = some e) : (zipD xs ys)[i]? = some (.tuple [d, e]) := by
  unfold zipD
  rw [List.getElem?_map]
  have : (xs.zip ys)[i]? = some (d, e) := by rw [List.getElem?_zip_eq_some]; exact ⟨h, h'⟩
  rw [this]
  rfl
theorem zipD_len (xs ys : List PyData) : (zipD xs ys).length = min xs.length ys.length := by simp [zipD]
theorem feeds_zip {K : PySem.W.Frag} {F : Hp} {a b : Addr} {xs ys : List V} {ds es : List PyData} (h : F a = some (.lst xs)) (h' : F b = some (.lst ys)) (r : RpAll K F xs ds) (r' : RpAll K F ys es) (l : ds.length ≤ sizeLine) : Feeds K F (Itz K a b) (zipD ds es) := by
  have hl := r.length
  have hl' := r'.length
  have el := zipD_len ds es
  refine ⟨by rw [el, ← line_eq]; exact Nat.le_trans (Nat.min_le_left _ _) l, fun i H m hi => ⟨xs, ys, xs[i]'(by omega), ys[i]'(by omega), .of (m _ _ h), .of (m _ _ h'), by simp, by simp⟩, fun H m => ⟨xs, ys, .of (m _ _ h), .of (m _ _ h'), by omega⟩, fun i H x H' F1 m m1 hi y => ?_⟩
  obtain ⟨T, x, y, rfl, hT, rfl, y1, y2⟩ := y
  obtain ⟨d, h1, h2⟩ := r.get (y1 xs (.of (m1 _ _ (m _ _ h))))
  obtain ⟨e, h3, h4⟩ := r'.get (y2 ys (.of (m1 _ _ (m _ _ h'))))
  exact ⟨_, _, zipD_at h1 h3, .new hT, rp_tup (m1.free hT) (.cons (Rp.mono m _ _ h2) (.cons (Rp.mono m _ _ h4) .nil)) (by simp)⟩
theorem feeds_zipT {K : PySem.W.Frag} {F : Hp} {a b : Addr} {xs ys : List V} {ds es : List PyData} (h : SqT K F a xs) (h' : SqT K F b ys) (r : RpAll K F xs ds) (r' : RpAll K F ys es) (l : ds.length ≤ sizeLine) : Feeds K F (ItzT K a b) (zipD ds es) := by
  have hl := r.length
  have hl' := r'.length
  have el := zipD_len ds es
  refine ⟨by rw [el, ← line_eq]; exact Nat.le_trans (Nat.min_le_left _ _) l, fun i H m hi => ⟨xs, ys, xs[i]'(by omega), ys[i]'(by omega), sqT_mono m h, sqT_mono m h', by simp, by simp⟩, fun H m => ⟨xs, ys, sqT_mono m h, sqT_mono m h', by omega⟩, fun i H x H' F1 m m1 hi y => ?_⟩
  obtain ⟨T, x, y, rfl, hT, rfl, y1, y2⟩ := y
  obtain ⟨d, h1, h2⟩ := r.get (y1 xs (sqT_mono m1 (sqT_mono m h)))
  obtain ⟨e, h3, h4⟩ := r'.get (y2 ys (sqT_mono m1 (sqT_mono m h')))
  exact ⟨_, _, zipD_at h1 h3, .new hT, rp_tup (m1.free hT) (.cons (Rp.mono m _ _ h2) (.cons (Rp.mono m _ _ h4) .nil)) (by simp)⟩
theorem si_zip {a b : Expr} {ca cb : C} {p pos tpos : Pos} {elts : List Expr} {kk : Nat} (hK : X.K = G.K) (hg : Gl X "zip") (hm : X.mg "zip" = none) (hs : noStar a = true) (hs2 : noStar b = true) (h : Sd X G a ca) (h2 : Sd X G b cb) :
    PI X (.Tuple elts kk tpos) (.Call (.Name "zip" p) [a, b] [] pos) (tI G (Wi (.zip ca cb))) := by
  refine (pi_zipA hg hm (pa_cons h.v (pa_cons h2.v pa_nil (star_each hs2)) (star_each hs)) (by rw [star_each hs]) (by rw [star_each hs2]; rfl)).imp fun σ H R ⟨F, O, ρ, L, K, S, w, q⟩ => ?_
  refine ⟨F, O, ρ, L, _, S, w, fun d ρ1 v H1 F1 O1 k1 S1 m1 r1 => ?_⟩
  refine ⟨F1, O1, ρ1, L, _, S1, k1, fun d2 ρ2 v2 H2 F2 O2 k2 S2 m2 r2 => ?_⟩
  cases r1 with
  | lst e r l =>
    cases r2 with
    | lst e2 r2 l2 =>
      rw [hK]
      exact ⟨_, _, _, _, rfl, .inl ⟨.of (S2.sub _ _ (m2 _ _ e)), .of (S2.sub _ _ e2), q _ ρ2 H2 F2 O2 _ k2 S2 (m1.trans m2) (feeds_zip (m2 _ _ e) e2 (RpAll.mono m2 _ _ r) r2 l)⟩⟩
    | _ => exact (k2 : False).elim
  | tup e r l =>
    cases r2 with
    | tup e2 r2 l2 =>
      rw [hK]
      exact ⟨_, _, _, _, rfl, .inr ⟨sqT_mono S2.sub (sqT_mono m2 e), sqT_mono S2.sub e2, q _ ρ2 H2 F2 O2 _ k2 S2 (m1.trans m2) (feeds_zipT (sqT_mono m2 e) e2 (RpAll.mono m2 _ _ r) r2 l)⟩⟩
    | _ => exact (k2 : False).elim
  | _ => exact (by cases r2 <;> exact (k2 : False).elim)
/-! ### sorted(set(t)) -/
def rSetT (K : PySem.W.Frag) (w : World) : List V → Hp → VK → Prop := fun xs H Q => ∃ (a : Addr) (ns : List Int), xs = [.ref a] ∧ SqT K H a (ns.map V.int) ∧ ns.length + 1 < scanBound ∧ ∀ p n, H p = none → n ≤ ns.length → Q (.ref p) (upd H p (SetO w p (fun j => decide (j ∈ ns)) n))
theorem ints_are : ∀ {ns : List Int} {us : List Value}, Vals (ns.map V.int) us → PyProof.Rows.IntsAre us ns
  | [], _, r => by cases r; exact .nil
  | n :: ns, _, r => by
    cases r with
    | cons a t =>
      obtain ⟨k, rfl⟩ := a
      exact .cons n k (ints_are t)
theorem cr_setT (hc : X.calm = true) : CallR X (.type "set") (rSetT X.K X.w) := by
  intro pins s σ H xs us Q I r h
  obtain ⟨a, ns, rfl, hq, hb, q⟩ := h
  obtain ⟨u, rfl, rx⟩ := vals1 r
  cases rx
  obtain ⟨its, rv, p, hz⟩ := I.tuple hq
  refine call_set_tupI ns (I.ok.hd hc) p (ints_are rv) hb fun h' tk c R hcl kp => ?_
  have J : Inv X pins σ (upd H s.heap.objs.size (SetO X.w s.heap.objs.size (fun j => decide (j ∈ ns)) c)) { s with heap := h', toks := tk } := I.laid kp (Nat.le_refl _) (setO_new R)
  exact ⟨.ref s.heap.objs.size, _, J, rfl, q _ c (I.hok.fresh (Nat.le_refl _)) hcl⟩
theorem sd_sortedSet {e : Expr} {c : C} {p p2 pos pos2 : Pos} (hK : X.K = G.K) (hc : X.calm = true) (hg : Gl X "sorted") (hm : X.mg "sorted" = none) (hg2 : Gl X "set") (hm2 : X.mg "set" = none) (hs : noStar e = true) (h : Sd X G e c) :
    Sd X G (.Call (.Name "sorted" p) [.Call (.Name "set" p2) [e] [] pos2] [] pos) (.bi .sortedSet (.cons c .nil)) := by
  have P2 := pe_callTy (cr_setT (X := X) hc) hg2 hm2 (by decide +kernel) (pa_cons h.o pa_nil (star_each hs)) (he := star_each hs) (p := p2) (pos := pos2)
  refine Sd.of_f hK rfl (fun i z => nomatch z) rfl ((pe_callB (cr_sortedSet (X := X) hc) hg hm (by decide +kernel) (pa_cons P2 pa_nil)).imp fun σ H Q ⟨F, O, ρ, L, K, S, w, q⟩ => ?_)
  have w : opC c ρ fun o ρ1 => o.on ρ1 fun d => biW .sortedSet [d] fun r => K r ρ1 := w
  refine ⟨F, O, ρ, L, _, S, w, fun o ρ1 v H1 F1 O1 k1 S1 m1 r1 => ?_⟩
  have k1 : o.on ρ1 fun d => biW .sortedSet [d] fun r => K r ρ1 := k1
  obtain ⟨d, p, k1⟩ := S1.on r1 k1
  simp only [biW] at k1
  split at k1
  · next xs heq =>
    cases heq
    obtain ⟨a, vs, rfl, e1, r1', l1⟩ := p.tup
    obtain ⟨ns, rfl, hn, k1⟩ := k1
    obtain rfl := r1'.ints
    rw [hK]
    refine ⟨a, ns, rfl, sqT_mono S1.sub e1, by unfold scanBound; omega, fun p n hp hnl => ?_⟩
    have S2 := S1.alloc (o := SetO X.w p (fun j => decide (j ∈ ns)) n) hp
    refine ⟨p, _, n, rfl, upd_same, by omega, fun ms p2 hs hmem hlen hp2 => ?_⟩
    obtain ⟨O3, S3⟩ := S2.allocL hp2 (own_lst (RpAll.of_ints ms) (by simp only [intsD, List.length_map]; omega))
    exact q _ ρ1 p2 _ _ O3 (k1 ms hs fun n => by rw [hmem n]; simp) S3 (m1.trans (same_upd (S1.sub.free hp)))
  · exact k1.elim
/-! ### {k: v, ..} -/
def csOf : List (C × C) → Cs
  | [] => .nil
  | (k, v) :: r => .cons k (.cons v (csOf r))
def flatV : List (V × V) → List V
  | [] => []
  | (x, y) :: r => x :: y :: flatV r
theorem pairs_run {L : List (Addr × PyData)} {σ : L2.St} : ∀ {l : List (C × C)} {F : Hp} {O : Ow} {ρ : Env} {H : Hp} {K : List PyData → Env → Prop} {Q : List (V × V) → Hp → Prop}, SR G F O ρ σ H L → Ws (csOf l) ρ K →
    (∀ ds ρ' ps H' F' O', K ds ρ' → SR G F' O' ρ' σ H' L → Same F F' → RpAll G.K F' (flatV ps) ds → Q ps H') → tPairs (l.map fun p => (tD G (W p.1).v, tD G (W p.2).v)) σ H Q
  | [], F, O, ρ, H, K, Q, S, w, q => q [] ρ [] H F O w S (Same.refl _) .nil
  | (k, v) :: r, F, O, ρ, H, K, Q, S, w, q => by
    refine ⟨F, O, ρ, L, _, S, w, fun d ρ1 x H1 F1 O1 k1 S1 m1 r1 => ?_⟩
    refine ⟨F1, O1, ρ1, L, _, S1, k1, fun d2 ρ2 y H2 F2 O2 k2 S2 m2 r2 => ?_⟩
    refine pairs_run S2 k2 fun ds ρ3 ps H3 F3 O3 k3 S3 m3 r3 => ?_
    exact q _ ρ3 ((x, y) :: ps) H3 F3 O3 k3 S3 (m1.trans (m2.trans m3)) (.cons (Rp.mono (m2.trans m3) _ _ r1) (.cons (Rp.mono m3 _ _ r2) r3))
theorem rp_keyD {K : PySem.W.Frag} {F : Hp} {v : V} {k : Key} (r : Rp K F v (keyD k)) : v = kV k := by
  cases k with
  | inl i => have r : Rp K F v (.int i) := r; cases r; rfl
  | inr x => have r : Rp K F v (.str x) := r; cases r; rfl
theorem disp_rel {K : PySem.W.Frag} {F : Hp} : ∀ {kds : List (Key × PyData)} {ps : List (V × V)}, RpAll K F (flatV ps) (kds.flatMap fun p => [keyD p.1, p.2]) → ∃ kvs : List (Key × V), ps = kvs.map (fun kv => (kV kv.1, kv.2)) ∧ kvs.length = kds.length ∧ RpK K F kvs kds
  | [], ps, r => by
    have r : RpAll K F (flatV ps) [] := r
    cases ps with
    | nil => exact ⟨[], rfl, rfl, .nil⟩
    | cons p ps => exact (nomatch r)
  | (k, d) :: kds, ps, r => by
    have r : RpAll K F (flatV ps) (keyD k :: d :: kds.flatMap fun p => [keyD p.1, p.2]) := r
    cases ps with
    | nil => exact (nomatch r)
    | cons p ps =>
      obtain ⟨x, y⟩ := p
      have r : RpAll K F (x :: y :: flatV ps) (keyD k :: d :: kds.flatMap fun p => [keyD p.1, p.2]) := r
      cases r with
      | cons a b =>
        cases b with
        | cons b c =>
          obtain ⟨kvs, e, l, rr⟩ := disp_rel c
          obtain rfl := rp_keyD a
          exact ⟨(k, y) :: kvs, by simp [e], by simp [l], .cons b rr⟩
theorem sd_dct {keys : List (Option Expr)} {values : List Expr} {l : List (C × C)} {pos : Pos} (hK : X.K = G.K) (h : PPs X pos keys values (l.map fun p => (tD G (W p.1).v, tD G (W p.2).v))) (hall : keys.all (·.isSome) = true) (hl : keys.length = values.length) (h0 : keys ≠ [])
    (h15 : keys.length ≤ 15) : Sd X G (.Dict keys values pos) (.dct (csOf l)) := by
  refine Sd.of_f hK rfl (fun i z => nomatch z) rfl ((pe_disp h hall hl h0 h15).imp fun σ H Q ⟨F, O, ρ, L, K, S, w, q⟩ => ?_)
  intro p hp
  obtain ⟨O1, S1⟩ := S.allocL (o := .dK []) (d := .dict []) hp ⟨[], upd_same, .nil⟩
  have w : Ws (csOf l) ρ fun ds ρ1 => ∃ kds : List (Key × PyData), ds = kds.flatMap (fun p => [keyD p.1, p.2]) ∧ kds.length ≤ 15 ∧ K (.dict (encK (mergeG [] kds))) ρ1 := w
  refine pairs_run S1 w fun ds ρ2 ps H2 F2 O2 k2 S2 m2 r2 => ?_
  obtain ⟨kds, rfl, h1, k2⟩ := k2
  obtain ⟨kvs, rfl, l2, rk⟩ := disp_rel r2
  obtain ⟨kvs0, e0, r0⟩ := S2.last.2.1
  cases r0
  refine ⟨e0, kvs, rfl, by omega, ?_⟩
  exact q _ ρ2 p _ F2 O2 k2 (S2.mutL ⟨_, upd_same, (RpK.merge rk .nil).kv⟩) m2
end
end Vs

set_option maxHeartbeats 4000000
/-! VN: not, and, or, negation, a if t else b; the table of built-in functions. -/
namespace Vs
open PySem L2

section
variable {X : Cx} {G : Gh}
theorem sd_neg {a : Expr} {ca : C} {pos : Pos} (hK : X.K = G.K) (ha : Sd X G a ca) : Sd X G (.UnaryOp .USub a pos) (.neg ca) := by
  refine Sd.of_v hK rfl (fun i z => nomatch z) rfl rfl ((pe_un un_neg ha.o).imp fun σ H Q ⟨F, O, ρ, L, K, S, w, q⟩ => ?_)
  refine ⟨F, O, ρ, L, _, S, w, fun x ρ1 v H1 F1 O1 k1 S1 m1 r1 => ?_⟩
  obtain ⟨d, p, k1⟩ := S1.on r1 k1
  split at k1
  · next i =>
    obtain rfl := p.int
    exact ⟨i, rfl, q _ ρ1 _ H1 F1 O1 k1 S1 m1 (.int _)⟩
  · exact k1.elim
theorem sd_not {a : Expr} {ca : C} {pos : Pos} (hK : X.K = G.K) (ha : Sd X G a ca) : Sd X G (.UnaryOp .Not a pos) (.not ca) := by
  have P : PE X (.UnaryOp .Not a pos) (tD G (W (.not ca)).v) := by
    refine (pe_notT ha.o).imp fun σ H Q ⟨F, O, ρ, L, K, S, w, q⟩ => ?_
    have w : opC ca ρ fun x ρ1 => x.on ρ1 fun d => truthW d fun b => K (.bool (!b)) ρ1 := w
    refine ⟨F, O, ρ, L, _, S, w, fun x ρ1 v H1 F1 O1 k1 S1 m1 r1 => ?_⟩
    obtain ⟨d, p, k1⟩ := S1.on r1 k1
    obtain ⟨b, t, k⟩ := truth_ok (k := fun b => K (.bool (!b)) ρ1) S1.sub p k1
    rw [hK]
    exact ⟨b, t, q _ ρ1 _ H1 F1 O1 k S1 m1 (.bl _)⟩
  refine ⟨P, so_of (fun i z => nomatch z) P, ?_, fun z => nomatch z⟩
  exact (pt_not ha.t).imp fun σ H Q ⟨F, O, ρ, L, K, S, w, q⟩ => ⟨F, O, ρ, L, _, S, w, fun b ρ1 H1 F1 O1 k1 S1 m1 => q _ ρ1 H1 F1 O1 k1 S1 m1⟩
theorem _root_.L2.PW.imp {e : Expr} {t t' : TT} (h : PW X e t) (i : ∀ σ H Q, t' σ H Q → t σ H Q) : PW X e t' := ⟨fun wh pins s σ H Q I w => h.run wh pins s σ H Q I (i σ H Q w)⟩
structure Sb (X : Cx) (G : Gh) (e : Expr) (c : C) : Prop where
  v : PE X e (tD G (W c).v)
  w : PW X e (tTs G (W c).t)
theorem sb_and1 {a : Expr} {ca : C} {pos : Pos} (ha : Sd X G a ca) : Sb X G (.BoolOp .And [a] pos) ca := ⟨pe_one ha.v, pw_and1 ha.t⟩
theorem sb_or1 {a : Expr} {ca : C} {pos : Pos} (ha : Sd X G a ca) : Sb X G (.BoolOp .Or [a] pos) ca := ⟨pe_one ha.v, pw_or1 ha.t⟩
theorem sb_and {a b : Expr} {r : List Expr} {ca cb : C} {pos : Pos} (ha : Sd X G a ca) (hb : Sb X G (.BoolOp .And (b :: r) pos) cb) : Sb X G (.BoolOp .And (a :: b :: r) pos) (.and ca cb) := by
  refine ⟨(pe_and ha.v hb.v).imp fun σ H Q ⟨F, O, ρ, L, K, S, w, q⟩ => ?_, (pw_and ha.t hb.w).imp fun σ H Q ⟨F, O, ρ, L, K, S, w, q⟩ => ?_⟩
  · refine ⟨F, O, ρ, L, _, S, w, fun d ρ1 v H1 F1 O1 k1 S1 m1 r1 => ?_⟩
    split at k1
    · next t =>
      cases r1
      refine ⟨t, rfl, ?_⟩
      cases t with
      | true =>
        rw [if_pos rfl] at k1 ⊢
        exact ⟨F1, O1, ρ1, L, K, S1, k1, fun d ρ2 v H2 F2 O2 k2 S2 m2 r2 => q d ρ2 v H2 F2 O2 k2 S2 (m1.trans m2) r2⟩
      | false =>
        rw [if_neg Bool.false_ne_true] at k1 ⊢
        exact q _ ρ1 _ H1 F1 O1 k1 S1 m1 (.bl _)
    · exact k1.elim
  · refine ⟨F, O, ρ, L, _, S, w, fun t ρ1 H1 F1 O1 k1 S1 m1 => ?_⟩
    cases t with
    | true =>
      rw [if_pos rfl] at k1 ⊢
      exact ⟨F1, O1, ρ1, L, K, S1, k1, fun b ρ2 H2 F2 O2 k2 S2 m2 => q b ρ2 H2 F2 O2 k2 S2 (m1.trans m2)⟩
    | false =>
      rw [if_neg Bool.false_ne_true] at k1 ⊢
      exact q _ ρ1 H1 F1 O1 k1 S1 m1
theorem sb_or {a b : Expr} {r : List Expr} {ca cb : C} {pos : Pos} (ha : Sd X G a ca) (hb : Sb X G (.BoolOp .Or (b :: r) pos) cb) : Sb X G (.BoolOp .Or (a :: b :: r) pos) (.or ca cb) := by
  refine ⟨(pe_or ha.v hb.v).imp fun σ H Q ⟨F, O, ρ, L, K, S, w, q⟩ => ?_, (pw_or ha.t hb.w).imp fun σ H Q ⟨F, O, ρ, L, K, S, w, q⟩ => ?_⟩
  · refine ⟨F, O, ρ, L, _, S, w, fun d ρ1 v H1 F1 O1 k1 S1 m1 r1 => ?_⟩
    split at k1
    · next t =>
      cases r1
      refine ⟨t, rfl, ?_⟩
      cases t with
      | true =>
        rw [if_pos rfl] at k1 ⊢
        exact q _ ρ1 _ H1 F1 O1 k1 S1 m1 (.bl _)
      | false =>
        rw [if_neg Bool.false_ne_true] at k1 ⊢
        exact ⟨F1, O1, ρ1, L, K, S1, k1, fun d ρ2 v H2 F2 O2 k2 S2 m2 r2 => q d ρ2 v H2 F2 O2 k2 S2 (m1.trans m2) r2⟩
    · exact k1.elim
  · refine ⟨F, O, ρ, L, _, S, w, fun t ρ1 H1 F1 O1 k1 S1 m1 => ?_⟩
    cases t with
    | true =>
      rw [if_pos rfl] at k1 ⊢
      exact q _ ρ1 H1 F1 O1 k1 S1 m1
    | false =>
      rw [if_neg Bool.false_ne_true] at k1 ⊢
      exact ⟨F1, O1, ρ1, L, K, S1, k1, fun b ρ2 H2 F2 O2 k2 S2 m2 => q b ρ2 H2 F2 O2 k2 S2 (m1.trans m2)⟩
theorem Sb.sd {e : Expr} {c : C} (h : Sb X G e c) (hv : ∀ i, c ≠ .var i) (hf : c.fresh = false) : Sd X G e c := ⟨h.v, so_of hv h.v, h.w.pt, fun z => by rw [hf] at z; cases z⟩
/-- a value alone (never tested, never lent) -/
theorem sd_ite {t a b : Expr} {ct ca cb : C} {pos : Pos} (ht : Sd X G t ct) (ha : Sd X G a ca) (hb : Sd X G b cb) : Sd X G (.IfExp t a b pos) (.ite ct ca cb) := by
  have P : PE X (.IfExp t a b pos) (tD G (W (.ite ct ca cb)).v) := by
    refine (pe_ifExp ht.t ha.v hb.v).imp fun σ H Q ⟨F, O, ρ, L, K, S, w, q⟩ => ?_
    refine ⟨F, O, ρ, L, _, S, w, fun c ρ1 H1 F1 O1 k1 S1 m1 => ?_⟩
    cases c with
    | true =>
      rw [if_pos rfl] at k1 ⊢
      exact ⟨F1, O1, ρ1, L, K, S1, k1, fun d ρ2 v H2 F2 O2 k2 S2 m2 r2 => q d ρ2 v H2 F2 O2 k2 S2 (m1.trans m2) r2⟩
    | false =>
      rw [if_neg Bool.false_ne_true] at k1 ⊢
      exact ⟨F1, O1, ρ1, L, K, S1, k1, fun d ρ2 v H2 F2 O2 k2 S2 m2 r2 => q d ρ2 v H2 F2 O2 k2 S2 (m1.trans m2) r2⟩
  refine ⟨P, so_of (fun i z => nomatch z) P, ?_, fun z => nomatch z⟩
  exact ⟨fun pins s σ H Q I ⟨F, O, ρ, L, K, S, w, q⟩ => (w : False).elim⟩
/-! ### built-in functions, by name and number of arguments -/
def SdBi (X : Cx) (G : Gh) (x : Str) (n : Nat) (b : Bi) : Prop := ∀ (e : Expr) (es : List Expr) (cs : Cs) (p pos : Pos), (e :: es).length = n → (e :: es).all noStar = true → PA X (e :: es) (tOs G (Wo cs)) → Gl X x → X.mg x = none → Sd X G (.Call (.Name x p) (e :: es) [] pos) (.bi b cs)
def biTab : List (Str × Nat × Bi) := [("len", 1, .len), ("sum", 1, .sum), ("max", 1, .max), ("min", 1, .min), ("max", 2, .max2), ("min", 2, .min2), ("abs", 1, .abs), ("tuple", 1, .tuple), ("list", 1, .list), ("int", 1, .int), ("all", 1, .all), ("any", 1, .any), ("repr", 1, .repr), ("dict", 1, .dict)]
theorem st_hd {env : PySem.Env} {e : Expr} {es : List Expr} (h : (e :: es).all noStar = true) : starEach (e :: es) env = (false, eval e env) :: starEach es env := by
  rw [List.all_cons, Bool.and_eq_true] at h
  exact star_each h.1
theorem st_pl {env : PySem.Env} {e : Expr} {es : List Expr} {pos : Pos} (h : (e :: es).all noStar = true) : (backTo pos (starEach es env)).any (·.1) = false := by
  rw [List.all_cons, Bool.and_eq_true] at h
  rw [backTo_any]
  exact star_any h.2
theorem biB {x : Str} {n : Nat} {b : Bi} {id : String} {r : List V → Hp → VK → Prop} (hK : X.K = G.K) (hb : BiOk G b r) (hc : CallR X (.builtin id) r) (hv : bootBuiltins x = some (.builtin id)) (hn : x ≠ "__name__") (hd : (x == ("__debug__" : Str)) = false) (hf : ∀ cs, (C.bi b cs).fresh = false) : SdBi X G x n b :=
  fun e es cs p pos hl hs ha hg hm => sd_bi (id := "") hK hb (hf cs) (fun t h => pe_callB hc hg hm hv h hn hd (st_hd hs) (st_pl hs)) ha
theorem biT {x : Str} {n : Nat} {b : Bi} {ty : String} {r : List V → Hp → VK → Prop} (hK : X.K = G.K) (hb : BiOk G b r) (hc : CallR X (.type ty) r) (hv : bootBuiltins x = some (.type ty)) (hn : x ≠ "__name__") (hd : (x == ("__debug__" : Str)) = false) (hf : ∀ cs, (C.bi b cs).fresh = false) : SdBi X G x n b :=
  fun e es cs p pos hl hs ha hg hm => sd_bi (id := "") hK hb (hf cs) (fun t h => pe_callTy hc hg hm hv h hn hd (st_hd hs) (st_pl hs)) ha
theorem biNB {x : Str} {n : Nat} {b : Bi} {ty : String} {r : List V → Hp → VK → Prop} (hK : X.K = G.K) (hb : BiNew G b r) (hc : CallR X (.type ty) r) (hv : bootBuiltins x = some (.type ty)) (hn : x ≠ "__name__") (hd : (x == ("__debug__" : Str)) = false) : SdBi X G x n b :=
  fun e es cs p pos hl hs ha hg hm => sd_biN hK hb (fun t h => pe_callTy hc hg hm hv h hn hd (st_hd hs) (st_pl hs)) ha
theorem biTab_ok (hK : X.K = G.K) (hc : X.calm = true) (hgd : X.A.guards = some []) (hu : X.A.units + 70 < cLine) : ∀ y ∈ biTab, SdBi X G y.1 y.2.1 y.2.2 := by
  intro y hy
  simp only [biTab, List.mem_cons, List.not_mem_nil, or_false] at hy
  rcases hy with rfl | rfl | rfl | rfl | rfl | rfl | rfl | rfl | rfl | rfl | rfl | rfl | rfl | rfl
  · exact biB hK bi_len (hK ▸ call_lenDD) (by decide +kernel) (by decide +kernel) (by decide +kernel) fun _ => rfl
  · exact biB hK bi_sum (hK ▸ cr_sum hc) (by decide +kernel) (by decide +kernel) (by decide +kernel) fun _ => rfl
  · exact biB hK bi_max (hK ▸ cr_max hc) (by decide +kernel) (by decide +kernel) (by decide +kernel) fun _ => rfl
  · exact biB hK bi_min (hK ▸ cr_min hc) (by decide +kernel) (by decide +kernel) (by decide +kernel) fun _ => rfl
  · exact biB hK bi_max2 (call_max2 hc) (by decide +kernel) (by decide +kernel) (by decide +kernel) fun _ => rfl
  · exact biB hK bi_min2 (call_min2 hc) (by decide +kernel) (by decide +kernel) (by decide +kernel) fun _ => rfl
  · exact biB hK bi_abs call_abs (by decide +kernel) (by decide +kernel) (by decide +kernel) fun _ => rfl
  · exact biT hK bi_tuple (hK ▸ call_tuple_of) (by decide +kernel) (by decide +kernel) (by decide +kernel) fun _ => rfl
  · exact biNB hK bi_list (hK ▸ call_list_of) (by decide +kernel) (by decide +kernel) (by decide +kernel)
  · exact biT hK bi_int call_int1 (by decide +kernel) (by decide +kernel) (by decide +kernel) fun _ => rfl
  · exact biB hK bi_all (hK ▸ cr_all hc) (by decide +kernel) (by decide +kernel) (by decide +kernel) fun _ => rfl
  · exact biB hK bi_any (hK ▸ cr_any hc) (by decide +kernel) (by decide +kernel) (by decide +kernel) fun _ => rfl
  · exact biB hK bi_repr (hK ▸ call_reprD hgd hu) (by decide +kernel) (by decide +kernel) (by decide +kernel) fun _ => rfl
  · exact biNB hK bi_dict (hK ▸ call_dictP hc) (by decide +kernel) (by decide +kernel) (by decide +kernel)
end
end Vs

set_option maxHeartbeats 4000000
/-! VO: from the written expressions to the core, and that this is sound. -/
namespace Vs
open PySem L2

/-- the defs that may be called: name, how many arguments are given, what they promise -/
abbrev FTab := List (Str × Nat × Fn)
structure Tx where
  ft : FTab
  N : List Str
/-- a place: the scope that runs; where it is a comprehension's block, its written scope -/
structure Sc where
  sc : Scope
  fo : Option Scope

def visC (sc : Scope) (x : Str) : Bool := match sc.names.lookup x with
  | some .local => true
  | some .cell => true
  | some .free => true
  | _ => false
def glC (sc : Scope) (x : Str) : Bool := match sc.names.lookup x with
  | some .globalImplicit => true
  | _ => false
def storeC (z : Sc) (x : Str) : Bool := match z.sc.names.lookup x with
  | some .local => true
  | some .cell => (match z.fo with
    | none => true
    | some s => s.names.lookup x == some .cell)
  | _ => false
def nmC (x : Str) : Bool := !(x == ("__debug__" : Str)) && !(x == ("__classdict__" : Str))
def slotI (N : List Str) (sc : Scope) (x : Str) : Option Nat := if decide (N[N.findIdx (fun y => decide (y = x))]? = some x) && visC sc x && nmC x then some (N.findIdx (fun y => decide (y = x))) else none
theorem slotI_ok {N : List Str} {sc : Scope} {x : Str} {i : Nat} (h : slotI N sc x = some i) : N[i]? = some x ∧ visC sc x = true ∧ (x == ("__debug__" : Str)) = false ∧ (x == ("__classdict__" : Str)) = false := by
  unfold slotI at h
  split at h
  · next q =>
    cases h
    simp only [Bool.and_eq_true, decide_eq_true_eq, nmC, Bool.not_eq_true'] at q
    exact ⟨q.1.1, q.1.2, q.2⟩
  · cases h
/-! ### small looks at the text -/
def isList : Expr → Bool
  | .List _ _ => true
  | _ => false
def listyE : Nat → Expr → Bool
  | n + 1, .BinOp a .Add b _ => listyE n a || listyE n b
  | n + 1, .BinOp a .Mult b _ => isList a
  | _, .List _ _ => true
  | _, .ListComp _ _ _ _ => true
  | _, _ => false
def notSet : Expr → Bool
  | .Set _ _ _ => false
  | _ => true
theorem notSet_ok {e : Expr} (h : notSet e = true) (env : PySem.Env) (x : Value) : foldedSetIterable e env x = pure x := by
  cases e <;> first | rfl | exact Bool.noConfusion h
def plainIxE : Expr → Bool
  | .Slice _ _ _ _ => false
  | _ => true
theorem plainIx_ok {e : Expr} (h : plainIxE e = true) : PlainIx e := by
  intro o i
  cases e <;> first | rfl | exact Bool.noConfusion h
def isTup : Expr → Bool
  | .Tuple _ _ _ => true
  | _ => false
def binOk : Operator → Bool
  | .Add => true
  | .Sub => true
  | .Mult => true
  | .FloorDiv => true
  | .Mod => true
  | .Pow => true
  | _ => false
def cmpOk : CmpOp → Bool
  | .Lt => true
  | .LtE => true
  | .Gt => true
  | .GtE => true
  | .Eq => true
  | .NotEq => true
  | .Is => true
  | .IsNot => true
  | _ => false
def ownOf (N : List Str) (sc : Scope) : List (Str × Nat) := sc.names.filterMap fun y => match y.2 with
  | .local => if decide (y.1 ∈ N) then some (y.1, N.findIdx (fun z => decide (z = y.1))) else none
  | .cell => if decide (y.1 ∈ N) then some (y.1, N.findIdx (fun z => decide (z = y.1))) else none
  | _ => none
def askTy : List (Str × String) := [("int", "int"), ("bool", "bool"), ("str", "str"), ("list", "list"), ("tuple", "tuple"), ("dict", "dict")]
/-- the built-in names that are read -/
def bltNames : List Str := ["isinstance", "int", "bool", "str", "list", "tuple", "dict", "range", "enumerate", "zip", "sorted", "set", "len", "sum", "max", "min", "abs", "all", "any", "repr"]

/-! ### expressions -/
def trL (r : Expr → Option C) : List Expr → Option Cs
  | [] => some .nil
  | e :: es => if noStar e then (match r e, trL r es with
    | some c, some cs => some (.cons c cs)
    | _, _ => none) else none
def trB (op : PySem.BoolOp) (r : Expr → Option C) : List Expr → Option C
  | [] => none
  | e :: es => match es with
    | [] => r e
    | e2 :: es2 => match r e, trB op r (e2 :: es2) with
      | some a, some b => some (match op with | .And => .and a b | .Or => .or a b)
      | _, _ => none
def trD (r : Expr → Option C) : List (Option Expr) → List Expr → Option (List (C × C))
  | [], [] => some []
  | some k :: ks, v :: vs => match r k, r v, trD r ks vs with
    | some a, some b, some l => some ((a, b) :: l)
    | _, _, _ => none
  | _, _ => none
def trO (r : Expr → Option C) : Option Expr → Option Co
  | none => some .no
  | some e => match r e with
    | some c => some (.one c)
    | none => none
def trIfs (r : Expr → Option C) : List Expr → Option Co
  | [] => some .no
  | [e] => match r e with
    | some c => some (.one c)
    | none => none
  | _ => none
def trNames (N : List Str) (z : Sc) : List Expr → Option (List Nat)
  | [] => some []
  | .Name x _ :: es => if storeC z x then (match slotI N z.sc x, trNames N z es with
    | some i, some is => some (i :: is)
    | _, _ => none) else none
  | _ :: _ => none
def trTg (N : List Str) (z : Sc) : Expr → Option Tg
  | .Name x _ => if storeC z x then (match slotI N z.sc x with
    | some i => some (.one i)
    | none => none) else none
  | .Tuple es _ _ => match trNames N z es with
    | some is => some (.many is)
    | none => none
  | _ => none
def trSeq (r : Expr → Option C) (e : Expr) : Option Ci := if notSet e then (match r e with
  | some c => some (.seq c)
  | none => none) else none
def trIter (r : Expr → Option C) (sc : Scope) (tg : Expr) (e : Expr) : Option Ci := match e with
  | .Call (.Name f _) args [] _ => if glC sc f then
      (if f = ("range" : Str) then (match args with
        | [a] => if noStar a then (match r a with | some c => some (.range1 c) | none => none) else none
        | [a, b] => if noStar a && noStar b then (match r a, r b with | some c, some d => some (.range2 c d) | _, _ => none) else none
        | [a, b, x] => if noStar a && noStar b && noStar x then (match r a, r b, r x with | some c, some d, some g => some (.range3 c d g) | _, _, _ => none) else none
        | _ => none)
      else if f = ("enumerate" : Str) then (match args with
        | [a] => if noStar a && isTup tg then (match r a with | some c => some (.enum c) | none => none) else none
        | _ => none)
      else if f = ("zip" : Str) then (match args with
        | [a, b] => if noStar a && noStar b && isTup tg then (match r a, r b with | some c, some d => some (.zip c d) | _, _ => none) else none
        | _ => none)
      else trSeq r e) else trSeq r e
  | _ => trSeq r e
def fnAt (ft : FTab) (x : Str) (n : Nat) : Option (Str × Nat × Fn) := ft.find? fun y => decide (y.1 = x) && decide (y.2.1 = n)
def biAt (x : Str) (n : Nat) : Option (Str × Nat × Bi) := biTab.find? fun y => decide (y.1 = x) && decide (y.2.1 = n)
def trBi (r : Expr → Option C) (f : Str) : List Expr → Option C
  | [] => none
  | a :: as => match biAt f (a :: as).length with
    | some y => (match trL r (a :: as) with
      | some cs => some (.bi y.2.2 cs)
      | none => none)
    | none => none
def trCall (T : Tx) (r : Expr → Option C) (sc : Scope) (f : Str) (args : List Expr) : Option C :=
  if glC sc f && nmC f then (match fnAt T.ft f args.length with
    | some y => (match trL r args with
      | some cs => some (.call y.2.2 cs)
      | none => none)
    | none => if f = ("isinstance" : Str) then (match args with
        | [a, .Name ty _] => if noStar a && glC sc ty then (match r a, askTy.find? fun y => decide (y.1 = ty) with
          | some c, some y => some (.isT y.2 c)
          | _, _ => none) else none
        | _ => none)
      else if f = ("sorted" : Str) then (match args with
        | [.Call (.Name g _) [a] [] _] => if decide (g = ("set" : Str)) && glC sc g && noStar a then (match r a with
          | some c => some (.bi .sortedSet (.cons c .nil))
          | none => none) else none
        | _ => none)
      else trBi r f args) else none
structure Gen where
  t : Tg
  it : Ci
  c : Co
def trGen (T : Tx) (r : Sc → Expr → Option C) (z z' : Sc) (g : Comprehension) : Option Gen :=
  if decide (g.is_async = 0) && notSet g.iter then (match trTg T.N z' g.target, trIter (r z) z.sc g.target g.iter, trIfs (r z') g.ifs with
    | some t, some it, some c => if t.slots.all (fun i => decide (i ∈ (ownOf T.N (z'.fo.getD z'.sc)).map (·.2))) then some ⟨t, it, c⟩ else none
    | _, _, _ => none) else none
def trComp (T : Tx) (r : Sc → Expr → Option C) (z : Sc) (elt : Expr) (gens : List Comprehension) (scope : Scope) : Option C :=
  if blkC T.N z.sc scope (ownOf T.N scope) then
    (match gens with
    | [g] => (match trGen T r z ⟨relS scope z.sc, some scope⟩ g, r ⟨relS scope z.sc, some scope⟩ elt with
      | some q, some b => some (.comp ((ownOf T.N scope).map (·.2)) q.t q.it q.c b)
      | _, _ => none)
    | [g, g1] => (match trGen T r z ⟨relS scope z.sc, some scope⟩ g, trGen T r ⟨relS scope z.sc, some scope⟩ ⟨relS scope z.sc, some scope⟩ g1, r ⟨relS scope z.sc, some scope⟩ elt with
      | some q, some q1, some b => some (.comp2 ((ownOf T.N scope).map (·.2)) q.t q.it q.c q1.t q1.it q1.c b)
      | _, _, _ => none)
    | _ => none)
  else none
def stepE (T : Tx) (r : Sc → Expr → Option C) (z : Sc) (e : Expr) : Option C := match e with
  | .Constant (.int i) _ _ => some (.con (.int i))
  | .Constant (.bool b) _ _ => some (.con (.bool b))
  | .Constant .none _ _ => some (.con .none)
  | .Constant (.str x) _ _ => some (.con (.str x))
  | .Name x _ => (match slotI T.N z.sc x with | some i => some (.var i) | none => none)
  | .BoolOp op vs _ => (match vs with
    | a :: b :: l => trB op (r z) (a :: b :: l)
    | _ => none)
  | .BinOp a op b _ => (match r z a, r z b with
    | some c, some d => (match op with
      | .Add => if listyE 8 a || listyE 8 b then some (.cat c d) else some (.bin .Add c d)
      | .Mult => if isList a then some (.rep c d) else some (.bin .Mult c d)
      | .Sub => some (.bin .Sub c d)
      | .FloorDiv => some (.bin .FloorDiv c d)
      | .Mod => some (.bin .Mod c d)
      | .Pow => some (.bin .Pow c d)
      | _ => none)
    | _, _ => none)
  | .UnaryOp .Not a _ => (match r z a with | some c => some (.not c) | none => none)
  | .UnaryOp .USub a _ => (match r z a with | some c => some (.neg c) | none => none)
  | .IfExp t a b _ => (match r z t, r z a, r z b with | some c, some d, some g => some (.ite c d g) | _, _, _ => none)
  | .Dict ks vs _ => if decide (ks.length = vs.length) && decide (0 < ks.length) && decide (ks.length ≤ 15) then (match trD (r z) ks vs with | some l => some (.dct (csOf l)) | none => none) else none
  | .ListComp elt gens scope _ => trComp T r z elt gens scope
  | .Compare a [op] [b] _ => if !behindInMarks op b then (match r z a, r z b with
    | some c, some d => if cmpOk op then some (.cmp op c d) else none
    | _, _ => none) else none
  | .Call (.Name f _) args [] _ => trCall T (r z) z.sc f args
  | .Subscript a (.Slice lo hi none _) _ => (match r z a, trO (r z) lo, trO (r z) hi with | some c, some l, some h => some (.sli c l h) | _, _, _ => none)
  | .Subscript a b _ => if plainIxE b then (match r z a, r z b with | some c, some d => some (.idx c d) | _, _ => none) else none
  | .List es _ => if decide (es.length ≤ 1000) then (match trL (r z) es with | some cs => some (.lst cs) | none => none) else none
  | .Tuple es _ _ => if decide (es.length ≤ 1000) then (match trL (r z) es with | some cs => some (.tup cs) | none => none) else none
  | _ => none
def trE (T : Tx) : Nat → Sc → Expr → Option C
  | 0 => fun _ _ => none
  | n + 1 => stepE T (trE T n)

/-! ### soundness -/
/-- what the place must be -/
structure Good (T : Tx) (k : Nat) (X : Cx) (G : Gh) (z : Sc) : Prop where
  hK : X.K = G.K
  hN : X.N = T.N
  nd : X.N.Nodup
  sc : X.env.scope = z.sc
  kd : z.sc.kind = .function
  calm : X.calm = true
  gd : X.A.guards = some []
  room : Room k X.A
  xe : X.xe = fun _ _ => False
  fns : ∀ y ∈ T.ft, FnHyp X k y.1 y.2.1 y.2.2
  blt : ∀ x ∈ bltNames, X.mg x = none
  fn : match z.fo with
    | none => ∀ x, X.fn x = true
    | some s => ∀ x, X.fn x = (s.names.lookup x == some .cell)
section
variable {T : Tx} {k : Nat} {X : Cx} {G : Gh} {z : Sc} {r : Expr → Option C}
theorem Good.vis (g : Good T k X G z) {x : Str} (h : visC z.sc x = true) : Vis X.env.scope x := by
  rw [g.sc]
  unfold visC at h
  unfold Vis
  split at h <;> simp_all
theorem Good.gl (g : Good T k X G z) {x : Str} (h : glC z.sc x = true) : Gl X x := by
  unfold glC at h
  show X.env.scope.names.lookup x = some .globalImplicit
  rw [g.sc]
  split at h
  · assumption
  · cases h
theorem Good.st (g : Good T k X G z) {x : Str} (h : storeC z x = true) : Loc X.env.scope x ∧ (X.fn x = true ∨ X.env.scope.names.lookup x = some .local) := by
  unfold storeC at h
  rw [g.sc]
  split at h
  · next e => exact ⟨.inl e, .inr e⟩
  · next e =>
    refine ⟨.inr e, .inl ?_⟩
    have f := g.fn
    split at h
    · next q =>
      rw [q] at f
      exact f x
    · next q =>
      rw [q] at f
      rw [f x]
      exact h
  · cases h
theorem Good.name (g : Good T k X G z) {x : Str} {i : Nat} {pos : Pos} (h : slotI T.N z.sc x = some i) : PE X (.Name x pos) (tVar i) := by
  obtain ⟨h1, h2, h3, h4⟩ := slotI_ok h
  exact pe_var (by rw [g.hN]; exact h1) (g.vis h2) h3 h4
theorem Good.units (g : Good T k X G z) : X.A.units + 70 < cLine := by have := g.room.un; omega
theorem Good.blk (g : Good T k X G z) {scope : Scope} (hs : scope.kind = .function) (s : Shared) (H : Hp) (C : Addr) (cl : List (Str × Addr)) (fp : List Addr) : Good T k (X.blk s H scope (compEnvC scope cl C X.env) fp) G ⟨relS scope z.sc, some scope⟩ :=
  ⟨g.hK, g.hN, g.nd, by rw [← g.sc]; rfl, hs, g.calm, g.gd, g.room, rfl, fun y hy => let h := g.fns y hy; ⟨h.ex, h.many, h.tail⟩, g.blt, fun x => rfl⟩

inductive SdL (X : Cx) (G : Gh) : List Expr → Cs → Prop
  | nil : SdL X G [] .nil
  | cons {e es c cs} : noStar e = true → Sd X G e c → SdL X G es cs → SdL X G (e :: es) (.cons c cs)
theorem trL_ok (h : ∀ e c, r e = some c → Sd X G e c) : ∀ {es : List Expr} {cs : Cs}, trL r es = some cs → SdL X G es cs
  | [], _, q => by cases q; exact .nil
  | e :: es, cs, q => by
    unfold trL at q
    split at q
    · next hs =>
      split at q
      · next c cs' e1 e2 =>
        cases q
        exact .cons hs (h _ _ e1) (trL_ok h e2)
      · cases q
    · cases q
theorem SdL.ds : ∀ {es : List Expr} {cs : Cs}, SdL X G es cs → PA X es (tDs G es.length (Ws cs))
  | _, _, .nil => sds_nil
  | _, _, .cons hs h t => sds_cons hs h t.ds
theorem SdL.os : ∀ {es : List Expr} {cs : Cs}, SdL X G es cs → PA X es (tOs G (Wo cs))
  | _, _, .nil => sos_nil
  | _, _, .cons hs h t => sos_cons hs h t.os
theorem SdL.par : ∀ {es : List Expr} {cs : Cs}, SdL X G es cs → PA X es (tPar2 G cs.freshes (Ws cs))
  | _, _, .nil => sp2_nil
  | _, _, .cons hs h t => sp2_cons hs h t.par
theorem SdL.ar : ∀ {es : List Expr} {cs : Cs} {ms rest : List Bool}, SdL X G es cs → ms.length = es.length → PA X es (tAr G ms (Wa cs (ms ++ rest)))
  | _, _, [], _, .nil, _ => sa_nil
  | _, _, _ :: _, _, .nil, l => by simp at l
  | _, _, [], _, .cons hs h t, l => by simp at l
  | _, _, m :: ms, _, .cons hs h t, l => sa_cons hs h (t.ar (by simpa using l))
theorem SdL.star : ∀ {es : List Expr} {cs : Cs}, SdL X G es cs → es.all noStar = true
  | _, _, .nil => rfl
  | _, _, .cons hs h t => by rw [List.all_cons, hs, t.star]; rfl
theorem trB_ok {op : PySem.BoolOp} {pos : Pos} (h : ∀ e c, r e = some c → Sd X G e c) : ∀ {e : Expr} {es : List Expr} {c : C}, trB op r (e :: es) = some c → Sb X G (.BoolOp op (e :: es) pos) c
  | e, [], c, q => by
    have q : r e = some c := q
    cases op with
    | And => exact sb_and1 (h _ _ q)
    | Or => exact sb_or1 (h _ _ q)
  | e, e2 :: es, c, q => by
    cases op with
    | And =>
      have q : (match r e, trB .And r (e2 :: es) with
        | some a, some b => some (C.and a b)
        | _, _ => none) = some c := q
      split at q
      · next a b e1 e3 => cases q; exact sb_and (h _ _ e1) (trB_ok h e3)
      · cases q
    | Or =>
      have q : (match r e, trB .Or r (e2 :: es) with
        | some a, some b => some (C.or a b)
        | _, _ => none) = some c := q
      split at q
      · next a b e1 e3 => cases q; exact sb_or (h _ _ e1) (trB_ok h e3)
      · cases q
theorem trD_ok {pos : Pos} (h : ∀ e c, r e = some c → Sd X G e c) : ∀ {ks : List (Option Expr)} {vs : List Expr} {l : List (C × C)}, trD r ks vs = some l → PPs X pos ks vs (l.map fun p => (tD G (W p.1).v, tD G (W p.2).v)) ∧ ks.all (·.isSome) = true
  | [], [], l, q => by cases q; exact ⟨pps_nil, rfl⟩
  | [], _ :: _, l, q => by cases q
  | none :: _, [], l, q => by cases q
  | none :: _, _ :: _, l, q => by cases q
  | some _ :: _, [], l, q => by cases q
  | some k :: ks, v :: vs, l, q => by
    unfold trD at q
    split at q
    · next a b l' e1 e2 e3 =>
      cases q
      obtain ⟨h1, h2⟩ := trD_ok h e3
      exact ⟨pps_cons (h _ _ e1).v (h _ _ e2).v h1, by rw [List.all_cons, h2]; rfl⟩
    · cases q
theorem trO_ok (h : ∀ e c, r e = some c → Sd X G e c) {o : Option Expr} {c : Co} (q : trO r o = some c) : PO X o (tP G (Wpart c)) := by
  cases o with
  | none => cases q; exact sp_no
  | some e =>
    have q : (match r e with
      | some c => some (Co.one c)
      | none => none) = some c := q
    split at q
    · next e1 => cases q; exact sp_one (h _ _ e1)
    · cases q
theorem trIfs_ok (h : ∀ e c, r e = some c → Sd X G e c) {l : List Expr} {c : Co} (q : trIfs r l = some c) : PTs X l (tTs G (Wcond c)) := by
  unfold trIfs at q
  split at q
  · cases q; exact sc_no
  · split at q
    · next e1 => cases q; exact sc_one (h _ _ e1)
    · cases q
  · cases q
theorem trNames_ok (g : Good T k X G z) : ∀ {es : List Expr} {is : List Nat}, trNames T.N z es = some is → PGs X es (gNames is) ∧ is.length = es.length ∧ (assignEach es X.env).length = es.length ∧ (assignEach es X.env).findIdx? (·.1) = none
  | [], is, q => by cases q; exact ⟨pgs_nil, rfl, rfl, rfl⟩
  | e :: es, is, q => by
    unfold trNames at q
    split at q
    · next e1 => cases e1
    · next x p es' e1 =>
      cases e1
      split at q
      · next hs =>
        split at q
        · next i is' e2 e3 =>
          cases q
          obtain ⟨h1, h2, h3, h4⟩ := trNames_ok g e3
          obtain ⟨l, f⟩ := g.st hs
          refine ⟨pgs_cons (pg_name g.nd (by rw [g.hN]; exact (slotI_ok e2).1) l f) h1 rfl, by simp [h2], ?_, ?_⟩
          · show (assignEach es X.env).length + 1 = _
            rw [h3]; rfl
          · show ((false, assign (.Name x p) X.env) :: assignEach es X.env).findIdx? (·.1) = none
            rw [List.findIdx?_cons, h4]; rfl
        · cases q
      · cases q
    · cases q
theorem trTg_ok (g : Good T k X G z) {e : Expr} {t : Tg} (q : trTg T.N z e = some t) : PG X e (tG G t) := by
  unfold trTg at q
  split at q
  · split at q
    · next hs =>
      split at q
      · next i e1 =>
        cases q
        obtain ⟨l, f⟩ := g.st hs
        exact sg_one (pg_name g.nd (by rw [g.hN]; exact (slotI_ok e1).1) l f)
      · cases q
    · cases q
  · split at q
    · next is e1 =>
      cases q
      obtain ⟨h1, h2, h3, h4⟩ := trNames_ok g e1
      exact sg_many g.hK (pg_tup g.calm h1 (by rw [h3, h2]) h4)
    · cases q
  · cases q
theorem trSeq_ok (g : Good T k X G z) {tg : Expr} (h : ∀ e c, r e = some c → Sd X G e c) {e : Expr} {c : Ci} (q : trSeq r e = some c) : PI X tg e (tI G (Wi c)) := by
  unfold trSeq at q
  split at q
  · split at q
    · next e1 => cases q; exact si_seq g.hK (h _ _ e1)
    · cases q
  · cases q
theorem isTup_ok {e : Expr} (h : isTup e = true) : ∃ es k p, e = .Tuple es k p := by
  cases e <;> first | exact ⟨_, _, _, rfl⟩ | exact Bool.noConfusion h
theorem trIter_ok (g : Good T k X G z) {tg : Expr} (h : ∀ e c, r e = some c → Sd X G e c) {e : Expr} {c : Ci} (q : trIter r z.sc tg e = some c) : PI X tg e (tI G (Wi c)) := by
  unfold trIter at q
  split at q
  · split at q
    · next hg =>
      split at q
      · next hf =>
        subst hf
        have hm := g.blt "range" (by simp [bltNames])
        split at q
        · split at q
          · next hs =>
            split at q
            · next e1 => cases q; exact si_range1 (g.gl hg) hm hs (h _ _ e1)
            · cases q
          · cases q
        · split at q
          · next hs =>
            simp only [Bool.and_eq_true] at hs
            split at q
            · next e1 e2 => cases q; exact si_range2 (g.gl hg) hm hs.1 hs.2 (h _ _ e1) (h _ _ e2)
            · cases q
          · cases q
        · split at q
          · next hs =>
            simp only [Bool.and_eq_true] at hs
            split at q
            · next e1 e2 e3 => cases q; exact si_range3 (g.gl hg) hm hs.1.1 hs.1.2 hs.2 (h _ _ e1) (h _ _ e2) (h _ _ e3)
            · cases q
          · cases q
        · cases q
      · split at q
        · next hf =>
          subst hf
          have hm := g.blt "enumerate" (by simp [bltNames])
          split at q
          · split at q
            · next hs =>
              simp only [Bool.and_eq_true] at hs
              obtain ⟨es, kk, p, rfl⟩ := isTup_ok hs.2
              split at q
              · next e1 => cases q; exact si_enum g.hK (g.gl hg) hm hs.1 (h _ _ e1)
              · cases q
            · cases q
          · cases q
        · split at q
          · next hf =>
            subst hf
            have hm := g.blt "zip" (by simp [bltNames])
            split at q
            · split at q
              · next hs =>
                simp only [Bool.and_eq_true] at hs
                obtain ⟨es, kk, p, rfl⟩ := isTup_ok hs.2
                split at q
                · next e1 e2 => cases q; exact si_zip g.hK (g.gl hg) hm hs.1.1 hs.1.2 (h _ _ e1) (h _ _ e2)
                · cases q
              · cases q
            · cases q
          · exact trSeq_ok g h q
    · exact trSeq_ok g h q
  · exact trSeq_ok g h q
theorem ask_ok : ∀ y ∈ askTy, y.2 ∈ askedTy ∧ y.1 ∈ bltNames ∧ bootBuiltins y.1 = some (.type y.2) ∧ y.1 ≠ "__name__" ∧ (y.1 == ("__debug__" : Str)) = false := by decide +kernel
theorem bi_blt : ∀ y ∈ biTab, y.1 ∈ bltNames := by decide +kernel
theorem trCall_ok (g : Good T k X G z) (h : ∀ e c, r e = some c → Sd X G e c) {f : Str} {args : List Expr} {c : C} {p pos : Pos} (q : trCall T r z.sc f args = some c) : Sd X G (.Call (.Name f p) args [] pos) c := by
  unfold trCall at q
  split at q
  · next hg =>
    simp only [Bool.and_eq_true, nmC, Bool.not_eq_true'] at hg
    obtain ⟨hg, hdb, _⟩ := hg
    split at q
    · next y e1 =>
      split at q
      · next cs e2 =>
        cases q
        have hy := List.mem_of_find?_eq_some e1
        have hp := List.find?_some e1
        simp only [Bool.and_eq_true, decide_eq_true_eq] at hp
        have F := g.fns y hy
        rw [hp.1, hp.2] at F
        have L := trL_ok h e2
        cases args with
        | nil =>
          cases L
          exact sd_call0 g.hK F g.room g.gd (g.gl hg) hdb
        | cons e es =>
          have hm : y.2.2.modes = y.2.2.modes.take (e :: es).length ++ y.2.2.modes.drop (e :: es).length := (List.take_append_drop _ _).symm
          have ha := L.ar (ms := y.2.2.modes.take (e :: es).length) (rest := y.2.2.modes.drop (e :: es).length) (by rw [List.length_take, F.many]; omega)
          rw [← hm] at ha
          exact sd_call g.hK F g.room g.gd (g.gl hg) ha hdb L.star
      · cases q
    · split at q
      · next hf =>
        subst hf
        split at q
        · split at q
          · next hs =>
            simp only [Bool.and_eq_true] at hs
            split at q
            · next c y e1 e2 =>
              cases q
              have hp := List.find?_some e2
              simp only [decide_eq_true_eq] at hp
              subst hp
              obtain ⟨a1, a2, a3, a4, a5⟩ := ask_ok y (List.mem_of_find?_eq_some e2)
              exact sd_isT g.hK (h _ _ e1) hs.1 (g.gl hg) (g.blt "isinstance" (by simp [bltNames])) (g.gl hs.2) (g.blt _ a2) a3 a4 a5 a1
            · cases q
          · cases q
        · cases q
      · split at q
        · next hf =>
          subst hf
          split at q
          · split at q
            · next hs =>
              simp only [Bool.and_eq_true, decide_eq_true_eq] at hs
              obtain ⟨⟨rfl, h2⟩, h3⟩ := hs
              split at q
              · next e1 => cases q; exact sd_sortedSet g.hK g.calm (g.gl hg) (g.blt "sorted" (by simp [bltNames])) (g.gl h2) (g.blt "set" (by simp [bltNames])) h3 (h _ _ e1)
              · cases q
            · cases q
          · cases q
        · cases args with
          | nil => cases q
          | cons a as =>
            have q : (match biAt f (a :: as).length with
              | some y => (match trL r (a :: as) with
                | some cs => some (C.bi y.2.2 cs)
                | none => none)
              | none => none) = some c := q
            split at q
            · next y e1 =>
              split at q
              · next cs e2 =>
                cases q
                have hy := List.mem_of_find?_eq_some e1
                have hp := List.find?_some e1
                simp only [Bool.and_eq_true, decide_eq_true_eq] at hp
                have L := trL_ok h e2
                have B := biTab_ok g.hK g.calm g.gd g.units y hy
                rw [hp.1] at B
                exact B a as cs p pos hp.2.symm L.star L.os (g.gl hg) (g.blt _ (hp.1 ▸ bi_blt y hy))
              · cases q
            · cases q
  · cases q
end
end Vs

set_option maxHeartbeats 4000000
/-! VP: comprehensions, whole expressions, statements: from the text to the core. -/
namespace Vs
open PySem L2

def SoundE (T : Tx) (k : Nat) (r : Sc → Expr → Option C) : Prop := ∀ (X : Cx) (G : Gh) (z : Sc) (e : Expr) (c : C), Good T k X G z → r z e = some c → Sd X G e c
section
variable {T : Tx} {k : Nat} {X : Cx} {G : Gh} {z : Sc} {r : Sc → Expr → Option C}
theorem gen_eq (g : Comprehension) (h : g.is_async = 0) : g = ⟨g.target, g.iter, g.ifs, 0⟩ := by
  cases g
  simp only at h
  subst h
  rfl
theorem trGen_ok {z' : Sc} {g : Comprehension} {q : Gen} (h : trGen T r z z' g = some q) : g.is_async = 0 ∧ notSet g.iter = true ∧ trTg T.N z' g.target = some q.t ∧ trIter (r z) z.sc g.target g.iter = some q.it ∧ trIfs (r z') g.ifs = some q.c ∧ ∀ i ∈ q.t.slots, i ∈ (ownOf T.N (z'.fo.getD z'.sc)).map (·.2) := by
  unfold trGen at h
  split at h
  · next h1 =>
    simp only [Bool.and_eq_true, decide_eq_true_eq] at h1
    split at h
    · next e1 e2 e3 =>
      split at h
      · next h2 =>
        cases h
        simp only [List.all_eq_true, decide_eq_true_eq] at h2
        exact ⟨h1.1, h1.2, e1, e2, e3, h2⟩
      · cases h
    · cases h
  · cases h
/-- the parts of a comprehension -/
structure Comp1 (T : Tx) (X : Cx) (G : Gh) (scope : Scope) (elt : Expr) (g : Comprehension) (t : Tg) (it : Ci) (c : Co) (b : C) : Prop where
  as : g.is_async = 0
  ns : notSet g.iter = true
  it : PI X g.target g.iter (tI G (Wi it))
  ok : BlkOk X.N X.env.scope scope (ownOf T.N scope)
  sub : ∀ i ∈ t.slots, i ∈ (ownOf T.N scope).map (·.2)
  tg : ∀ (s : Shared) (H : Hp) (C : Addr) (cl : List (Str × Addr)) (fp : List Addr), PG (X.blk s H scope (compEnvC scope cl C X.env) fp) g.target (tG G t)
  ifs : ∀ (s : Shared) (H : Hp) (C : Addr) (cl : List (Str × Addr)) (fp : List Addr), PTs (X.blk s H scope (compEnvC scope cl C X.env) fp) g.ifs (tTs G (Wcond c))
  el : ∀ (s : Shared) (H : Hp) (C : Addr) (cl : List (Str × Addr)) (fp : List Addr), PE (X.blk s H scope (compEnvC scope cl C X.env) fp) elt (tD G (W b).v)
structure Comp2 (T : Tx) (X : Cx) (G : Gh) (scope : Scope) (g1 : Comprehension) (t1 : Tg) (it1 : Ci) (c1 : Co) : Prop where
  as : g1.is_async = 0
  ns : notSet g1.iter = true
  it : ∀ (s : Shared) (H : Hp) (C : Addr) (cl : List (Str × Addr)) (fp : List Addr), PI (X.blk s H scope (compEnvC scope cl C X.env) fp) g1.target g1.iter (tI G (Wi it1))
  sub : ∀ i ∈ t1.slots, i ∈ (ownOf T.N scope).map (·.2)
  tg : ∀ (s : Shared) (H : Hp) (C : Addr) (cl : List (Str × Addr)) (fp : List Addr), PG (X.blk s H scope (compEnvC scope cl C X.env) fp) g1.target (tG G t1)
  ifs : ∀ (s : Shared) (H : Hp) (C : Addr) (cl : List (Str × Addr)) (fp : List Addr), PTs (X.blk s H scope (compEnvC scope cl C X.env) fp) g1.ifs (tTs G (Wcond c1))
theorem trComp_ok (S : SoundE T k r) (g : Good T k X G z) {elt : Expr} {gens : List Comprehension} {scope : Scope} {c : C} (h : trComp T r z elt gens scope = some c) :
    (∃ q t it cc b, gens = [q] ∧ c = .comp ((ownOf T.N scope).map (·.2)) t it cc b ∧ Comp1 T X G scope elt q t it cc b) ∨
    (∃ q q1 t it cc t1 it1 cc1 b, gens = [q, q1] ∧ c = .comp2 ((ownOf T.N scope).map (·.2)) t it cc t1 it1 cc1 b ∧ Comp1 T X G scope elt q t it cc b ∧ Comp2 T X G scope q1 t1 it1 cc1) := by
  unfold trComp at h
  split at h
  · next hb =>
    have ok : BlkOk X.N X.env.scope scope (ownOf T.N scope) := by rw [g.hN, g.sc]; exact blkOk_by hb
    have gb := fun s H C cl fp => g.blk ok.kind s H C cl fp
    split at h
    · next q =>
      split at h
      · next w b e1 e2 =>
        cases h
        obtain ⟨h1, h2, h3, h4, h5, h6⟩ := trGen_ok e1
        exact .inl ⟨q, w.t, w.it, w.c, b, rfl, rfl, h1, h2, trIter_ok g (fun e c q => S _ _ _ _ _ g q) h4, ok, h6, fun s H C cl fp => trTg_ok (gb s H C cl fp) h3, fun s H C cl fp => trIfs_ok (fun e c q => S _ _ _ _ _ (gb s H C cl fp) q) h5, fun s H C cl fp => (S _ _ _ _ _ (gb s H C cl fp) e2).v⟩
      · cases h
    · next q q1 =>
      split at h
      · next w w1 b e1 e3 e2 =>
        cases h
        obtain ⟨h1, h2, h3, h4, h5, h6⟩ := trGen_ok e1
        obtain ⟨i1, i2, i3, i4, i5, i6⟩ := trGen_ok e3
        exact .inr ⟨q, q1, w.t, w.it, w.c, w1.t, w1.it, w1.c, b, rfl, rfl, ⟨h1, h2, trIter_ok g (fun e c q => S _ _ _ _ _ g q) h4, ok, h6, fun s H C cl fp => trTg_ok (gb s H C cl fp) h3, fun s H C cl fp => trIfs_ok (fun e c q => S _ _ _ _ _ (gb s H C cl fp) q) h5, fun s H C cl fp => (S _ _ _ _ _ (gb s H C cl fp) e2).v⟩,
          ⟨i1, i2, fun s H C cl fp => trIter_ok (gb s H C cl fp) (fun e c q => S _ _ _ _ _ (gb s H C cl fp) q) i4, i6, fun s H C cl fp => trTg_ok (gb s H C cl fp) i3, fun s H C cl fp => trIfs_ok (fun e c q => S _ _ _ _ _ (gb s H C cl fp) q) i5⟩⟩
      · cases h
    · cases h
  · cases h
theorem trComp_sd (S : SoundE T k r) (g : Good T k X G z) {elt : Expr} {gens : List Comprehension} {scope : Scope} {c : C} {pos : Pos} (h : trComp T r z elt gens scope = some c) : Sd X G (.ListComp elt gens scope pos) c := by
  rcases trComp_ok S g h with ⟨q, t, it, cc, b, rfl, rfl, A⟩ | ⟨q, q1, t, it, cc, t1, it1, cc1, b, rfl, rfl, A, B⟩
  · rw [gen_eq q A.as]
    exact sd_comp g.hK g.calm g.nd A.it A.ok A.sub A.tg A.ifs A.el (notSet_ok A.ns _)
  · rw [gen_eq q A.as, gen_eq q1 B.as]
    exact sd_comp2 g.hK g.calm g.nd A.it A.ok A.sub B.sub A.tg A.ifs B.it B.tg B.ifs A.el (notSet_ok A.ns _) (notSet_ok B.ns)
theorem nob {op : CmpOp} {b : Expr} (h : (!behindInMarks op b) = true) : behindInMarks op b = false := by simpa using h
theorem cmp_ok (g : Good T k X G z) {op : CmpOp} {a b : Expr} {ca cb : C} {pos : Pos} (ho : cmpOk op = true) (ha : Sd X G a ca) (hb : Sd X G b cb) (hm : behindInMarks op b = false) : Sd X G (.Compare a [op] [b] pos) (.cmp op ca cb) := by
  have hu : X.A.units + 64 < cLine := by have := g.units; omega
  cases op with
  | Lt => exact sd_cmp g.hK op_lt rc_lt ha hb hm
  | LtE => exact sd_cmp g.hK op_le rc_le ha hb hm
  | Gt => exact sd_cmp g.hK op_gt rc_gt ha hb hm
  | GtE => exact sd_cmp g.hK op_ge rc_ge ha hb hm
  | Eq => exact sd_cmp g.hK (g.hK ▸ op_eqA hu) rc_eq ha hb hm
  | NotEq => exact sd_cmp g.hK (g.hK ▸ op_neA hu) rc_ne ha hb hm
  | Is => exact sd_cmp g.hK op_isN rc_is ha hb hm
  | IsNot => exact sd_cmp g.hK op_notN rc_isnot ha hb hm
  | _ => exact Bool.noConfusion ho
theorem trB_two {r : Expr → Option C} {op : PySem.BoolOp} {a b : Expr} {l : List Expr} {c : C} (h : trB op r (a :: b :: l) = some c) : (∀ i, c ≠ .var i) ∧ c.fresh = false := by
  cases op with
  | And =>
    have q : (match r a, trB .And r (b :: l) with
      | some a, some b => some (C.and a b)
      | _, _ => none) = some c := h
    split at q
    · cases q; exact ⟨(fun i z => by cases z), rfl⟩
    · cases q
  | Or =>
    have q : (match r a, trB .Or r (b :: l) with
      | some a, some b => some (C.or a b)
      | _, _ => none) = some c := h
    split at q
    · cases q; exact ⟨(fun i z => by cases z), rfl⟩
    · cases q
theorem stepE_ok (S : SoundE T k r) : SoundE T k (stepE T r) := by
  intro X G z e c g h
  have Sz : ∀ e c, r z e = some c → Sd X G e c := fun e c q => S X G z e c g q
  unfold stepE at h
  split at h
  · cases h; exact sd_con g.hK pe_int (fun F => .int _) rfl
  · cases h; exact sd_con g.hK pe_bl (fun F => .bl _) rfl
  · cases h; exact sd_con g.hK pe_non (fun F => .non) rfl
  · cases h; exact sd_con g.hK pe_str (fun F => .str _) rfl
  · split at h
    · next e1 => cases h; exact sd_var g.hK (g.name e1)
    · cases h
  · split at h
    · exact (trB_ok Sz h).sd (trB_two h).1 (trB_two h).2
    · cases h
  · split at h
    · next e1 e2 =>
      split at h
      · split at h
        · cases h; exact sd_cat g.hK (Sz _ _ e1) (Sz _ _ e2)
        · cases h; exact sd_bin g.hK op_addD (g.hK ▸ r2_add) (Sz _ _ e1) (Sz _ _ e2) rfl
      · split at h
        · cases h; exact sd_rep g.hK (Sz _ _ e1) (Sz _ _ e2)
        · cases h; exact sd_bin g.hK op_mulD r2_mul (Sz _ _ e1) (Sz _ _ e2) rfl
      · cases h; exact sd_bin g.hK op_sub r2_sub (Sz _ _ e1) (Sz _ _ e2) rfl
      · cases h; exact sd_bin g.hK op_fdivN r2_fdiv (Sz _ _ e1) (Sz _ _ e2) rfl
      · cases h; exact sd_bin g.hK op_modN r2_mod (Sz _ _ e1) (Sz _ _ e2) rfl
      · cases h; exact sd_bin g.hK op_pow r2_pow (Sz _ _ e1) (Sz _ _ e2) rfl
      · cases h
    · cases h
  · split at h
    · next e1 => cases h; exact sd_not g.hK (Sz _ _ e1)
    · cases h
  · split at h
    · next e1 => cases h; exact sd_neg g.hK (Sz _ _ e1)
    · cases h
  · split at h
    · next e1 e2 e3 => cases h; exact sd_ite (Sz _ _ e1) (Sz _ _ e2) (Sz _ _ e3)
    · cases h
  · split at h
    · next hc =>
      simp only [Bool.and_eq_true, decide_eq_true_eq] at hc
      split at h
      · next e1 =>
        cases h
        obtain ⟨h1, h2⟩ := trD_ok Sz e1
        exact sd_dct g.hK h1 h2 hc.1.1 (fun q => by have := hc.1.2; rw [q] at this; exact absurd this (by decide)) hc.2
      · cases h
    · cases h
  · exact trComp_sd S g h
  · split at h
    · next hm =>
      split at h
      · next e1 e2 =>
        split at h
        · next ho => cases h; exact cmp_ok g ho (Sz _ _ e1) (Sz _ _ e2) (nob hm)
        · cases h
      · cases h
    · cases h
  · exact trCall_ok g Sz h
  · split at h
    · next e1 e2 e3 => cases h; exact sd_sli g.hK (Sz _ _ e1) (trO_ok Sz e2) (trO_ok Sz e3)
    · cases h
  · split at h
    · next hp =>
      split at h
      · next e1 e2 => cases h; exact sd_idx g.hK (Sz _ _ e1) (Sz _ _ e2) (plainIx_ok hp)
      · cases h
    · cases h
  · split at h
    · next hl =>
      split at h
      · next e1 => cases h; exact sd_lst g.hK (by have := of_decide_eq_true hl; omega) (trL_ok Sz e1).ds
      · cases h
    · cases h
  · split at h
    · next hl =>
      split at h
      · next e1 => cases h; exact sd_tup g.hK (by have := of_decide_eq_true hl; omega) (trL_ok Sz e1).ds
      · cases h
    · cases h
  · cases h
theorem trE_ok : ∀ n : Nat, SoundE T k (trE T n)
  | 0 => fun _ _ _ _ _ _ h => by cases h
  | n + 1 => stepE_ok (trE_ok n)
end
end Vs

set_option maxHeartbeats 4000000
/-! VQ: statements: from the text to the core. -/
namespace Vs
open PySem L2

def notComp : Expr → Bool
  | .ListComp _ _ _ _ => false
  | .SetComp _ _ _ _ => false
  | .DictComp _ _ _ _ _ => false
  | _ => true
theorem notComp_ok {e : Expr} (h : notComp e = true) (t : Option Expr) (n : Nat) (env : PySem.Env) : swapsWith e t n env = pure false := by
  cases e <;> first | rfl | exact Bool.noConfusion h
def namesC (z : Sc) (ts : List Expr) : List Str := ts.filterMap fun
      | .Name id pos => if z.sc.names.lookup id == some .local && pos.line == (ts.head?.map (·.pos.line)).getD 0 then some id else none
      | _ => none
/-- what swappedStores says, of a def's own block -/
def swC (z : Sc) (ts vs : List Expr) : Option (Option (List Str)) :=
  if !(ts.length == 2 || ts.length == 3) || vs.length != ts.length then some none
  else if vs.any (fun | .Starred .. => true | _ => false) then some none
  else if (namesC z ts).length != ts.length || (namesC z ts).eraseDups.length != (namesC z ts).length then some none
  else if vs.all (foldedForSure 8) then some none
  else if vs.all (constantsAlone 8) then none
  else some (some (namesC z ts))
theorem swC_ok {X : Cx} {z : Sc} (hs : X.env.scope = z.sc) (hk : z.sc.kind = .function) {ts vs : List Expr} {k k2 : Nat} {p p2 : Pos} {r : Option (List Str)} (h : swC z ts vs = some r) : swappedStores [.Tuple ts k p] (.Tuple vs k2 p2) X.env = pure r := by
  have hb : (X.env.blockKind != ScopeKind.function) = false := by
    unfold PySem.Env.blockKind
    rw [hs, hk]
    rfl
  unfold swC at h
  unfold swappedStores
  simp only [hb, Bool.or_false, PySem.Env.kindOf, hs]
  split at h
  · next c => cases h; exact if_pos c
  · next c =>
    refine (if_neg c).trans ?_
    split at h
    · next c => cases h; exact if_pos c
    · next c =>
      refine (if_neg c).trans ?_
      split at h
      · next c => cases h; exact if_pos c
      · next c =>
        refine (if_neg c).trans ?_
        split at h
        · next c => cases h; exact if_pos c
        · next c =>
          refine (if_neg c).trans ?_
          split at h
          · cases h
          · next c => cases h; exact if_neg c
/-- every name of ts, local -/
def namesOf : List Expr → Option (List Str)
  | [] => some []
  | .Name x _ :: es => (namesOf es).map (x :: ·)
  | _ => none
def locals (z : Sc) (ns : List Str) : Bool := ns.all fun n => decide (z.sc.names.lookup n = some .local)

def trPar (T : Tx) (r : Expr → Option C) (z : Sc) (ts es : List Expr) : Option S :=
  match trNames T.N z ts, trL r es, swC z ts es with
  | some is, some cs, some none => if decide (is.length ≤ 100) then some (.par is cs) else none
  | some is, some cs, some (some ns) => if decide (is.length ≤ 100) && decide (namesOf ts = some ns) && locals z ns then some (.par is cs) else none
  | _, _, _ => none
def compSwaps (z : Sc) (x : Str) (py : Pos) (cpos : Pos) (scope : Scope) : Bool :=
  z.sc.names.lookup x == some .local && py.line == cpos.line && !(scope.names.any fun (n, k) => n == x && (k == .local || k == .cell))
def trSet (T : Tx) (r : Expr → Option C) (z : Sc) (x : Str) (py : Pos) (e : Expr) : Option S :=
  if storeC z x then (match slotI T.N z.sc x, r e with
    | some i, some c => some (.set i c)
    | _, _ => none) else none
def stepS (T : Tx) (re : Sc → Expr → Option C) (rs : List Stmt → Option Ss) (fr : Bool) (z : Sc) : Stmt → Option S
  | .Expr (.Call (.Attribute (.Name x _) m ap) [e] [] cp) _ => if (ap.endLine == cp.line) && noStar e then
      (match slotI T.N z.sc x, re z e with
      | some i, some c => if m = ("append" : Str) then some (.append i c) else if m = ("extend" : Str) then some (.extend i c) else none
      | _, _ => none) else none
  | .Expr e _ => if notComp e then (match re z e with
    | some c => some (.expr c)
    | none => none) else none
  | .Return (some e) _ => (match re z e with
    | some c => if !fr || c.fresh then some (.ret c) else none
    | none => none)
  | .Return none _ => if fr then none else some .retN
  | .If t a b _ => (match re z t, rs a, rs b with
    | some c, some x, some y => some (.ite c x y)
    | _, _, _ => none)
  | .While t b [] _ => (match re z t, rs b with
    | some c, some x => some (.whl c x)
    | _, _ => none)
  | .For tg it b [] _ => if notSet it then (match trTg T.N z tg, trIter (re z) z.sc tg it, rs b with
    | some t, some i, some x => some (.forr t i x)
    | _, _, _ => none) else none
  | .Pass _ => some .pass
  | .Break _ => some .brk
  | .Continue _ => some .cont
  | .Raise _ _ _ => some .never
  | .Try b (_ :: _) [] [] _ => (match rs b with
    | some x => some (.tryy x)
    | none => none)
  | .Assign [.Name x py] (.ListComp elt gens scope cpos) _ => if storeC z x then (match slotI T.N z.sc x, trComp T re z elt gens scope with
    | some i, some c => some (.set i c)
    | _, _ => none) else none
  | .Assign [.Name x py] e _ => if notComp e then trSet T (re z) z x py e else none
  | .Assign [.Tuple ts _ _] (.Tuple es _ _) _ => trPar T (re z) z ts es
  | .Assign [.Tuple ts _ _] e _ => if notComp e && !isTup e then (match trNames T.N z ts, re z e with
    | some is, some c => some (.unpack is c)
    | _, _ => none) else none
  | .Assign [.Subscript (.Name x _) k _] e _ => if notComp e && plainIxE k then (match slotI T.N z.sc x, re z k, re z e with
    | some i, some c, some d => some (.setIdx i c d)
    | _, _, _ => none) else none
  | _ => none
def trSs (f : Stmt → Option S) : List Stmt → Option Ss
  | [] => some .nil
  | s :: ss => match f s, trSs f ss with
    | some c, some cs => some (.cons c cs)
    | _, _ => none
def trS (T : Tx) (ne : Nat) (fr : Bool) (z : Sc) : Nat → List Stmt → Option Ss
  | 0 => fun _ => none
  | n + 1 => trSs (stepS T (trE T ne) (trS T ne fr z n) fr z)

section
variable {T : Tx} {k : Nat} {X : Cx} {G : Gh} {z : Sc} {re : Sc → Expr → Option C} {rs : List Stmt → Option Ss} {fr : Bool}
theorem namesOf_ok {z : Sc} (g : Good T k X G z) : ∀ {ts : List Expr} {is : List Nat} {ns : List Str}, trNames T.N z ts = some is → namesOf ts = some ns → (locals z ns = true) → Names X ns is
  | [], is, ns, h1, h2, _ => by
    cases h1; cases h2
    exact ⟨rfl, fun k i n e => by simp at e⟩
  | e :: es, is, ns, h1, h2, h3 => by
    unfold trNames at h1
    split at h1
    · next q => cases q
    · next x p es' q =>
      cases q
      split at h1
      · split at h1
        · next i is' e1 e2 =>
          cases h1
          unfold namesOf at h2
          cases hn : namesOf es with
          | none => rw [hn] at h2; cases h2
          | some ns' =>
            rw [hn] at h2
            cases h2
            have h3' : decide (z.sc.names.lookup x = some .local) = true ∧ locals z ns' = true := by
              unfold locals at h3 ⊢
              rw [List.all_cons, Bool.and_eq_true] at h3
              exact h3
            have R := namesOf_ok g e2 hn h3'.2
            refine ⟨by simp [R.len], fun j i' n a b => ?_⟩
            cases j with
            | zero =>
              simp at a b
              subst a; subst b
              exact ⟨by rw [g.hN]; exact (slotI_ok e1).1, by rw [g.sc]; exact of_decide_eq_true h3'.1⟩
            | succ j => exact R.at_ j i' n (by simpa using a) (by simpa using b)
        · cases h1
      · cases h1
    · cases h1
end
end Vs

set_option maxHeartbeats 4000000
/-! VR: the statements' soundness. -/
namespace Vs
open PySem L2

section
variable {T : Tx} {k : Nat} {X : Cx} {G : Gh} {z : Sc} {re : Sc → Expr → Option C} {rs : List Stmt → Option Ss} {fr : Bool}
def SoundSs (X : Cx) (G : Gh) (fr : Bool) (rs : List Stmt → Option Ss) : Prop := ∀ (l : List Stmt) (c : Ss), rs l = some c → PSs X l (tS G fr (WSs c))
theorem compSwaps_ok (g : Good T k X G z) {x : Str} {py cpos : Pos} {elt : Expr} {gens : List Comprehension} {scope : Scope} (n : Nat) : swapsWith (.ListComp elt gens scope cpos) (some (.Name x py)) n X.env = pure (compSwaps z x py cpos scope) := by
  have hb : (X.env.blockKind == ScopeKind.function) = true := by
    unfold PySem.Env.blockKind
    rw [g.sc, g.kd]
    rfl
  show pure (X.env.blockKind == .function && X.env.scope.names.lookup x == some .local && py.line == cpos.line && !(scope.names.any fun (n, k) => n == x && (k == .local || k == .cell))) = _
  rw [hb, g.sc, Bool.true_and]
  rfl
theorem swapLoc {x : Str} {py cpos : Pos} {scope : Scope} (h : compSwaps z x py cpos scope = true) : z.sc.names.lookup x = some .local := by
  unfold compSwaps at h
  simp only [Bool.and_eq_true] at h
  simpa using h.1.1
theorem set_comp (S : SoundE T k re) (g : Good T k X G z) {x : Str} {py cpos pos : Pos} {elt : Expr} {gens : List Comprehension} {scope : Scope} {i : Nat} {c : C} (hs : storeC z x = true) (hi : slotI T.N z.sc x = some i) (hc : trComp T re z elt gens scope = some c) :
    PS X (.Assign [.Name x py] (.ListComp elt gens scope cpos) pos) (tS G fr (WS (.set i c))) := by
  obtain ⟨hl, hf⟩ := g.st hs
  have hN : X.N[i]? = some x := by rw [g.hN]; exact (slotI_ok hi).1
  have sw := compSwaps_ok g (x := x) (py := py) (cpos := cpos) (elt := elt) (gens := gens) (scope := scope) pos.line
  cases hb : compSwaps z x py cpos scope with
  | false =>
    rw [hb] at sw
    exact ss_set g.nd hN hl hf sw (trComp_sd S g hc)
  | true =>
    rw [hb] at sw
    have hloc : X.env.scope.names.lookup x = some .local := by rw [g.sc]; exact swapLoc hb
    rcases trComp_ok S g hc with ⟨q, t, it, cc, b, rfl, rfl, A⟩ | ⟨q, q1, t, it, cc, t1, it1, cc1, b, rfl, rfl, A, B⟩
    · rw [gen_eq q A.as] at sw ⊢
      exact ss_comp g.calm g.nd hN hloc sw A.it A.ok A.sub A.tg A.ifs A.el (notSet_ok A.ns _)
    · rw [gen_eq q A.as, gen_eq q1 B.as] at sw ⊢
      exact ss_comp2 g.calm g.nd hN hloc sw A.it A.ok A.sub B.sub A.tg A.ifs B.it B.tg B.ifs A.el (notSet_ok A.ns _) (notSet_ok B.ns)
theorem assign_plain {o k : Expr} {tpos : Pos} {env : PySem.Env} (h : plainIxE k = true) (v : Value) : assign (.Subscript o k tpos) env v = (do
      let ov ← holding [v] (eval o env)
      let iv ← holding [v, ov] (eval k env)
      standAt tpos
      holding [v, ov, iv] (setItem ov iv v)
      release [v, ov, iv] []) := by
  cases k <;> first | rfl | exact Bool.noConfusion h
theorem swapped_not {ts : List Expr} {kk : Nat} {p : Pos} {e : Expr} {env : PySem.Env} (h : isTup e = false) : swappedStores [.Tuple ts kk p] e env = pure none := by
  cases e <;> first | rfl | exact Bool.noConfusion h
theorem swapped_sub {o k : Expr} {p : Pos} {e : Expr} {env : PySem.Env} : swappedStores [.Subscript o k p] e env = pure none := by
  cases e <;> rfl
theorem notComp_sole {t e : Expr} {n : Nat} {env : PySem.Env} (h : notComp e = true) : swapsWithSole [t] e n env = pure false := notComp_ok h (some t) n env
theorem pass_own (g : Good T k X G z) : PassesOwn (model X.prog X.w) X.A X.env X.xe := by
  rw [g.xe]
  exact PassesOwn.never
theorem par_ok (S : SoundE T k re) (g : Good T k X G z) {ts es : List Expr} {c : Vs.S} {kk k2 : Nat} {p p2 pos : Pos} (h : trPar T (re z) z ts es = some c) : PS X (.Assign [.Tuple ts kk p] (.Tuple es k2 p2) pos) (tS G fr (WS c)) := by
  have Sz : ∀ e c, re z e = some c → Sd X G e c := fun e c q => S X G z e c g q
  unfold trPar at h
  split at h
  · next is cs e1 e2 e3 =>
    split at h
    · next hl =>
      cases h
      obtain ⟨h1, h2, h3, h4⟩ := trNames_ok g e1
      exact ss_par (of_decide_eq_true hl) (trL_ok Sz e2).par (pg_tup g.calm h1 (by rw [h3, h2]) h4) rfl (swC_ok g.sc g.kd e3) rfl
    · cases h
  · next is cs ns e1 e2 e3 =>
    split at h
    · next hl =>
      cases h
      simp only [Bool.and_eq_true, decide_eq_true_eq] at hl
      have R := namesOf_ok g e1 hl.1.2 hl.2
      exact ss_parS g.calm g.nd R (by rw [← R.len]; exact hl.1.1) (trL_ok Sz e2).par (swC_ok g.sc g.kd e3) rfl
    · cases h
  · cases h
theorem stepS_ok (S : SoundE T k re) (R : SoundSs X G fr rs) (g : Good T k X G z) {st : Stmt} {c : Vs.S} (h : stepS T re rs fr z st = some c) : PS X st (tS G fr (WS c)) := by
  have Sz : ∀ e c, re z e = some c → Sd X G e c := fun e c q => S X G z e c g q
  unfold stepS at h
  split at h
  · split at h
    · next hc =>
      simp only [Bool.and_eq_true] at hc
      split at h
      · next e1 e2 =>
        split at h
        · next hm =>
          subst hm
          cases h
          exact ss_append (g.name e1) (Sz _ _ e2) hc.2 rfl hc.1 g.hK
        · split at h
          · next hm =>
            subst hm
            cases h
            exact ss_extend (g.name e1) (Sz _ _ e2) hc.2 rfl hc.1 g.hK
          · cases h
      · cases h
    · cases h
  · split at h
    · next hc =>
      split at h
      · next e1 => cases h; exact ss_expr (Sz _ _ e1) (notComp_ok hc _ _ _)
      · cases h
    · cases h
  · split at h
    · next e1 =>
      split at h
      · next hf => cases h; exact ss_ret (Sz _ _ e1) fun z => by rw [z] at hf; simpa using hf
      · cases h
    · cases h
  · split at h
    · cases h
    · next hf => cases h; exact ss_retN (by simpa using hf)
  · split at h
    · next e1 e2 e3 => cases h; exact ss_if (Sz _ _ e1) (R _ _ e2) (R _ _ e3)
    · cases h
  · split at h
    · next e1 e2 => cases h; exact ss_while (pass_own g) (Sz _ _ e1) (R _ _ e2)
    · cases h
  · split at h
    · next hs =>
      split at h
      · next e1 e2 e3 => cases h; exact ss_for (pass_own g) g.calm (trIter_ok g Sz e2) (trTg_ok g e1) (R _ _ e3) (notSet_ok hs _)
      · cases h
    · cases h
  · cases h; exact ss_pass
  · cases h; exact ss_brk
  · cases h; exact ss_cont
  · cases h; exact ss_never
  · split at h
    · next e1 => cases h; exact ss_try g.xe (R _ _ e1)
    · cases h
  · split at h
    · next hs =>
      split at h
      · next e1 e2 => cases h; exact set_comp S g hs e1 e2
      · cases h
    · cases h
  · split at h
    · next hc =>
      unfold trSet at h
      split at h
      · next hs =>
        split at h
        · next e1 e2 =>
          cases h
          obtain ⟨hl, hf⟩ := g.st hs
          exact ss_set g.nd (by rw [g.hN]; exact (slotI_ok e1).1) hl hf (notComp_ok hc _ _ _) (Sz _ _ e2)
        · cases h
      · cases h
    · cases h
  · exact par_ok S g h
  · split at h
    · next hc =>
      simp only [Bool.and_eq_true, Bool.not_eq_true'] at hc
      split at h
      · next e1 e2 =>
        cases h
        obtain ⟨h1, h2, h3, h4⟩ := trNames_ok g e1
        exact ss_unpack (Sz _ _ e2) (sg_many g.hK (pg_tup g.calm h1 (by rw [h3, h2]) h4)) (notComp_sole hc.1) (swapped_not hc.2) rfl
      · cases h
    · cases h
  · split at h
    · next hc =>
      simp only [Bool.and_eq_true] at hc
      split at h
      · next e1 e2 e3 =>
        cases h
        exact ss_setIdx g.hK (g.name e1) (Sz _ _ e2) (Sz _ _ e3) (assign_plain hc.2) (notComp_sole hc.1) swapped_sub rfl
      · cases h
    · cases h
  · cases h
theorem trSs_ok {f : Stmt → Option Vs.S} (h : ∀ st c, f st = some c → PS X st (tS G fr (WS c))) : SoundSs X G fr (trSs f)
  | [], c, q => by cases q; exact ss_nil
  | s :: ss, c, q => by
    have q : (match f s, trSs f ss with
      | some c, some cs => some (Ss.cons c cs)
      | _, _ => none) = some c := q
    split at q
    · next e1 e2 => cases q; exact ss_cons (h _ _ e1) (trSs_ok h _ _ e2)
    · cases q
theorem trS_ok {ne : Nat} (g : Good T k X G z) : ∀ n : Nat, SoundSs X G fr (trS T ne fr z n)
  | 0 => fun _ _ h => by cases h
  | n + 1 => trSs_ok fun st c q => stepS_ok (trE_ok ne) (trS_ok g n) g q
end
end Vs

set_option maxHeartbeats 4000000
/-! VT: for the plain laws: loops by an invariant, comprehensions by a map. -/
namespace Vs
open PySem L2

/-- a for loop, by what holds ahead of each turn -/
theorem forW_ind {t : Tg} {body : Env → En → Prop} {E : En} {ds : List PyData} {ρ : Env} (I : Nat → Env → Prop) (h0 : I 0 ρ)
    (step : ∀ i d ρ (Φ : Env → Prop), ds[i]? = some d → I i ρ → (∀ ρ', I (i + 1) ρ' → Φ ρ') → t.bind d ρ fun ρ1 => body ρ1 { E with nx := Φ, ct := Φ, bk := E.nx })
    (fin : ∀ ρ, I ds.length ρ → E.nx ρ) : forW t body ds ρ E := by
  have go : ∀ (l : List PyData) (i : Nat) (ρ : Env), ds.drop i = l → i ≤ ds.length → I i ρ → forW t body l ρ E := by
    intro l
    induction l with
    | nil =>
      intro i ρ e hi h
      have : i = ds.length := by
        have := congrArg List.length e
        simp at this
        omega
      subst this
      exact fin ρ h
    | cons d l ih =>
      intro i ρ e hi h
      have hd : ds[i]? = some d := by
        have := congrArg (fun l => l[0]?) e
        simpa using this
      have hl : i < ds.length := (List.getElem?_eq_some_iff.mp hd).1
      have e' : ds.drop (i + 1) = l := by
        rw [← List.drop_drop, e]
        rfl
      exact step i d ρ _ hd h fun ρ' h' => ih (i + 1) ρ' e' hl h'
  exact go ds 0 ρ rfl (Nat.zero_le _) h0
/-- a comprehension, by what holds ahead of each turn -/
theorem compW_ind {vs : List Nat} {t : Tg} {c : Env → (Bool → Env → Prop) → Prop} {body : Env → (PyData → Env → Prop) → Prop} {ds : List PyData} {ρ : Env} {Q : List PyData → Env → Prop} (I : Nat → List PyData → Env → Prop) (h0 : I 0 [] ρ)
    (step : ∀ i d acc ρ (Φ : List PyData → Env → Prop), ds[i]? = some d → I i acc ρ → (∀ acc' ρ', I (i + 1) acc' ρ' → Φ acc' ρ') → t.bind d ρ fun ρ1 => c ρ1 fun b ρ2 => if b = true then body ρ2 fun r ρ3 => Φ (acc ++ [r]) (wipeE ρ3 vs) else Φ acc (wipeE ρ2 vs))
    (fin : ∀ acc ρ, I ds.length acc ρ → Q acc ρ) : compW vs t c body ds [] ρ Q := by
  have go : ∀ (l : List PyData) (i : Nat) (acc : List PyData) (ρ : Env), ds.drop i = l → i ≤ ds.length → I i acc ρ → compW vs t c body l acc ρ Q := by
    intro l
    induction l with
    | nil =>
      intro i acc ρ e hi h
      have : i = ds.length := by
        have := congrArg List.length e
        simp at this
        omega
      subst this
      exact fin acc ρ h
    | cons d l ih =>
      intro i acc ρ e hi h
      have hd : ds[i]? = some d := by
        have := congrArg (fun l => l[0]?) e
        simpa using this
      have hl : i < ds.length := (List.getElem?_eq_some_iff.mp hd).1
      have e' : ds.drop (i + 1) = l := by
        rw [← List.drop_drop, e]
        rfl
      exact step i d acc ρ (fun acc' ρ' => compW vs t c body l acc' ρ' Q) hd h fun acc' ρ' h' => ih (i + 1) acc' ρ' e' hl h'
  exact go ds 0 [] ρ rfl (Nat.zero_le _) h0
/-- a comprehension without effects: each item gives f of it -/
theorem compW_map {vs : List Nat} {t : Tg} {body : Env → (PyData → Env → Prop) → Prop} {α : Type} {xs : List α} {g : α → PyData} {ρ : Env} {Q : List PyData → Env → Prop} (f : α → PyData)
    (h : ∀ x, x ∈ xs → ∀ Φ : PyData → Env → Prop, Φ (f x) ρ → t.bind (g x) ρ fun ρ1 => body ρ1 fun r ρ3 => Φ r (wipeE ρ3 vs))
    (q : Q (xs.map f) ρ) : compW vs t (Wcond .no) body (xs.map g) [] ρ Q := by
  have go : ∀ (l : List α) (acc : List PyData), (∀ x, x ∈ l → x ∈ xs) → Q (acc ++ l.map f) ρ → compW vs t (Wcond .no) body (l.map g) acc ρ Q := by
    intro l
    induction l with
    | nil => intro acc _ q; rw [List.map_nil, List.append_nil] at q; exact q
    | cons x l ih => 
      intro acc hm q
      exact h x (hm x (by simp)) (fun r ρ' => compW vs t (Wcond .no) body (l.map g) (acc ++ [r]) ρ' Q) (ih _ (fun y hy => hm y (by simp [hy])) (by simpa using q))
  exact go xs [] (fun x hx => hx) (by simpa using q)
/-- .. with a condition -/
theorem compW_filter {vs : List Nat} {t : Tg} {c : Env → (Bool → Env → Prop) → Prop} {body : Env → (PyData → Env → Prop) → Prop} {α : Type} {xs : List α} {g : α → PyData} {ρ : Env} {Q : List PyData → Env → Prop} (p : α → Bool) (f : α → PyData)
    (h : ∀ x, x ∈ xs → ∀ (Φ1 : PyData → Env → Prop) (Φ0 : Env → Prop), (p x = true → Φ1 (f x) ρ) → (p x = false → Φ0 ρ) → t.bind (g x) ρ fun ρ1 => c ρ1 fun b ρ2 => if b = true then body ρ2 fun r ρ3 => Φ1 r (wipeE ρ3 vs) else Φ0 (wipeE ρ2 vs))
    (q : Q ((xs.filter p).map f) ρ) : compW vs t c body (xs.map g) [] ρ Q := by
  have go : ∀ (l : List α) (acc : List PyData), (∀ x, x ∈ l → x ∈ xs) → Q (acc ++ (l.filter p).map f) ρ → compW vs t c body (l.map g) acc ρ Q := by
    intro l
    induction l with
    | nil => intro acc _ q; rw [List.filter_nil, List.map_nil, List.append_nil] at q; exact q
    | cons x l ih =>
      intro acc hm q
      refine h x (hm x (by simp)) (fun r ρ' => compW vs t c body (l.map g) (acc ++ [r]) ρ' Q) (fun ρ' => compW vs t c body (l.map g) acc ρ' Q) (fun e => ih _ (fun y hy => hm y (by simp [hy])) ?_) (fun e => ih _ (fun y hy => hm y (by simp [hy])) ?_)
      · rw [List.filter_cons, if_pos e] at q
        simpa using q
      · rw [List.filter_cons, if_neg (by simp [e])] at q
        exact q
  exact go xs [] (fun x hx => hx) (by simpa using q)
/-- whole numbers as data; lists of them; lists of lists -/
abbrev nD (n : Nat) : PyData := .int (n : Int)
abbrev tN (l : List Nat) : PyData := .tuple (l.map nD)
abbrev lN (l : List Nat) : PyData := .list (l.map nD)
abbrev ttN (r : List (List Nat)) : PyData := .tuple (r.map tN)
abbrev ltN (r : List (List Nat)) : PyData := .list (r.map tN)
theorem atN {α : Type} {l : List α} {i : Nat} {x : α} (h : l[i]? = some x) : atI l (i : Int) = some x := by
  have hi : i < l.length := (List.getElem?_eq_some_iff.mp h).1
  have : ixN l.length (i : Int) = some i := by
    unfold ixN
    rw [if_pos (by omega), if_pos (by omega)]
    rfl
  unfold atI
  rw [this]
  exact h

/-! ### the evaluation, step by step (each an equation; what is Held is not looked into) -/
structure Held {α : Type} (x : α) : Type where
  n : Nat
def br (c : Bool) (A B : Prop) (_ : Held (A, B)) : Prop := if c = true then A else B
def atS (xs : List PyData) (i : Int) (k : PyData → Prop) (_ : Held k) : Prop := ∃ d, atI xs i = some d ∧ k d
def seqS (r : Ss) (E : En) : En := { E with nx := fun ρ1 => WSs r ρ1 E }
def lpE (E : En) (Φ : Env → Prop) : En := { E with nx := Φ, ct := Φ, bk := E.nx }
def forS (t : Tg) (b : Ss) (ds : List PyData) (ρ : Env) (E : En) (_ : Held E) : Prop := forW t (WSs b) ds ρ E
def whileS (c : C) (b : Ss) (ρ : Env) (E : En) (_ : Held E) : Prop := whileW (W c).t (WSs b) ρ E
def compS (vs : List Nat) (t : Tg) (c : Co) (body : C) (ds : List PyData) (ρ1 : Env) (Q : PyData → Env → Prop) (_ : Held Q) : Prop := compW vs t (Wcond c) (W body).v ds [] (wipeE ρ1 vs) fun rs ρ2 => Q (.list rs) (backE ρ1 ρ2 vs)
def comp2S (vs : List Nat) (t : Tg) (c : Co) (it1 : Ci) (t1 : Tg) (c1 : Co) (body : C) (ds : List PyData) (ρ1 : Env) (Q : PyData → Env → Prop) (_ : Held Q) : Prop := compW2 vs t (Wcond c) (Wi it1) t1 (Wcond c1) (W body).v ds [] (wipeE ρ1 vs) fun rs ρ2 => Q (.list rs) (backE ρ1 ρ2 vs)
def runS (f : Fn) (args : List Arg) (ds : List PyData) (ρ : Env) (Q : PyData → Env → Prop) (_ : Held Q) : Prop := (Arg.lends args).Nodup ∧ f.run (ds ++ f.dflt) fun d os => os.length = (Arg.lends args).length ∧ Q d (argsBack args ρ os)
def opdC (e : C) (ρ : Env) (Q : Opd → Env → Prop) : Prop := opd e (W e).v ρ Q
def rdG : Env → Nat → (PyData → Prop) → Prop
  | some (.val d) :: _, 0, k => k d
  | some (.own d _) :: _, 0, k => k d
  | _ :: l, n + 1, k => rdG l n k
  | _, _, _ => False
def takeG : Env → Nat → (PyData → Prop) → (PyData → Prop) → Prop
  | some (.val d) :: _, 0, k, _ => k d
  | some (.own d false) :: _, 0, _, k => k d
  | _ :: l, n + 1, k, k' => takeG l n k k'
  | _, _, _, _ => False
def hasG : Env → Nat → Prop → Prop
  | some _ :: _, 0, P => P
  | _ :: l, n + 1, P => hasG l n P
  | _, _, _ => False
/-- an object of one's own -/
def ownG : Env → Nat → (PyData → Bool → Prop) → Prop
  | some (.own d b) :: _, 0, k => k d b
  | _ :: l, n + 1, k => ownG l n k
  | _, _, _ => False
theorem rdG_eq : ∀ (ρ : Env) (i : Nat) (k : PyData → Prop), ρ.rd i k = rdG ρ i k
  | [], i, k => by simp [Env.rd, rdG]
  | some (.val d) :: l, 0, k => rfl
  | some (.own d b) :: l, 0, k => rfl
  | none :: l, 0, k => rfl
  | x :: l, n + 1, k => by
    have := rdG_eq l n k
    unfold Env.rd at this ⊢
    rw [List.getElem?_cons_succ, this]
    cases x with
    | none => rfl
    | some s => cases s <;> rfl
theorem takeG_eq : ∀ (ρ : Env) (i : Nat) (k k' : PyData → Prop), (match ρ[i]? with | some (some (.val d)) => k d | some (some (.own d false)) => k' d | _ => False) = takeG ρ i k k'
  | [], i, k, k' => by simp [takeG]
  | some (.val d) :: l, 0, k, k' => rfl
  | some (.own d true) :: l, 0, k, k' => rfl
  | some (.own d false) :: l, 0, k, k' => rfl
  | none :: l, 0, k, k' => rfl
  | x :: l, n + 1, k, k' => by
    have := takeG_eq l n k k'
    rw [List.getElem?_cons_succ, this]
    cases x with
    | none => rfl
    | some s => cases s with
      | val d => rfl
      | own d b => cases b <;> rfl
theorem hasG_eq : ∀ (ρ : Env) (i : Nat) (P : Prop), (match ρ[i]? with | some (some _) => P | _ => False) = hasG ρ i P
  | [], i, P => by simp [hasG]
  | some s :: l, 0, P => rfl
  | none :: l, 0, P => rfl
  | x :: l, n + 1, P => by
    have := hasG_eq l n P
    rw [List.getElem?_cons_succ, this]
    cases x <;> rfl
theorem ownG_eq : ∀ (ρ : Env) (i : Nat) (k : PyData → Bool → Prop), (match ρ[i]? with | some (some (.own d b)) => k d b | _ => False) = ownG ρ i k
  | [], i, k => by simp [ownG]
  | some (.val d) :: l, 0, k => rfl
  | some (.own d b) :: l, 0, k => rfl
  | none :: l, 0, k => rfl
  | x :: l, n + 1, k => by
    have := ownG_eq l n k
    rw [List.getElem?_cons_succ, this]
    cases x with
    | none => rfl
    | some s => cases s <;> rfl
section
variable {ρ : Env} {x : Option Slot} {l : Env} {E : En} {i n : Nat} {d : PyData} {b : Bool}
theorem rdG0v {k : PyData → Prop} : rdG (some (.val d) :: l) 0 k = k d := rfl
theorem rdG0o {k : PyData → Prop} : rdG (some (.own d b) :: l) 0 k = k d := rfl
theorem rdGs {k : PyData → Prop} : rdG (x :: l) (n + 1) k = rdG l n k := by cases x with
  | none => rfl
  | some s => cases s <;> rfl
theorem takeG0v {k k2 : PyData → Prop} : takeG (some (.val d) :: l) 0 k k2 = k d := rfl
theorem takeG0o {k k2 : PyData → Prop} : takeG (some (.own d false) :: l) 0 k k2 = k2 d := rfl
theorem takeGs {k k2 : PyData → Prop} : takeG (x :: l) (n + 1) k k2 = takeG l n k k2 := by cases x with
  | none => rfl
  | some s => cases s with
    | val d => rfl
    | own d b => cases b <;> rfl
theorem hasG0 {P : Prop} {s : Slot} : hasG (some s :: l) 0 P = P := rfl
theorem hasGs {P : Prop} : hasG (x :: l) (n + 1) P = hasG l n P := by cases x <;> rfl
theorem ownG0 {k : PyData → Bool → Prop} : ownG (some (.own d b) :: l) 0 k = k d b := rfl
theorem ownGs {k : PyData → Bool → Prop} : ownG (x :: l) (n + 1) k = ownG l n k := by cases x with
  | none => rfl
  | some s => cases s <;> rfl
theorem free0n : Env.free (none :: l) 0 = True := rfl
theorem free0v : Env.free (some (.val d) :: l) 0 = True := rfl
theorem free0o : Env.free (some (.own d false) :: l) 0 = True := rfl
theorem frees : Env.free (x :: l) (n + 1) = Env.free l n := by unfold Env.free; rw [List.getElem?_cons_succ]
theorem hass : Env.has (x :: l) (n + 1) = Env.has l n := by unfold Env.has; rw [List.getElem?_cons_succ]
theorem has0 {s : Slot} : Env.has (some s :: l) 0 = True := rfl
theorem isL0 {xs : List PyData} : Env.isL (some (.own (.list xs) b) :: l) 0 = True := rfl
theorem isLs : Env.isL (x :: l) (n + 1) = Env.isL l n := by unfold Env.isL; rw [List.getElem?_cons_succ]
theorem S_nil : WSs .nil (x :: l) E = E.nx (x :: l) := rfl
theorem S_cons {s : S} {r : Ss} : WSs (.cons s r) (x :: l) E = WS s (x :: l) (seqS r E) := rfl
theorem seq_nx {r : Ss} : (seqS r E).nx ρ = WSs r ρ E := rfl
theorem seq_rt {r : Ss} : (seqS r E).rt d ρ = E.rt d ρ := rfl
theorem seq_bk {r : Ss} : (seqS r E).bk ρ = E.bk ρ := rfl
theorem seq_ct {r : Ss} : (seqS r E).ct ρ = E.ct ρ := rfl
theorem lp_nx {Φ : Env → Prop} : (lpE E Φ).nx ρ = Φ ρ := rfl
theorem lp_rt {Φ : Env → Prop} : (lpE E Φ).rt d ρ = E.rt d ρ := rfl
theorem lp_bk {Φ : Env → Prop} : (lpE E Φ).bk ρ = E.nx ρ := rfl
theorem lp_ct {Φ : Env → Prop} : (lpE E Φ).ct ρ = Φ ρ := rfl
theorem fin_rt {fr : Bool} {ms : List Bool} {K : PyData → List PyData → Prop} : (finE fr ms K).rt d ρ = outsOf ms 0 ρ (fun os => K d os) := rfl
theorem fin_nx {ms : List Bool} {K : PyData → List PyData → Prop} : (finE false ms K).nx ρ = outsOf ms 0 ρ (fun os => K .none os) := by
  show (if false = true then False else outsOf ms 0 ρ fun os => K .none os) = _
  exact if_neg Bool.false_ne_true
theorem outs_nil {k : List PyData → Prop} : outsOf [] i ρ k = k [] := rfl
theorem outs_f {ms : List Bool} {k : List PyData → Prop} : outsOf (false :: ms) i ρ k = outsOf ms (i + 1) ρ k := rfl
theorem outs_t {ms : List Bool} {k : List PyData → Prop} : outsOf (true :: ms) i ρ k = ownG ρ i (fun o b => b = true ∧ outsOf ms (i + 1) ρ fun os => k (o :: os)) := by
  rw [← ownG_eq]
  show (match ρ[i]? with | some (some (.own o true)) => outsOf ms (i + 1) ρ fun os => k (o :: os) | _ => False) = _
  split
  · next e => rw [e]; simp
  · next h =>
    split
    · next o b e =>
      cases b with
      | true => exact absurd e (h o)
      | false => simp
    · rfl
theorem S_set {e : C} : WS (.set i e) (x :: l) E = (W e).v (x :: l) (fun d ρ1 => ρ1.free i ∧ E.nx (ρ1.set i (some (mkSlot e.fresh d)))) := rfl
theorem S_unpack {is : List Nat} {e : C} : WS (.unpack is e) (x :: l) E = (W e).v (x :: l) (fun d ρ1 => (Tg.many is).bind d ρ1 E.nx) := rfl
theorem S_par {is : List Nat} {es : Cs} : WS (.par is es) (x :: l) E = Ws es (x :: l) (fun ds ρ1 => ds.length = is.length ∧ (∀ i ∈ is, ρ1.free i) ∧ is.Nodup ∧ E.nx (putPar ρ1 is es.freshes ds)) := rfl
theorem S_setIdx {k e : C} : WS (.setIdx i k e) (x :: l) E = (W e).v (x :: l) (fun d ρ1 => ρ1.has i ∧ (W k).v ρ1 fun y ρ2 => ownG ρ2 i fun o b => setOwn o y d fun o2 => E.nx (ρ2.set i (some (.own o2 b)))) := by
  show (W e).v (x :: l) (fun d ρ1 => ρ1.has i ∧ (W k).v ρ1 fun y ρ2 => match ρ2[i]? with | some (some (.own o b)) => setOwn o y d fun o' => E.nx (ρ2.set i (some (.own o' b))) | _ => False) = _
  congr 1; funext d ρ1; congr 2; funext y ρ2
  exact ownG_eq ρ2 i fun o b => setOwn o y d fun o2 => E.nx (ρ2.set i (some (.own o2 b)))
def appK (o d : PyData) (k : PyData → Prop) : Prop := match o with | .list xs => xs.length < 16777216 ∧ k (.list (xs ++ [d])) | _ => False
def extK (o d : PyData) (k : PyData → Prop) : Prop := match o, d with | .list xs, .list ys => xs.length + ys.length ≤ 16777216 ∧ k (.list (xs ++ ys)) | .list xs, .tuple ys => xs.length + ys.length ≤ 16777216 ∧ k (.list (xs ++ ys)) | _, _ => False
theorem appK_l {xs : List PyData} {k : PyData → Prop} : appK (.list xs) d k = (xs.length < 16777216 ∧ k (.list (xs ++ [d]))) := rfl
theorem extK_l {xs ys : List PyData} {k : PyData → Prop} : extK (.list xs) (.list ys) k = (xs.length + ys.length ≤ 16777216 ∧ k (.list (xs ++ ys))) := rfl
theorem extK_t {xs ys : List PyData} {k : PyData → Prop} : extK (.list xs) (.tuple ys) k = (xs.length + ys.length ≤ 16777216 ∧ k (.list (xs ++ ys))) := rfl
theorem S_append {e : C} : WS (.append i e) (x :: l) E = (Env.isL (x :: l) i ∧ (W e).v (x :: l) (fun d ρ1 => ownG ρ1 i fun o b => appK o d fun o2 => E.nx (ρ1.set i (some (.own o2 b))))) := by
  show (Env.isL (x :: l) i ∧ (W e).v (x :: l) (fun d ρ1 => match ρ1[i]? with | some (some (.own (.list xs) b)) => xs.length < 16777216 ∧ E.nx (ρ1.set i (some (.own (.list (xs ++ [d])) b))) | _ => False)) = _
  congr 2; funext d ρ1
  rw [← ownG_eq]
  split
  · next e => rw [e]; rfl
  · next h =>
    split
    · next o b e =>
      cases o with
      | list xs => exact absurd e (h xs b)
      | _ => rfl
    · rfl
theorem S_extend {e : C} : WS (.extend i e) (x :: l) E = (Env.isL (x :: l) i ∧ (W e).v (x :: l) (fun d ρ1 => ownG ρ1 i fun o b => extK o d fun o2 => E.nx (ρ1.set i (some (.own o2 b))))) := by
  refine congrArg (And _) (congrArg (fun k => (W e).v (x :: l) k) ?_)
  funext d ρ1
  rw [← ownG_eq]
  split
  · next e => rw [e]; cases d <;> rfl
  · next h =>
    split
    · next o b e =>
      cases o with
      | list xs => exact absurd e (h xs b)
      | _ => cases d <;> rfl
    · rfl
theorem S_expr {e : C} : WS (.expr e) (x :: l) E = (W e).v (x :: l) (fun _ ρ1 => E.nx ρ1) := rfl
theorem S_ret {e : C} : WS (.ret e) (x :: l) E = (W e).v (x :: l) (fun d ρ1 => E.rt d ρ1) := rfl
theorem S_retN : WS .retN (x :: l) E = E.rt .none (x :: l) := rfl
theorem S_ite {t : C} {a b : Ss} : WS (.ite t a b) (x :: l) E = (W t).t (x :: l) (fun c ρ1 => br c (WSs a ρ1 E) (WSs b ρ1 E) ⟨0⟩) := rfl
theorem S_whl {t : C} {b : Ss} : WS (.whl t b) (x :: l) E = whileS t b (x :: l) E ⟨0⟩ := rfl
theorem S_forr {t : Tg} {it : Ci} {b : Ss} : WS (.forr t it b) (x :: l) E = Wi it (x :: l) (fun ds ρ1 => forS t b ds ρ1 E ⟨0⟩) := rfl
theorem S_never : WS .never ρ E = False := rfl
theorem S_pass : WS .pass ρ E = E.nx ρ := rfl
theorem S_brk : WS .brk ρ E = E.bk ρ := rfl
theorem S_cont : WS .cont ρ E = E.ct ρ := rfl
theorem S_tryy {b : Ss} : WS (.tryy b) ρ E = WSs b ρ E := rfl
theorem W_var {Q : PyData → Env → Prop} : (W (.var i)).v ρ Q = takeG ρ i (fun d => Q d ρ) (fun d => Q d (ρ.set i (some (.val d)))) := takeG_eq ρ i (fun d => Q d ρ) (fun d => Q d (ρ.set i (some (.val d))))
theorem W_varT {Q : Bool → Env → Prop} : (W (.var i)).t ρ Q = rdG ρ i (fun d => truthW d fun b => Q b ρ) := rdG_eq ρ i _
theorem W_con {Q : PyData → Env → Prop} : (W (.con d)).v ρ Q = Q d ρ := rfl
theorem W_conT {Q : Bool → Env → Prop} : (W (.con d)).t ρ Q = truthW d (fun b => Q b ρ) := rfl
def negW (d : PyData) (k : PyData → Prop) : Prop := match d with | .int i => k (.int (-i)) | _ => False
theorem negW_i {j : Int} {k : PyData → Prop} : negW (.int j) k = k (.int (-j)) := rfl
theorem W_neg {a : C} {Q : PyData → Env → Prop} : (W (.neg a)).v ρ Q = opdC a ρ (fun x ρ1 => x.on ρ1 fun d => negW d fun r => Q r ρ1) := rfl
theorem W_not {a : C} {Q : PyData → Env → Prop} : (W (.not a)).v ρ Q = opdC a ρ (fun x ρ1 => x.on ρ1 fun d => truthW d fun b => Q (.bool (!b)) ρ1) := rfl
theorem W_notT {a : C} {Q : Bool → Env → Prop} : (W (.not a)).t ρ Q = (W a).t ρ (fun b ρ1 => Q (!b) ρ1) := rfl
def andK (d : PyData) (A B : Prop) (_ : Held (A, B)) : Prop := match d with | .bool t => (if t = true then A else B) | _ => False
theorem andK_b {t : Bool} {A B : Prop} {h : Held (A, B)} : andK (.bool t) A B h = br t A B ⟨0⟩ := rfl
theorem W_and {a c : C} {Q : PyData → Env → Prop} : (W (.and a c)).v ρ Q = (W a).v ρ (fun d ρ1 => andK d ((W c).v ρ1 Q) (Q (.bool false) ρ1) ⟨0⟩) := rfl
theorem W_andT {a c : C} {Q : Bool → Env → Prop} : (W (.and a c)).t ρ Q = (W a).t ρ (fun t ρ1 => br t ((W c).t ρ1 Q) (Q false ρ1) ⟨0⟩) := rfl
theorem W_or {a c : C} {Q : PyData → Env → Prop} : (W (.or a c)).v ρ Q = (W a).v ρ (fun d ρ1 => andK d (Q (.bool true) ρ1) ((W c).v ρ1 Q) ⟨0⟩) := rfl
theorem W_orT {a c : C} {Q : Bool → Env → Prop} : (W (.or a c)).t ρ Q = (W a).t ρ (fun t ρ1 => br t (Q true ρ1) ((W c).t ρ1 Q) ⟨0⟩) := rfl
theorem W_bin {op : Operator} {a c : C} {Q : PyData → Env → Prop} : (W (.bin op a c)).v ρ Q = opdC a ρ (fun x ρ1 => opdC c ρ1 fun y ρ2 => x.on ρ2 fun d => y.on ρ2 fun e => binW op d e fun r => Q r ρ2) := rfl
theorem W_cmp {op : CmpOp} {a c : C} {Q : PyData → Env → Prop} : (W (.cmp op a c)).v ρ Q = opdC a ρ (fun x ρ1 => opdC c ρ1 fun y ρ2 => x.on ρ2 fun d => y.on ρ2 fun e => cmpW op d e fun r => Q (.bool r) ρ2) := rfl
theorem W_cmpT {op : CmpOp} {a c : C} {Q : Bool → Env → Prop} : (W (.cmp op a c)).t ρ Q = opdC a ρ (fun x ρ1 => opdC c ρ1 fun y ρ2 => x.on ρ2 fun d => y.on ρ2 fun e => cmpW op d e fun r => Q r ρ2) := rfl
theorem W_ite {t a c : C} {Q : PyData → Env → Prop} : (W (.ite t a c)).v ρ Q = (W t).t ρ (fun u ρ1 => br u ((W a).v ρ1 Q) ((W c).v ρ1 Q) ⟨0⟩) := rfl
theorem W_tup {es : Cs} {Q : PyData → Env → Prop} : (W (.tup es)).v ρ Q = Ws es ρ (fun ds ρ1 => Q (.tuple ds) ρ1) := rfl
theorem W_lst {es : Cs} {Q : PyData → Env → Prop} : (W (.lst es)).v ρ Q = Ws es ρ (fun ds ρ1 => Q (.list ds) ρ1) := rfl
def dctS (ds : List PyData) (k : PyData → Prop) (_ : Held k) : Prop := ∃ kds : List (Key × PyData), ds = kds.flatMap (fun p => [keyD p.1, p.2]) ∧ kds.length ≤ 15 ∧ k (.dict (encK (mergeG [] kds)))
theorem W_dct {es : Cs} {Q : PyData → Env → Prop} : (W (.dct es)).v ρ Q = Ws es ρ (fun ds ρ1 => dctS ds (fun r => Q r ρ1) ⟨0⟩) := rfl
theorem W_idx {a c : C} {Q : PyData → Env → Prop} : (W (.idx a c)).v ρ Q = opdC a ρ (fun x ρ1 => opdC c ρ1 fun y ρ2 => x.on ρ2 fun d => y.on ρ2 fun e => idxW d e fun r => Q r ρ2) := rfl
theorem W_sli {a : C} {lo hi : Co} {Q : PyData → Env → Prop} : (W (.sli a lo hi)).v ρ Q = opdC a ρ (fun x ρ1 => Wpart lo ρ1 fun u ρ2 => Wpart hi ρ2 fun h ρ3 => x.on ρ3 fun d => sliW d u h fun r => Q r ρ3) := rfl
theorem W_comp {vs : List Nat} {t : Tg} {it : Ci} {c : Co} {body : C} {Q : PyData → Env → Prop} : (W (.comp vs t it c body)).v ρ Q = Wi it ρ (fun ds ρ1 => compS vs t c body ds ρ1 Q ⟨0⟩) := rfl
theorem W_comp2 {vs : List Nat} {t : Tg} {it : Ci} {c : Co} {t1 : Tg} {it1 : Ci} {c1 : Co} {body : C} {Q : PyData → Env → Prop} : (W (.comp2 vs t it c t1 it1 c1 body)).v ρ Q = Wi it ρ (fun ds ρ1 => comp2S vs t c it1 t1 c1 body ds ρ1 Q ⟨0⟩) := rfl
theorem W_call {f : Fn} {as : Cs} {Q : PyData → Env → Prop} : (W (.call f as)).v ρ Q = Wa as f.modes ρ (fun args ρ1 => argsOn args ρ1 fun ds => runS f args ds ρ1 Q ⟨0⟩) := rfl
theorem W_bi {k : Bi} {as : Cs} {Q : PyData → Env → Prop} : (W (.bi k as)).v ρ Q = Wo as ρ (fun xs ρ1 => onAll xs ρ1 fun ds => biW k ds fun r => Q r ρ1) := rfl
theorem W_isT {ty : String} {a : C} {Q : PyData → Env → Prop} : (W (.isT ty a)).v ρ Q = opdC a ρ (fun x ρ1 => x.on ρ1 fun d => Q (.bool (isTB ty d)) ρ1) := rfl
theorem W_cat {a c : C} {Q : PyData → Env → Prop} : (W (.cat a c)).v ρ Q = opdC a ρ (fun x ρ1 => opdC c ρ1 fun y ρ2 => x.on ρ2 fun d => y.on ρ2 fun e => catW d e fun r => Q r ρ2) := rfl
theorem W_rep {a c : C} {Q : PyData → Env → Prop} : (W (.rep a c)).v ρ Q = opdC a ρ (fun x ρ1 => opdC c ρ1 fun y ρ2 => x.on ρ2 fun d => y.on ρ2 fun e => repW d e fun r => Q r ρ2) := rfl
theorem W_callT {f : Fn} {as : Cs} {Q : Bool → Env → Prop} : (W (.call f as)).t ρ Q = (W (.call f as)).v ρ (fun d ρ1 => truthW d fun b => Q b ρ1) := rfl
theorem W_biT {k : Bi} {as : Cs} {Q : Bool → Env → Prop} : (W (.bi k as)).t ρ Q = (W (.bi k as)).v ρ (fun d ρ1 => truthW d fun b => Q b ρ1) := rfl
theorem W_isTT {ty : String} {a : C} {Q : Bool → Env → Prop} : (W (.isT ty a)).t ρ Q = (W (.isT ty a)).v ρ (fun d ρ1 => truthW d fun b => Q b ρ1) := rfl
theorem W_idxT {a c : C} {Q : Bool → Env → Prop} : (W (.idx a c)).t ρ Q = (W (.idx a c)).v ρ (fun d ρ1 => truthW d fun b => Q b ρ1) := rfl
theorem W_binT {op : Operator} {a c : C} {Q : Bool → Env → Prop} : (W (.bin op a c)).t ρ Q = (W (.bin op a c)).v ρ (fun d ρ1 => truthW d fun b => Q b ρ1) := rfl
theorem W_compT {vs : List Nat} {t : Tg} {it : Ci} {c : Co} {body : C} {Q : Bool → Env → Prop} : (W (.comp vs t it c body)).t ρ Q = (W (.comp vs t it c body)).v ρ (fun d ρ1 => truthW d fun b => Q b ρ1) := rfl
theorem O_var {Q : Opd → Env → Prop} : opdC (.var i) ρ Q = hasG ρ i (Q (.slot i) ρ) := hasG_eq ρ i _
theorem O_con  {Q : Opd → Env → Prop} : opdC (.con d) ρ Q = (W (.con d)).v ρ (fun d ρ1 => Q (.dat d) ρ1) := rfl
theorem O_neg {a : C} {Q : Opd → Env → Prop} : opdC (.neg a) ρ Q = (W (.neg a)).v ρ (fun d ρ1 => Q (.dat d) ρ1) := rfl
theorem O_not {a : C} {Q : Opd → Env → Prop} : opdC (.not a) ρ Q = (W (.not a)).v ρ (fun d ρ1 => Q (.dat d) ρ1) := rfl
theorem O_and {a c : C} {Q : Opd → Env → Prop} : opdC (.and a c) ρ Q = (W (.and a c)).v ρ (fun d ρ1 => Q (.dat d) ρ1) := rfl
theorem O_or {a c : C} {Q : Opd → Env → Prop} : opdC (.or a c) ρ Q = (W (.or a c)).v ρ (fun d ρ1 => Q (.dat d) ρ1) := rfl
theorem O_bin {op : Operator} {a c : C} {Q : Opd → Env → Prop} : opdC (.bin op a c) ρ Q = (W (.bin op a c)).v ρ (fun d ρ1 => Q (.dat d) ρ1) := rfl
theorem O_cmp {op : CmpOp} {a c : C} {Q : Opd → Env → Prop} : opdC (.cmp op a c) ρ Q = (W (.cmp op a c)).v ρ (fun d ρ1 => Q (.dat d) ρ1) := rfl
theorem O_ite {t a c : C} {Q : Opd → Env → Prop} : opdC (.ite t a c) ρ Q = (W (.ite t a c)).v ρ (fun d ρ1 => Q (.dat d) ρ1) := rfl
theorem O_tup {es : Cs} {Q : Opd → Env → Prop} : opdC (.tup es) ρ Q = (W (.tup es)).v ρ (fun d ρ1 => Q (.dat d) ρ1) := rfl
theorem O_lst {es : Cs} {Q : Opd → Env → Prop} : opdC (.lst es) ρ Q = (W (.lst es)).v ρ (fun d ρ1 => Q (.dat d) ρ1) := rfl
theorem O_dct {es : Cs} {Q : Opd → Env → Prop} : opdC (.dct es) ρ Q = (W (.dct es)).v ρ (fun d ρ1 => Q (.dat d) ρ1) := rfl
theorem O_idx {a c : C} {Q : Opd → Env → Prop} : opdC (.idx a c) ρ Q = (W (.idx a c)).v ρ (fun d ρ1 => Q (.dat d) ρ1) := rfl
theorem O_sli {a : C} {lo hi : Co} {Q : Opd → Env → Prop} : opdC (.sli a lo hi) ρ Q = (W (.sli a lo hi)).v ρ (fun d ρ1 => Q (.dat d) ρ1) := rfl
theorem O_comp {vs : List Nat} {t : Tg} {it : Ci} {c : Co} {body : C} {Q : Opd → Env → Prop} : opdC (.comp vs t it c body) ρ Q = (W (.comp vs t it c body)).v ρ (fun d ρ1 => Q (.dat d) ρ1) := rfl
theorem O_comp2 {vs : List Nat} {t : Tg} {it : Ci} {c : Co} {t1 : Tg} {it1 : Ci} {c1 : Co} {body : C} {Q : Opd → Env → Prop} : opdC (.comp2 vs t it c t1 it1 c1 body) ρ Q = (W (.comp2 vs t it c t1 it1 c1 body)).v ρ (fun d ρ1 => Q (.dat d) ρ1) := rfl
theorem O_call {f : Fn} {as : Cs} {Q : Opd → Env → Prop} : opdC (.call f as) ρ Q = (W (.call f as)).v ρ (fun d ρ1 => Q (.dat d) ρ1) := rfl
theorem O_bi {k : Bi} {as : Cs} {Q : Opd → Env → Prop} : opdC (.bi k as) ρ Q = (W (.bi k as)).v ρ (fun d ρ1 => Q (.dat d) ρ1) := rfl
theorem O_isT {ty : String} {a : C} {Q : Opd → Env → Prop} : opdC (.isT ty a) ρ Q = (W (.isT ty a)).v ρ (fun d ρ1 => Q (.dat d) ρ1) := rfl
theorem O_cat {a c : C} {Q : Opd → Env → Prop} : opdC (.cat a c) ρ Q = (W (.cat a c)).v ρ (fun d ρ1 => Q (.dat d) ρ1) := rfl
theorem O_rep {a c : C} {Q : Opd → Env → Prop} : opdC (.rep a c) ρ Q = (W (.rep a c)).v ρ (fun d ρ1 => Q (.dat d) ρ1) := rfl
theorem on_d {k : PyData → Prop} : Opd.on (.dat d) ρ k = k d := rfl
theorem on_s {k : PyData → Prop} : Opd.on (.slot i) ρ k = rdG ρ i k := rdG_eq ρ i k
theorem Ws_nil {Q : List PyData → Env → Prop} : Ws .nil ρ Q = Q [] ρ := rfl
theorem Ws_cons {e : C} {es : Cs} {Q : List PyData → Env → Prop} : Ws (.cons e es) ρ Q = (W e).v ρ (fun d ρ1 => Ws es ρ1 fun ds ρ2 => Q (d :: ds) ρ2) := rfl
theorem Wo_nil {Q : List Opd → Env → Prop} : Wo .nil ρ Q = Q [] ρ := rfl
theorem Wo_cons {e : C} {es : Cs} {Q : List Opd → Env → Prop} : Wo (.cons e es) ρ Q = opdC e ρ (fun y ρ1 => Wo es ρ1 fun ys ρ2 => Q (y :: ys) ρ2) := rfl
theorem oa_nil {k : List PyData → Prop} : onAll [] ρ k = k [] := rfl
theorem oa_cons {y : Opd} {ys : List Opd} {k : List PyData → Prop} : onAll (y :: ys) ρ k = y.on ρ (fun d => onAll ys ρ fun ds => k (d :: ds)) := rfl
theorem Wa_nil {ms : List Bool} {Q : List Arg → Env → Prop} : Wa .nil ms ρ Q = Q [] ρ := rfl
theorem Wa_f {e : C} {es : Cs} {ms : List Bool} {Q : List Arg → Env → Prop} : Wa (.cons e es) (false :: ms) ρ Q = (W e).v ρ (fun d ρ1 => Wa es ms ρ1 fun ys ρ2 => Q (.v d :: ys) ρ2) := rfl
theorem Wa_t {es : Cs} {ms : List Bool} {Q : List Arg → Env → Prop} : Wa (.cons (.var i) es) (true :: ms) ρ Q = ownG ρ i (fun _ _ => Wa es ms ρ fun ys ρ2 => Q (.lend i :: ys) ρ2) := ownG_eq ρ i fun _ _ => Wa es ms ρ fun ys ρ2 => Q (.lend i :: ys) ρ2
theorem ao_nil {k : List PyData → Prop} : argsOn [] ρ k = k [] := rfl
theorem ao_v {r : List Arg} {k : List PyData → Prop} : argsOn (.v d :: r) ρ k = argsOn r ρ (fun ds => k (d :: ds)) := rfl
theorem ao_l {r : List Arg} {k : List PyData → Prop} : argsOn (.lend i :: r) ρ k = ownG ρ i (fun o _ => argsOn r ρ (fun ds => k (o :: ds))) := ownG_eq ρ i fun o _ => argsOn r ρ (fun ds => k (o :: ds))
theorem Wp_no {Q : Option Int → Env → Prop} : Wpart .no ρ Q = Q none ρ := rfl
def intK (d : PyData) (k : Int → Prop) : Prop := match d with | .int i => k i | _ => False
theorem intK_i {j : Int} {k : Int → Prop} : intK (.int j) k = k j := rfl
theorem Wp_one {e : C} {Q : Option Int → Env → Prop} : Wpart (.one e) ρ Q = (W e).v ρ (fun d ρ1 => intK d fun i => Q (some i) ρ1) := rfl
theorem Wc_no {Q : Bool → Env → Prop} : Wcond .no ρ Q = Q true ρ := rfl
theorem Wc_one {e : C} {Q : Bool → Env → Prop} : Wcond (.one e) ρ Q = (W e).t ρ Q := rfl
theorem Wi_seq {a : C} {Q : List PyData → Env → Prop} : Wi (.seq a) ρ Q = (W a).v ρ (fun d ρ1 => itemsW d fun ds => Q ds ρ1) := rfl
theorem Wi_r1 {a : C} {Q : List PyData → Env → Prop} : Wi (.range1 a) ρ Q = (W a).v ρ (fun d ρ1 => intK d fun n => (-(2 ^ 62) ≤ n ∧ n ≤ 16777216) ∧ Q (rangeD 0 n.toNat) ρ1) := rfl
theorem Wi_r2 {a c : C} {Q : List PyData → Env → Prop} : Wi (.range2 a c) ρ Q = (W a).v ρ (fun d ρ1 => (W c).v ρ1 fun e ρ2 => intK d fun i => intK e fun j => (IsR i ∧ IsR j ∧ j - i ≤ 16777216) ∧ Q (rangeD i (j - i).toNat) ρ2) := by
  show (W a).v ρ (fun d ρ1 => (W c).v ρ1 fun e ρ2 => match d, e with | .int i, .int j => (IsR i ∧ IsR j ∧ j - i ≤ 16777216) ∧ Q (rangeD i (j - i).toNat) ρ2 | _, _ => False) = _
  congr 1; funext d ρ1; congr 1; funext e ρ2; cases d <;> cases e <;> rfl
theorem Wi_r3 {a c g : C} {Q : List PyData → Env → Prop} : Wi (.range3 a c g) ρ Q = (W a).v ρ (fun d ρ1 => (W c).v ρ1 fun e ρ2 => (W g).v ρ2 fun f ρ3 => intK d fun i => intK e fun j => intK f fun c => (c = -1 ∧ IsR i ∧ IsR j ∧ i - j ≤ 16777216) ∧ Q ((List.range (i - j).toNat).map fun (n : Nat) => PyData.int (i - (n : Int))) ρ3) := by
  show (W a).v ρ (fun d ρ1 => (W c).v ρ1 fun e ρ2 => (W g).v ρ2 fun f ρ3 => match d, e, f with | .int i, .int j, .int c => (c = -1 ∧ IsR i ∧ IsR j ∧ i - j ≤ 16777216) ∧ Q ((List.range (i - j).toNat).map fun (n : Nat) => PyData.int (i - (n : Int))) ρ3 | _, _, _ => False) = _
  congr 1; funext d ρ1; congr 1; funext e ρ2; congr 1; funext f ρ3; cases d <;> cases e <;> cases f <;> rfl
def seqK (d : PyData) (k : List PyData → Prop) : Prop := match d with | .list xs => k xs | .tuple xs => k xs | _ => False
def zipK (d e : PyData) (k : List PyData → Prop) : Prop := match d, e with | .list xs, .list ys => k (zipD xs ys) | .tuple xs, .tuple ys => k (zipD xs ys) | _, _ => False
theorem seqK_l {xs : List PyData} {k : List PyData → Prop} : seqK (.list xs) k = k xs := rfl
theorem seqK_t {xs : List PyData} {k : List PyData → Prop} : seqK (.tuple xs) k = k xs := rfl
theorem zipK_l {xs ys : List PyData} {k : List PyData → Prop} : zipK (.list xs) (.list ys) k = k (zipD xs ys) := rfl
theorem zipK_t {xs ys : List PyData} {k : List PyData → Prop} : zipK (.tuple xs) (.tuple ys) k = k (zipD xs ys) := rfl
theorem Wi_enum {a : C} {Q : List PyData → Env → Prop} : Wi (.enum a) ρ Q = (W a).v ρ (fun d ρ1 => seqK d fun xs => Q (enumD xs) ρ1) := rfl
theorem Wi_zip {a c : C} {Q : List PyData → Env → Prop} : Wi (.zip a c) ρ Q = (W a).v ρ (fun d ρ1 => (W c).v ρ1 fun e ρ2 => zipK d e fun zs => Q zs ρ2) := rfl
theorem it_l {xs : List PyData} {k : List PyData → Prop} : itemsW (.list xs) k = k xs := rfl
theorem it_t {xs : List PyData} {k : List PyData → Prop} : itemsW (.tuple xs) k = k xs := rfl
theorem it_d {es : List (PyData × PyData)} {k : List PyData → Prop} : itemsW (.dict es) k = k (es.map (·.1)) := rfl
theorem tr_b {k : Bool → Prop} : truthW (.bool b) k = k b := rfl
theorem tr_i {j : Int} {k : Bool → Prop} : truthW (.int j) k = k (j != 0) := rfl
theorem tr_n {k : Bool → Prop} : truthW .none k = k false := rfl
theorem tr_l {xs : List PyData} {k : Bool → Prop} : truthW (.list xs) k = k (!xs.isEmpty) := rfl
theorem tr_t {xs : List PyData} {k : Bool → Prop} : truthW (.tuple xs) k = k (!xs.isEmpty) := rfl
theorem b_add {i j : Int} {k : PyData → Prop} : binW .Add (.int i) (.int j) k = k (.int (i + j)) := rfl
theorem b_sub {i j : Int} {k : PyData → Prop} : binW .Sub (.int i) (.int j) k = k (.int (i - j)) := rfl
theorem b_mul {i j : Int} {k : PyData → Prop} : binW .Mult (.int i) (.int j) k = (CMul i j ∧ k (.int (i * j))) := rfl
theorem b_fdiv {i j : Int} {k : PyData → Prop} : binW .FloorDiv (.int i) (.int j) k = (CDivN i j ∧ k (.int (i.fdiv j))) := rfl
theorem b_mod {i j : Int} {k : PyData → Prop} : binW .Mod (.int i) (.int j) k = (j ≠ 0 ∧ k (.int (i.fmod j))) := rfl
theorem b_pow {i j : Int} {k : PyData → Prop} : binW .Pow (.int i) (.int j) k = (CPow i j ∧ k (.int (i ^ j.toNat))) := rfl
theorem b_addT {xs ys : List PyData} {k : PyData → Prop} : binW .Add (.tuple xs) (.tuple ys) k = (xs ≠ [] ∧ xs.length + ys.length ≤ 16777216 ∧ k (.tuple (xs ++ ys))) := rfl
theorem c_lt {i j : Int} {k : Bool → Prop} : cmpW .Lt (.int i) (.int j) k = k (decide (i < j)) := rfl
theorem c_le {i j : Int} {k : Bool → Prop} : cmpW .LtE (.int i) (.int j) k = k (decide (i ≤ j)) := rfl
theorem c_gt {i j : Int} {k : Bool → Prop} : cmpW .Gt (.int i) (.int j) k = k (decide (j < i)) := rfl
theorem c_ge {i j : Int} {k : Bool → Prop} : cmpW .GtE (.int i) (.int j) k = k (decide (j ≤ i)) := rfl
theorem c_eq {i j : Int} {k : Bool → Prop} : cmpW .Eq (.int i) (.int j) k = k (decide (i = j)) := rfl
theorem c_ne {i j : Int} {k : Bool → Prop} : cmpW .NotEq (.int i) (.int j) k = k (!decide (i = j)) := rfl
theorem c_eqs {i j : Str} {k : Bool → Prop} : cmpW .Eq (.str i) (.str j) k = k (decide (i = j)) := rfl
theorem c_nes {i j : Str} {k : Bool → Prop} : cmpW .NotEq (.str i) (.str j) k = k (!decide (i = j)) := rfl
theorem c_eq_list {xs : List PyData} {k : Bool → Prop} : cmpW .Eq (.list xs) d k = (SeqAt.shaped (.list xs) = true ∧ SeqAt.shaped d = true ∧ k (PyData.eqv (.list xs) d)) := rfl
theorem c_eq_tuple {xs : List PyData} {k : Bool → Prop} : cmpW .Eq (.tuple xs) d k = (SeqAt.shaped (.tuple xs) = true ∧ SeqAt.shaped d = true ∧ k (PyData.eqv (.tuple xs) d)) := rfl
theorem c_ne_list {xs : List PyData} {k : Bool → Prop} : cmpW .NotEq (.list xs) d k = (SeqAt.shaped (.list xs) = true ∧ SeqAt.shaped d = true ∧ k (!PyData.eqv (.list xs) d)) := rfl
theorem c_ne_tuple {xs : List PyData} {k : Bool → Prop} : cmpW .NotEq (.tuple xs) d k = (SeqAt.shaped (.tuple xs) = true ∧ SeqAt.shaped d = true ∧ k (!PyData.eqv (.tuple xs) d)) := rfl
def nonB (d : PyData) : Bool := match d with | .none => true | _ => false
theorem nonB_n : nonB .none = true := rfl
theorem nonB_i {j : Int} : nonB (.int j) = false := rfl
theorem nonB_b : nonB (.bool b) = false := rfl
theorem nonB_t {xs : List PyData} : nonB (.tuple xs) = false := rfl
theorem nonB_l {xs : List PyData} : nonB (.list xs) = false := rfl
theorem c_is {k : Bool → Prop} : cmpW .Is d .none k = k (nonB d) := by cases d <;> rfl
theorem c_isnot {k : Bool → Prop} : cmpW .IsNot d .none k = k (!nonB d) := by cases d <;> rfl
theorem ix_l {xs : List PyData} {j : Int} {k : PyData → Prop} : idxW (.list xs) (.int j) k = atS xs j k ⟨0⟩ := rfl
theorem ix_t {xs : List PyData} {j : Int} {k : PyData → Prop} : idxW (.tuple xs) (.int j) k = atS xs j k ⟨0⟩ := rfl
theorem sl_l {xs : List PyData} {lo hi : Option Int} {k : PyData → Prop} : sliW (.list xs) lo hi k = k (.list (cutD xs lo hi)) := rfl
theorem sl_t {xs : List PyData} {lo hi : Option Int} {k : PyData → Prop} : sliW (.tuple xs) lo hi k = k (.tuple (cutD xs lo hi)) := rfl
theorem cat_l {xs ys : List PyData} {k : PyData → Prop} : catW (.list xs) (.list ys) k = (xs.length + ys.length ≤ 16777216 ∧ k (.list (xs ++ ys))) := rfl
theorem rep_l {xs : List PyData} {j : Int} {k : PyData → Prop} : repW (.list xs) (.int j) k = ((0 ≤ j ∧ j < 2 ^ 62 ∧ xs.length * j.toNat ≤ 16777216) ∧ k (.list (List.replicate j.toNat xs).flatten)) := rfl
theorem bl_l {xs : List PyData} {k : PyData → Prop} : biW .len [.list xs] k = k (.int xs.length) := rfl
theorem bl_t {xs : List PyData} {k : PyData → Prop} : biW .len [.tuple xs] k = k (.int xs.length) := rfl
theorem bl_d {es : List (PyData × PyData)} {k : PyData → Prop} : biW .len [.dict es] k = k (.int es.length) := rfl
theorem bt_l {xs : List PyData} {k : PyData → Prop} : biW .tuple [.list xs] k = k (.tuple xs) := rfl
theorem bt_t {xs : List PyData} {k : PyData → Prop} : biW .tuple [.tuple xs] k = k (.tuple xs) := rfl
theorem bs_l {xs : List PyData} {k : PyData → Prop} : biW .list [.list xs] k = k (.list xs) := rfl
theorem bs_t {xs : List PyData} {k : PyData → Prop} : biW .list [.tuple xs] k = k (.list xs) := rfl
theorem bi_i {j : Int} {k : PyData → Prop} : biW .int [.int j] k = k (.int j) := rfl
theorem bi_b {k : PyData → Prop} : biW .int [.bool b] k = k (.int (if b = true then 1 else 0)) := rfl
theorem bx2 {i j : Int} {k : PyData → Prop} : biW .max2 [.int i, .int j] k = k (.int (if j > i then j else i)) := rfl
theorem bn2 {i j : Int} {k : PyData → Prop} : biW .min2 [.int i, .int j] k = k (.int (if j < i then j else i)) := rfl
theorem babs {j : Int} {k : PyData → Prop} : biW .abs [.int j] k = k (.int (if j < 0 then -j else j)) := rfl
def sumS (xs : List PyData) (k : PyData → Prop) (_ : Held k) : Prop := ∃ ns : List Int, xs = intsD ns ∧ k (.int ns.sum)
def maxS (xs : List PyData) (k : PyData → Prop) (_ : Held k) : Prop := ∃ ns : List Int, xs = intsD ns ∧ 0 < ns.length ∧ ∀ m, m ∈ ns → (∀ y, y ∈ ns → y ≤ m) → k (.int m)
def minS (xs : List PyData) (k : PyData → Prop) (_ : Held k) : Prop := ∃ ns : List Int, xs = intsD ns ∧ 0 < ns.length ∧ ∀ m, m ∈ ns → (∀ y, y ∈ ns → m ≤ y) → k (.int m)
def allS (xs : List PyData) (k : PyData → Prop) (_ : Held k) : Prop := ∃ bs : List Bool, xs = bs.map PyData.bool ∧ k (.bool (bs.all id))
def anyS (xs : List PyData) (k : PyData → Prop) (_ : Held k) : Prop := ∃ bs : List Bool, xs = bs.map PyData.bool ∧ k (.bool (bs.any id))
def sorS (xs : List PyData) (k : PyData → Prop) (_ : Held k) : Prop := ∃ ns : List Int, xs = intsD ns ∧ ns.length < 63 ∧ ∀ ms : List Int, ms.Pairwise (· < ·) → (∀ n, n ∈ ms ↔ n ∈ ns) → k (.list (intsD ms))
def dicS (xs : List PyData) (k : PyData → Prop) (_ : Held k) : Prop := ∃ kds : List (Key × PyData), xs = kds.map (fun p => PyData.tuple [keyD p.1, p.2]) ∧ kds.length ≤ 100000 ∧ k (.dict (encK (mergeG [] kds)))
def repS (d : PyData) (k : PyData → Prop) (_ : Held k) : Prop := (d.showable = true ∧ SeqAt.shaped d = true ∧ d.shown.length ≤ 16777216) ∧ k (.str d.shown)
theorem bsum {xs : List PyData} {k : PyData → Prop} : biW .sum [.list xs] k = sumS xs k ⟨0⟩ := rfl
theorem bmax {xs : List PyData} {k : PyData → Prop} : biW .max [.list xs] k = maxS xs k ⟨0⟩ := rfl
theorem bmin {xs : List PyData} {k : PyData → Prop} : biW .min [.list xs] k = minS xs k ⟨0⟩ := rfl
theorem ball {xs : List PyData} {k : PyData → Prop} : biW .all [.list xs] k = allS xs k ⟨0⟩ := rfl
theorem bany {xs : List PyData} {k : PyData → Prop} : biW .any [.list xs] k = anyS xs k ⟨0⟩ := rfl
theorem bsor {xs : List PyData} {k : PyData → Prop} : biW .sortedSet [.tuple xs] k = sorS xs k ⟨0⟩ := rfl
theorem bdic {xs : List PyData} {k : PyData → Prop} : biW .dict [.list xs] k = dicS xs k ⟨0⟩ := rfl
theorem brep {k : PyData → Prop} : biW .repr [d] k = repS d k ⟨0⟩ := by cases d <;> rfl
theorem bd_one {k : Env → Prop} : Tg.bind (.one i) d ρ k = (ρ.free i ∧ k (ρ.set i (some (.val d)))) := rfl
theorem bd_many {is : List Nat} {ds : List PyData} {k : Env → Prop} : Tg.bind (.many is) (.tuple ds) ρ k = (ds.length = is.length ∧ (∀ i ∈ is, ρ.free i) ∧ is.Nodup ∧ k (putAll ρ is ds)) := rfl
theorem so_l {xs : List PyData} {j : Int} {v : PyData} {K : PyData → Prop} : setOwn (.list xs) (.int j) v K = ∃ m, ixN xs.length j = some m ∧ K (.list (xs.set m v)) := rfl
theorem br_t {A B : Prop} {h : Held (A, B)} : br true A B h = A := if_pos rfl
theorem br_f {A B : Prop} {h : Held (A, B)} : br false A B h = B := if_neg Bool.false_ne_true
theorem mk_t : mkSlot true d = .own d false := rfl
theorem mk_f : mkSlot false d = .val d := rfl
end
/-- a slot that holds a value, or nothing -/
def vS (o : Option PyData) : Option Slot := o.map Slot.val
theorem free0s {o : Option PyData} {l : Env} : Env.free (vS o :: l) 0 = True := by cases o <;> rfl
theorem vS_s {d : PyData} : some (Slot.val d) = vS (some d) := rfl
theorem vS_n : (none : Option Slot) = vS none := rfl
theorem atI_last {α : Type} {l : List α} {x : α} (h : l[l.length - 1]? = some x) : atI l (-1) = some x := by
  have hl : l.length - 1 < l.length := (List.getElem?_eq_some_iff.mp h).1
  have : ixN l.length (-1) = some (l.length - 1) := by
    unfold ixN
    rw [if_neg (by omega), if_pos (by omega)]
    congr 1
    omega
  unfold atI
  rw [this]
  exact h
theorem br_of {c : Bool} {A B : Prop} {h : Held (A, B)} (h1 : c = true → A) (h2 : c = false → B) : br c A B h := by
  cases c with
  | true => rw [br_t]; exact h1 rfl
  | false => rw [br_f]; exact h2 rfl
theorem atS_of {xs : List PyData} {i : Int} {k : PyData → Prop} {h : Held k} {d : PyData} (e : atI xs i = some d) (q : k d) : atS xs i k h := ⟨d, e, q⟩
theorem forS_ind {t : Tg} {b : Ss} {E : En} {h : Held E} {ds : List PyData} {ρ : Env} (I : Nat → Env → Prop) (h0 : I 0 ρ)
    (step : ∀ i d ρ (Φ : Env → Prop), ds[i]? = some d → I i ρ → (∀ ρ', I (i + 1) ρ' → Φ ρ') → t.bind d ρ fun ρ1 => WSs b ρ1 (lpE E Φ))
    (fin : ∀ ρ, I ds.length ρ → E.nx ρ) : forS t b ds ρ E h := forW_ind I h0 step fin
theorem whileS_ind {c : C} {b : Ss} {E : En} {h : Held E} {ρ : Env} (I : Nat → Env → Prop) (m : Nat) (h0 : I m ρ)
    (step : ∀ m ρ (Φ : Env → Prop), I m ρ → (∀ m' ρ', m' < m → I m' ρ' → Φ ρ') → (W c).t ρ fun u ρ1 => br u (WSs b ρ1 (lpE E Φ)) (E.nx ρ1) ⟨0⟩) : whileS c b ρ E h :=
  ⟨I, ⟨m, h0⟩, fun m ρ hi => step m ρ (fun ρ2 => ∃ m', m' < m ∧ I m' ρ2) hi fun m' ρ' h1 h2 => ⟨m', h1, h2⟩⟩
theorem compS_map {vs : List Nat} {t : Tg} {body : C} {α : Type} {xs : List α} {g : α → PyData} {ρ : Env} {Q : PyData → Env → Prop} {h : Held Q} (f : α → PyData)
    (hb : ∀ x, x ∈ xs → ∀ Φ : PyData → Env → Prop, Φ (f x) (wipeE ρ vs) → t.bind (g x) (wipeE ρ vs) fun ρ1 => (W body).v ρ1 fun r ρ3 => Φ r (wipeE ρ3 vs))
    (q : Q (.list (xs.map f)) (backE ρ (wipeE ρ vs) vs)) : compS vs t .no body (xs.map g) ρ Q h := compW_map f hb q
theorem compS_mapI {vs : List Nat} {t : Tg} {body : C} {xs : List PyData} {ρ : Env} {Q : PyData → Env → Prop} {h : Held Q} (f : PyData → PyData)
    (hb : ∀ x, x ∈ xs → ∀ Φ : PyData → Env → Prop, Φ (f x) (wipeE ρ vs) → t.bind x (wipeE ρ vs) fun ρ1 => (W body).v ρ1 fun r ρ3 => Φ r (wipeE ρ3 vs))
    (q : Q (.list (xs.map f)) (backE ρ (wipeE ρ vs) vs)) : compS vs t .no body xs ρ Q h := by
  have := compS_map (xs := xs) (g := fun d => d) (h := h) f hb q
  rwa [List.map_id'] at this
theorem allS_of {α : Type} {xs : List α} {p : α → Bool} {k : PyData → Prop} {h : Held k} (q : k (.bool (xs.all p))) : allS (xs.map fun x => .bool (p x)) k h := ⟨xs.map p, by simp, by simpa [List.all_map] using q⟩
theorem sumS_of {α : Type} {xs : List α} {p : α → Nat} {k : PyData → Prop} {h : Held k} (q : k (nD (xs.map p).sum)) : sumS (xs.map fun x => nD (p x)) k h := by
  refine ⟨xs.map fun x => ((p x : Nat) : Int), by simp [intsD], ?_⟩
  have : ∀ l : List α, (l.map fun x => ((p x : Nat) : Int)).sum = ((l.map p).sum : Nat) := fun l => by
    induction l with
    | nil => rfl
    | cons a l ih => simp [ih]
  rw [this]
  exact q
theorem rangeD_nat (n : Nat) : rangeD 0 n = (List.range n).map nD := by
  unfold rangeD
  simp
theorem compS_filter {vs : List Nat} {t : Tg} {c body : C} {α : Type} {xs : List α} {g : α → PyData} {ρ : Env} {Q : PyData → Env → Prop} {h : Held Q} (p : α → Bool) (f : α → PyData)
    (hb : ∀ x, x ∈ xs → ∀ (Φ1 : PyData → Env → Prop) (Φ0 : Env → Prop), (p x = true → Φ1 (f x) (wipeE ρ vs)) → (p x = false → Φ0 (wipeE ρ vs)) → t.bind (g x) (wipeE ρ vs) fun ρ1 => (W c).t ρ1 fun b ρ2 => br b ((W body).v ρ2 fun r ρ3 => Φ1 r (wipeE ρ3 vs)) (Φ0 (wipeE ρ2 vs)) ⟨0⟩)
    (q : Q (.list ((xs.filter p).map f)) (backE ρ (wipeE ρ vs) vs)) : compS vs t (.one c) body (xs.map g) ρ Q h := compW_filter p f hb q
theorem compS_ind {vs : List Nat} {t : Tg} {body : C} {ds : List PyData} {ρ : Env} {Q : PyData → Env → Prop} {h : Held Q} (I : Nat → List PyData → Env → Prop) (h0 : I 0 [] (wipeE ρ vs))
    (step : ∀ i d acc ρ (Φ : List PyData → Env → Prop), ds[i]? = some d → I i acc ρ → (∀ acc' ρ', I (i + 1) acc' ρ' → Φ acc' ρ') → t.bind d ρ fun ρ1 => (W body).v ρ1 fun r ρ3 => Φ (acc ++ [r]) (wipeE ρ3 vs))
    (fin : ∀ acc ρ2, I ds.length acc ρ2 → Q (.list acc) (backE ρ ρ2 vs)) : compS vs t .no body ds ρ Q h := compW_ind I h0 step fin
theorem runS_of {f : Fn} {args : List Arg} {ds : List PyData} {ρ : Env} {Q : PyData → Env → Prop} {h : Held Q} (h1 : (Arg.lends args).Nodup) (h2 : f.spec (ds ++ f.dflt) fun d os => os.length = (Arg.lends args).length ∧ Q d (argsBack args ρ os)) : runS f args ds ρ Q h := ⟨h1, h2⟩
end Vs

set_option maxHeartbeats 4000000
/-! VZ: a def behind the top, by its plain law. -/
namespace Vs
open PySem L2
open PyProof.Rows (envOfC)

/-- a def that may be called by its name with n arguments -/
structure CallOk (P : Program) (w : World) (K : PySem.W.Frag) (mg : Str → Option Value) (base : Heap) (k : Nat) (x : Str) (n : Nat) (fn : Fn) : Prop where
  ex : ∃ (f : Addr) (fd : FuncData) (ps : List Str) (dvs : List V) (ds : List Value), FnG P w K mg base CX0 k f fd ps (spF K fn) ∧ mg x = some (.ref f) ∧ PySem.W.keepIn K (.ref f) = true ∧ Binds K fd ps ds ∧ Vals dvs ds ∧ ∀ F, RpAll K F dvs fn.dflt
  many : fn.modes.length = n + fn.dflt.length
  tail : fn.modes.drop n = List.replicate fn.dflt.length false
section
variable {P : Program} {w : World} {K : PySem.W.Frag} {mg : Str → Option Value} {base : Heap} {k : Nat} {x : Str} {n : Nat} {fn : Fn}
theorem CallOk.mono (h : CallOk P w K mg base k x n fn) {j : Nat} (q : k ≤ j) : CallOk P w K mg base j x n fn := by
  obtain ⟨⟨f, fd, ps, dvs, ds, a, b⟩, c, d⟩ := h
  exact ⟨⟨f, fd, ps, dvs, ds, a.mono q, b⟩, c, d⟩
theorem def_fn {T : Tx} {f : Addr} {name qual : Str} {params : Arguments} {body : List Stmt} {scope : Scope} {dV kV doc pm cdv ct oc : Value} {an od : Option Addr} {osl : Array (Option Value)} {ps : List Str} {cb : Ss} {ne ns : Nat}
    (lk : K.lookup f = some ⟨oc, od, .func (PySem.W.fnOf name qual params body scope dV kV doc pm an cdv ct), osl⟩) (hcd : PySem.W.codeIn K cdv qual = true) (S : FnScope T.N ps scope)
    (hlen : fn.modes.length = ps.length) (hden : Den fn T.N.length cb) (tr : trS T ne fn.fresh ⟨scope, none⟩ ns body = some cb) (fns : ∀ y ∈ T.ft, CallOk P w K mg base k y.1 y.2.1 y.2.2) (blt : ∀ x ∈ bltNames, mg x = none) :
    FnG P w K mg base CX0 (k + 1) f (PySem.W.fnOf name qual params body scope dV kV doc pm an cdv ct) ps (spF K fn) := by
  refine fnG_mk lk hcd S hlen hden fun A outer s H E G hG hr hgd => ?_
  have g : Good T k (cxOf CX0 P w K mg base T.N qual scope f cdv A outer s H E).nox G ⟨scope, none⟩ :=
    ⟨hG.symm, rfl, S.nd, rfl, S.kind, rfl, hgd, hr, rfl, fun y hy => let h := fns y hy; ⟨h.ex, h.many, h.tail⟩, blt, fun _ => rfl⟩
  exact trS_ok g ns body cb tr
/-- .. without defaults -/
theorem def_call {T : Tx} {f : Addr} {st : Stmt} {fd : FuncData} {ps : List Str} {cb : Ss} {ne ns : Nat} (F : L2.Fun K x x st f fd) (hmg : mg x = some (.ref f)) (hb : Binds K fd ps []) (S : FnScope T.N ps (defScope st))
    (hlen : fn.modes.length = ps.length) (hd : fn.dflt = []) (hn : ps.length = n) (hden : Den fn T.N.length cb) (tr : trS T ne fn.fresh ⟨defScope st, none⟩ ns (defBody st) = some cb) (fns : ∀ y ∈ T.ft, CallOk P w K mg base k y.1 y.2.1 y.2.2) (blt : ∀ x ∈ bltNames, mg x = none) :
    CallOk P w K mg base (k + 1) x n fn := by
  obtain ⟨oc, od, kV, doc, pm, an, cdv, ct, osl, rfl, lk, hcd⟩ := F.ex
  refine ⟨⟨f, _, ps, [], [], def_fn lk hcd S hlen hden tr fns blt, hmg, F.kp, hb, .nil, fun F => by rw [hd]; exact .nil⟩, by rw [hd, hlen, hn]; rfl, ?_⟩
  rw [hd, List.drop_eq_nil_of_le (by omega)]
  rfl
end
end Vs

set_option maxHeartbeats 4000000
/-! VY: the law's entry, where no repr is under way. -/
namespace Vs
open PySem PySem.Spec PyProof.Rows L2

/-- what may be tracked at the entry: the script, frozen, unless it is one of the module's own objects -/
theorem entry_heap {P : Program} {w : World} {K : PySem.W.Frag} {s : Shared} {a : Addr} {vs : List Value} {ns : List Int} (KX : K.In s.heap) (ha : s.heap.get? a = some { cls := .type "list", data := .seq vs.toArray }) (hi : IntsAre vs ns) (hl : ns.length ≤ sizeLine) :
    ∃ H : Hp, SqL K H a (ns.map V.int) ∧ HOk P w H s.heap ∧ (∀ b, H b ≠ none → b = a ∧ K.lookup a = none ∧ H b = some (.frz { cls := .type "list", data := .seq vs.toArray } (.lst (ns.map V.int)))) := by
  have rv := vals_ints hi
  by_cases hk : K.lookup a = none
  · refine ⟨fun b => if b = a then some (.frz { cls := .type "list", data := .seq vs.toArray } (.lst (ns.map V.int))) else none, .inl (.inr ⟨_, if_pos rfl⟩), fun b u z => ?_, fun b z => ?_⟩
    · by_cases hb : b = a
      · subst hb
        have z := (if_pos rfl).symm.trans z
        cases z
        exact ⟨ha, by rw [List.length_map]; exact hl, vs, _, rv, ha⟩
      · have z := (if_neg hb).symm.trans z
        cases z
    · by_cases hb : b = a
      · exact ⟨hb, hk, if_pos hb⟩
      · exact absurd (if_neg hb) z
  · cases e : K.lookup a with
    | none => exact absurd e hk
    | some o =>
      have q := KX a o e
      rw [ha] at q
      cases q
      exact ⟨fun _ => none, .inr ⟨_, vs.toArray, _, e, rfl, rfl, rfl, by rw [List.size_toArray, hi.length]; exact hl, by simpa using rv⟩, (fun b u z => by cases z), fun b z => absurd rfl z⟩
theorem law_callG {P : Program} {w : World} {K : PySem.W.Frag} {mg mb : Str → Option Value} {k : Nat} {fa a : Addr} {fd : FuncData} {x : Str} {sp : Sp} {s₁ : Shared} {vs : List Value} {ns : List Int}
    (KX : K.In s₁.heap) (hns : s₁.heap.Ns mainGlobals mg) (hb : s₁.heap.Ns builtinsNs mb) (hbb : ∀ x : Str, x ≠ "__name__" → mb x = bootBuiltins x) (hlim : s₁.heap.NoLimit) (hg : s₁.gens = #[])
    (ha : s₁.heap.get? a = some { cls := .type "list", data := .seq vs.toArray }) (hi : IntsAre vs ns) (hl : ns.length ≤ sizeLine) (hr : Room k callerA)
    (F : ∀ base : Heap, K.In base → base.Ns mainGlobals mg → FnG P w K mg base CX0 k fa fd [x] sp) (hbind : ∀ (s : Shared) (u : Value), BindsTo s fd ⟨[u], []⟩ [(x, u)])
    (hsp : ∀ H : Hp, SqL K H a (ns.map V.int) → sp [.ref a] H (fun v _ => v = .bl true) fun _ _ _ => False) :
    codeAny (model P w) callerA (.call (.ref fa) ⟨[.ref a], []⟩) (fun r s' => r = .ok (.ret (.bool true)) ∧ OldK s₁.heap s'.heap ∧ s'.os = s₁.os ∧ AllBare s'.gens) s₁ := by
  obtain ⟨H, hS, hok, hA⟩ := entry_heap (P := P) (w := w) KX ha hi hl
  have free : ∀ {b : Addr} {o : Obj}, s₁.heap.get? b = some o → (∀ its n, o.data ≠ .seq its n) → H b = none := fun {b o} e hd => by
    cases q : H b with
    | none => rfl
    | some u =>
      obtain ⟨rfl, _⟩ := hA b (by rw [q]; simp)
      rw [ha] at e
      cases e
      exact absurd rfl (hd _ _)
  have ns2 : ∀ {b : Addr} {m : Str → Option Value}, s₁.heap.Ns b m → (hidT s₁.heap H).Ns b m := fun {b m} ⟨o, es, ep, e, d, r⟩ =>
    ⟨o, es, ep, hidT_get e (free e fun its n z => by rw [d] at z; cases z), d, r⟩
  have KB : K.In (hidT s₁.heap H) := fun b o e => hidT_get (KX b o e) (by
    cases q : H b with
    | none => rfl
    | some u =>
      obtain ⟨rfl, hk, _⟩ := hA b (by rw [q]; simp)
      rw [hk] at e
      cases e)
  have M : Mod K mg (hidT s₁.heap H) := ⟨KB, ns2 hns, ⟨mb, ns2 hb, hbb⟩, let ⟨mc, h1, h2⟩ := hlim; ⟨mc, ns2 h1, h2⟩⟩
  have e0 : Env0 P w K mg (hidT s₁.heap H) callerA [] s₁ H := ⟨rfl, M, fun b o e => of_hidT e, Nat.le_of_eq (hidT_size _ _), trivial, fun b z => absurd (show b ∈ ([] : List Addr) from z) (by simp), hok, .of_eq hg⟩
  refine codeAny_mono ((F _ KB (ns2 hns)).run callerA [] s₁ H ⟨[.ref a], []⟩ [.ref a] [.ref a] _ _ hr rfl e0 (hbind s₁ (.ref a)) (.cons rfl .nil) (hsp H hS)) fun r s' h => ?_
  match r, h with
  | .error e, h => exact False.elim h
  | .ok .next, h => exact False.elim h
  | .ok .brk, h => exact False.elim h
  | .ok .cont, h => exact False.elim h
  | .ok (.ret u), h =>
    obtain ⟨v, H', os, bare, un, hok', r', q⟩ := h
    have q : v = .bl true := q
    subst q
    have r' : u = Value.bool true := r'
    subst r'
    refine ⟨rfl, OldK.of_keep fun b o e => ?_, os, bare⟩
    by_cases q : H b = none
    · exact un.keep b o e q (fun z => absurd (show b ∈ ([] : List Addr) from z) (by simp)) (by simp)
    · obtain ⟨_, _, z⟩ := hA b q
      obtain ⟨e1, _⟩ := hok b _ z
      obtain ⟨e2, _⟩ := hok' b _ (un.frzs b _ _ z)
      rw [e] at e1
      cases e1
      exact e2
theorem walkG {l : PySem.W.OpenLaw} {n k : Nat} {q : Program} {loose : List Str} {XP : (Str → Option Value) → Heap → Prop} {YP : World → Heap → Prop} {d : DefRec} {K : Params → PySem.W.Frag} {x : Str} {sp : PySem.W.Frag → Sp}
    (hn : l.most = some n) (hn2 : n ≤ sizeLine) (hdf : d.params.defaults = []) (hr : Room k callerA)
    (hY : ∀ (w : World) (h : Heap), YP w h → (K w.params).In h)
    (F : ∀ (w : World) (mg : Str → Option Value) (fa : Addr) (h : Heap), (K w.params).In h → h.Ns mainGlobals mg → mg d.name = some (.ref fa) →
      ∃ fd : FuncData, (∀ (s : Shared) (u : Value), BindsTo s fd ⟨[u], []⟩ [(x, u)]) ∧ ∀ base : Heap, (K w.params).In base → base.Ns mainGlobals mg → FnG l.prog w (K w.params) mg base CX0 k fa fd [x] (sp (K w.params)))
    (hsp : ∀ (K : PySem.W.Frag) (H : Hp) (a : Addr) (ns : List Int), ns.length ≤ n → SqL K H a (ns.map V.int) → sp K [.ref a] H (fun v _ => v = .bl true) fun _ _ _ => False) :
    PySem.W.WalkO q loose XP YP l.row.toRowW d [] (fun f vs => PySem.call f vs) := by
  refine Att.attach_call hn hdf fun w s₀ s₁ mg mb fa o pm cd doc a vs ns G Y ho hd hcd hmg hobj hints hlen hg => ?_
  have KX := hY w _ Y
  obtain ⟨fd, hb, hF⟩ := F w mg fa _ KX G.T.g hmg
  exact law_callG KX G.T.g G.T.b G.T.builtins G.T.nolimit hg hobj hints (Nat.le_trans hlen hn2) hr hF hb fun H hS => hsp _ H a ns hlen hS
end Vs

set_option maxHeartbeats 4000000
/-! VW: defs and the law's entry over a head by facts. -/
namespace Vs
open PySem PySem.Spec PyProof.Rows L2

abbrev dd (x : Str) (st : Stmt) (dv : List He.Dv := []) : He.DefD := ⟨(x, none), x, x, defArgs st, defBody st, defScope st, dv, []⟩
abbrev faOf (fn : List He.DefD) : List He.Fa := (fn.map fun d => He.Fa.glo d.name) ++ bltNames.map He.Fa.free
structure Top (K : PySem.W.Frag) (mg : Str → Option Value) (fn : List He.DefD) : Prop where
  fd : ∀ d ∈ fn, d.at_ = (d.name, none) → ∃ fd, FunD K d.name d.qual d.params d.body d.scope (d.dvs K) (d.kws K) (He.ga K d.name) fd
  gl : ∀ d ∈ fn, mg d.name = some (.ref (He.ga K d.name))
  blt : ∀ x ∈ bltNames, mg x = none
theorem top_of {K : PySem.W.Frag} {h : Heap} {mg : Str → Option Value} {fn : List He.DefD} (X : K.In h) (G : h.Ns mainGlobals mg) (c : He.SaysD (faOf fn) fn K) : Top K mg fn := by
  refine ⟨fun d hd e => ?_, fun d hd => He.glo_ok X G (He.SaysD.facts c (List.mem_append_left _ (List.mem_map_of_mem hd))), fun x hx => He.free_ok X G (He.SaysD.facts c (List.mem_append_right _ (List.mem_map_of_mem hx)))⟩
  have z := He.SaysD.defs c hd
  rw [e] at z
  exact z
section
variable {P : Program} {w : World} {K : PySem.W.Frag} {mg : Str → Option Value} {base : Heap} {k : Nat} {x : Str} {n : Nat} {fn : Fn} {fns : List He.DefD}
theorem fns_nil {k : Nat} : ∀ y ∈ ([] : FTab), CallOk P w K mg base k y.1 y.2.1 y.2.2 := fun y hy => nomatch hy
theorem fns_cons {k j : Nat} {x : Str} {n : Nat} {fn : Fn} {l : FTab} (h : CallOk P w K mg base j x n fn) (hj : j ≤ k) (t : ∀ y ∈ l, CallOk P w K mg base k y.1 y.2.1 y.2.2) : ∀ y ∈ (x, n, fn) :: l, CallOk P w K mg base k y.1 y.2.1 y.2.2 := fun y hy => by
  rcases List.mem_cons.mp hy with rfl | hy
  · exact h.mono hj
  · exact t y hy
/-- a def of no defaults -/
theorem def_callD {T : Tx} {st : Stmt} {ps : List Str} {cb : Ss} {ne ns : Nat} (t : Top K mg fns) (hm : dd x st ∈ fns)
    (hb : ∀ (kV doc pm : Value) (an : Option Addr) (cdv ct : Value) (us : List Value), us.length = ps.length → bindArgs (PySem.W.fnOf x x (defArgs st) (defBody st) (defScope st) .none kV doc pm an cdv ct) ⟨us, []⟩ = pure (ps.zip us))
    (S : C8.scC T.N ps (defScope st) = true) (hlen : fn.modes.length = ps.length) (hd : fn.dflt = []) (hn : ps.length = n) (hden : Den fn T.N.length cb) (tr : trS T ne fn.fresh ⟨defScope st, none⟩ ns (defBody st) = some cb) (hf : ∀ y ∈ T.ft, CallOk P w K mg base k y.1 y.2.1 y.2.2) :
    CallOk P w K mg base (k + 1) x n fn := by
  obtain ⟨fd, F⟩ := t.fd _ hm rfl
  have b := FunD.bindsN F hb
  obtain ⟨oc, od, dV, kV, doc, pm, an, cdv, ct, osl, rfl, lk, hcd, _⟩ := F.ex
  refine ⟨⟨_, _, ps, [], [], def_fn lk hcd (C8.fnScope_by S) hlen hden tr hf t.blt, t.gl _ hm, F.kp, b, .nil, fun F => by rw [hd]; exact .nil⟩, by rw [hd, hlen, hn]; rfl, ?_⟩
  rw [hd, List.drop_eq_nil_of_le (by omega)]
  rfl
/-- a def with defaults, called with all arguments, or with fewer -/
theorem def_callV {T : Tx} {st : Stmt} {dv : List He.Dv} {ps : List Str} {cb : Ss} {ne ns : Nat} (j : Nat) (t : Top K mg fns) (hm : dd x st dv ∈ fns) (hnil : dv ≠ []) (hj : n + (dv.length - j) = ps.length)
    (hb : ∀ (T : Addr) (kV doc pm : Value) (an : Option Addr) (cdv ct : Value) (us its : List Value), us.length = n → its.length = dv.length →
      ∃ k, bindArgs (PySem.W.fnOf x x (defArgs st) (defBody st) (defScope st) (.ref T) kV doc pm an cdv ct) ⟨us, []⟩ = seqItems? (.ref T) >>= k ∧ k (some its.toArray) = pure (ps.zip (us ++ its.drop j)))
    (S : C8.scC T.N ps (defScope st) = true) (hlen : fn.modes.length = ps.length) (hv : ∀ F, RpAll K F ((dv.map (He.Dv.v K)).drop j) fn.dflt) (hl : fn.modes.drop n = List.replicate fn.dflt.length false) (hden : Den fn T.N.length cb) (tr : trS T ne fn.fresh ⟨defScope st, none⟩ ns (defBody st) = some cb) (hf : ∀ y ∈ T.ft, CallOk P w K mg base k y.1 y.2.1 y.2.2) :
    CallOk P w K mg base (k + 1) x n fn := by
  obtain ⟨fd, F⟩ := t.fd _ hm rfl
  have hl' : (dv.map (He.Dv.v K)).length = dv.length := List.length_map ..
  obtain ⟨ds, hds, b⟩ := FunD.binds1 (ps := ps) F n j (fun z => hnil (List.map_eq_nil_iff.mp z)) (by show n + ((dv.map (He.Dv.v K)).length - j) = _; rw [hl']; exact hj) (fun T kV doc pm an cdv ct us its h1 h2 => hb T kV doc pm an cdv ct us its h1 (h2.trans hl'))
  obtain ⟨oc, od, dV, kV, doc, pm, an, cdv, ct, osl, rfl, lk, hcd, _⟩ := F.ex
  refine ⟨⟨_, _, ps, _, ds, def_fn lk hcd (C8.fnScope_by S) hlen hden tr hf t.blt, t.gl _ hm, F.kp, b, hds, hv⟩, ?_, hl⟩
  have := congrArg List.length hl
  rw [List.length_drop, List.length_replicate] at this
  omega
end
theorem walkGE {l : PySem.W.OpenLaw} {n k : Nat} {q : Program} {loose : List Str} {XP : (Str → Option Value) → Heap → Prop} {YP : World → Heap → Prop} {d : DefRec} {x : Str} {sp : PySem.W.Frag → Sp}
    (hn : l.most = some n) (hn2 : n ≤ sizeLine) (hdf : d.params.defaults = []) (hr : Room k callerA)
    (F : ∀ (w : World) (mg : Str → Option Value) (fa : Addr) (h : Heap), YP w h → h.Ns mainGlobals mg → mg d.name = some (.ref fa) →
      ∃ (K : PySem.W.Frag) (fd : FuncData), K.In h ∧ (∀ (s : Shared) (u : Value), BindsTo s fd ⟨[u], []⟩ [(x, u)]) ∧ ∀ base : Heap, K.In base → base.Ns mainGlobals mg → FnG l.prog w K mg base CX0 k fa fd [x] (sp K))
    (hsp : ∀ (K : PySem.W.Frag) (H : Hp) (a : Addr) (ns : List Int), ns.length ≤ n → SqL K H a (ns.map V.int) → sp K [.ref a] H (fun v _ => v = .bl true) fun _ _ _ => False) :
    PySem.W.WalkO q loose XP YP l.row.toRowW d [] (fun f vs => PySem.call f vs) := by
  refine Att.attach_call hn hdf fun w s₀ s₁ mg mb fa o pm cd doc a vs ns G Y ho hd hcd hmg hobj hints hlen hg => ?_
  obtain ⟨K, fd, KX, hb, hF⟩ := F w mg fa _ Y G.T.g hmg
  exact law_callG KX G.T.g G.T.b G.T.builtins G.T.nolimit hg hobj hints (Nat.le_trans hlen hn2) hr hF hb fun H hS => hsp _ H a ns hlen hS
end Vs

set_option maxHeartbeats 4000000
/-! KA: what the defs compute, in plain words; their promises. -/
namespace K87
open PySem L2 Vs

/-! ### the plain functions -/
structure Ok (R : List (List Nat)) : Prop where
  ne : R ≠ []
  n4 : R.length ≤ 4
  bl : ∀ b ∈ R, b ≠ [] ∧ b.length ≤ 4 ∧ ∀ x ∈ b, x < R.length
abbrev ltr (R : List (List Nat)) (a : Nat) : List Nat := R.getD a []
def Ln (R : List (List Nat)) : Nat → Nat → Nat
  | 0, _ => 1
  | l + 1, a => ((ltr R a).map (Ln R l)).sum
def Cn (R : List (List Nat)) : Nat → Nat → Nat → Nat
  | 0, a, c => if a = c then 1 else 0
  | l + 1, a, c => ((ltr R a).map fun b => Cn R l b c).sum
def lens (R : List (List Nat)) (l : Nat) : List Nat := (List.range R.length).map (Ln R l)
def cnts (R : List (List Nat)) (l : Nat) : List (List Nat) := (List.range R.length).map fun a => (List.range R.length).map (Cn R l a)
def part : List Nat → Nat → Nat × Nat
  | [], p => (0, p)
  | s :: ss, p => if p < s then (0, p) else ((part ss (p - s)).1 + 1, (part ss (p - s)).2)
/-- the way down to a place: the path, the letter -/
def way (R : List (List Nat)) : Nat → Nat → Nat → List Nat × Nat
  | 0, a, _ => ([], a)
  | l + 1, a, p => ((part ((ltr R a).map (Ln R l)) p).1 :: (way R l ((ltr R a).getD (part ((ltr R a).map (Ln R l)) p).1 0) (part ((ltr R a).map (Ln R l)) p).2).1,
      (way R l ((ltr R a).getD (part ((ltr R a).map (Ln R l)) p).1 0) (part ((ltr R a).map (Ln R l)) p).2).2)
/-- how often o stands ahead of place p (p within) -/
def ahd (R : List (List Nat)) (o : Nat) : Nat → Nat → Nat → Nat
  | 0, _, _ => 0
  | l + 1, a, p => (((ltr R a).take (part ((ltr R a).map (Ln R l)) p).1).map fun b => Cn R l b o).sum + ahd R o l ((ltr R a).getD (part ((ltr R a).map (Ln R l)) p).1 0) (part ((ltr R a).map (Ln R l)) p).2
/-- the place of the number-th o -/
def plc (R : List (List Nat)) (o : Nat) : Nat → Nat → Nat → Nat
  | 0, _, _ => 0
  | l + 1, a, n => (((ltr R a).take (part ((ltr R a).map fun b => Cn R l b o) n).1).map (Ln R l)).sum + plc R o l ((ltr R a).getD (part ((ltr R a).map fun b => Cn R l b o) n).1 0) (part ((ltr R a).map fun b => Cn R l b o) n).2
/-- the place by a path -/
def pby (R : List (List Nat)) : List Nat → Nat → Nat
  | [], _ => 0
  | k :: ks, a => (((ltr R a).take k).map (Ln R ks.length)).sum + pby R ks ((ltr R a).getD k 0)
/-- the letter at the path's end -/
def ltrBy (R : List (List Nat)) : List Nat → Nat → Nat
  | [], a => a
  | k :: ks, a => ltrBy R ks ((ltr R a).getD k 0)
def Path (R : List (List Nat)) : List Nat → Nat → Prop
  | [], _ => True
  | k :: ks, a => k < (ltr R a).length ∧ Path R ks ((ltr R a).getD k 0)
def blk (R : List (List Nat)) : Nat → Nat → List Nat
  | 0, a => [a]
  | l + 1, a => (blk R l a).flatMap (ltr R)
/-- the letter at the far end of l first steps -/
def frst (R : List (List Nat)) : Nat → Nat → Nat
  | 0, a => a
  | l + 1, a => (ltr R (frst R l a)).getD 0 0
def optD : Option Nat → PyData
  | none => .none
  | some n => nD n
/-- the least level from 1 on, at most n, at which a comes first again -/
def again (R : List (List Nat)) (a : Nat) : Option Nat := ((List.range R.length).map (· + 1)).find? fun l => decide (frst R l a = a)
def seedsOf (R : List (List Nat)) : List (Nat × Nat) := (List.range R.length).filterMap fun a => (again R a).map fun l => (a, l)
abbrev pairD (p : Nat × Nat) : PyData := .tuple [nD p.1, nD p.2]
/-- every letter stands in every block of level l -/
def Full (R : List (List Nat)) (l : Nat) : Prop := ∀ a c, a < R.length → c < R.length → 0 < Cn R l a c
def Grows (R : List (List Nat)) : Prop := (∃ b ∈ R, 2 ≤ b.length) ∧ ∃ l, l < 16 ∧ Full R l
/-! ### the feed -/
/-- the script's numbers, the spot, what is left of a number, how many draws -/
def Feed (d : PyData) (n : Nat) : Prop := ∃ (cells : List Int) (spot : Nat) (rest : Int) (m : Nat), d = .list [.list (intsD cells), nD spot, .int rest, nD m] ∧ m ≤ n ∧ spot ≤ m ∧ cells.length ≤ 63
theorem Feed.mono {d : PyData} {n m : Nat} (h : Feed d n) (q : n ≤ m) : Feed d m := by
  obtain ⟨c, s, r, k, e, h1, h2⟩ := h
  exact ⟨c, s, r, k, e, Nat.le_trans h1 q, h2⟩

/-! ### the promises -/
def isInt : PyData → Bool
  | .int _ => true
  | _ => false
def isNum : PyData → Bool
  | .int i => decide (0 ≤ i)
  | _ => false
def isIdx (d : PyData) (m : Int) : Bool := match d with
  | .int i => decide (0 ≤ i) && decide (i < m)
  | _ => false
def isFull : PyData → Bool
  | .tuple xs => decide (0 < xs.length)
  | _ => false
def v1 (s : Vs.Spec) : Fn := ⟨[false], false, [], s⟩
def v2 (s : Vs.Spec) : Fn := ⟨[false, false], false, [], s⟩
def v3 (s : Vs.Spec) : Fn := ⟨[false, false, false], false, [], s⟩
def v4 (s : Vs.Spec) : Fn := ⟨[false, false, false, false], false, [], s⟩
def v5 (s : Vs.Spec) : Fn := ⟨[false, false, false, false, false], false, [], s⟩
def v6 (s : Vs.Spec) : Fn := ⟨[false, false, false, false, false, false], false, [], s⟩
def w1 (s : Vs.Spec) : Fn := ⟨[true], false, [], s⟩
def w2 (s : Vs.Spec) : Fn := ⟨[true, false], false, [], s⟩
def w4 (s : Vs.Spec) : Fn := ⟨[true, false, false, false], false, [], s⟩
def w5 (s : Vs.Spec) : Fn := ⟨[true, false, false, false, false], false, [], s⟩
abbrev lensL (R : List (List Nat)) (l : Nat) : PyData := .list ((List.range (l + 1)).map fun j => tN (lens R j))
abbrev cntsL (R : List (List Nat)) (l : Nat) : PyData := .list ((List.range (l + 1)).map fun j => ttN (cnts R j))
def f_is_integer : Fn := v1 fun ds K => ∃ d, ds = [d] ∧ K (.bool (isInt d)) []
def f_is_number : Fn := v1 fun ds K => ∃ d, ds = [d] ∧ K (.bool (isNum d)) []
def f_is_index : Fn := v2 fun ds K => ∃ d m, ds = [d, .int m] ∧ K (.bool (isIdx d m)) []
def f_is_full_tuple : Fn := v1 fun ds K => ∃ d, ds = [d] ∧ K (.bool (isFull d)) []
def f_are_indexes : Fn := v2 fun ds K => ∃ xs m, ds = [.tuple xs, .int m] ∧ K (.bool (xs.all fun d => isIdx d m)) []
def f_is_rule : Fn := v1 fun ds K => ∃ R, ds = [ttN R] ∧ Ok R ∧ K (.bool true) []
def f_units_by : Fn := v1 fun ds K => ∃ n, ds = [nD n] ∧ n ≤ 4 ∧ K (ttN ((List.range n).map fun a => (List.range n).map fun c => if a = c then 1 else 0)) []
def f_added_rows : Fn := v1 fun ds K => ∃ (rows : List (List Nat)) (m : Nat), ds = [ltN rows] ∧ rows ≠ [] ∧ (∀ r ∈ rows, r.length = m) ∧ m ≤ 4 ∧ K (tN ((List.range m).map fun k => (rows.map fun r => r.getD k 0).sum)) []
def f_counts_to : Fn := v2 fun ds K => ∃ R l, ds = [ttN R, nD l] ∧ Ok R ∧ l ≤ 200 ∧ K (cntsL R l) []
def f_counts_by : Fn := v2 fun ds K => ∃ R l, ds = [ttN R, nD l] ∧ Ok R ∧ l ≤ 200 ∧ K (ttN (cnts R l)) []
def f_lengths_to : Fn := v2 fun ds K => ∃ R l, ds = [ttN R, nD l] ∧ Ok R ∧ l ≤ 200 ∧ K (lensL R l) []
def f_lengths_by : Fn := v2 fun ds K => ∃ R l, ds = [ttN R, nD l] ∧ Ok R ∧ l ≤ 200 ∧ K (tN (lens R l)) []
def f_part_with : Fn := v2 fun ds K => ∃ sizes p, ds = [lN sizes, nD p] ∧ p < sizes.sum ∧ K (.tuple [nD (part sizes p).1, nD (part sizes p).2]) []
def f_way_down : Fn := v4 fun ds K => ∃ R l a p, ds = [ttN R, lensL R l, nD a, nD p] ∧ Ok R ∧ a < R.length ∧ l ≤ 200 ∧ p < Ln R l a ∧ K (.tuple [tN (way R l a p).1, nD (way R l a p).2]) []
def f_word_in : Fn := v5 fun ds K => ∃ R l a p n, ds = [ttN R, nD a, nD l, nD p, nD n] ∧ Ok R ∧ a < R.length ∧ l ≤ 200 ∧ p + n ≤ Ln R l a ∧ n ≤ 300 ∧ K (tN ((List.range n).map fun k => (way R l a (p + k)).2)) []
def f_ahead_in : Fn := v5 fun ds K => ∃ R l a p o, ds = [ttN R, nD a, nD l, nD p, nD o] ∧ Ok R ∧ a < R.length ∧ o < R.length ∧ l ≤ 200 ∧ p ≤ Ln R l a ∧ K (nD (if p = Ln R l a then Cn R l a o else ahd R o l a p)) []
def f_place_in : Fn := v5 fun ds K => ∃ R l a o n, ds = [ttN R, nD a, nD l, nD o, nD n] ∧ Ok R ∧ a < R.length ∧ o < R.length ∧ l ≤ 200 ∧ K (if Cn R l a o ≤ n then .none else nD (plc R o l a n)) []
def f_want : Fn := v3 fun ds K => ∃ x y, ds = [.bool true, x, y] ∧ K .none []
def f_want_2 : Fn := { f_want with dflt := [.int (-1)] }
def f_want_rule : Fn := v2 fun ds K => ∃ R x, ds = [ttN R, x] ∧ Ok R ∧ K .none []
def f_want_rule_1 : Fn := { f_want_rule with dflt := [.str "rule"] }
def f_want_index : Fn := v3 fun ds K => ∃ (m i : Nat) (x : PyData), ds = [nD m, nD i, x] ∧ i < m ∧ K .none []
def f_word_after : Fn := v2 fun ds K => ∃ R w, ds = [ttN R, tN w] ∧ Ok R ∧ (∀ x ∈ w, x < R.length) ∧ w.length ≤ 300 ∧ K (tN (w.flatMap (ltr R))) []
def f_want_block : Fn := v3 fun ds K => ∃ R a l, ds = [ttN R, nD a, nD l] ∧ Ok R ∧ a < R.length ∧ K .none []
def f_block_of : Fn := v3 fun ds K => ∃ R a l, ds = [ttN R, nD a, nD l] ∧ Ok R ∧ a < R.length ∧ l ≤ 200 ∧ Ln R l a ≤ 300 ∧ K (tN (blk R l a)) []
def f_length_of : Fn := v3 fun ds K => ∃ R a l, ds = [ttN R, nD a, nD l] ∧ Ok R ∧ a < R.length ∧ l ≤ 200 ∧ K (nD (Ln R l a)) []
def f_lengths_of : Fn := v3 fun ds K => ∃ R a l, ds = [ttN R, nD a, nD l] ∧ Ok R ∧ a < R.length ∧ l ≤ 200 ∧ K (tN ((List.range (l + 1)).map fun j => Ln R j a)) []
def f_counts_in : Fn := v3 fun ds K => ∃ R a l, ds = [ttN R, nD a, nD l] ∧ Ok R ∧ a < R.length ∧ l ≤ 200 ∧ K (tN ((List.range R.length).map (Cn R l a))) []
def f_growth_by : Fn := v1 fun ds K => ∃ R, ds = [ttN R] ∧ Ok R ∧ Grows R ∧ ∀ v : Nat, K (nD v) []
def f_want_growing : Fn := v2 fun ds K => ∃ R x, ds = [ttN R, x] ∧ Ok R ∧ Grows R ∧ K .none []
def f_want_growing_1 : Fn := { f_want_growing with dflt := [.str "rule"] }
def f_letter_at : Fn := v4 fun ds K => ∃ R a l p, ds = [ttN R, nD a, nD l, nD p] ∧ Ok R ∧ a < R.length ∧ l ≤ 200 ∧ p < Ln R l a ∧ K (nD (way R l a p).2) []
def f_word_at : Fn := v5 fun ds K => ∃ R a l p n, ds = [ttN R, nD a, nD l, nD p, nD n] ∧ Ok R ∧ a < R.length ∧ l ≤ 200 ∧ p + n ≤ Ln R l a ∧ n ≤ 300 ∧ K (tN ((List.range n).map fun k => (way R l a (p + k)).2)) []
def f_count_before : Fn := v5 fun ds K => ∃ R a l p o, ds = [ttN R, nD a, nD l, nD p, nD o] ∧ Ok R ∧ a < R.length ∧ o < R.length ∧ l ≤ 200 ∧ p ≤ Ln R l a ∧ K (nD (if p = Ln R l a then Cn R l a o else ahd R o l a p)) []
def f_place_of : Fn := v5 fun ds K => ∃ R a l o n, ds = [ttN R, nD a, nD l, nD o, nD n] ∧ Ok R ∧ a < R.length ∧ o < R.length ∧ l ≤ 200 ∧ K (if Cn R l a o ≤ n then .none else nD (plc R o l a n)) []
def f_path_to : Fn := v4 fun ds K => ∃ R a l p, ds = [ttN R, nD a, nD l, nD p] ∧ Ok R ∧ a < R.length ∧ l ≤ 200 ∧ p < Ln R l a ∧ K (tN (way R l a p).1) []
def f_place_by : Fn := v3 fun ds K => ∃ R a ks, ds = [ttN R, nD a, tN ks] ∧ Ok R ∧ a < R.length ∧ ks.length ≤ 200 ∧ Path R ks a ∧ K (nD (pby R ks a)) []
def f_first_again : Fn := v2 fun ds K => ∃ R a, ds = [ttN R, nD a] ∧ Ok R ∧ a < R.length ∧ K (optD (again R a)) []
def f_seeds : Fn := v1 fun ds K => ∃ R, ds = [ttN R] ∧ Ok R ∧ K (.tuple ((seedsOf R).map pairD)) []
def f_level_holding : Fn := v3 fun ds K => ∃ R a p m, ds = [ttN R, nD a, nD p] ∧ Ok R ∧ a < R.length ∧ Grows R ∧ m ≤ 200 ∧ p < Ln R m a ∧ (∀ j, j < m → Ln R j a ≤ p) ∧ K (nD m) []
/-! the law's own -/
def f_law_draw : Fn := w2 fun ds K => ∃ feed n size, ds = [feed, .int size] ∧ Feed feed n ∧ n < 100000 ∧ 0 < size ∧ size < 1073741824 ∧ ∀ feed' (v : Nat), Feed feed' (n + 1) → (v : Int) < size → K (nD v) [feed']
def f_law_pick : Fn := w2 fun ds K => ∃ feed n xs, ds = [feed, .list xs] ∧ Feed feed n ∧ n < 100000 ∧ xs ≠ [] ∧ xs.length ≤ 1000 ∧ ∀ feed' x, Feed feed' (n + 1) → x ∈ xs → K x [feed']
/-- may be written out -/
def Shown (d : PyData) : Prop := d.showable = true ∧ SeqAt.shaped d = true ∧ d.shown.length ≤ 16777216
def f_law_same : Fn := v2 fun ds K => ∃ x, ds = [x, x] ∧ Shown x ∧ K (.bool true) []
def f_law_becomes : Fn := v2 fun ds K => ∃ R w d, ds = [d, tN w] ∧ (d = ttN R ∨ d = ltN R) ∧ Ok R ∧ (∀ x ∈ w, x < R.length) ∧ w.length ≤ 300 ∧ K (tN (w.flatMap (ltr R))) []
def f_law_does_grow : Fn := v1 fun ds K => ∃ R d, ds = [d] ∧ (d = ttN R ∨ d = ltN R) ∧ Ok R ∧ K .none [] ∧ (Grows R → ∀ v : Nat, K (nD v) [])
def f_law_grown : Fn := w1 fun ds K => ∃ feed n, ds = [feed] ∧ Feed feed n ∧ n < 10000 ∧ ∀ feed' R, Feed feed' (n + 200) → Ok R → K (ttN R) [feed']
def f_law_any_rule : Fn := w1 fun ds K => ∃ feed n, ds = [feed] ∧ Feed feed n ∧ n < 5000 ∧ ∀ feed' R, Feed feed' (n + 300) → Ok R → K (ttN R) [feed']
def f_law_far : Fn := w2 fun ds K => ∃ (feed : PyData) (n most : Nat), ds = [feed, nD most] ∧ Feed feed n ∧ n < 10000 ∧ 0 < most ∧ ∀ feed' v, Feed feed' (n + 20) → v < most → K (nD v) [feed']
def rows (R : List (List Nat)) (l : Nat) : PyData := .list ((List.range (l + 1)).map fun j => .list ((cnts R j).map lN))
def f_law_sums : Fn := v2 fun ds K => ∃ R l, ds = [ttN R, nD l] ∧ Ok R ∧ l ≤ 200 ∧ K (rows R l) []
def f_law_down : Fn := v5 fun ds K => ∃ R l a p, ds = [ttN R, rows R l, nD a, nD l, nD p] ∧ Ok R ∧ a < R.length ∧ l ≤ 200 ∧ p < Ln R l a ∧ K (.tuple [tN (way R l a p).1, lN ((List.range R.length).map fun o => ahd R o l a p), nD (way R l a p).2]) []
def f_law_found : Fn := v6 fun ds K => ∃ R l a o n, ds = [ttN R, rows R l, nD a, nD l, nD o, nD n] ∧ Ok R ∧ a < R.length ∧ o < R.length ∧ l ≤ 200 ∧ K (if Cn R l a o ≤ n then .none else nD (plc R o l a n)) []
def f_law_halves_right : Fn := v6 fun ds K => ∃ R l a p, ds = [ttN R, rows R l, nD a, nD l, nD p, nD (way R l a p).2] ∧ Ok R ∧ a < R.length ∧ l ≤ 200 ∧ p < Ln R l a ∧ K (.bool true) []
def f_law_place_right : Fn := w5 fun ds K => ∃ feed n R l a, ds = [feed, ttN R, rows R l, nD a, nD l] ∧ Feed feed n ∧ n < 5000 ∧ Ok R ∧ a < R.length ∧ l ≤ 200 ∧ ∀ feed', Feed feed' (n + 50) → K (.bool true) [feed']
def f_law_index_right : Fn := w5 fun ds K => ∃ feed n R l a, ds = [feed, ttN R, rows R l, nD a, nD l] ∧ Feed feed n ∧ n < 5000 ∧ Ok R ∧ a < R.length ∧ l ≤ 200 ∧ ∀ feed', Feed feed' (n + 50) → K (.bool true) [feed']
def f_law_small_right : Fn := v3 fun ds K => ∃ R a l, ds = [ttN R, nD a, nD l] ∧ Ok R ∧ a < R.length ∧ l ≤ 200 ∧ Ln R l a < 300 ∧ K (.bool true) []
def f_law_seeds : Fn := v1 fun ds K => ∃ R, ds = [ttN R] ∧ Ok R ∧ K (.tuple ((seedsOf R).map pairD)) []
def f_law_holding_right : Fn := w4 fun ds K => ∃ feed n R l a, ds = [feed, ttN R, rows R l, nD a] ∧ Feed feed n ∧ n < 5000 ∧ Ok R ∧ a < R.length ∧ l ≤ 200 ∧ ∀ feed', Feed feed' (n + 50) → K (.bool true) [feed']
def f_law_is_right : Fn := w1 fun ds K => ∃ feed, ds = [feed] ∧ Feed feed 0 ∧ ∀ feed', K (.bool true) [feed']
end K87

set_option maxHeartbeats 4000000
/-! the defs as core text, and that it is so -/
namespace K87
open PySem L2 Vs
def top (i : Nat) : Stmt := PySem.Challenge.pw_ledalong_k87_whole_far_places.main.body.getD i (.Pass ⟨0, 0, 0, 0⟩)
def cb_is_integer : Ss :=
(.cons (.ret (.and (.isT "int" (.var 0)) (.not (.isT "bool" (.var 0))))) .nil)
def N_is_integer : List Str := ["thing"]
abbrev st_is_integer : Stmt := top 1
def ft_is_integer : FTab := []
theorem tr_is_integer : trS ⟨ft_is_integer, N_is_integer⟩ 20 f_is_integer.fresh ⟨defScope st_is_integer, none⟩ 8 (defBody st_is_integer) = some cb_is_integer := by kernel_rfl
theorem sc_is_integer : C8.scC N_is_integer ["thing"] (defScope st_is_integer) = true := by decide +kernel
def cb_is_number : Ss :=
(.cons (.ret (.and (.call f_is_integer (.cons (.var 0) .nil)) (.cmp .GtE (.var 0) (.con (.int 0))))) .nil)
def N_is_number : List Str := ["thing"]
abbrev st_is_number : Stmt := top 2
def ft_is_number : FTab := [("is_integer", 1, f_is_integer)]
theorem tr_is_number : trS ⟨ft_is_number, N_is_number⟩ 20 f_is_number.fresh ⟨defScope st_is_number, none⟩ 8 (defBody st_is_number) = some cb_is_number := by kernel_rfl
theorem sc_is_number : C8.scC N_is_number ["thing"] (defScope st_is_number) = true := by decide +kernel
def cb_is_index : Ss :=
(.cons (.ret (.and (.call f_is_number (.cons (.var 0) .nil)) (.cmp .Lt (.var 0) (.var 1)))) .nil)
def N_is_index : List Str := ["thing", "many"]
abbrev st_is_index : Stmt := top 3
def ft_is_index : FTab := [("is_number", 1, f_is_number)]
theorem tr_is_index : trS ⟨ft_is_index, N_is_index⟩ 20 f_is_index.fresh ⟨defScope st_is_index, none⟩ 8 (defBody st_is_index) = some cb_is_index := by kernel_rfl
theorem sc_is_index : C8.scC N_is_index ["thing", "many"] (defScope st_is_index) = true := by decide +kernel
def cb_is_full_tuple : Ss :=
(.cons (.ret (.and (.isT "tuple" (.var 0)) (.cmp .Gt (.bi .len (.cons (.var 0) .nil)) (.con (.int 0))))) .nil)
def N_is_full_tuple : List Str := ["thing"]
abbrev st_is_full_tuple : Stmt := top 4
def ft_is_full_tuple : FTab := []
theorem tr_is_full_tuple : trS ⟨ft_is_full_tuple, N_is_full_tuple⟩ 20 f_is_full_tuple.fresh ⟨defScope st_is_full_tuple, none⟩ 8 (defBody st_is_full_tuple) = some cb_is_full_tuple := by kernel_rfl
theorem sc_is_full_tuple : C8.scC N_is_full_tuple ["thing"] (defScope st_is_full_tuple) = true := by decide +kernel
def cb_are_indexes : Ss :=
(.cons (.ret (.and (.isT "tuple" (.var 0)) (.bi .all (.cons (.comp [2] (.one 2) (.seq (.var 0)) .no (.call f_is_index (.cons (.var 2) (.cons (.var 1) .nil)))) .nil)))) .nil)
def N_are_indexes : List Str := ["thing", "many", "one"]
abbrev st_are_indexes : Stmt := top 5
def ft_are_indexes : FTab := [("is_index", 2, f_is_index)]
theorem tr_are_indexes : trS ⟨ft_are_indexes, N_are_indexes⟩ 20 f_are_indexes.fresh ⟨defScope st_are_indexes, none⟩ 8 (defBody st_are_indexes) = some cb_are_indexes := by kernel_rfl
theorem sc_are_indexes : C8.scC N_are_indexes ["thing", "many"] (defScope st_are_indexes) = true := by decide +kernel
def cb_is_rule : Ss :=
(.cons (.ite (.not (.call f_is_full_tuple (.cons (.var 0) .nil)))
(.cons (.ret (.con (.bool false))) .nil)
.nil) (.cons (.ret (.bi .all (.cons (.comp [1] (.one 1) (.seq (.var 0)) .no (.and (.call f_is_full_tuple (.cons (.var 1) .nil)) (.call f_are_indexes (.cons (.var 1) (.cons (.bi .len (.cons (.var 0) .nil)) .nil))))) .nil))) .nil))
def N_is_rule : List Str := ["thing", "one"]
abbrev st_is_rule : Stmt := top 6
def ft_is_rule : FTab := [("are_indexes", 2, f_are_indexes), ("is_full_tuple", 1, f_is_full_tuple)]
theorem tr_is_rule : trS ⟨ft_is_rule, N_is_rule⟩ 20 f_is_rule.fresh ⟨defScope st_is_rule, none⟩ 8 (defBody st_is_rule) = some cb_is_rule := by kernel_rfl
theorem sc_is_rule : C8.scC N_is_rule ["thing"] (defScope st_is_rule) = true := by decide +kernel
def cb_units_by : Ss :=
(.cons (.ret (.bi .tuple (.cons (.comp [1] (.one 1) (.range1 (.var 0)) .no (.bi .tuple (.cons (.comp [2] (.one 2) (.range1 (.var 0)) .no (.bi .int (.cons (.cmp .Eq (.var 1) (.var 2)) .nil))) .nil))) .nil))) .nil)
def N_units_by : List Str := ["many", "one", "late"]
abbrev st_units_by : Stmt := top 8
def ft_units_by : FTab := []
theorem tr_units_by : trS ⟨ft_units_by, N_units_by⟩ 20 f_units_by.fresh ⟨defScope st_units_by, none⟩ 8 (defBody st_units_by) = some cb_units_by := by kernel_rfl
theorem sc_units_by : C8.scC N_units_by ["many"] (defScope st_units_by) = true := by decide +kernel
def cb_added_rows : Ss :=
(.cons (.ret (.bi .tuple (.cons (.comp [1] (.one 1) (.range1 (.bi .len (.cons (.idx (.var 0) (.con (.int 0))) .nil))) .no (.bi .sum (.cons (.comp [2] (.one 2) (.seq (.var 0)) .no (.idx (.var 2) (.var 1))) .nil))) .nil))) .nil)
def N_added_rows : List Str := ["rows", "k", "one"]
abbrev st_added_rows : Stmt := top 9
def ft_added_rows : FTab := []
theorem tr_added_rows : trS ⟨ft_added_rows, N_added_rows⟩ 20 f_added_rows.fresh ⟨defScope st_added_rows, none⟩ 8 (defBody st_added_rows) = some cb_added_rows := by kernel_rfl
theorem sc_added_rows : C8.scC N_added_rows ["rows"] (defScope st_added_rows) = true := by decide +kernel
def cb_counts_to : Ss :=
(.cons (.set 2 (.lst (.cons (.call f_units_by (.cons (.bi .len (.cons (.var 0) .nil)) .nil)) .nil))) (.cons (.forr (.one 3) (.range1 (.var 1))
(.cons (.append 2 (.bi .tuple (.cons (.comp [4] (.one 4) (.seq (.var 0)) .no (.call f_added_rows (.cons (.comp [5] (.one 5) (.seq (.var 4)) .no (.idx (.idx (.var 2) (.neg (.con (.int 1)))) (.var 5))) .nil))) .nil))) .nil)) (.cons (.ret (.var 2)) .nil)))
def N_counts_to : List Str := ["rule", "level", "found", "lap", "letters", "late"]
abbrev st_counts_to : Stmt := top 10
def ft_counts_to : FTab := [("added_rows", 1, f_added_rows), ("units_by", 1, f_units_by)]
theorem tr_counts_to : trS ⟨ft_counts_to, N_counts_to⟩ 20 f_counts_to.fresh ⟨defScope st_counts_to, none⟩ 8 (defBody st_counts_to) = some cb_counts_to := by kernel_rfl
theorem sc_counts_to : C8.scC N_counts_to ["rule", "level"] (defScope st_counts_to) = true := by decide +kernel
def cb_counts_by : Ss :=
(.cons (.ret (.idx (.call f_counts_to (.cons (.var 0) (.cons (.var 1) .nil))) (.var 1))) .nil)
def N_counts_by : List Str := ["rule", "level"]
abbrev st_counts_by : Stmt := top 11
def ft_counts_by : FTab := [("counts_to", 2, f_counts_to)]
theorem tr_counts_by : trS ⟨ft_counts_by, N_counts_by⟩ 20 f_counts_by.fresh ⟨defScope st_counts_by, none⟩ 8 (defBody st_counts_by) = some cb_counts_by := by kernel_rfl
theorem sc_counts_by : C8.scC N_counts_by ["rule", "level"] (defScope st_counts_by) = true := by decide +kernel
def cb_lengths_to : Ss :=
(.cons (.set 2 (.lst (.cons (.bi .tuple (.cons (.comp [4] (.one 4) (.seq (.var 0)) .no (.con (.int 1))) .nil)) .nil))) (.cons (.forr (.one 3) (.range1 (.var 1))
(.cons (.append 2 (.bi .tuple (.cons (.comp [4] (.one 4) (.seq (.var 0)) .no (.bi .sum (.cons (.comp [5] (.one 5) (.seq (.var 4)) .no (.idx (.idx (.var 2) (.neg (.con (.int 1)))) (.var 5))) .nil))) .nil))) .nil)) (.cons (.ret (.var 2)) .nil)))
def N_lengths_to : List Str := ["rule", "level", "found", "lap", "letters", "late"]
abbrev st_lengths_to : Stmt := top 12
def ft_lengths_to : FTab := []
theorem tr_lengths_to : trS ⟨ft_lengths_to, N_lengths_to⟩ 20 f_lengths_to.fresh ⟨defScope st_lengths_to, none⟩ 8 (defBody st_lengths_to) = some cb_lengths_to := by kernel_rfl
theorem sc_lengths_to : C8.scC N_lengths_to ["rule", "level"] (defScope st_lengths_to) = true := by decide +kernel
def cb_lengths_by : Ss :=
(.cons (.ret (.idx (.call f_lengths_to (.cons (.var 0) (.cons (.var 1) .nil))) (.var 1))) .nil)
def N_lengths_by : List Str := ["rule", "level"]
abbrev st_lengths_by : Stmt := top 13
def ft_lengths_by : FTab := [("lengths_to", 2, f_lengths_to)]
theorem tr_lengths_by : trS ⟨ft_lengths_by, N_lengths_by⟩ 20 f_lengths_by.fresh ⟨defScope st_lengths_by, none⟩ 8 (defBody st_lengths_by) = some cb_lengths_by := by kernel_rfl
theorem sc_lengths_by : C8.scC N_lengths_by ["rule", "level"] (defScope st_lengths_by) = true := by decide +kernel
def cb_part_with : Ss :=
(.cons (.par [2, 3] (.cons (.con (.int 0)) (.cons (.var 1) .nil))) (.cons (.whl (.cmp .GtE (.var 3) (.idx (.var 0) (.var 2)))
(.cons (.par [3, 2] (.cons (.bin .Sub (.var 3) (.idx (.var 0) (.var 2))) (.cons (.bin .Add (.var 2) (.con (.int 1))) .nil))) .nil)) (.cons (.ret (.tup (.cons (.var 2) (.cons (.var 3) .nil)))) .nil)))
def N_part_with : List Str := ["sizes", "place", "k", "rest"]
abbrev st_part_with : Stmt := top 14
def ft_part_with : FTab := []
theorem tr_part_with : trS ⟨ft_part_with, N_part_with⟩ 20 f_part_with.fresh ⟨defScope st_part_with, none⟩ 8 (defBody st_part_with) = some cb_part_with := by kernel_rfl
theorem sc_part_with : C8.scC N_part_with ["sizes", "place"] (defScope st_part_with) = true := by decide +kernel
def cb_way_down : Ss :=
(.cons (.par [4, 5, 6] (.cons (.lst .nil) (.cons (.var 2) (.cons (.var 3) .nil)))) (.cons (.forr (.one 7) (.range3 (.bin .Sub (.bi .len (.cons (.var 1) .nil)) (.con (.int 1))) (.con (.int 0)) (.neg (.con (.int 1))))
(.cons (.unpack [8, 6] (.call f_part_with (.cons (.comp [9] (.one 9) (.seq (.idx (.var 0) (.var 5))) .no (.idx (.idx (.var 1) (.bin .Sub (.var 7) (.con (.int 1)))) (.var 9))) (.cons (.var 6) .nil)))) (.cons (.append 4 (.var 8)) (.cons (.set 5 (.idx (.idx (.var 0) (.var 5)) (.var 8))) .nil)))) (.cons (.ret (.tup (.cons (.bi .tuple (.cons (.var 4) .nil)) (.cons (.var 5) .nil)))) .nil)))
def N_way_down : List Str := ["rule", "lengths", "letter", "place", "found", "here", "rest", "high", "k", "late"]
abbrev st_way_down : Stmt := top 15
def ft_way_down : FTab := [("part_with", 2, f_part_with)]
theorem tr_way_down : trS ⟨ft_way_down, N_way_down⟩ 20 f_way_down.fresh ⟨defScope st_way_down, none⟩ 8 (defBody st_way_down) = some cb_way_down := by kernel_rfl
theorem sc_way_down : C8.scC N_way_down ["rule", "lengths", "letter", "place"] (defScope st_way_down) = true := by decide +kernel
def cb_word_in : Ss :=
(.cons (.set 5 (.call f_lengths_to (.cons (.var 0) (.cons (.var 2) .nil)))) (.cons (.ret (.bi .tuple (.cons (.comp [6] (.one 6) (.range1 (.var 4)) .no (.idx (.call f_way_down (.cons (.var 0) (.cons (.var 5) (.cons (.var 1) (.cons (.bin .Add (.var 3) (.var 6)) .nil))))) (.con (.int 1)))) .nil))) .nil))
def N_word_in : List Str := ["rule", "letter", "level", "place", "length", "lengths", "k"]
abbrev st_word_in : Stmt := top 16
def ft_word_in : FTab := [("lengths_to", 2, f_lengths_to), ("way_down", 4, f_way_down)]
theorem tr_word_in : trS ⟨ft_word_in, N_word_in⟩ 20 f_word_in.fresh ⟨defScope st_word_in, none⟩ 8 (defBody st_word_in) = some cb_word_in := by kernel_rfl
theorem sc_word_in : C8.scC N_word_in ["rule", "letter", "level", "place", "length"] (defScope st_word_in) = true := by decide +kernel
def cb_ahead_in : Ss :=
(.cons (.par [5, 6] (.cons (.call f_lengths_to (.cons (.var 0) (.cons (.var 2) .nil))) (.cons (.call f_counts_to (.cons (.var 0) (.cons (.var 2) .nil))) .nil))) (.cons (.ite (.cmp .Eq (.var 3) (.idx (.idx (.var 5) (.var 2)) (.var 1)))
(.cons (.ret (.idx (.idx (.idx (.var 6) (.var 2)) (.var 1)) (.var 4))) .nil)
.nil) (.cons (.par [7, 8, 9] (.cons (.con (.int 0)) (.cons (.var 1) (.cons (.var 2) .nil)))) (.cons (.forr (.one 10) (.seq (.idx (.call f_way_down (.cons (.var 0) (.cons (.var 5) (.cons (.var 1) (.cons (.var 3) .nil))))) (.con (.int 0))))
(.cons (.set 9 (.bin .Sub (.var 9) (.con (.int 1)))) (.cons (.set 7 (.bin .Add (.var 7) (.bi .sum (.cons (.comp [11] (.one 11) (.seq (.sli (.idx (.var 0) (.var 8)) .no (.one (.var 10)))) .no (.idx (.idx (.idx (.var 6) (.var 9)) (.var 11)) (.var 4))) .nil)))) (.cons (.set 8 (.idx (.idx (.var 0) (.var 8)) (.var 10))) .nil)))) (.cons (.ret (.var 7)) .nil)))))
def N_ahead_in : List Str := ["rule", "letter", "level", "place", "other", "lengths", "counts", "found", "here", "high", "k", "late"]
abbrev st_ahead_in : Stmt := top 17
def ft_ahead_in : FTab := [("counts_to", 2, f_counts_to), ("lengths_to", 2, f_lengths_to), ("way_down", 4, f_way_down)]
theorem tr_ahead_in : trS ⟨ft_ahead_in, N_ahead_in⟩ 20 f_ahead_in.fresh ⟨defScope st_ahead_in, none⟩ 8 (defBody st_ahead_in) = some cb_ahead_in := by kernel_rfl
theorem sc_ahead_in : C8.scC N_ahead_in ["rule", "letter", "level", "place", "other"] (defScope st_ahead_in) = true := by decide +kernel
def cb_place_in : Ss :=
(.cons (.par [5, 6] (.cons (.call f_lengths_to (.cons (.var 0) (.cons (.var 2) .nil))) (.cons (.call f_counts_to (.cons (.var 0) (.cons (.var 2) .nil))) .nil))) (.cons (.ite (.cmp .GtE (.var 4) (.idx (.idx (.idx (.var 6) (.var 2)) (.var 1)) (.var 3)))
(.cons (.ret (.con .none)) .nil)
.nil) (.cons (.par [7, 8, 9] (.cons (.con (.int 0)) (.cons (.var 1) (.cons (.var 4) .nil)))) (.cons (.forr (.one 10) (.range3 (.bin .Sub (.var 2) (.con (.int 1))) (.neg (.con (.int 1))) (.neg (.con (.int 1))))
(.cons (.unpack [11, 9] (.call f_part_with (.cons (.comp [12] (.one 12) (.seq (.idx (.var 0) (.var 8))) .no (.idx (.idx (.idx (.var 6) (.var 10)) (.var 12)) (.var 3))) (.cons (.var 9) .nil)))) (.cons (.set 7 (.bin .Add (.var 7) (.bi .sum (.cons (.comp [12] (.one 12) (.seq (.sli (.idx (.var 0) (.var 8)) .no (.one (.var 11)))) .no (.idx (.idx (.var 5) (.var 10)) (.var 12))) .nil)))) (.cons (.set 8 (.idx (.idx (.var 0) (.var 8)) (.var 11))) .nil)))) (.cons (.ret (.var 7)) .nil)))))
def N_place_in : List Str := ["rule", "letter", "level", "other", "number", "lengths", "counts", "found", "here", "rest", "high", "k", "late"]
abbrev st_place_in : Stmt := top 18
def ft_place_in : FTab := [("counts_to", 2, f_counts_to), ("lengths_to", 2, f_lengths_to), ("part_with", 2, f_part_with)]
theorem tr_place_in : trS ⟨ft_place_in, N_place_in⟩ 20 f_place_in.fresh ⟨defScope st_place_in, none⟩ 8 (defBody st_place_in) = some cb_place_in := by kernel_rfl
theorem sc_place_in : C8.scC N_place_in ["rule", "letter", "level", "other", "number"] (defScope st_place_in) = true := by decide +kernel
def cb_want : Ss :=
(.cons (.ite (.not (.var 0))
(.cons .never .nil)
.nil) .nil)
def N_want : List Str := ["holds", "word", "at"]
abbrev st_want : Stmt := top 24
def ft_want : FTab := []
theorem tr_want : trS ⟨ft_want, N_want⟩ 20 f_want.fresh ⟨defScope st_want, none⟩ 8 (defBody st_want) = some cb_want := by kernel_rfl
theorem sc_want : C8.scC N_want ["holds", "word", "at"] (defScope st_want) = true := by decide +kernel
def cb_want_rule : Ss :=
(.cons (.expr (.call f_want_2 (.cons (.call f_is_rule (.cons (.var 0) .nil)) (.cons (.var 1) .nil)))) .nil)
def N_want_rule : List Str := ["thing", "name"]
abbrev st_want_rule : Stmt := top 25
def ft_want_rule : FTab := [("is_rule", 1, f_is_rule), ("want", 2, f_want_2)]
theorem tr_want_rule : trS ⟨ft_want_rule, N_want_rule⟩ 20 f_want_rule.fresh ⟨defScope st_want_rule, none⟩ 8 (defBody st_want_rule) = some cb_want_rule := by kernel_rfl
theorem sc_want_rule : C8.scC N_want_rule ["thing", "name"] (defScope st_want_rule) = true := by decide +kernel
def cb_want_index : Ss :=
(.cons (.expr (.call f_want_2 (.cons (.call f_is_index (.cons (.var 1) (.cons (.var 0) .nil))) (.cons (.var 2) .nil)))) .nil)
def N_want_index : List Str := ["many", "thing", "name"]
abbrev st_want_index : Stmt := top 26
def ft_want_index : FTab := [("is_index", 2, f_is_index), ("want", 2, f_want_2)]
theorem tr_want_index : trS ⟨ft_want_index, N_want_index⟩ 20 f_want_index.fresh ⟨defScope st_want_index, none⟩ 8 (defBody st_want_index) = some cb_want_index := by kernel_rfl
theorem sc_want_index : C8.scC N_want_index ["many", "thing", "name"] (defScope st_want_index) = true := by decide +kernel
def cb_word_after : Ss :=
(.cons (.ret (.bi .tuple (.cons (.comp2 [2, 3] (.one 2) (.seq (.var 1)) .no (.one 3) (.seq (.idx (.var 0) (.var 2))) .no (.var 3)) .nil))) .nil)
def N_word_after : List Str := ["rule", "word", "letter", "late"]
abbrev st_word_after : Stmt := top 28
def ft_word_after : FTab := []
theorem tr_word_after : trS ⟨ft_word_after, N_word_after⟩ 20 f_word_after.fresh ⟨defScope st_word_after, none⟩ 8 (defBody st_word_after) = some cb_word_after := by kernel_rfl
theorem sc_word_after : C8.scC N_word_after ["rule", "word"] (defScope st_word_after) = true := by decide +kernel
def cb_want_block : Ss :=
(.cons (.expr (.call f_want_rule_1 (.cons (.var 0) .nil))) (.cons (.expr (.call f_want_index (.cons (.bi .len (.cons (.var 0) .nil)) (.cons (.var 1) (.cons (.con (.str "letter")) .nil))))) (.cons (.expr (.call f_want_2 (.cons (.call f_is_number (.cons (.var 2) .nil)) (.cons (.con (.str "level")) .nil)))) .nil)))
def N_want_block : List Str := ["rule", "letter", "level"]
abbrev st_want_block : Stmt := top 30
def ft_want_block : FTab := [("is_number", 1, f_is_number), ("want", 2, f_want_2), ("want_index", 3, f_want_index), ("want_rule", 1, f_want_rule_1)]
theorem tr_want_block : trS ⟨ft_want_block, N_want_block⟩ 20 f_want_block.fresh ⟨defScope st_want_block, none⟩ 8 (defBody st_want_block) = some cb_want_block := by kernel_rfl
theorem sc_want_block : C8.scC N_want_block ["rule", "letter", "level"] (defScope st_want_block) = true := by decide +kernel
def cb_block_of : Ss :=
(.cons (.expr (.call f_want_block (.cons (.var 0) (.cons (.var 1) (.cons (.var 2) .nil))))) (.cons (.set 3 (.tup (.cons (.var 1) .nil))) (.cons (.forr (.one 4) (.range1 (.var 2))
(.cons (.set 3 (.call f_word_after (.cons (.var 0) (.cons (.var 3) .nil)))) .nil)) (.cons (.ret (.var 3)) .nil))))
def N_block_of : List Str := ["rule", "letter", "level", "found", "lap"]
abbrev st_block_of : Stmt := top 31
def ft_block_of : FTab := [("want_block", 3, f_want_block), ("word_after", 2, f_word_after)]
theorem tr_block_of : trS ⟨ft_block_of, N_block_of⟩ 20 f_block_of.fresh ⟨defScope st_block_of, none⟩ 8 (defBody st_block_of) = some cb_block_of := by kernel_rfl
theorem sc_block_of : C8.scC N_block_of ["rule", "letter", "level"] (defScope st_block_of) = true := by decide +kernel
def cb_length_of : Ss :=
(.cons (.expr (.call f_want_block (.cons (.var 0) (.cons (.var 1) (.cons (.var 2) .nil))))) (.cons (.ret (.idx (.call f_lengths_by (.cons (.var 0) (.cons (.var 2) .nil))) (.var 1))) .nil))
def N_length_of : List Str := ["rule", "letter", "level"]
abbrev st_length_of : Stmt := top 32
def ft_length_of : FTab := [("lengths_by", 2, f_lengths_by), ("want_block", 3, f_want_block)]
theorem tr_length_of : trS ⟨ft_length_of, N_length_of⟩ 20 f_length_of.fresh ⟨defScope st_length_of, none⟩ 8 (defBody st_length_of) = some cb_length_of := by kernel_rfl
theorem sc_length_of : C8.scC N_length_of ["rule", "letter", "level"] (defScope st_length_of) = true := by decide +kernel
def cb_lengths_of : Ss :=
(.cons (.expr (.call f_want_block (.cons (.var 0) (.cons (.var 1) (.cons (.var 2) .nil))))) (.cons (.ret (.bi .tuple (.cons (.comp [3] (.one 3) (.seq (.call f_lengths_to (.cons (.var 0) (.cons (.var 2) .nil)))) .no (.idx (.var 3) (.var 1))) .nil))) .nil))
def N_lengths_of : List Str := ["rule", "letter", "level", "lengths"]
abbrev st_lengths_of : Stmt := top 33
def ft_lengths_of : FTab := [("lengths_to", 2, f_lengths_to), ("want_block", 3, f_want_block)]
theorem tr_lengths_of : trS ⟨ft_lengths_of, N_lengths_of⟩ 20 f_lengths_of.fresh ⟨defScope st_lengths_of, none⟩ 8 (defBody st_lengths_of) = some cb_lengths_of := by kernel_rfl
theorem sc_lengths_of : C8.scC N_lengths_of ["rule", "letter", "level"] (defScope st_lengths_of) = true := by decide +kernel
def cb_counts_in : Ss :=
(.cons (.expr (.call f_want_block (.cons (.var 0) (.cons (.var 1) (.cons (.var 2) .nil))))) (.cons (.ret (.idx (.call f_counts_by (.cons (.var 0) (.cons (.var 2) .nil))) (.var 1))) .nil))
def N_counts_in : List Str := ["rule", "letter", "level"]
abbrev st_counts_in : Stmt := top 34
def ft_counts_in : FTab := [("counts_by", 2, f_counts_by), ("want_block", 3, f_want_block)]
theorem tr_counts_in : trS ⟨ft_counts_in, N_counts_in⟩ 20 f_counts_in.fresh ⟨defScope st_counts_in, none⟩ 8 (defBody st_counts_in) = some cb_counts_in := by kernel_rfl
theorem sc_counts_in : C8.scC N_counts_in ["rule", "letter", "level"] (defScope st_counts_in) = true := by decide +kernel
def cb_growth_by : Ss :=
(.cons (.ite (.cmp .Lt (.bi .max (.cons (.comp [4] (.one 4) (.seq (.var 0)) .no (.bi .len (.cons (.var 4) .nil))) .nil)) (.con (.int 2)))
(.cons (.ret (.con .none)) .nil)
.nil) (.cons (.set 1 (.bi .len (.cons (.var 0) .nil))) (.cons (.set 2 (.comp [5] (.one 5) (.range1 (.var 1)) .no (.dct (.cons (.var 5) (.cons (.con (.bool true)) .nil))))) (.cons (.forr (.one 3) (.range1 (.bin .Add (.bin .Mult (.var 1) (.var 1)) (.con (.int 1))))
(.cons (.ite (.cmp .Eq (.bi .min (.cons (.comp [6] (.one 6) (.seq (.var 2)) .no (.bi .len (.cons (.var 6) .nil))) .nil)) (.var 1))
(.cons (.ret (.var 3)) .nil)
.nil) (.cons (.set 2 (.comp [4] (.one 4) (.seq (.var 0)) .no (.bi .dict (.cons (.comp2 [5, 7] (.one 5) (.seq (.var 4)) .no (.one 7) (.seq (.idx (.var 2) (.var 5))) .no (.tup (.cons (.var 7) (.cons (.con (.bool true)) .nil)))) .nil)))) .nil))) (.cons (.ret (.con .none)) .nil)))))
def N_growth_by : List Str := ["rule", "many", "sets", "level", "block", "letter", "one", "late"]
abbrev st_growth_by : Stmt := top 36
def ft_growth_by : FTab := []
theorem tr_growth_by : trS ⟨ft_growth_by, N_growth_by⟩ 20 f_growth_by.fresh ⟨defScope st_growth_by, none⟩ 8 (defBody st_growth_by) = some cb_growth_by := by kernel_rfl
theorem sc_growth_by : C8.scC N_growth_by ["rule"] (defScope st_growth_by) = true := by decide +kernel
def cb_want_growing : Ss :=
(.cons (.expr (.call f_want_2 (.cons (.and (.call f_is_rule (.cons (.var 0) .nil)) (.cmp .IsNot (.call f_growth_by (.cons (.var 0) .nil)) (.con .none))) (.cons (.var 1) .nil)))) .nil)
def N_want_growing : List Str := ["thing", "name"]
abbrev st_want_growing : Stmt := top 37
def ft_want_growing : FTab := [("growth_by", 1, f_growth_by), ("is_rule", 1, f_is_rule), ("want", 2, f_want_2)]
theorem tr_want_growing : trS ⟨ft_want_growing, N_want_growing⟩ 20 f_want_growing.fresh ⟨defScope st_want_growing, none⟩ 8 (defBody st_want_growing) = some cb_want_growing := by kernel_rfl
theorem sc_want_growing : C8.scC N_want_growing ["thing", "name"] (defScope st_want_growing) = true := by decide +kernel
def cb_letter_at : Ss :=
(.cons (.expr (.call f_want_block (.cons (.var 0) (.cons (.var 1) (.cons (.var 2) .nil))))) (.cons (.expr (.call f_want_2 (.cons (.call f_is_index (.cons (.var 3) (.cons (.idx (.call f_lengths_by (.cons (.var 0) (.cons (.var 2) .nil))) (.var 1)) .nil))) (.cons (.con (.str "place")) .nil)))) (.cons (.ret (.idx (.call f_way_down (.cons (.var 0) (.cons (.call f_lengths_to (.cons (.var 0) (.cons (.var 2) .nil))) (.cons (.var 1) (.cons (.var 3) .nil))))) (.con (.int 1)))) .nil)))
def N_letter_at : List Str := ["rule", "letter", "level", "place"]
abbrev st_letter_at : Stmt := top 39
def ft_letter_at : FTab := [("is_index", 2, f_is_index), ("lengths_by", 2, f_lengths_by), ("lengths_to", 2, f_lengths_to), ("want", 2, f_want_2), ("want_block", 3, f_want_block), ("way_down", 4, f_way_down)]
theorem tr_letter_at : trS ⟨ft_letter_at, N_letter_at⟩ 20 f_letter_at.fresh ⟨defScope st_letter_at, none⟩ 8 (defBody st_letter_at) = some cb_letter_at := by kernel_rfl
theorem sc_letter_at : C8.scC N_letter_at ["rule", "letter", "level", "place"] (defScope st_letter_at) = true := by decide +kernel
def cb_word_at : Ss :=
(.cons (.expr (.call f_want_block (.cons (.var 0) (.cons (.var 1) (.cons (.var 2) .nil))))) (.cons (.set 5 (.idx (.call f_lengths_by (.cons (.var 0) (.cons (.var 2) .nil))) (.var 1))) (.cons (.expr (.call f_want_2 (.cons (.and (.call f_is_number (.cons (.var 3) .nil)) (.cmp .LtE (.var 3) (.var 5))) (.cons (.con (.str "place")) .nil)))) (.cons (.expr (.call f_want_2 (.cons (.and (.call f_is_number (.cons (.var 4) .nil)) (.cmp .LtE (.bin .Add (.var 3) (.var 4)) (.var 5))) (.cons (.con (.str "length")) .nil)))) (.cons (.ret (.call f_word_in (.cons (.var 0) (.cons (.var 1) (.cons (.var 2) (.cons (.var 3) (.cons (.var 4) .nil))))))) .nil)))))
def N_word_at : List Str := ["rule", "letter", "level", "place", "length", "whole"]
abbrev st_word_at : Stmt := top 40
def ft_word_at : FTab := [("is_number", 1, f_is_number), ("lengths_by", 2, f_lengths_by), ("want", 2, f_want_2), ("want_block", 3, f_want_block), ("word_in", 5, f_word_in)]
theorem tr_word_at : trS ⟨ft_word_at, N_word_at⟩ 20 f_word_at.fresh ⟨defScope st_word_at, none⟩ 8 (defBody st_word_at) = some cb_word_at := by kernel_rfl
theorem sc_word_at : C8.scC N_word_at ["rule", "letter", "level", "place", "length"] (defScope st_word_at) = true := by decide +kernel
def cb_count_before : Ss :=
(.cons (.expr (.call f_want_block (.cons (.var 0) (.cons (.var 1) (.cons (.var 2) .nil))))) (.cons (.expr (.call f_want_2 (.cons (.and (.call f_is_number (.cons (.var 3) .nil)) (.cmp .LtE (.var 3) (.idx (.call f_lengths_by (.cons (.var 0) (.cons (.var 2) .nil))) (.var 1)))) (.cons (.con (.str "place")) .nil)))) (.cons (.expr (.call f_want_index (.cons (.bi .len (.cons (.var 0) .nil)) (.cons (.var 4) (.cons (.con (.str "other")) .nil))))) (.cons (.ret (.call f_ahead_in (.cons (.var 0) (.cons (.var 1) (.cons (.var 2) (.cons (.var 3) (.cons (.var 4) .nil))))))) .nil))))
def N_count_before : List Str := ["rule", "letter", "level", "place", "other"]
abbrev st_count_before : Stmt := top 41
def ft_count_before : FTab := [("ahead_in", 5, f_ahead_in), ("is_number", 1, f_is_number), ("lengths_by", 2, f_lengths_by), ("want", 2, f_want_2), ("want_block", 3, f_want_block), ("want_index", 3, f_want_index)]
theorem tr_count_before : trS ⟨ft_count_before, N_count_before⟩ 20 f_count_before.fresh ⟨defScope st_count_before, none⟩ 8 (defBody st_count_before) = some cb_count_before := by kernel_rfl
theorem sc_count_before : C8.scC N_count_before ["rule", "letter", "level", "place", "other"] (defScope st_count_before) = true := by decide +kernel
def cb_place_of : Ss :=
(.cons (.expr (.call f_want_block (.cons (.var 0) (.cons (.var 1) (.cons (.var 2) .nil))))) (.cons (.expr (.call f_want_index (.cons (.bi .len (.cons (.var 0) .nil)) (.cons (.var 3) (.cons (.con (.str "other")) .nil))))) (.cons (.expr (.call f_want_2 (.cons (.call f_is_number (.cons (.var 4) .nil)) (.cons (.con (.str "index")) .nil)))) (.cons (.ret (.call f_place_in (.cons (.var 0) (.cons (.var 1) (.cons (.var 2) (.cons (.var 3) (.cons (.var 4) .nil))))))) .nil))))
def N_place_of : List Str := ["rule", "letter", "level", "other", "index"]
abbrev st_place_of : Stmt := top 42
def ft_place_of : FTab := [("is_number", 1, f_is_number), ("place_in", 5, f_place_in), ("want", 2, f_want_2), ("want_block", 3, f_want_block), ("want_index", 3, f_want_index)]
theorem tr_place_of : trS ⟨ft_place_of, N_place_of⟩ 20 f_place_of.fresh ⟨defScope st_place_of, none⟩ 8 (defBody st_place_of) = some cb_place_of := by kernel_rfl
theorem sc_place_of : C8.scC N_place_of ["rule", "letter", "level", "other", "index"] (defScope st_place_of) = true := by decide +kernel
def cb_path_to : Ss :=
(.cons (.expr (.call f_want_block (.cons (.var 0) (.cons (.var 1) (.cons (.var 2) .nil))))) (.cons (.expr (.call f_want_2 (.cons (.call f_is_index (.cons (.var 3) (.cons (.idx (.call f_lengths_by (.cons (.var 0) (.cons (.var 2) .nil))) (.var 1)) .nil))) (.cons (.con (.str "place")) .nil)))) (.cons (.ret (.idx (.call f_way_down (.cons (.var 0) (.cons (.call f_lengths_to (.cons (.var 0) (.cons (.var 2) .nil))) (.cons (.var 1) (.cons (.var 3) .nil))))) (.con (.int 0)))) .nil)))
def N_path_to : List Str := ["rule", "letter", "level", "place"]
abbrev st_path_to : Stmt := top 43
def ft_path_to : FTab := [("is_index", 2, f_is_index), ("lengths_by", 2, f_lengths_by), ("lengths_to", 2, f_lengths_to), ("want", 2, f_want_2), ("want_block", 3, f_want_block), ("way_down", 4, f_way_down)]
theorem tr_path_to : trS ⟨ft_path_to, N_path_to⟩ 20 f_path_to.fresh ⟨defScope st_path_to, none⟩ 8 (defBody st_path_to) = some cb_path_to := by kernel_rfl
theorem sc_path_to : C8.scC N_path_to ["rule", "letter", "level", "place"] (defScope st_path_to) = true := by decide +kernel
def cb_place_by : Ss :=
(.cons (.expr (.call f_want_rule_1 (.cons (.var 0) .nil))) (.cons (.expr (.call f_want_index (.cons (.bi .len (.cons (.var 0) .nil)) (.cons (.var 1) (.cons (.con (.str "letter")) .nil))))) (.cons (.expr (.call f_want_2 (.cons (.isT "tuple" (.var 2)) (.cons (.con (.str "path")) .nil)))) (.cons (.par [3, 4, 5] (.cons (.call f_lengths_to (.cons (.var 0) (.cons (.bi .len (.cons (.var 2) .nil)) .nil))) (.cons (.con (.int 0)) (.cons (.var 1) .nil)))) (.cons (.forr (.many [6, 7]) (.enum (.var 2))
(.cons (.expr (.call f_want_2 (.cons (.call f_is_index (.cons (.var 7) (.cons (.bi .len (.cons (.idx (.var 0) (.var 5)) .nil)) .nil))) (.cons (.con (.str "path")) .nil)))) (.cons (.set 4 (.bin .Add (.var 4) (.bi .sum (.cons (.comp [8] (.one 8) (.seq (.sli (.idx (.var 0) (.var 5)) .no (.one (.var 7)))) .no (.idx (.idx (.var 3) (.bin .Sub (.bin .Sub (.bi .len (.cons (.var 2) .nil)) (.con (.int 1))) (.var 6))) (.var 8))) .nil)))) (.cons (.set 5 (.idx (.idx (.var 0) (.var 5)) (.var 7))) .nil)))) (.cons (.ret (.var 4)) .nil))))))
def N_place_by : List Str := ["rule", "letter", "path", "lengths", "found", "here", "k", "index", "late"]
abbrev st_place_by : Stmt := top 44
def ft_place_by : FTab := [("is_index", 2, f_is_index), ("lengths_to", 2, f_lengths_to), ("want", 2, f_want_2), ("want_index", 3, f_want_index), ("want_rule", 1, f_want_rule_1)]
theorem tr_place_by : trS ⟨ft_place_by, N_place_by⟩ 20 f_place_by.fresh ⟨defScope st_place_by, none⟩ 8 (defBody st_place_by) = some cb_place_by := by kernel_rfl
theorem sc_place_by : C8.scC N_place_by ["rule", "letter", "path"] (defScope st_place_by) = true := by decide +kernel
def cb_first_again : Ss :=
(.cons (.set 2 (.var 1)) (.cons (.forr (.one 3) (.range2 (.con (.int 1)) (.bin .Add (.bi .len (.cons (.var 0) .nil)) (.con (.int 1))))
(.cons (.set 2 (.idx (.idx (.var 0) (.var 2)) (.con (.int 0)))) (.cons (.ite (.cmp .Eq (.var 2) (.var 1))
(.cons (.ret (.var 3)) .nil)
.nil) .nil))) (.cons (.ret (.con .none)) .nil)))
def N_first_again : List Str := ["rule", "letter", "here", "level"]
abbrev st_first_again : Stmt := top 45
def ft_first_again : FTab := []
theorem tr_first_again : trS ⟨ft_first_again, N_first_again⟩ 20 f_first_again.fresh ⟨defScope st_first_again, none⟩ 8 (defBody st_first_again) = some cb_first_again := by kernel_rfl
theorem sc_first_again : C8.scC N_first_again ["rule", "letter"] (defScope st_first_again) = true := by decide +kernel
def cb_seeds : Ss :=
(.cons (.expr (.call f_want_rule_1 (.cons (.var 0) .nil))) (.cons (.set 1 (.comp [2] (.one 2) (.range1 (.bi .len (.cons (.var 0) .nil))) .no (.tup (.cons (.var 2) (.cons (.call f_first_again (.cons (.var 0) (.cons (.var 2) .nil))) .nil))))) (.cons (.ret (.bi .tuple (.cons (.comp [3] (.one 3) (.seq (.var 1)) (.one (.cmp .IsNot (.idx (.var 3) (.con (.int 1))) (.con .none))) (.var 3)) .nil))) .nil)))
def N_seeds : List Str := ["rule", "some", "letter", "pair"]
abbrev st_seeds : Stmt := top 46
def ft_seeds : FTab := [("first_again", 2, f_first_again), ("want_rule", 1, f_want_rule_1)]
theorem tr_seeds : trS ⟨ft_seeds, N_seeds⟩ 20 f_seeds.fresh ⟨defScope st_seeds, none⟩ 8 (defBody st_seeds) = some cb_seeds := by kernel_rfl
theorem sc_seeds : C8.scC N_seeds ["rule"] (defScope st_seeds) = true := by decide +kernel
def cb_level_holding : Ss :=
(.cons (.expr (.call f_want_growing_1 (.cons (.var 0) .nil))) (.cons (.expr (.call f_want_index (.cons (.bi .len (.cons (.var 0) .nil)) (.cons (.var 1) (.cons (.con (.str "letter")) .nil))))) (.cons (.expr (.call f_want_2 (.cons (.call f_is_number (.cons (.var 2) .nil)) (.cons (.con (.str "place")) .nil)))) (.cons (.par [3, 4] (.cons (.bi .tuple (.cons (.comp [5] (.one 5) (.seq (.var 0)) .no (.con (.int 1))) .nil)) (.cons (.con (.int 0)) .nil))) (.cons (.whl (.cmp .LtE (.idx (.var 3) (.var 1)) (.var 2))
(.cons (.set 3 (.bi .tuple (.cons (.comp [5] (.one 5) (.seq (.var 0)) .no (.bi .sum (.cons (.comp [6] (.one 6) (.seq (.var 5)) .no (.idx (.var 3) (.var 6))) .nil))) .nil))) (.cons (.set 4 (.bin .Add (.var 4) (.con (.int 1)))) .nil))) (.cons (.ret (.var 4)) .nil))))))
def N_level_holding : List Str := ["rule", "letter", "place", "lengths", "level", "letters", "late"]
abbrev st_level_holding : Stmt := top 47
def ft_level_holding : FTab := [("is_number", 1, f_is_number), ("want", 2, f_want_2), ("want_growing", 1, f_want_growing_1), ("want_index", 3, f_want_index)]
theorem tr_level_holding : trS ⟨ft_level_holding, N_level_holding⟩ 20 f_level_holding.fresh ⟨defScope st_level_holding, none⟩ 8 (defBody st_level_holding) = some cb_level_holding := by kernel_rfl
theorem sc_level_holding : C8.scC N_level_holding ["rule", "letter", "place"] (defScope st_level_holding) = true := by decide +kernel
def cb_law_draw : Ss :=
(.cons (.setIdx 0 (.con (.int 3)) (.bin .Add (.idx (.var 0) (.con (.int 3))) (.con (.int 1)))) (.cons (.ite (.cmp .Gt (.idx (.var 0) (.con (.int 2))) (.con (.int 0)))
(.cons (.set 2 (.bin .Mod (.bi .int (.cons (.idx (.var 0) (.con (.int 2))) .nil)) (.var 1))) (.cons (.setIdx 0 (.con (.int 2)) (.bin .FloorDiv (.idx (.var 0) (.con (.int 2))) (.var 1))) (.cons (.ret (.var 2)) .nil)))
.nil) (.cons (.set 3 (.idx (.var 0) (.con (.int 1)))) (.cons (.setIdx 0 (.con (.int 1)) (.bin .Add (.var 3) (.con (.int 1)))) (.cons (.set 4 (.ite (.cmp .NotEq (.idx (.var 0) (.con (.int 0))) (.lst .nil)) (.idx (.idx (.var 0) (.con (.int 0))) (.bin .Mod (.bi .int (.cons (.var 3) .nil)) (.bi .len (.cons (.idx (.var 0) (.con (.int 0))) .nil)))) (.con (.int 349)))) (.cons (.ite (.and (.cmp .GtE (.var 4) (.bin .Pow (.con (.int 10)) (.con (.int 18)))) (.cmp .Lt (.var 3) (.bi .len (.cons (.idx (.var 0) (.con (.int 0))) .nil))))
(.cons (.setIdx 0 (.con (.int 2)) (.bin .FloorDiv (.var 4) (.var 1))) (.cons (.ret (.bin .Mod (.bi .int (.cons (.var 4) .nil)) (.var 1))) .nil))
.nil) (.cons (.set 5 (.bin .Mod (.bi .int (.cons (.bin .Pow (.bin .Add (.bin .Add (.bin .Mod (.bi .int (.cons (.var 4) .nil)) (.con (.int 1999988467))) (.bin .Mult (.con (.int 32203)) (.idx (.var 0) (.con (.int 3))))) (.con (.int 43))) (.con (.int 3))) .nil)) (.con (.int 2147473939)))) (.cons (.set 5 (.bin .Mod (.bi .int (.cons (.bin .Pow (.bin .Add (.bin .Add (.var 5) (.bin .Mult (.bin .Mult (.con (.int 32225)) (.idx (.var 0) (.con (.int 3)))) (.idx (.var 0) (.con (.int 3))))) (.con (.int 77))) (.con (.int 5))) .nil)) (.con (.int 2147473881)))) (.cons (.ret (.bin .Mod (.bi .int (.cons (.bin .FloorDiv (.var 5) (.con (.int 64))) .nil)) (.var 1))) .nil)))))))))
def N_law_draw : List Str := ["_law_feed", "_law_size", "_law_found_here", "_law_spot", "_law_cell", "_law_mixed"]
abbrev st_law_draw : Stmt := top 50
def ft_law_draw : FTab := []
theorem tr_law_draw : trS ⟨ft_law_draw, N_law_draw⟩ 20 f_law_draw.fresh ⟨defScope st_law_draw, none⟩ 8 (defBody st_law_draw) = some cb_law_draw := by kernel_rfl
theorem sc_law_draw : C8.scC N_law_draw ["_law_feed", "_law_size"] (defScope st_law_draw) = true := by decide +kernel
def cb_law_pick : Ss :=
(.cons (.ret (.idx (.var 1) (.call f_law_draw (.cons (.var 0) (.cons (.bi .len (.cons (.var 1) .nil)) .nil))))) .nil)
def N_law_pick : List Str := ["_law_feed", "_law_some"]
abbrev st_law_pick : Stmt := top 51
def ft_law_pick : FTab := [("_law_draw", 2, f_law_draw)]
theorem tr_law_pick : trS ⟨ft_law_pick, N_law_pick⟩ 20 f_law_pick.fresh ⟨defScope st_law_pick, none⟩ 8 (defBody st_law_pick) = some cb_law_pick := by kernel_rfl
theorem sc_law_pick : C8.scC N_law_pick ["_law_feed", "_law_some"] (defScope st_law_pick) = true := by decide +kernel
def cb_law_same : Ss :=
(.cons (.ret (.cmp .Eq (.bi .repr (.cons (.var 0) .nil)) (.bi .repr (.cons (.var 1) .nil)))) .nil)
def N_law_same : List Str := ["_law_told", "_law_due"]
abbrev st_law_same : Stmt := top 52
def ft_law_same : FTab := []
theorem tr_law_same : trS ⟨ft_law_same, N_law_same⟩ 20 f_law_same.fresh ⟨defScope st_law_same, none⟩ 8 (defBody st_law_same) = some cb_law_same := by kernel_rfl
theorem sc_law_same : C8.scC N_law_same ["_law_told", "_law_due"] (defScope st_law_same) = true := by decide +kernel
def cb_law_becomes : Ss :=
(.cons (.set 2 (.lst .nil)) (.cons (.forr (.one 3) (.seq (.var 1))
(.cons (.extend 2 (.idx (.var 0) (.var 3))) .nil)) (.cons (.ret (.bi .tuple (.cons (.var 2) .nil))) .nil)))
def N_law_becomes : List Str := ["_law_world", "_law_word", "_law_found_here", "_law_a"]
abbrev st_law_becomes : Stmt := top 53
def ft_law_becomes : FTab := []
theorem tr_law_becomes : trS ⟨ft_law_becomes, N_law_becomes⟩ 20 f_law_becomes.fresh ⟨defScope st_law_becomes, none⟩ 8 (defBody st_law_becomes) = some cb_law_becomes := by kernel_rfl
theorem sc_law_becomes : C8.scC N_law_becomes ["_law_world", "_law_word"] (defScope st_law_becomes) = true := by decide +kernel
def cb_law_does_grow : Ss :=
(.cons (.ite (.cmp .Lt (.bi .max (.cons (.comp [5] (.one 5) (.seq (.var 0)) .no (.bi .len (.cons (.var 5) .nil))) .nil)) (.con (.int 2)))
(.cons (.ret (.con .none)) .nil)
.nil) (.cons (.set 1 (.comp [6] (.one 6) (.range1 (.bi .len (.cons (.var 0) .nil))) .no (.tup (.cons (.var 6) .nil)))) (.cons (.forr (.one 2) (.range1 (.con (.int 16)))
(.cons (.ite (.cmp .Eq (.comp [4] (.one 4) (.seq (.var 1)) (.one (.cmp .Lt (.bi .len (.cons (.var 4) .nil)) (.bi .len (.cons (.var 0) .nil)))) (.con (.int 1))) (.lst .nil))
(.cons (.ret (.var 2)) .nil)
.nil) (.cons (.set 3 (.lst .nil)) (.cons (.forr (.one 4) (.seq (.var 1))
(.cons (.append 3 (.bi .tuple (.cons (.bi .sortedSet (.cons (.call f_law_becomes (.cons (.var 0) (.cons (.var 4) .nil))) .nil)) .nil))) .nil)) (.cons (.set 1 (.bi .list (.cons (.var 3) .nil))) .nil))))) (.cons (.ret (.con .none)) .nil))))
def N_law_does_grow : List Str := ["_law_world", "_law_sets", "_law_level", "_law_late", "_law_one", "_law_block", "_law_a"]
abbrev st_law_does_grow : Stmt := top 54
def ft_law_does_grow : FTab := [("_law_becomes", 2, f_law_becomes)]
theorem tr_law_does_grow : trS ⟨ft_law_does_grow, N_law_does_grow⟩ 20 f_law_does_grow.fresh ⟨defScope st_law_does_grow, none⟩ 8 (defBody st_law_does_grow) = some cb_law_does_grow := by kernel_rfl
theorem sc_law_does_grow : C8.scC N_law_does_grow ["_law_world"] (defScope st_law_does_grow) = true := by decide +kernel
def cb_law_grown : Ss :=
(.cons (.set 1 (.lst (.cons (.tup (.cons (.tup (.cons (.con (.int 0)) (.cons (.con (.int 1)) .nil))) (.cons (.tup (.cons (.con (.int 1)) (.cons (.con (.int 0)) .nil))) .nil))) (.cons (.tup (.cons (.tup (.cons (.con (.int 0)) (.cons (.con (.int 1)) .nil))) (.cons (.tup (.cons (.con (.int 0)) .nil)) .nil))) (.cons (.tup (.cons (.tup (.cons (.con (.int 0)) (.cons (.con (.int 1)) .nil))) (.cons (.tup (.cons (.con (.int 0)) (.cons (.con (.int 0)) .nil))) .nil))) (.cons (.tup (.cons (.tup (.cons (.con (.int 0)) (.cons (.con (.int 1)) .nil))) (.cons (.tup (.cons (.con (.int 1)) (.cons (.con (.int 2)) .nil))) (.cons (.tup (.cons (.con (.int 2)) (.cons (.con (.int 0)) .nil))) .nil)))) (.cons (.tup (.cons (.tup (.cons (.con (.int 0)) (.cons (.con (.int 1)) (.cons (.con (.int 0)) .nil)))) (.cons (.tup (.cons (.con (.int 1)) (.cons (.con (.int 0)) (.cons (.con (.int 1)) .nil)))) .nil))) .nil))))))) (.cons (.set 1 (.cat (.var 1) (.lst (.cons (.tup (.cons (.tup (.cons (.con (.int 0)) (.cons (.con (.int 1)) .nil))) (.cons (.tup (.cons (.con (.int 0)) (.cons (.con (.int 2)) .nil))) (.cons (.tup (.cons (.con (.int 0)) .nil)) .nil)))) (.cons (.tup (.cons (.tup (.cons (.con (.int 1)) (.cons (.con (.int 0)) .nil))) (.cons (.tup (.cons (.con (.int 0)) (.cons (.con (.int 1)) .nil))) .nil))) (.cons (.tup (.cons (.tup (.cons (.con (.int 0)) (.cons (.con (.int 1)) (.cons (.con (.int 2)) .nil)))) (.cons (.tup (.cons (.con (.int 0)) (.cons (.con (.int 2)) .nil))) (.cons (.tup (.cons (.con (.int 1)) .nil)) .nil)))) (.cons (.tup (.cons (.tup (.cons (.con (.int 0)) (.cons (.con (.int 0)) (.cons (.con (.int 1)) .nil)))) (.cons (.tup (.cons (.con (.int 0)) (.cons (.con (.int 2)) .nil))) (.cons (.tup (.cons (.con (.int 1)) (.cons (.con (.int 0)) .nil))) .nil)))) .nil))))))) (.cons (.ite (.cmp .Eq (.call f_law_draw (.cons (.var 0) (.cons (.con (.int 2)) .nil))) (.con (.int 0)))
(.cons (.ret (.call f_law_pick (.cons (.var 0) (.cons (.var 1) .nil)))) .nil)
.nil) (.cons (.forr (.one 2) (.range1 (.con (.int 4)))
(.cons (.set 3 (.bin .Add (.con (.int 2)) (.bi .int (.cons (.cmp .Eq (.call f_law_draw (.cons (.var 0) (.cons (.con (.int 3)) .nil))) (.con (.int 0))) .nil)))) (.cons (.set 4 (.lst .nil)) (.cons (.forr (.one 5) (.range1 (.var 3))
(.cons (.append 4 (.bi .tuple (.cons (.comp [6] (.one 6) (.range1 (.bin .Add (.con (.int 1)) (.call f_law_draw (.cons (.var 0) (.cons (.con (.int 3)) .nil))))) .no (.call f_law_draw (.cons (.var 0) (.cons (.var 3) .nil)))) .nil))) .nil)) (.cons (.ite (.cmp .IsNot (.call f_law_does_grow (.cons (.var 4) .nil)) (.con .none))
(.cons (.ret (.bi .tuple (.cons (.var 4) .nil))) .nil)
.nil) .nil))))) (.cons (.ret (.call f_law_pick (.cons (.var 0) (.cons (.var 1) .nil)))) .nil)))))
def N_law_grown : List Str := ["_law_feed", "_law_told", "_law_lap", "_law_size", "_law_some", "_law_a", "_law_k"]
abbrev st_law_grown : Stmt := top 55
def ft_law_grown : FTab := [("_law_does_grow", 1, f_law_does_grow), ("_law_draw", 2, f_law_draw), ("_law_pick", 2, f_law_pick)]
theorem tr_law_grown : trS ⟨ft_law_grown, N_law_grown⟩ 20 f_law_grown.fresh ⟨defScope st_law_grown, none⟩ 8 (defBody st_law_grown) = some cb_law_grown := by kernel_rfl
theorem sc_law_grown : C8.scC N_law_grown ["_law_feed"] (defScope st_law_grown) = true := by decide +kernel
def cb_law_any_rule : Ss :=
(.cons (.ite (.cmp .Gt (.call f_law_draw (.cons (.var 0) (.cons (.con (.int 3)) .nil))) (.con (.int 0)))
(.cons (.ret (.call f_law_grown (.cons (.var 0) .nil))) .nil)
.nil) (.cons (.set 1 (.bin .Add (.con (.int 1)) (.call f_law_draw (.cons (.var 0) (.cons (.con (.int 4)) .nil))))) (.cons (.set 2 (.lst .nil)) (.cons (.forr (.one 3) (.range1 (.var 1))
(.cons (.append 2 (.bi .tuple (.cons (.comp [4] (.one 4) (.range1 (.bin .Add (.con (.int 1)) (.call f_law_draw (.cons (.var 0) (.cons (.con (.int 4)) .nil))))) .no (.call f_law_draw (.cons (.var 0) (.cons (.var 1) .nil)))) .nil))) .nil)) (.cons (.ret (.bi .tuple (.cons (.var 2) .nil))) .nil)))))
def N_law_any_rule : List Str := ["_law_feed", "_law_size", "_law_some", "_law_a", "_law_k"]
abbrev st_law_any_rule : Stmt := top 56
def ft_law_any_rule : FTab := [("_law_draw", 2, f_law_draw), ("_law_grown", 1, f_law_grown)]
theorem tr_law_any_rule : trS ⟨ft_law_any_rule, N_law_any_rule⟩ 20 f_law_any_rule.fresh ⟨defScope st_law_any_rule, none⟩ 8 (defBody st_law_any_rule) = some cb_law_any_rule := by kernel_rfl
theorem sc_law_any_rule : C8.scC N_law_any_rule ["_law_feed"] (defScope st_law_any_rule) = true := by decide +kernel
def cb_law_far : Ss :=
(.cons (.ite (.cmp .Eq (.call f_law_draw (.cons (.var 0) (.cons (.con (.int 4)) .nil))) (.con (.int 0)))
(.cons (.ret (.call f_law_draw (.cons (.var 0) (.cons (.bi .min (.cons (.lst (.cons (.var 1) (.cons (.con (.int 50)) .nil))) .nil)) .nil)))) .nil)
.nil) (.cons (.set 2 (.con (.int 0))) (.cons (.forr (.one 3) (.range1 (.con (.int 11)))
(.cons (.set 2 (.bin .Add (.bin .Mult (.var 2) (.bin .Pow (.con (.int 10)) (.con (.int 6)))) (.call f_law_draw (.cons (.var 0) (.cons (.bin .Pow (.con (.int 10)) (.con (.int 6))) .nil))))) .nil)) (.cons (.ret (.bin .Mod (.bi .int (.cons (.var 2) .nil)) (.var 1))) .nil))))
def N_law_far : List Str := ["_law_feed", "_law_most", "_law_found_here", "_law_lap"]
abbrev st_law_far : Stmt := top 57
def ft_law_far : FTab := [("_law_draw", 2, f_law_draw)]
theorem tr_law_far : trS ⟨ft_law_far, N_law_far⟩ 20 f_law_far.fresh ⟨defScope st_law_far, none⟩ 8 (defBody st_law_far) = some cb_law_far := by kernel_rfl
theorem sc_law_far : C8.scC N_law_far ["_law_feed", "_law_most"] (defScope st_law_far) = true := by decide +kernel
def cb_law_sums : Ss :=
(.cons (.set 2 (.bi .len (.cons (.var 0) .nil))) (.cons (.set 3 (.lst (.cons (.comp [7] (.one 7) (.range1 (.var 2)) .no (.comp [8] (.one 8) (.range1 (.var 2)) .no (.bi .int (.cons (.cmp .Eq (.var 7) (.var 8)) .nil)))) .nil))) (.cons (.forr (.one 4) (.range1 (.var 1))
(.cons (.set 5 (.lst .nil)) (.cons (.forr (.one 6) (.seq (.var 0))
(.cons (.append 5 (.comp [8] (.one 8) (.range1 (.var 2)) .no (.bi .sum (.cons (.comp [9] (.one 9) (.seq (.var 6)) .no (.idx (.idx (.idx (.var 3) (.neg (.con (.int 1)))) (.var 9)) (.var 8))) .nil)))) .nil)) (.cons (.append 3 (.var 5)) .nil)))) (.cons (.ret (.var 3)) .nil))))
def N_law_sums : List Str := ["_law_world", "_law_level", "_law_size", "_law_rows", "_law_lap", "_law_late", "_law_block", "_law_a", "_law_b", "_law_c"]
abbrev st_law_sums : Stmt := top 58
def ft_law_sums : FTab := []
theorem tr_law_sums : trS ⟨ft_law_sums, N_law_sums⟩ 20 f_law_sums.fresh ⟨defScope st_law_sums, none⟩ 8 (defBody st_law_sums) = some cb_law_sums := by kernel_rfl
theorem sc_law_sums : C8.scC N_law_sums ["_law_world", "_law_level"] (defScope st_law_sums) = true := by decide +kernel
def cb_law_down : Ss :=
(.cons (.par [5, 6, 7, 8] (.cons (.lst .nil) (.cons (.rep (.lst (.cons (.con (.int 0)) .nil)) (.bi .len (.cons (.var 0) .nil))) (.cons (.var 2) (.cons (.var 4) .nil))))) (.cons (.forr (.one 9) (.range1 (.var 3))
(.cons (.par [10, 11] (.cons (.idx (.var 1) (.bin .Sub (.bin .Sub (.var 3) (.var 9)) (.con (.int 1)))) (.cons (.con (.int 0)) .nil))) (.cons (.whl (.cmp .GtE (.var 8) (.bi .sum (.cons (.idx (.var 10) (.idx (.idx (.var 0) (.var 7)) (.var 11))) .nil)))
(.cons (.set 8 (.bin .Sub (.var 8) (.bi .sum (.cons (.idx (.var 10) (.idx (.idx (.var 0) (.var 7)) (.var 11))) .nil)))) (.cons (.set 6 (.comp [12, 13] (.many [12, 13]) (.zip (.var 6) (.idx (.var 10) (.idx (.idx (.var 0) (.var 7)) (.var 11)))) .no (.bin .Add (.var 12) (.var 13)))) (.cons (.set 11 (.bin .Add (.var 11) (.con (.int 1)))) .nil)))) (.cons (.append 5 (.var 11)) (.cons (.set 7 (.idx (.idx (.var 0) (.var 7)) (.var 11))) .nil))))) (.cons (.ret (.tup (.cons (.bi .tuple (.cons (.var 5) .nil)) (.cons (.var 6) (.cons (.var 7) .nil))))) .nil)))
def N_law_down : List Str := ["_law_world", "_law_rows", "_law_letter", "_law_level", "_law_place", "_law_path", "_law_ahead", "_law_here", "_law_left", "_law_lap", "_law_counts", "_law_k", "_law_x", "_law_y"]
abbrev st_law_down : Stmt := top 59
def ft_law_down : FTab := []
theorem tr_law_down : trS ⟨ft_law_down, N_law_down⟩ 20 f_law_down.fresh ⟨defScope st_law_down, none⟩ 8 (defBody st_law_down) = some cb_law_down := by kernel_rfl
theorem sc_law_down : C8.scC N_law_down ["_law_world", "_law_rows", "_law_letter", "_law_level", "_law_place"] (defScope st_law_down) = true := by decide +kernel
def cb_law_found : Ss :=
(.cons (.ite (.cmp .LtE (.idx (.idx (.idx (.var 1) (.var 3)) (.var 2)) (.var 4)) (.var 5))
(.cons (.ret (.con .none)) .nil)
.nil) (.cons (.par [6, 7, 8] (.cons (.con (.int 0)) (.cons (.var 2) (.cons (.var 5) .nil)))) (.cons (.forr (.one 9) (.range1 (.var 3))
(.cons (.par [10, 11] (.cons (.idx (.var 1) (.bin .Sub (.bin .Sub (.var 3) (.var 9)) (.con (.int 1)))) (.cons (.con (.int 0)) .nil))) (.cons (.whl (.cmp .GtE (.var 8) (.idx (.idx (.var 10) (.idx (.idx (.var 0) (.var 7)) (.var 11))) (.var 4)))
(.cons (.set 12 (.idx (.var 10) (.idx (.idx (.var 0) (.var 7)) (.var 11)))) (.cons (.par [8, 6, 11] (.cons (.bin .Sub (.var 8) (.idx (.var 12) (.var 4))) (.cons (.bin .Add (.var 6) (.bi .sum (.cons (.var 12) .nil))) (.cons (.bin .Add (.var 11) (.con (.int 1))) .nil)))) .nil))) (.cons (.set 7 (.idx (.idx (.var 0) (.var 7)) (.var 11))) .nil)))) (.cons (.ret (.var 6)) .nil))))
def N_law_found : List Str := ["_law_world", "_law_rows", "_law_letter", "_law_level", "_law_goal", "_law_index", "_law_place", "_law_here", "_law_left", "_law_lap", "_law_counts", "_law_k", "_law_some"]
abbrev st_law_found : Stmt := top 60
def ft_law_found : FTab := []
theorem tr_law_found : trS ⟨ft_law_found, N_law_found⟩ 20 f_law_found.fresh ⟨defScope st_law_found, none⟩ 8 (defBody st_law_found) = some cb_law_found := by kernel_rfl
theorem sc_law_found : C8.scC N_law_found ["_law_world", "_law_rows", "_law_letter", "_law_level", "_law_goal", "_law_index"] (defScope st_law_found) = true := by decide +kernel
def cb_law_halves_right : Ss :=
(.cons (.set 6 (.bin .FloorDiv (.var 3) (.con (.int 2)))) (.cons (.set 7 (.call f_path_to (.cons (.var 0) (.cons (.var 2) (.cons (.var 3) (.cons (.var 4) .nil)))))) (.cons (.par [8, 9] (.cons (.sli (.var 7) .no (.one (.bin .Sub (.var 3) (.var 6)))) (.cons (.sli (.var 7) (.one (.bin .Sub (.var 3) (.var 6))) .no) .nil))) (.cons (.par [10, 11] (.cons (.call f_place_by (.cons (.var 0) (.cons (.var 2) (.cons (.var 8) .nil)))) (.cons (.var 4) .nil))) (.cons (.forr (.one 12) (.range1 (.bi .len (.cons (.var 8) .nil)))
(.cons (.set 13 (.idx (.var 1) (.bin .Sub (.bin .Sub (.var 3) (.var 12)) (.con (.int 1))))) (.cons (.set 14 (.ite (.cmp .Eq (.var 12) (.con (.int 0))) (.var 2) (.idx (.idx (.var 0) (.var 14)) (.idx (.var 8) (.bin .Sub (.var 12) (.con (.int 1))))))) (.cons (.set 11 (.bin .Sub (.var 11) (.bi .sum (.cons (.comp [16] (.one 16) (.range1 (.idx (.var 8) (.var 12))) .no (.bi .sum (.cons (.idx (.var 13) (.idx (.idx (.var 0) (.var 14)) (.var 16))) .nil))) .nil)))) .nil)))) (.cons (.set 15 (.call f_letter_at (.cons (.var 0) (.cons (.var 2) (.cons (.bin .Sub (.var 3) (.var 6)) (.cons (.var 10) .nil)))))) (.cons (.ret (.and (.cmp .Eq (.call f_letter_at (.cons (.var 0) (.cons (.var 15) (.cons (.var 6) (.cons (.var 11) .nil))))) (.var 5)) (.cmp .Eq (.call f_path_to (.cons (.var 0) (.cons (.var 15) (.cons (.var 6) (.cons (.var 11) .nil))))) (.var 9)))) .nil)))))))
def N_law_halves_right : List Str := ["_law_world", "_law_rows", "_law_letter", "_law_level", "_law_place", "_law_here", "_law_half", "_law_path", "_law_lead", "_law_tail", "_law_near", "_law_left", "_law_lap", "_law_counts", "_law_spot", "_law_middle", "_law_k"]
abbrev st_law_halves_right : Stmt := top 61
def ft_law_halves_right : FTab := [("letter_at", 4, f_letter_at), ("path_to", 4, f_path_to), ("place_by", 3, f_place_by)]
theorem tr_law_halves_right : trS ⟨ft_law_halves_right, N_law_halves_right⟩ 20 f_law_halves_right.fresh ⟨defScope st_law_halves_right, none⟩ 8 (defBody st_law_halves_right) = some cb_law_halves_right := by kernel_rfl
theorem sc_law_halves_right : C8.scC N_law_halves_right ["_law_world", "_law_rows", "_law_letter", "_law_level", "_law_place", "_law_here"] (defScope st_law_halves_right) = true := by decide +kernel
def cb_law_place_right : Ss :=
(.cons (.set 5 (.bi .sum (.cons (.idx (.idx (.var 2) (.var 4)) (.var 3)) .nil))) (.cons (.set 6 (.call f_law_far (.cons (.var 0) (.cons (.bi .min (.cons (.lst (.cons (.var 5) (.cons (.bin .Pow (.con (.int 10)) (.con (.int 60))) .nil))) .nil)) .nil)))) (.cons (.unpack [7, 8, 9] (.call f_law_down (.cons (.var 1) (.cons (.var 2) (.cons (.var 3) (.cons (.var 4) (.cons (.var 6) .nil))))))) (.cons (.set 10 (.lst (.cons (.call f_letter_at (.cons (.var 1) (.cons (.var 3) (.cons (.var 4) (.cons (.var 6) .nil))))) (.cons (.call f_path_to (.cons (.var 1) (.cons (.var 3) (.cons (.var 4) (.cons (.var 6) .nil))))) (.cons (.call f_place_by (.cons (.var 1) (.cons (.var 3) (.cons (.var 7) .nil)))) .nil))))) (.cons (.set 10 (.cat (.var 10) (.comp [13] (.one 13) (.range1 (.bi .len (.cons (.var 1) .nil))) .no (.call f_count_before (.cons (.var 1) (.cons (.var 3) (.cons (.var 4) (.cons (.var 6) (.cons (.var 13) .nil))))))))) (.cons (.append 10 (.call f_place_of (.cons (.var 1) (.cons (.var 3) (.cons (.var 4) (.cons (.var 9) (.cons (.idx (.var 8) (.var 9)) .nil))))))) (.cons (.ite (.not (.call f_law_same (.cons (.var 10) (.cons (.cat (.cat (.lst (.cons (.var 9) (.cons (.var 7) (.cons (.var 6) .nil)))) (.var 8)) (.lst (.cons (.var 6) .nil))) .nil))))
(.cons (.ret (.con (.bool false))) .nil)
.nil) (.cons (.set 11 (.bi .min (.cons (.lst (.cons (.call f_law_draw (.cons (.var 0) (.cons (.con (.int 7)) .nil))) (.cons (.bin .Sub (.var 5) (.var 6)) .nil))) .nil))) (.cons (.set 12 (.bi .tuple (.cons (.comp [14] (.one 14) (.range1 (.var 11)) .no (.idx (.call f_law_down (.cons (.var 1) (.cons (.var 2) (.cons (.var 3) (.cons (.var 4) (.cons (.bin .Add (.var 6) (.var 14)) .nil)))))) (.con (.int 2)))) .nil))) (.cons (.ite (.not (.call f_law_same (.cons (.call f_word_at (.cons (.var 1) (.cons (.var 3) (.cons (.var 4) (.cons (.var 6) (.cons (.var 11) .nil)))))) (.cons (.var 12) .nil))))
(.cons (.ret (.con (.bool false))) .nil)
.nil) (.cons (.ret (.call f_law_halves_right (.cons (.var 1) (.cons (.var 2) (.cons (.var 3) (.cons (.var 4) (.cons (.var 6) (.cons (.var 9) .nil)))))))) .nil)))))))))))
def N_law_place_right : List Str := ["_law_feed", "_law_world", "_law_rows", "_law_letter", "_law_level", "_law_size", "_law_place", "_law_path", "_law_ahead", "_law_here", "_law_told", "_law_wide", "_law_word", "_law_b", "_law_k"]
abbrev st_law_place_right : Stmt := top 62
def ft_law_place_right : FTab := [("_law_down", 5, f_law_down), ("_law_draw", 2, f_law_draw), ("_law_far", 2, f_law_far), ("_law_halves_right", 6, f_law_halves_right), ("_law_same", 2, f_law_same), ("count_before", 5, f_count_before), ("letter_at", 4, f_letter_at), ("path_to", 4, f_path_to), ("place_by", 3, f_place_by), ("place_of", 5, f_place_of), ("word_at", 5, f_word_at)]
theorem tr_law_place_right : trS ⟨ft_law_place_right, N_law_place_right⟩ 20 f_law_place_right.fresh ⟨defScope st_law_place_right, none⟩ 8 (defBody st_law_place_right) = some cb_law_place_right := by kernel_rfl
theorem sc_law_place_right : C8.scC N_law_place_right ["_law_feed", "_law_world", "_law_rows", "_law_letter", "_law_level"] (defScope st_law_place_right) = true := by decide +kernel
def cb_law_index_right : Ss :=
(.cons (.set 5 (.call f_law_draw (.cons (.var 0) (.cons (.bi .len (.cons (.var 1) .nil)) .nil)))) (.cons (.par [6, 7] (.cons (.idx (.idx (.idx (.var 2) (.var 4)) (.var 3)) (.var 5)) (.cons (.bi .sum (.cons (.idx (.idx (.var 2) (.var 4)) (.var 3)) .nil)) .nil))) (.cons (.set 8 (.call f_law_far (.cons (.var 0) (.cons (.bi .min (.cons (.lst (.cons (.bin .Add (.var 6) (.con (.int 2))) (.cons (.bin .Pow (.con (.int 10)) (.con (.int 60))) .nil))) .nil)) .nil)))) (.cons (.ite (.not (.call f_law_same (.cons (.call f_place_of (.cons (.var 1) (.cons (.var 3) (.cons (.var 4) (.cons (.var 5) (.cons (.var 8) .nil)))))) (.cons (.call f_law_found (.cons (.var 1) (.cons (.var 2) (.cons (.var 3) (.cons (.var 4) (.cons (.var 5) (.cons (.var 8) .nil))))))) .nil))))
(.cons (.ret (.con (.bool false))) .nil)
.nil) (.cons (.ite (.cmp .GtE (.var 7) (.bin .Pow (.con (.int 10)) (.con (.int 60))))
(.cons (.ret (.con (.bool true))) .nil)
.nil) (.cons (.set 9 (.lst (.cons (.call f_count_before (.cons (.var 1) (.cons (.var 3) (.cons (.var 4) (.cons (.var 7) (.cons (.var 5) .nil)))))) (.cons (.call f_word_at (.cons (.var 1) (.cons (.var 3) (.cons (.var 4) (.cons (.var 7) (.cons (.con (.int 0)) .nil)))))) .nil)))) (.cons (.ret (.call f_law_same (.cons (.var 9) (.cons (.lst (.cons (.var 6) (.cons (.tup .nil) .nil))) .nil)))) .nil)))))))
def N_law_index_right : List Str := ["_law_feed", "_law_world", "_law_rows", "_law_letter", "_law_level", "_law_goal", "_law_many", "_law_size", "_law_index", "_law_told"]
abbrev st_law_index_right : Stmt := top 63
def ft_law_index_right : FTab := [("_law_draw", 2, f_law_draw), ("_law_far", 2, f_law_far), ("_law_found", 6, f_law_found), ("_law_same", 2, f_law_same), ("count_before", 5, f_count_before), ("place_of", 5, f_place_of), ("word_at", 5, f_word_at)]
theorem tr_law_index_right : trS ⟨ft_law_index_right, N_law_index_right⟩ 20 f_law_index_right.fresh ⟨defScope st_law_index_right, none⟩ 8 (defBody st_law_index_right) = some cb_law_index_right := by kernel_rfl
theorem sc_law_index_right : C8.scC N_law_index_right ["_law_feed", "_law_world", "_law_rows", "_law_letter", "_law_level"] (defScope st_law_index_right) = true := by decide +kernel
def cb_law_small_right : Ss :=
(.cons (.set 3 (.tup (.cons (.var 1) .nil))) (.cons (.forr (.one 4) (.range1 (.var 2))
(.cons (.set 3 (.call f_law_becomes (.cons (.var 0) (.cons (.var 3) .nil)))) .nil)) (.cons (.set 5 (.lst (.cons (.call f_block_of (.cons (.var 0) (.cons (.var 1) (.cons (.var 2) .nil)))) (.cons (.call f_word_at (.cons (.var 0) (.cons (.var 1) (.cons (.var 2) (.cons (.con (.int 0)) (.cons (.bi .min (.cons (.lst (.cons (.bi .len (.cons (.var 3) .nil)) (.cons (.con (.int 40)) .nil))) .nil)) .nil)))))) .nil)))) (.cons (.append 5 (.bi .tuple (.cons (.comp [6] (.one 6) (.range1 (.bi .min (.cons (.lst (.cons (.bi .len (.cons (.var 3) .nil)) (.cons (.con (.int 20)) .nil))) .nil))) .no (.call f_letter_at (.cons (.var 0) (.cons (.var 1) (.cons (.var 2) (.cons (.var 6) .nil)))))) .nil))) (.cons (.ret (.call f_law_same (.cons (.var 5) (.cons (.lst (.cons (.var 3) (.cons (.sli (.var 3) .no (.one (.con (.int 40)))) (.cons (.sli (.var 3) .no (.one (.con (.int 20)))) .nil)))) .nil)))) .nil)))))
def N_law_small_right : List Str := ["_law_world", "_law_letter", "_law_level", "_law_block", "_law_lap", "_law_told", "_law_k"]
abbrev st_law_small_right : Stmt := top 64
def ft_law_small_right : FTab := [("_law_becomes", 2, f_law_becomes), ("_law_same", 2, f_law_same), ("block_of", 3, f_block_of), ("letter_at", 4, f_letter_at), ("word_at", 5, f_word_at)]
theorem tr_law_small_right : trS ⟨ft_law_small_right, N_law_small_right⟩ 20 f_law_small_right.fresh ⟨defScope st_law_small_right, none⟩ 8 (defBody st_law_small_right) = some cb_law_small_right := by kernel_rfl
theorem sc_law_small_right : C8.scC N_law_small_right ["_law_world", "_law_letter", "_law_level"] (defScope st_law_small_right) = true := by decide +kernel
def cb_law_seeds : Ss :=
(.cons (.set 1 (.lst .nil)) (.cons (.forr (.one 2) (.range1 (.bi .len (.cons (.var 0) .nil)))
(.cons (.par [3, 4] (.cons (.idx (.idx (.var 0) (.var 2)) (.con (.int 0))) (.cons (.con (.int 1)) .nil))) (.cons (.whl (.and (.cmp .NotEq (.var 3) (.var 2)) (.cmp .LtE (.var 4) (.bi .len (.cons (.var 0) .nil))))
(.cons (.par [3, 4] (.cons (.idx (.idx (.var 0) (.var 3)) (.con (.int 0))) (.cons (.bin .Add (.var 4) (.con (.int 1))) .nil))) .nil)) (.cons (.ite (.cmp .Eq (.var 3) (.var 2))
(.cons (.append 1 (.tup (.cons (.var 2) (.cons (.var 4) .nil)))) .nil)
.nil) .nil)))) (.cons (.ret (.bi .tuple (.cons (.var 1) .nil))) .nil)))
def N_law_seeds : List Str := ["_law_world", "_law_found_here", "_law_a", "_law_here", "_law_level"]
abbrev st_law_seeds : Stmt := top 65
def ft_law_seeds : FTab := []
theorem tr_law_seeds : trS ⟨ft_law_seeds, N_law_seeds⟩ 20 f_law_seeds.fresh ⟨defScope st_law_seeds, none⟩ 8 (defBody st_law_seeds) = some cb_law_seeds := by kernel_rfl
theorem sc_law_seeds : C8.scC N_law_seeds ["_law_world"] (defScope st_law_seeds) = true := by decide +kernel
def cb_law_holding_right : Ss :=
(.cons (.set 4 (.call f_law_far (.cons (.var 0) (.cons (.call f_law_pick (.cons (.var 0) (.cons (.lst (.cons (.con (.int 1)) (.cons (.bin .Pow (.con (.int 10)) (.con (.int 3))) (.cons (.bin .Pow (.con (.int 10)) (.con (.int 10))) (.cons (.bin .Pow (.con (.int 10)) (.con (.int 22))) (.cons (.bin .Pow (.con (.int 10)) (.con (.int 39))) .nil)))))) .nil))) .nil)))) (.cons (.set 5 (.comp [6] (.one 6) (.range1 (.bi .len (.cons (.var 2) .nil))) (.one (.cmp .Gt (.bi .sum (.cons (.idx (.idx (.var 2) (.var 6)) (.var 3)) .nil)) (.var 4))) (.var 6))) (.cons (.ite (.or (.cmp .Is (.call f_law_does_grow (.cons (.var 1) .nil)) (.con .none)) (.cmp .Eq (.var 5) (.lst .nil)))
(.cons (.ret (.con (.bool true))) .nil)
.nil) (.cons (.ret (.call f_law_same (.cons (.call f_level_holding (.cons (.var 1) (.cons (.var 3) (.cons (.var 4) .nil)))) (.cons (.idx (.var 5) (.con (.int 0))) .nil)))) .nil))))
def N_law_holding_right : List Str := ["_law_feed", "_law_world", "_law_rows", "_law_letter", "_law_place", "_law_some", "_law_n"]
abbrev st_law_holding_right : Stmt := top 66
def ft_law_holding_right : FTab := [("_law_does_grow", 1, f_law_does_grow), ("_law_far", 2, f_law_far), ("_law_pick", 2, f_law_pick), ("_law_same", 2, f_law_same), ("level_holding", 3, f_level_holding)]
theorem tr_law_holding_right : trS ⟨ft_law_holding_right, N_law_holding_right⟩ 20 f_law_holding_right.fresh ⟨defScope st_law_holding_right, none⟩ 8 (defBody st_law_holding_right) = some cb_law_holding_right := by kernel_rfl
theorem sc_law_holding_right : C8.scC N_law_holding_right ["_law_feed", "_law_world", "_law_rows", "_law_letter"] (defScope st_law_holding_right) = true := by decide +kernel
def cb_law_is_right : Ss :=
(.cons (.set 1 (.call f_law_any_rule (.cons (.var 0) .nil))) (.cons (.par [2, 3] (.cons (.call f_law_draw (.cons (.var 0) (.cons (.bi .len (.cons (.var 1) .nil)) .nil))) (.cons (.call f_law_pick (.cons (.var 0) (.cons (.lst (.cons (.call f_law_draw (.cons (.var 0) (.cons (.con (.int 7)) .nil))) (.cons (.call f_law_draw (.cons (.var 0) (.cons (.con (.int 60)) .nil))) (.cons (.con (.int 200)) .nil)))) .nil))) .nil))) (.cons (.set 4 (.call f_law_sums (.cons (.var 1) (.cons (.var 3) .nil)))) (.cons (.set 5 (.bi .tuple (.cons (.comp [7] (.one 7) (.range1 (.bin .Add (.var 3) (.con (.int 1)))) .no (.bi .sum (.cons (.idx (.idx (.var 4) (.var 7)) (.var 2)) .nil))) .nil))) (.cons (.set 6 (.lst (.cons (.call f_length_of (.cons (.var 1) (.cons (.var 2) (.cons (.var 3) .nil)))) (.cons (.call f_lengths_of (.cons (.var 1) (.cons (.var 2) (.cons (.var 3) .nil)))) (.cons (.call f_counts_in (.cons (.var 1) (.cons (.var 2) (.cons (.var 3) .nil)))) .nil))))) (.cons (.ite (.not (.call f_law_same (.cons (.cat (.var 6) (.lst (.cons (.call f_seeds (.cons (.var 1) .nil)) .nil))) (.cons (.lst (.cons (.idx (.var 5) (.neg (.con (.int 1)))) (.cons (.var 5) (.cons (.bi .tuple (.cons (.idx (.idx (.var 4) (.var 3)) (.var 2)) .nil)) (.cons (.call f_law_seeds (.cons (.var 1) .nil)) .nil))))) .nil))))
(.cons (.ret (.con (.bool false))) .nil)
.nil) (.cons (.ite (.or (.not (.call f_law_place_right (.cons (.var 0) (.cons (.var 1) (.cons (.var 4) (.cons (.var 2) (.cons (.var 3) .nil))))))) (.not (.call f_law_index_right (.cons (.var 0) (.cons (.var 1) (.cons (.var 4) (.cons (.var 2) (.cons (.var 3) .nil))))))))
(.cons (.ret (.con (.bool false))) .nil)
.nil) (.cons (.ite (.and (.cmp .Lt (.idx (.var 5) (.neg (.con (.int 1)))) (.con (.int 300))) (.not (.call f_law_small_right (.cons (.var 1) (.cons (.var 2) (.cons (.var 3) .nil))))))
(.cons (.ret (.con (.bool false))) .nil)
.nil) (.cons (.ret (.call f_law_holding_right (.cons (.var 0) (.cons (.var 1) (.cons (.var 4) (.cons (.var 2) .nil)))))) .nil)))))))))
def N_law_is_right : List Str := ["_law_feed", "_law_world", "_law_letter", "_law_level", "_law_rows", "_law_lengths", "_law_told", "_law_n"]
abbrev st_law_is_right : Stmt := top 67
def ft_law_is_right : FTab := [("_law_any_rule", 1, f_law_any_rule), ("_law_draw", 2, f_law_draw), ("_law_holding_right", 4, f_law_holding_right), ("_law_index_right", 5, f_law_index_right), ("_law_pick", 2, f_law_pick), ("_law_place_right", 5, f_law_place_right), ("_law_same", 2, f_law_same), ("_law_seeds", 1, f_law_seeds), ("_law_small_right", 3, f_law_small_right), ("_law_sums", 2, f_law_sums), ("counts_in", 3, f_counts_in), ("length_of", 3, f_length_of), ("lengths_of", 3, f_lengths_of), ("seeds", 1, f_seeds)]
theorem tr_law_is_right : trS ⟨ft_law_is_right, N_law_is_right⟩ 20 f_law_is_right.fresh ⟨defScope st_law_is_right, none⟩ 8 (defBody st_law_is_right) = some cb_law_is_right := by kernel_rfl
theorem sc_law_is_right : C8.scC N_law_is_right ["_law_feed"] (defScope st_law_is_right) = true := by decide +kernel
end K87

set_option maxHeartbeats 4000000
/-! KC: plain laws of the small defs. -/
namespace K87
open PySem L2 Vs
local macro_rules | `(tactic| and_intros) => `(tactic| try simp only [↓rdG0v, rdG0v, ↓rdG0o, rdG0o, ↓rdGs, rdGs, ↓takeG0v, takeG0v, ↓takeG0o, takeG0o, ↓takeGs, takeGs, ↓hasG0, hasG0, ↓hasGs, hasGs, ↓ownG0, ownG0, ↓ownGs, ownGs, ↓free0n, free0n, ↓free0v, free0v, ↓free0o, free0o, ↓frees, frees, ↓hass, hass, ↓has0, has0, ↓isL0, isL0, ↓isLs, isLs, ↓S_nil, S_nil, ↓S_cons, S_cons, ↓seq_nx, seq_nx, ↓seq_rt, seq_rt, ↓seq_bk, seq_bk, ↓seq_ct, seq_ct, ↓lp_nx, lp_nx, ↓lp_rt, lp_rt, ↓lp_bk, lp_bk, ↓lp_ct, lp_ct, ↓fin_rt, fin_rt, ↓fin_nx, fin_nx, ↓outs_nil, outs_nil, ↓outs_f, outs_f, ↓outs_t, outs_t, ↓S_set, S_set, ↓S_unpack, S_unpack, ↓S_par, S_par, ↓S_setIdx, S_setIdx, ↓appK_l, appK_l, ↓extK_l, extK_l, ↓extK_t, extK_t, ↓S_append, S_append, ↓S_extend, S_extend, ↓S_expr, S_expr, ↓S_ret, S_ret, ↓S_retN, S_retN, ↓S_ite, S_ite, ↓S_whl, S_whl, ↓S_forr, S_forr, ↓S_never, S_never, ↓S_pass, S_pass, ↓S_brk, S_brk, ↓S_cont, S_cont, ↓S_tryy, S_tryy, ↓W_var, W_var, ↓W_varT, W_varT, ↓W_con, W_con, ↓W_conT, W_conT, ↓negW_i, negW_i, ↓W_neg, W_neg, ↓W_not, W_not, ↓W_notT, W_notT, ↓andK_b, andK_b, ↓W_and, W_and, ↓W_andT, W_andT, ↓W_or, W_or, ↓W_orT, W_orT, ↓W_bin, W_bin, ↓W_cmp, W_cmp, ↓W_cmpT, W_cmpT, ↓W_ite, W_ite, ↓W_tup, W_tup, ↓W_lst, W_lst, ↓W_dct, W_dct, ↓W_idx, W_idx, ↓W_sli, W_sli, ↓W_comp, W_comp, ↓W_comp2, W_comp2, ↓W_call, W_call, ↓W_bi, W_bi, ↓W_isT, W_isT, ↓W_cat, W_cat, ↓W_rep, W_rep, ↓W_callT, W_callT, ↓W_biT, W_biT, ↓W_isTT, W_isTT, ↓W_idxT, W_idxT, ↓W_binT, W_binT, ↓W_compT, W_compT, ↓O_var, O_var, ↓O_con, O_con, ↓O_neg, O_neg, ↓O_not, O_not, ↓O_and, O_and, ↓O_or, O_or, ↓O_bin, O_bin, ↓O_cmp, O_cmp, ↓O_ite, O_ite, ↓O_tup, O_tup, ↓O_lst, O_lst, ↓O_dct, O_dct, ↓O_idx, O_idx, ↓O_sli, O_sli, ↓O_comp, O_comp, ↓O_comp2, O_comp2, ↓O_call, O_call, ↓O_bi, O_bi, ↓O_isT, O_isT, ↓O_cat, O_cat, ↓O_rep, O_rep, ↓on_d, on_d, ↓on_s, on_s, ↓Ws_nil, Ws_nil, ↓Ws_cons, Ws_cons, ↓Wo_nil, Wo_nil, ↓Wo_cons, Wo_cons, ↓oa_nil, oa_nil, ↓oa_cons, oa_cons, ↓Wa_nil, Wa_nil, ↓Wa_f, Wa_f, ↓Wa_t, Wa_t, ↓ao_nil, ao_nil, ↓ao_v, ao_v, ↓ao_l, ao_l, ↓Wp_no, Wp_no, ↓intK_i, intK_i, ↓Wp_one, Wp_one, ↓Wc_no, Wc_no, ↓Wc_one, Wc_one, ↓Wi_seq, Wi_seq, ↓Wi_r1, Wi_r1, ↓Wi_r2, Wi_r2, ↓Wi_r3, Wi_r3, ↓seqK_l, seqK_l, ↓seqK_t, seqK_t, ↓zipK_l, zipK_l, ↓zipK_t, zipK_t, ↓Wi_enum, Wi_enum, ↓Wi_zip, Wi_zip, ↓it_l, it_l, ↓it_t, it_t, ↓it_d, it_d, ↓tr_b, tr_b, ↓tr_i, tr_i, ↓tr_n, tr_n, ↓tr_l, tr_l, ↓tr_t, tr_t, ↓b_add, b_add, ↓b_sub, b_sub, ↓b_mul, b_mul, ↓b_fdiv, b_fdiv, ↓b_mod, b_mod, ↓b_pow, b_pow, ↓b_addT, b_addT, ↓c_lt, c_lt, ↓c_le, c_le, ↓c_gt, c_gt, ↓c_ge, c_ge, ↓c_eq, c_eq, ↓c_ne, c_ne, ↓c_eqs, c_eqs, ↓c_nes, c_nes, ↓c_eq_list, c_eq_list, ↓c_eq_tuple, c_eq_tuple, ↓c_ne_list, c_ne_list, ↓c_ne_tuple, c_ne_tuple, ↓nonB_n, nonB_n, ↓nonB_i, nonB_i, ↓nonB_b, nonB_b, ↓nonB_t, nonB_t, ↓nonB_l, nonB_l, ↓c_is, c_is, ↓c_isnot, c_isnot, ↓ix_l, ix_l, ↓ix_t, ix_t, ↓sl_l, sl_l, ↓sl_t, sl_t, ↓cat_l, cat_l, ↓rep_l, rep_l, ↓bl_l, bl_l, ↓bl_t, bl_t, ↓bl_d, bl_d, ↓bt_l, bt_l, ↓bt_t, bt_t, ↓bs_l, bs_l, ↓bs_t, bs_t, ↓bi_i, bi_i, ↓bi_b, bi_b, ↓bx2, bx2, ↓bn2, bn2, ↓babs, babs, ↓bsum, bsum, ↓bmax, bmax, ↓bmin, bmin, ↓ball, ball, ↓bany, bany, ↓bsor, bsor, ↓bdic, bdic, ↓brep, brep, ↓bd_one, bd_one, ↓bd_many, bd_many, ↓so_l, so_l, ↓br_t, br_t, ↓br_f, br_f, ↓mk_t, mk_t, ↓mk_f, mk_f, Cs.freshes, C.fresh, putPar, putAll, initE, Fn.run, argsBack, Arg.lends, wipeE, backE, valOf, Tg.slots, List.getElem?_cons_zero, List.getElem?_cons_succ, List.getElem?_nil, List.set_cons_zero, List.set_cons_succ, List.zip_cons_cons, List.zip_nil_right, List.zip_nil_left, List.length_cons, List.length_nil, List.cons_append, List.nil_append, List.append_nil, List.replicate_succ, List.replicate_zero, ↓reduceIte, Bool.false_eq_true, List.mem_cons, List.not_mem_nil, or_false, forall_eq_or_imp, forall_eq, true_and, and_true, List.nodup_nil, List.nodup_cons, Nat.zero_add, Nat.reduceAdd, Nat.reduceSub, Nat.reduceEqDiff, reduceCtorEq, not_false_eq_true, false_or, or_self, forall_const, implies_true, List.map_cons, List.map_nil, and_self, Bool.not_true, Bool.not_false, Bool.not_eq_true, decide_true, decide_false, mk_t, mk_f, false_implies, ↓free0s, free0s])
theorem den_is_integer : Den f_is_integer N_is_integer.length cb_is_integer := by
  rintro _ K ⟨d, rfl, hk⟩
  refine ⟨rfl, ?_⟩
  unfold cb_is_integer f_is_integer v1
  (simp only [N_is_integer]; and_intros)
  cases d <;> (simp only [isInt] at hk; simp only [isTB]; first | exact hk | (refine br_of (fun h => ?_) (fun h => ?_) <;> first | (and_intros; simpa [isTB] using hk) | simp at h))
theorem den_is_number : Den f_is_number N_is_number.length cb_is_number := by
  rintro _ K ⟨d, rfl, hk⟩
  refine ⟨rfl, ?_⟩
  unfold cb_is_number f_is_number v1
  (simp only [N_is_number, f_is_integer, v1]; and_intros)
  refine runS_of List.nodup_nil ⟨d, rfl, rfl, ?_⟩
  cases d <;> ((simp only [isInt]; and_intros); exact hk)
theorem den_is_index : Den f_is_index N_is_index.length cb_is_index := by
  rintro _ K ⟨d, m, rfl, hk⟩
  refine ⟨rfl, ?_⟩
  unfold cb_is_index f_is_index v2
  (simp only [N_is_index, f_is_number, v1]; and_intros)
  refine runS_of List.nodup_nil ⟨d, rfl, rfl, ?_⟩
  cases d with
  | int i =>
    (simp only [isNum]; and_intros)
    refine br_of (fun h => ?_) (fun h => ?_)
    · and_intros
      have : isIdx (.int i) m = decide (i < m) := by simp only [isIdx, h, Bool.true_and]
      rw [this] at hk
      exact hk
    · have : isIdx (.int i) m = false := by simp only [isIdx, h, Bool.false_and]
      rw [this] at hk
      exact hk
  | _ => (simp only [isNum]; and_intros); exact hk
theorem den_is_full_tuple : Den f_is_full_tuple N_is_full_tuple.length cb_is_full_tuple := by
  rintro _ K ⟨d, rfl, hk⟩
  refine ⟨rfl, ?_⟩
  unfold cb_is_full_tuple f_is_full_tuple v1
  (simp only [N_is_full_tuple]; and_intros)
  cases d with
  | tuple xs =>
    refine br_of (fun h => ?_) (fun h => ?_)
    · and_intros
      have : isFull (.tuple xs) = decide ((0 : Int) < (xs.length : Int)) := by simp only [isFull]; congr 1; simp
      rw [this] at hk
      exact hk
    · exact Bool.noConfusion h
  | _ => refine br_of (fun h => by simp [isTB] at h) (fun h => ?_); exact hk
theorem den_are_indexes : Den f_are_indexes N_are_indexes.length cb_are_indexes := by
  rintro _ K ⟨xs, m, rfl, hk⟩
  refine ⟨rfl, ?_⟩
  unfold cb_are_indexes f_are_indexes v2
  (simp only [N_are_indexes, f_is_index, v2]; and_intros)
  refine br_of (fun h => ?_) (fun h => Bool.noConfusion h)
  and_intros
  refine compS_mapI (fun d => .bool (isIdx d m)) (fun x hx Φ q => ?_) ?_
  · and_intros
    refine runS_of List.nodup_nil ⟨x, m, rfl, rfl, ?_⟩
    and_intros
    exact q
  · and_intros
    exact allS_of hk
theorem isIdx_nat (i m : Nat) : isIdx (nD i) (m : Int) = decide (i < m) := by
  show (decide ((0 : Int) ≤ (i : Int)) && decide ((i : Int) < (m : Int))) = _
  rw [decide_eq_true (Int.natCast_nonneg i), Bool.true_and]
  congr 1
  simp
theorem den_is_rule : Den f_is_rule N_is_rule.length cb_is_rule := by
  rintro _ K ⟨R, rfl, hR, hk⟩
  refine ⟨rfl, ?_⟩
  unfold cb_is_rule f_is_rule v1
  (simp only [N_is_rule, f_is_full_tuple, v1]; and_intros)
  refine runS_of List.nodup_nil ⟨_, rfl, rfl, ?_⟩
  have h1 : isFull (ttN R) = true := by
    have := List.length_pos_iff.mpr hR.ne
    simp [isFull, this]
  (simp only [h1]; and_intros)
  refine compS_map (fun b => .bool true) (fun b hb Φ q => ?_) ?_
  · obtain ⟨b1, b2, b3⟩ := hR.bl b hb
    have h2 : isFull (tN b) = true := by
      have := List.length_pos_iff.mpr b1
      simp [isFull, this]
    and_intros
    refine runS_of List.nodup_nil ⟨_, rfl, rfl, ?_⟩
    (simp only [h2, f_are_indexes, v2]; and_intros)
    refine runS_of List.nodup_nil ⟨_, _, rfl, rfl, ?_⟩
    have h3 : (b.map nD).all (fun d => isIdx d ((R.map tN).length : Int)) = true := by
      rw [List.all_map, List.all_eq_true]
      intro x hx
      show isIdx (nD x) _ = true
      rw [List.length_map, isIdx_nat]
      exact decide_eq_true (b3 x hx)
    rw [h3]
    and_intros
    exact q
  · and_intros
    refine allS_of (p := fun _ => true) ?_
    rw [List.all_eq_true.mpr fun _ _ => rfl]
    exact hk
theorem den_want : Den f_want N_want.length cb_want := by
  rintro _ K ⟨x, y, rfl, hk⟩
  refine ⟨rfl, ?_⟩
  unfold cb_want f_want v3
  (simp only [N_want]; and_intros)
  exact hk
theorem den_want_rule : Den f_want_rule N_want_rule.length cb_want_rule := by
  rintro _ K ⟨R, x, rfl, hR, hk⟩
  refine ⟨rfl, ?_⟩
  unfold cb_want_rule f_want_rule v2
  (simp only [N_want_rule, f_is_rule, v1, f_want_2, f_want, v3]; and_intros)
  refine runS_of List.nodup_nil ⟨R, rfl, hR, rfl, ?_⟩
  and_intros
  refine runS_of List.nodup_nil ⟨_, _, rfl, rfl, ?_⟩
  and_intros
  exact hk
theorem den_want_index : Den f_want_index N_want_index.length cb_want_index := by
  rintro _ K ⟨m, i, x, rfl, hi, hk⟩
  refine ⟨rfl, ?_⟩
  unfold cb_want_index f_want_index v3
  (simp only [N_want_index, f_is_index, v2, f_want_2, f_want, v3]; and_intros)
  refine runS_of List.nodup_nil ⟨_, _, rfl, rfl, ?_⟩
  rw [isIdx_nat, decide_eq_true hi]
  and_intros
  refine runS_of List.nodup_nil ⟨_, _, rfl, rfl, ?_⟩
  and_intros
  exact hk
theorem den_want_block : Den f_want_block N_want_block.length cb_want_block := by
  rintro _ K ⟨R, a, l, rfl, hR, ha, hk⟩
  refine ⟨rfl, ?_⟩
  unfold cb_want_block f_want_block v3
  (simp only [N_want_block, f_want_rule_1, f_want_rule, v2, f_want_index, v3, f_want_2, f_want, f_is_number, v1]; and_intros)
  refine runS_of List.nodup_nil ⟨R, _, rfl, hR, rfl, ?_⟩
  and_intros
  refine runS_of List.nodup_nil ⟨R.length, a, .str "letter", by simp, ha, rfl, ?_⟩
  and_intros
  refine runS_of List.nodup_nil ⟨_, rfl, rfl, ?_⟩
  have : isNum (nD l) = true := by simp [isNum]
  rw [this]
  and_intros
  refine runS_of List.nodup_nil ⟨_, _, rfl, rfl, ?_⟩
  and_intros
  exact hk
end K87

set_option maxHeartbeats 4000000
/-! KD: plain laws: lengths, counts. -/
namespace K87
open PySem L2 Vs
local macro_rules | `(tactic| and_intros) => `(tactic| try simp only [↓rdG0v, rdG0v, ↓rdG0o, rdG0o, ↓rdGs, rdGs, ↓takeG0v, takeG0v, ↓takeG0o, takeG0o, ↓takeGs, takeGs, ↓hasG0, hasG0, ↓hasGs, hasGs, ↓ownG0, ownG0, ↓ownGs, ownGs, ↓free0n, free0n, ↓free0v, free0v, ↓free0o, free0o, ↓frees, frees, ↓hass, hass, ↓has0, has0, ↓isL0, isL0, ↓isLs, isLs, ↓S_nil, S_nil, ↓S_cons, S_cons, ↓seq_nx, seq_nx, ↓seq_rt, seq_rt, ↓seq_bk, seq_bk, ↓seq_ct, seq_ct, ↓lp_nx, lp_nx, ↓lp_rt, lp_rt, ↓lp_bk, lp_bk, ↓lp_ct, lp_ct, ↓fin_rt, fin_rt, ↓fin_nx, fin_nx, ↓outs_nil, outs_nil, ↓outs_f, outs_f, ↓outs_t, outs_t, ↓S_set, S_set, ↓S_unpack, S_unpack, ↓S_par, S_par, ↓S_setIdx, S_setIdx, ↓appK_l, appK_l, ↓extK_l, extK_l, ↓extK_t, extK_t, ↓S_append, S_append, ↓S_extend, S_extend, ↓S_expr, S_expr, ↓S_ret, S_ret, ↓S_retN, S_retN, ↓S_ite, S_ite, ↓S_whl, S_whl, ↓S_forr, S_forr, ↓S_never, S_never, ↓S_pass, S_pass, ↓S_brk, S_brk, ↓S_cont, S_cont, ↓S_tryy, S_tryy, ↓W_var, W_var, ↓W_varT, W_varT, ↓W_con, W_con, ↓W_conT, W_conT, ↓negW_i, negW_i, ↓W_neg, W_neg, ↓W_not, W_not, ↓W_notT, W_notT, ↓andK_b, andK_b, ↓W_and, W_and, ↓W_andT, W_andT, ↓W_or, W_or, ↓W_orT, W_orT, ↓W_bin, W_bin, ↓W_cmp, W_cmp, ↓W_cmpT, W_cmpT, ↓W_ite, W_ite, ↓W_tup, W_tup, ↓W_lst, W_lst, ↓W_dct, W_dct, ↓W_idx, W_idx, ↓W_sli, W_sli, ↓W_comp, W_comp, ↓W_comp2, W_comp2, ↓W_call, W_call, ↓W_bi, W_bi, ↓W_isT, W_isT, ↓W_cat, W_cat, ↓W_rep, W_rep, ↓W_callT, W_callT, ↓W_biT, W_biT, ↓W_isTT, W_isTT, ↓W_idxT, W_idxT, ↓W_binT, W_binT, ↓W_compT, W_compT, ↓O_var, O_var, ↓O_con, O_con, ↓O_neg, O_neg, ↓O_not, O_not, ↓O_and, O_and, ↓O_or, O_or, ↓O_bin, O_bin, ↓O_cmp, O_cmp, ↓O_ite, O_ite, ↓O_tup, O_tup, ↓O_lst, O_lst, ↓O_dct, O_dct, ↓O_idx, O_idx, ↓O_sli, O_sli, ↓O_comp, O_comp, ↓O_comp2, O_comp2, ↓O_call, O_call, ↓O_bi, O_bi, ↓O_isT, O_isT, ↓O_cat, O_cat, ↓O_rep, O_rep, ↓on_d, on_d, ↓on_s, on_s, ↓Ws_nil, Ws_nil, ↓Ws_cons, Ws_cons, ↓Wo_nil, Wo_nil, ↓Wo_cons, Wo_cons, ↓oa_nil, oa_nil, ↓oa_cons, oa_cons, ↓Wa_nil, Wa_nil, ↓Wa_f, Wa_f, ↓Wa_t, Wa_t, ↓ao_nil, ao_nil, ↓ao_v, ao_v, ↓ao_l, ao_l, ↓Wp_no, Wp_no, ↓intK_i, intK_i, ↓Wp_one, Wp_one, ↓Wc_no, Wc_no, ↓Wc_one, Wc_one, ↓Wi_seq, Wi_seq, ↓Wi_r1, Wi_r1, ↓Wi_r2, Wi_r2, ↓Wi_r3, Wi_r3, ↓seqK_l, seqK_l, ↓seqK_t, seqK_t, ↓zipK_l, zipK_l, ↓zipK_t, zipK_t, ↓Wi_enum, Wi_enum, ↓Wi_zip, Wi_zip, ↓it_l, it_l, ↓it_t, it_t, ↓it_d, it_d, ↓tr_b, tr_b, ↓tr_i, tr_i, ↓tr_n, tr_n, ↓tr_l, tr_l, ↓tr_t, tr_t, ↓b_add, b_add, ↓b_sub, b_sub, ↓b_mul, b_mul, ↓b_fdiv, b_fdiv, ↓b_mod, b_mod, ↓b_pow, b_pow, ↓b_addT, b_addT, ↓c_lt, c_lt, ↓c_le, c_le, ↓c_gt, c_gt, ↓c_ge, c_ge, ↓c_eq, c_eq, ↓c_ne, c_ne, ↓c_eqs, c_eqs, ↓c_nes, c_nes, ↓c_eq_list, c_eq_list, ↓c_eq_tuple, c_eq_tuple, ↓c_ne_list, c_ne_list, ↓c_ne_tuple, c_ne_tuple, ↓nonB_n, nonB_n, ↓nonB_i, nonB_i, ↓nonB_b, nonB_b, ↓nonB_t, nonB_t, ↓nonB_l, nonB_l, ↓c_is, c_is, ↓c_isnot, c_isnot, ↓ix_l, ix_l, ↓ix_t, ix_t, ↓sl_l, sl_l, ↓sl_t, sl_t, ↓cat_l, cat_l, ↓rep_l, rep_l, ↓bl_l, bl_l, ↓bl_t, bl_t, ↓bl_d, bl_d, ↓bt_l, bt_l, ↓bt_t, bt_t, ↓bs_l, bs_l, ↓bs_t, bs_t, ↓bi_i, bi_i, ↓bi_b, bi_b, ↓bx2, bx2, ↓bn2, bn2, ↓babs, babs, ↓bsum, bsum, ↓bmax, bmax, ↓bmin, bmin, ↓ball, ball, ↓bany, bany, ↓bsor, bsor, ↓bdic, bdic, ↓brep, brep, ↓bd_one, bd_one, ↓bd_many, bd_many, ↓so_l, so_l, ↓br_t, br_t, ↓br_f, br_f, ↓mk_t, mk_t, ↓mk_f, mk_f, Cs.freshes, C.fresh, putPar, putAll, initE, Fn.run, argsBack, Arg.lends, wipeE, backE, valOf, Tg.slots, List.getElem?_cons_zero, List.getElem?_cons_succ, List.getElem?_nil, List.set_cons_zero, List.set_cons_succ, List.zip_cons_cons, List.zip_nil_right, List.zip_nil_left, List.length_cons, List.length_nil, List.cons_append, List.nil_append, List.append_nil, List.replicate_succ, List.replicate_zero, ↓reduceIte, Bool.false_eq_true, List.mem_cons, List.not_mem_nil, or_false, forall_eq_or_imp, forall_eq, true_and, and_true, List.nodup_nil, List.nodup_cons, Nat.zero_add, Nat.reduceAdd, Nat.reduceSub, Nat.reduceEqDiff, reduceCtorEq, not_false_eq_true, false_or, or_self, forall_const, implies_true, List.map_cons, List.map_nil, and_self, Bool.not_true, Bool.not_false, Bool.not_eq_true, decide_true, decide_false, mk_t, mk_f, false_implies, ↓free0s, free0s])
theorem at0 {α : Type} {x : α} {l : List α} : atI (x :: l) 0 = some x := by
  unfold atI ixN
  simp
theorem tN_map {α : Type} {xs : List α} {f : α → Nat} : tN (xs.map f) = .tuple (xs.map fun x => nD (f x)) := by
  show PyData.tuple ((xs.map f).map nD) = _
  rw [List.map_map]
  rfl
theorem ttN_map {α : Type} {xs : List α} {f : α → List Nat} : ttN (xs.map f) = .tuple (xs.map fun x => tN (f x)) := by
  show PyData.tuple ((xs.map f).map tN) = _
  rw [List.map_map]
  rfl
theorem map_ltr {α : Type} (R : List (List Nat)) (f : List Nat → α) : (List.range R.length).map (fun a => f (ltr R a)) = R.map f := by
  apply List.ext_getElem
  · simp
  · intro i h1 h2
    simp at h1 h2
    simp [ltr, List.getD, h2]
theorem lens_succ (R : List (List Nat)) (l : Nat) : lens R (l + 1) = R.map fun b => (b.map (Ln R l)).sum := by
  unfold lens
  exact map_ltr R fun b => (b.map (Ln R l)).sum
theorem lens_zero (R : List (List Nat)) : lens R 0 = R.map fun _ => 1 := by
  unfold lens
  exact map_ltr R fun _ => 1
theorem lens_at {R : List (List Nat)} {l a : Nat} (h : a < R.length) : (lens R l)[a]? = some (Ln R l a) := by
  unfold lens
  simp [h]
theorem range_push {α : Type} (f : Nat → α) (i : Nat) : (List.range i).map f ++ [f i] = (List.range (i + 1)).map f := by
  rw [List.range_succ, List.map_append]
  rfl
theorem mapN_at {α : Type} {l : List α} {f : α → PyData} {k : Nat} {x : α} (h : l[k]? = some x) : atI (l.map f) ((k : Nat) : Int) = some (f x) := atN (by rw [List.getElem?_map, h]; rfl)
theorem rng_at {f : Nat → PyData} {k n : Nat} (h : k < n) : atI ((List.range n).map f) ((k : Nat) : Int) = some (f k) := mapN_at (by simp [h])
theorem rng_last {f : Nat → PyData} {n : Nat} : atI ((List.range (n + 1)).map f) (-1) = some (f n) := atI_last (by simp)
theorem rng_get {f : Nat → PyData} {n i : Nat} {d : PyData} (h : ((List.range n).map f)[i]? = some d) : i < n ∧ d = f i := by
  rw [List.getElem?_map] at h
  obtain ⟨j, h1, h2⟩ := Option.map_eq_some_iff.mp h
  have : i < n := by
    have := (List.getElem?_eq_some_iff.mp h1).1
    simpa using this
  rw [List.getElem?_range this] at h1
  cases h1
  exact ⟨this, h2.symm⟩
theorem den_lengths_to : Den f_lengths_to N_lengths_to.length cb_lengths_to := by
  rintro _ K ⟨R, l, rfl, hR, hl, hk⟩
  refine ⟨rfl, ?_⟩
  unfold cb_lengths_to f_lengths_to v2
  (simp only [N_lengths_to]; and_intros)
  refine compS_map (fun b => nD 1) (fun b hb Φ q => ?_) ?_
  · and_intros; exact q
  and_intros
  refine ⟨⟨by omega, by omega⟩, ?_⟩
  rw [Int.toNat_natCast, rangeD_nat]
  have e0 : (PyData.tuple (R.map fun b => nD 1)) = tN (lens R 0) := by rw [lens_zero, tN_map]
  rw [e0]
  refine forS_ind (fun i ρ => ∃ o, ρ = [some (.val (ttN R)), some (.val (nD l)), some (.own (lensL R i) false), vS o, none, none]) ⟨none, rfl⟩ ?_ ?_
  · rintro i d ρ Φ hd ⟨o, rfl⟩ hΦ
    and_intros
    refine compS_map (fun b => nD (b.map (Ln R i)).sum) (fun b hb Φ q => ?_) ?_
    · and_intros
      refine compS_map (fun x => nD (Ln R i x)) (fun x hx Φ q => ?_) ?_
      · and_intros
        refine atS_of rng_last ?_
        and_intros
        refine atS_of (mapN_at (lens_at ((hR.bl b hb).2.2 x hx))) ?_
        and_intros
        exact q
      · and_intros
        exact sumS_of (by and_intros; exact q)
    · and_intros
      refine ⟨by simp; have := (rng_get hd).1; omega, hΦ _ ⟨some d, ?_⟩⟩
      have e1 : PyData.tuple (R.map fun b => nD (b.map (Ln R i)).sum) = tN (lens R (i + 1)) := by rw [lens_succ, tN_map]
      rw [e1]
      rw [range_push (fun j => tN (lens R j)) (i + 1)]
      rfl
  · rintro ρ ⟨o, rfl⟩
    and_intros
    have : ((List.range l).map nD).length = l := by simp
    rw [this]
    exact hk
theorem den_lengths_by : Den f_lengths_by N_lengths_by.length cb_lengths_by := by
  rintro _ K ⟨R, l, rfl, hR, hl, hk⟩
  refine ⟨rfl, ?_⟩
  unfold cb_lengths_by f_lengths_by v2
  (simp only [N_lengths_by, f_lengths_to, v2]; and_intros)
  refine runS_of List.nodup_nil ⟨R, l, rfl, hR, hl, rfl, ?_⟩
  and_intros
  refine atS_of (rng_at (by omega)) ?_
  and_intros
  exact hk
/-! ### counts -/
theorem cnts_succ (R : List (List Nat)) (l : Nat) : cnts R (l + 1) = R.map fun b => (List.range R.length).map fun c => (b.map fun x => Cn R l x c).sum := by
  unfold cnts
  exact map_ltr R fun b => (List.range R.length).map fun c => (b.map fun x => Cn R l x c).sum
theorem cnts_at {R : List (List Nat)} {l a : Nat} (h : a < R.length) : (cnts R l)[a]? = some ((List.range R.length).map (Cn R l a)) := by
  unfold cnts
  simp [h]
theorem den_units_by : Den f_units_by N_units_by.length cb_units_by := by
  rintro _ K ⟨n, rfl, hn, hk⟩
  refine ⟨rfl, ?_⟩
  unfold cb_units_by f_units_by v1
  (simp only [N_units_by]; and_intros)
  refine ⟨⟨by omega, by omega⟩, ?_⟩
  rw [Int.toNat_natCast, rangeD_nat]
  refine compS_map (fun a => tN ((List.range n).map fun c => if a = c then 1 else 0)) (fun a ha Φ q => ?_) ?_
  · and_intros
    refine ⟨⟨by omega, by omega⟩, ?_⟩
    rw [Int.toNat_natCast, rangeD_nat]
    refine compS_map (fun c => nD (if a = c then 1 else 0)) (fun c hc Φ2 q2 => ?_) ?_
    · and_intros
      have : (if decide ((a : Int) = (c : Int)) = true then (1 : Int) else 0) = ((if a = c then 1 else 0 : Nat) : Int) := by
        by_cases h : a = c
        · subst h; simp
        · have : ¬ ((a : Int) = (c : Int)) := by omega
          simp [h, this]
      rw [this]
      exact q2
    · and_intros
      rw [tN_map] at q
      exact q
  · and_intros
    rw [ttN_map] at hk
    exact hk
theorem den_added_rows : Den f_added_rows N_added_rows.length cb_added_rows := by
  rintro _ K ⟨rows, m, rfl, hne, hlen, hm, hk⟩
  refine ⟨rfl, ?_⟩
  unfold cb_added_rows f_added_rows v1
  obtain ⟨r0, rs, rfl⟩ := List.exists_cons_of_ne_nil hne
  have hr0 := hlen r0 (by simp)
  (simp only [N_added_rows]; and_intros)
  refine atS_of (d := tN r0) at0 ?_
  and_intros
  rw [List.length_map, hr0]
  refine ⟨⟨by omega, by omega⟩, ?_⟩
  rw [Int.toNat_natCast, rangeD_nat]
  refine compS_map (fun k => nD ((r0 :: rs).map fun r => r.getD k 0).sum) (fun k hk Φ q => ?_) ?_
  · have hkm : k < m := by simpa using hk
    and_intros
    refine compS_map (xs := r0 :: rs) (g := tN) (fun r => nD (r.getD k 0)) (fun r hr Φ2 q2 => ?_) ?_
    · and_intros
      refine atS_of (mapN_at (x := r.getD k 0) ?_) ?_
      · have := hlen r hr
        have hk2 : k < r.length := by omega
        simp [List.getD, hk2]
      · and_intros; exact q2
    · and_intros
      exact sumS_of (xs := r0 :: rs) (p := fun r => r.getD k 0) q
  · and_intros
    rw [tN_map] at hk
    exact hk
theorem den_counts_to : Den f_counts_to N_counts_to.length cb_counts_to := by
  rintro _ K ⟨R, l, rfl, hR, hl, hk⟩
  refine ⟨rfl, ?_⟩
  unfold cb_counts_to f_counts_to v2
  (simp only [N_counts_to, f_units_by, v1]; and_intros)
  refine runS_of List.nodup_nil ⟨R.length, by simp, hR.n4, rfl, ?_⟩
  and_intros
  refine ⟨⟨by omega, by omega⟩, ?_⟩
  rw [Int.toNat_natCast, rangeD_nat]
  refine forS_ind (fun i ρ => ∃ o, ρ = [some (.val (ttN R)), some (.val (nD l)), some (.own (cntsL R i) false), vS o, none, none]) ⟨none, rfl⟩ ?_ ?_
  · rintro i d ρ Φ hd ⟨o, rfl⟩ hΦ
    (simp only [f_added_rows, v1]; and_intros)
    refine compS_map (fun b => tN ((List.range R.length).map fun c => (b.map fun x => Cn R i x c).sum)) (fun b hb Φ q => ?_) ?_
    · and_intros
      refine compS_map (fun x => tN ((List.range R.length).map (Cn R i x))) (fun x hx Φ q => ?_) ?_
      · and_intros
        refine atS_of rng_last ?_
        and_intros
        refine atS_of (mapN_at (cnts_at ((hR.bl b hb).2.2 x hx))) ?_
        and_intros
        exact q
      · and_intros
        refine runS_of List.nodup_nil ⟨b.map fun x => (List.range R.length).map (Cn R i x), R.length, ?_, ?_, ?_, hR.n4, rfl, ?_⟩
        · show [PyData.list _] = [PyData.list ((b.map _).map tN)]
          rw [List.map_map]; rfl
        · intro h
          exact (hR.bl b hb).1 (List.map_eq_nil_iff.mp h)
        · intro r hr
          obtain ⟨x, _, rfl⟩ := List.mem_map.mp hr
          simp
        · and_intros
          have e : (List.range R.length).map (fun k => ((b.map fun x => (List.range R.length).map (Cn R i x)).map fun r => r.getD k 0).sum) = (List.range R.length).map fun c => (b.map fun x => Cn R i x c).sum := by
            apply List.map_congr_left
            intro c hc
            have hc : c < R.length := by simpa using hc
            rw [List.map_map]
            congr 1
            apply List.map_congr_left
            intro x _
            simp [List.getD, hc]
          rw [e]
          exact q
    · and_intros
      refine ⟨by simp; have := (rng_get hd).1; omega, hΦ _ ⟨some d, ?_⟩⟩
      have e1 : PyData.tuple (R.map fun b => tN ((List.range R.length).map fun c => (b.map fun x => Cn R i x c).sum)) = ttN (cnts R (i + 1)) := by rw [cnts_succ, ttN_map]
      rw [e1]
      rw [range_push (fun j => ttN (cnts R j)) (i + 1)]
      rfl
  · rintro ρ ⟨o, rfl⟩
    and_intros
    have : ((List.range l).map nD).length = l := by simp
    rw [this]
    exact hk
theorem den_counts_by : Den f_counts_by N_counts_by.length cb_counts_by := by
  rintro _ K ⟨R, l, rfl, hR, hl, hk⟩
  refine ⟨rfl, ?_⟩
  unfold cb_counts_by f_counts_by v2
  (simp only [N_counts_by, f_counts_to, v2]; and_intros)
  refine runS_of List.nodup_nil ⟨R, l, rfl, hR, hl, rfl, ?_⟩
  and_intros
  refine atS_of (rng_at (by omega)) ?_
  and_intros
  exact hk
end K87

set_option maxHeartbeats 4000000
/-! KE: plain laws: the way down. -/
namespace K87
open PySem L2 Vs
local macro_rules | `(tactic| and_intros) => `(tactic| try simp only [↓rdG0v, rdG0v, ↓rdG0o, rdG0o, ↓rdGs, rdGs, ↓takeG0v, takeG0v, ↓takeG0o, takeG0o, ↓takeGs, takeGs, ↓hasG0, hasG0, ↓hasGs, hasGs, ↓ownG0, ownG0, ↓ownGs, ownGs, ↓free0n, free0n, ↓free0v, free0v, ↓free0o, free0o, ↓frees, frees, ↓hass, hass, ↓has0, has0, ↓isL0, isL0, ↓isLs, isLs, ↓S_nil, S_nil, ↓S_cons, S_cons, ↓seq_nx, seq_nx, ↓seq_rt, seq_rt, ↓seq_bk, seq_bk, ↓seq_ct, seq_ct, ↓lp_nx, lp_nx, ↓lp_rt, lp_rt, ↓lp_bk, lp_bk, ↓lp_ct, lp_ct, ↓fin_rt, fin_rt, ↓fin_nx, fin_nx, ↓outs_nil, outs_nil, ↓outs_f, outs_f, ↓outs_t, outs_t, ↓S_set, S_set, ↓S_unpack, S_unpack, ↓S_par, S_par, ↓S_setIdx, S_setIdx, ↓appK_l, appK_l, ↓extK_l, extK_l, ↓extK_t, extK_t, ↓S_append, S_append, ↓S_extend, S_extend, ↓S_expr, S_expr, ↓S_ret, S_ret, ↓S_retN, S_retN, ↓S_ite, S_ite, ↓S_whl, S_whl, ↓S_forr, S_forr, ↓S_never, S_never, ↓S_pass, S_pass, ↓S_brk, S_brk, ↓S_cont, S_cont, ↓S_tryy, S_tryy, ↓W_var, W_var, ↓W_varT, W_varT, ↓W_con, W_con, ↓W_conT, W_conT, ↓negW_i, negW_i, ↓W_neg, W_neg, ↓W_not, W_not, ↓W_notT, W_notT, ↓andK_b, andK_b, ↓W_and, W_and, ↓W_andT, W_andT, ↓W_or, W_or, ↓W_orT, W_orT, ↓W_bin, W_bin, ↓W_cmp, W_cmp, ↓W_cmpT, W_cmpT, ↓W_ite, W_ite, ↓W_tup, W_tup, ↓W_lst, W_lst, ↓W_dct, W_dct, ↓W_idx, W_idx, ↓W_sli, W_sli, ↓W_comp, W_comp, ↓W_comp2, W_comp2, ↓W_call, W_call, ↓W_bi, W_bi, ↓W_isT, W_isT, ↓W_cat, W_cat, ↓W_rep, W_rep, ↓W_callT, W_callT, ↓W_biT, W_biT, ↓W_isTT, W_isTT, ↓W_idxT, W_idxT, ↓W_binT, W_binT, ↓W_compT, W_compT, ↓O_var, O_var, ↓O_con, O_con, ↓O_neg, O_neg, ↓O_not, O_not, ↓O_and, O_and, ↓O_or, O_or, ↓O_bin, O_bin, ↓O_cmp, O_cmp, ↓O_ite, O_ite, ↓O_tup, O_tup, ↓O_lst, O_lst, ↓O_dct, O_dct, ↓O_idx, O_idx, ↓O_sli, O_sli, ↓O_comp, O_comp, ↓O_comp2, O_comp2, ↓O_call, O_call, ↓O_bi, O_bi, ↓O_isT, O_isT, ↓O_cat, O_cat, ↓O_rep, O_rep, ↓on_d, on_d, ↓on_s, on_s, ↓Ws_nil, Ws_nil, ↓Ws_cons, Ws_cons, ↓Wo_nil, Wo_nil, ↓Wo_cons, Wo_cons, ↓oa_nil, oa_nil, ↓oa_cons, oa_cons, ↓Wa_nil, Wa_nil, ↓Wa_f, Wa_f, ↓Wa_t, Wa_t, ↓ao_nil, ao_nil, ↓ao_v, ao_v, ↓ao_l, ao_l, ↓Wp_no, Wp_no, ↓intK_i, intK_i, ↓Wp_one, Wp_one, ↓Wc_no, Wc_no, ↓Wc_one, Wc_one, ↓Wi_seq, Wi_seq, ↓Wi_r1, Wi_r1, ↓Wi_r2, Wi_r2, ↓Wi_r3, Wi_r3, ↓seqK_l, seqK_l, ↓seqK_t, seqK_t, ↓zipK_l, zipK_l, ↓zipK_t, zipK_t, ↓Wi_enum, Wi_enum, ↓Wi_zip, Wi_zip, ↓it_l, it_l, ↓it_t, it_t, ↓it_d, it_d, ↓tr_b, tr_b, ↓tr_i, tr_i, ↓tr_n, tr_n, ↓tr_l, tr_l, ↓tr_t, tr_t, ↓b_add, b_add, ↓b_sub, b_sub, ↓b_mul, b_mul, ↓b_fdiv, b_fdiv, ↓b_mod, b_mod, ↓b_pow, b_pow, ↓b_addT, b_addT, ↓c_lt, c_lt, ↓c_le, c_le, ↓c_gt, c_gt, ↓c_ge, c_ge, ↓c_eq, c_eq, ↓c_ne, c_ne, ↓c_eqs, c_eqs, ↓c_nes, c_nes, ↓c_eq_list, c_eq_list, ↓c_eq_tuple, c_eq_tuple, ↓c_ne_list, c_ne_list, ↓c_ne_tuple, c_ne_tuple, ↓nonB_n, nonB_n, ↓nonB_i, nonB_i, ↓nonB_b, nonB_b, ↓nonB_t, nonB_t, ↓nonB_l, nonB_l, ↓c_is, c_is, ↓c_isnot, c_isnot, ↓ix_l, ix_l, ↓ix_t, ix_t, ↓sl_l, sl_l, ↓sl_t, sl_t, ↓cat_l, cat_l, ↓rep_l, rep_l, ↓bl_l, bl_l, ↓bl_t, bl_t, ↓bl_d, bl_d, ↓bt_l, bt_l, ↓bt_t, bt_t, ↓bs_l, bs_l, ↓bs_t, bs_t, ↓bi_i, bi_i, ↓bi_b, bi_b, ↓bx2, bx2, ↓bn2, bn2, ↓babs, babs, ↓bsum, bsum, ↓bmax, bmax, ↓bmin, bmin, ↓ball, ball, ↓bany, bany, ↓bsor, bsor, ↓bdic, bdic, ↓brep, brep, ↓bd_one, bd_one, ↓bd_many, bd_many, ↓so_l, so_l, ↓br_t, br_t, ↓br_f, br_f, ↓mk_t, mk_t, ↓mk_f, mk_f, Cs.freshes, C.fresh, putPar, putAll, initE, Fn.run, argsBack, Arg.lends, wipeE, backE, valOf, Tg.slots, List.getElem?_cons_zero, List.getElem?_cons_succ, List.getElem?_nil, List.set_cons_zero, List.set_cons_succ, List.zip_cons_cons, List.zip_nil_right, List.zip_nil_left, List.length_cons, List.length_nil, List.cons_append, List.nil_append, List.append_nil, List.replicate_succ, List.replicate_zero, ↓reduceIte, Bool.false_eq_true, List.mem_cons, List.not_mem_nil, or_false, forall_eq_or_imp, forall_eq, true_and, and_true, List.nodup_nil, List.nodup_cons, Nat.zero_add, Nat.reduceAdd, Nat.reduceSub, Nat.reduceEqDiff, reduceCtorEq, not_false_eq_true, false_or, or_self, forall_const, implies_true, List.map_cons, List.map_nil, and_self, Bool.not_true, Bool.not_false, Bool.not_eq_true, decide_true, decide_false, mk_t, mk_f, false_implies, ↓free0s, free0s])
theorem lN_push {l : List Nat} {x : Nat} : lN (l ++ [x]) = .list (l.map nD ++ [nD x]) := by
  show PyData.list ((l ++ [x]).map nD) = _
  rw [List.map_append]
  rfl
theorem drop_at {l : List Nat} {k s : Nat} (h : l[k]? = some s) : l.drop k = s :: l.drop (k + 1) := by
  obtain ⟨hi, e⟩ := List.getElem?_eq_some_iff.mp h
  rw [List.drop_eq_getElem_cons hi, e]
theorem den_part_with : Den f_part_with N_part_with.length cb_part_with := by
  rintro _ K ⟨sizes, p, rfl, hp, hk⟩
  refine ⟨rfl, ?_⟩
  unfold cb_part_with f_part_with v2
  (simp only [N_part_with]; and_intros)
  refine whileS_ind (fun m ρ => ∃ k q : Nat, ρ = [some (.val (lN sizes)), some (.val (nD p)), some (.val (nD k)), some (.val (nD q))] ∧ m = sizes.length - k ∧ q < (sizes.drop k).sum ∧ part sizes p = ((part (sizes.drop k) q).1 + k, (part (sizes.drop k) q).2)) _ ⟨0, p, rfl, rfl, hp, rfl⟩ ?_
  rintro m ρ Φ ⟨k, q, rfl, rfl, hq, hpt⟩ hΦ
  obtain ⟨s, hs⟩ : ∃ s, sizes[k]? = some s := by
    cases e : sizes[k]? with
    | some s => exact ⟨s, rfl⟩
    | none =>
      rw [List.getElem?_eq_none_iff] at e
      rw [List.drop_eq_nil_of_le e] at hq
      exact absurd hq (by simp)
  have hkl : k < sizes.length := (List.getElem?_eq_some_iff.mp hs).1
  have hat : atI (sizes.map nD) ((k : Nat) : Int) = some (nD s) := atN (by rw [List.getElem?_map, hs]; rfl)
  and_intros
  refine atS_of hat ?_
  and_intros
  rw [drop_at hs] at hpt hq
  refine br_of (fun h => ?_) (fun h => ?_)
  · have h : s ≤ q := by simpa using h
    and_intros
    refine atS_of hat ?_
    and_intros
    refine hΦ _ _ ?_ ⟨k + 1, q - s, ?_, rfl, ?_, ?_⟩
    · omega
    · have e1 : (q : Int) - (s : Int) = ((q - s : Nat) : Int) := by omega
      have e2 : (k : Int) + 1 = ((k + 1 : Nat) : Int) := by omega
      rw [e1, e2]
    · rw [List.sum_cons] at hq; omega
    · rw [hpt, part, if_neg (by omega)]
      simp only [Nat.add_assoc, Nat.add_comm 1 k]
  · have h : q < s := by simpa using h
    and_intros
    rw [hpt, part, if_pos h] at hk
    simpa using hk
theorem part_ok : ∀ {sizes : List Nat} {p : Nat}, p < sizes.sum → ∃ s, sizes[(part sizes p).1]? = some s ∧ (part sizes p).2 < s ∧ p = (sizes.take (part sizes p).1).sum + (part sizes p).2
  | [], p, h => by simp at h
  | s :: ss, p, h => by
    unfold part
    by_cases hp : p < s
    · rw [if_pos hp]
      exact ⟨s, rfl, hp, by simp⟩
    · rw [if_neg hp]
      have h2 : p - s < ss.sum := by rw [List.sum_cons] at h; omega
      obtain ⟨t, h3, h4, h5⟩ := part_ok h2
      refine ⟨t, by simpa using h3, h4, ?_⟩
      simp only [List.take_succ_cons, List.sum_cons]
      omega
theorem ltr_mem {R : List (List Nat)} {a : Nat} (h : a < R.length) : ltr R a ∈ R := by
  have : ltr R a = R[a] := by simp [ltr, List.getD, h]
  rw [this]
  exact List.getElem_mem h
theorem ltr_at {R : List (List Nat)} {a : Nat} (h : a < R.length) : R[a]? = some (ltr R a) := by simp [ltr, List.getD, h]
/-- one step of the way -/
theorem step_ok {R : List (List Nat)} (hR : Ok R) {a : Nat} {f : Nat → Nat} {p : Nat} (ha : a < R.length) (hp : p < ((ltr R a).map f).sum) :
    ∃ x, (ltr R a)[(part ((ltr R a).map f) p).1]? = some x ∧ (ltr R a).getD (part ((ltr R a).map f) p).1 0 = x ∧ x < R.length ∧ (part ((ltr R a).map f) p).2 < f x ∧ p = (((ltr R a).take (part ((ltr R a).map f) p).1).map f).sum + (part ((ltr R a).map f) p).2 := by
  obtain ⟨s, h1, h2, h3⟩ := part_ok hp
  rw [List.getElem?_map] at h1
  obtain ⟨x, h4, rfl⟩ := Option.map_eq_some_iff.mp h1
  refine ⟨x, h4, by rw [List.getD_eq_getElem?_getD, h4]; rfl, ?_, h2, ?_⟩
  · exact (hR.bl _ (ltr_mem ha)).2.2 x (List.mem_of_getElem? h4)
  · rw [← List.map_take] at h3
    exact h3
theorem way_len (R : List (List Nat)) : ∀ (l a p : Nat), (way R l a p).1.length = l
  | 0, a, p => rfl
  | l + 1, a, p => by
    unfold way
    simp [way_len R l]
theorem den_way_down : Den f_way_down N_way_down.length cb_way_down := by
  rintro _ K ⟨R, l, a, p, rfl, hR, ha, hl, hp, hk⟩
  refine ⟨rfl, ?_⟩
  unfold cb_way_down f_way_down v4
  (simp only [N_way_down]; and_intros)
  have el : ((((List.range (l + 1)).map fun j => tN (lens R j)).length : Nat) : Int) - 1 = (l : Int) := by simp
  rw [el]
  refine ⟨⟨⟨by omega, by omega⟩, ⟨by omega, by omega⟩, by omega⟩, ?_⟩
  have e2 : ((l : Int) - 0).toNat = l := by omega
  rw [e2]
  refine forS_ind (fun i ρ => ∃ (o1 o2 : Option PyData) (pre : List Nat) (here rest : Nat), ρ = [some (.val (ttN R)), some (.val (lensL R l)), some (.val (nD a)), some (.val (nD p)), some (.own (lN pre) false), some (.val (nD here)), some (.val (nD rest)), vS o1, vS o2, none]
      ∧ here < R.length ∧ rest < Ln R (l - i) here ∧ pre.length = i ∧ way R l a p = (pre ++ (way R (l - i) here rest).1, (way R (l - i) here rest).2)) ⟨none, none, [], a, p, rfl, ha, hp, rfl, rfl⟩ ?_ ?_
  · rintro i d ρ Φ hd ⟨o1, o2, pre, here, rest, rfl, hh, hr, hpl, hw⟩ hΦ
    obtain ⟨hi, rfl⟩ := rng_get (f := fun n => PyData.int ((l : Int) - (n : Int))) hd
    obtain ⟨m, hm⟩ : ∃ m, l - i = m + 1 := ⟨l - i - 1, by omega⟩
    rw [hm] at hr hw
    obtain ⟨x, hx1, hx2, hx3, hx4, hx5⟩ := step_ok hR (f := Ln R m) hh hr
    (simp only [f_part_with, v2]; and_intros)
    refine atS_of (mapN_at (ltr_at hh)) ?_
    and_intros
    refine compS_map (fun b => nD (Ln R m b)) (fun b hb Φ q => ?_) ?_
    · have hbR : b < R.length := (hR.bl _ (ltr_mem hh)).2.2 b hb
      and_intros
      have e3 : (l : Int) - (i : Int) - 1 = ((m : Nat) : Int) := by omega
      rw [e3]
      refine atS_of (rng_at (by omega)) ?_
      and_intros
      refine atS_of (mapN_at (lens_at hbR)) ?_
      and_intros
      exact q
    · and_intros
      refine runS_of List.nodup_nil ⟨(ltr R here).map (Ln R m), rest, by simp [lN], hr, rfl, ?_⟩
      and_intros
      refine ⟨by simp; omega, ?_⟩
      refine atS_of (mapN_at (ltr_at hh)) ?_
      and_intros
      refine atS_of (mapN_at hx1) ?_
      and_intros
      refine hΦ _ ⟨some (.int ((l : Int) - (i : Int))), some (nD (part ((ltr R here).map (Ln R m)) rest).1), pre ++ [(part ((ltr R here).map (Ln R m)) rest).1], x, (part ((ltr R here).map (Ln R m)) rest).2, ?_, hx3, ?_, by simp [hpl], ?_⟩
      · rw [lN_push]
        rfl
      · have : l - (i + 1) = m := by omega
        rw [this]
        exact hx4
      · have : l - (i + 1) = m := by omega
        rw [this, hw]
        simp only [way, hx2, List.append_assoc, List.cons_append, List.nil_append]
  · rintro ρ ⟨o1, o2, pre, here, rest, rfl, hh, hr, hpl, hw⟩
    have : ((List.range l).map fun (n : Nat) => PyData.int ((l : Int) - (n : Int))).length = l := by simp
    rw [this, Nat.sub_self] at hw
    and_intros
    rw [hw] at hk
    simpa [way] using hk
theorem den_word_in : Den f_word_in N_word_in.length cb_word_in := by
  rintro _ K ⟨R, l, a, p, n, rfl, hR, ha, hl, hp, hn, hk⟩
  refine ⟨rfl, ?_⟩
  unfold cb_word_in f_word_in v5
  (simp only [N_word_in, f_lengths_to, v2, f_way_down, v4]; and_intros)
  refine runS_of List.nodup_nil ⟨R, l, rfl, hR, hl, rfl, ?_⟩
  and_intros
  refine ⟨⟨by omega, by omega⟩, ?_⟩
  rw [Int.toNat_natCast, rangeD_nat]
  refine compS_map (fun k => nD (way R l a (p + k)).2) (fun k hk Φ q => ?_) ?_
  · have hkn : k < n := by simpa using hk
    and_intros
    refine runS_of List.nodup_nil ⟨R, l, a, p + k, by simp, hR, ha, hl, by omega, rfl, ?_⟩
    and_intros
    refine atS_of (d := nD (way R l a (p + k)).2) rfl ?_
    and_intros
    exact q
  · and_intros
    rw [tN_map] at hk
    exact hk
end K87

set_option maxHeartbeats 4000000
/-! KM: the calls. -/
namespace K87
open PySem L2 Vs
theorem m_is_integer : f_is_integer.modes = [false] := rfl
theorem m_is_number : f_is_number.modes = [false] := rfl
theorem m_is_index : f_is_index.modes = [false, false] := rfl
theorem m_is_full_tuple : f_is_full_tuple.modes = [false] := rfl
theorem m_are_indexes : f_are_indexes.modes = [false, false] := rfl
theorem m_is_rule : f_is_rule.modes = [false] := rfl
theorem m_units_by : f_units_by.modes = [false] := rfl
theorem m_added_rows : f_added_rows.modes = [false] := rfl
theorem m_counts_to : f_counts_to.modes = [false, false] := rfl
theorem m_counts_by : f_counts_by.modes = [false, false] := rfl
theorem m_lengths_to : f_lengths_to.modes = [false, false] := rfl
theorem m_lengths_by : f_lengths_by.modes = [false, false] := rfl
theorem m_part_with : f_part_with.modes = [false, false] := rfl
theorem m_way_down : f_way_down.modes = [false, false, false, false] := rfl
theorem m_word_in : f_word_in.modes = [false, false, false, false, false] := rfl
theorem m_ahead_in : f_ahead_in.modes = [false, false, false, false, false] := rfl
theorem m_place_in : f_place_in.modes = [false, false, false, false, false] := rfl
theorem m_want : f_want.modes = [false, false, false] := rfl
theorem m_want_2 : f_want_2.modes = [false, false, false] := rfl
theorem m_want_rule : f_want_rule.modes = [false, false] := rfl
theorem m_want_rule_1 : f_want_rule_1.modes = [false, false] := rfl
theorem m_want_index : f_want_index.modes = [false, false, false] := rfl
theorem m_word_after : f_word_after.modes = [false, false] := rfl
theorem m_want_block : f_want_block.modes = [false, false, false] := rfl
theorem m_block_of : f_block_of.modes = [false, false, false] := rfl
theorem m_length_of : f_length_of.modes = [false, false, false] := rfl
theorem m_lengths_of : f_lengths_of.modes = [false, false, false] := rfl
theorem m_counts_in : f_counts_in.modes = [false, false, false] := rfl
theorem m_growth_by : f_growth_by.modes = [false] := rfl
theorem m_want_growing : f_want_growing.modes = [false, false] := rfl
theorem m_want_growing_1 : f_want_growing_1.modes = [false, false] := rfl
theorem m_letter_at : f_letter_at.modes = [false, false, false, false] := rfl
theorem m_word_at : f_word_at.modes = [false, false, false, false, false] := rfl
theorem m_count_before : f_count_before.modes = [false, false, false, false, false] := rfl
theorem m_place_of : f_place_of.modes = [false, false, false, false, false] := rfl
theorem m_path_to : f_path_to.modes = [false, false, false, false] := rfl
theorem m_place_by : f_place_by.modes = [false, false, false] := rfl
theorem m_first_again : f_first_again.modes = [false, false] := rfl
theorem m_seeds : f_seeds.modes = [false] := rfl
theorem m_level_holding : f_level_holding.modes = [false, false, false] := rfl
theorem m_law_draw : f_law_draw.modes = [true, false] := rfl
theorem m_law_pick : f_law_pick.modes = [true, false] := rfl
theorem m_law_same : f_law_same.modes = [false, false] := rfl
theorem m_law_becomes : f_law_becomes.modes = [false, false] := rfl
theorem m_law_does_grow : f_law_does_grow.modes = [false] := rfl
theorem m_law_grown : f_law_grown.modes = [true] := rfl
theorem m_law_any_rule : f_law_any_rule.modes = [true] := rfl
theorem m_law_far : f_law_far.modes = [true, false] := rfl
theorem m_law_sums : f_law_sums.modes = [false, false] := rfl
theorem m_law_down : f_law_down.modes = [false, false, false, false, false] := rfl
theorem m_law_found : f_law_found.modes = [false, false, false, false, false, false] := rfl
theorem m_law_halves_right : f_law_halves_right.modes = [false, false, false, false, false, false] := rfl
theorem m_law_place_right : f_law_place_right.modes = [true, false, false, false, false] := rfl
theorem m_law_index_right : f_law_index_right.modes = [true, false, false, false, false] := rfl
theorem m_law_small_right : f_law_small_right.modes = [false, false, false] := rfl
theorem m_law_seeds : f_law_seeds.modes = [false] := rfl
theorem m_law_holding_right : f_law_holding_right.modes = [true, false, false, false] := rfl
theorem m_law_is_right : f_law_is_right.modes = [true] := rfl
theorem q_is_integer : f_is_integer.fresh = false := rfl
theorem q_is_number : f_is_number.fresh = false := rfl
theorem q_is_index : f_is_index.fresh = false := rfl
theorem q_is_full_tuple : f_is_full_tuple.fresh = false := rfl
theorem q_are_indexes : f_are_indexes.fresh = false := rfl
theorem q_is_rule : f_is_rule.fresh = false := rfl
theorem q_units_by : f_units_by.fresh = false := rfl
theorem q_added_rows : f_added_rows.fresh = false := rfl
theorem q_counts_to : f_counts_to.fresh = false := rfl
theorem q_counts_by : f_counts_by.fresh = false := rfl
theorem q_lengths_to : f_lengths_to.fresh = false := rfl
theorem q_lengths_by : f_lengths_by.fresh = false := rfl
theorem q_part_with : f_part_with.fresh = false := rfl
theorem q_way_down : f_way_down.fresh = false := rfl
theorem q_word_in : f_word_in.fresh = false := rfl
theorem q_ahead_in : f_ahead_in.fresh = false := rfl
theorem q_place_in : f_place_in.fresh = false := rfl
theorem q_want : f_want.fresh = false := rfl
theorem q_want_2 : f_want_2.fresh = false := rfl
theorem q_want_rule : f_want_rule.fresh = false := rfl
theorem q_want_rule_1 : f_want_rule_1.fresh = false := rfl
theorem q_want_index : f_want_index.fresh = false := rfl
theorem q_word_after : f_word_after.fresh = false := rfl
theorem q_want_block : f_want_block.fresh = false := rfl
theorem q_block_of : f_block_of.fresh = false := rfl
theorem q_length_of : f_length_of.fresh = false := rfl
theorem q_lengths_of : f_lengths_of.fresh = false := rfl
theorem q_counts_in : f_counts_in.fresh = false := rfl
theorem q_growth_by : f_growth_by.fresh = false := rfl
theorem q_want_growing : f_want_growing.fresh = false := rfl
theorem q_want_growing_1 : f_want_growing_1.fresh = false := rfl
theorem q_letter_at : f_letter_at.fresh = false := rfl
theorem q_word_at : f_word_at.fresh = false := rfl
theorem q_count_before : f_count_before.fresh = false := rfl
theorem q_place_of : f_place_of.fresh = false := rfl
theorem q_path_to : f_path_to.fresh = false := rfl
theorem q_place_by : f_place_by.fresh = false := rfl
theorem q_first_again : f_first_again.fresh = false := rfl
theorem q_seeds : f_seeds.fresh = false := rfl
theorem q_level_holding : f_level_holding.fresh = false := rfl
theorem q_law_draw : f_law_draw.fresh = false := rfl
theorem q_law_pick : f_law_pick.fresh = false := rfl
theorem q_law_same : f_law_same.fresh = false := rfl
theorem q_law_becomes : f_law_becomes.fresh = false := rfl
theorem q_law_does_grow : f_law_does_grow.fresh = false := rfl
theorem q_law_grown : f_law_grown.fresh = false := rfl
theorem q_law_any_rule : f_law_any_rule.fresh = false := rfl
theorem q_law_far : f_law_far.fresh = false := rfl
theorem q_law_sums : f_law_sums.fresh = false := rfl
theorem q_law_down : f_law_down.fresh = false := rfl
theorem q_law_found : f_law_found.fresh = false := rfl
theorem q_law_halves_right : f_law_halves_right.fresh = false := rfl
theorem q_law_place_right : f_law_place_right.fresh = false := rfl
theorem q_law_index_right : f_law_index_right.fresh = false := rfl
theorem q_law_small_right : f_law_small_right.fresh = false := rfl
theorem q_law_seeds : f_law_seeds.fresh = false := rfl
theorem q_law_holding_right : f_law_holding_right.fresh = false := rfl
theorem q_law_is_right : f_law_is_right.fresh = false := rfl
section
variable {R : List (List Nat)} {l a p o n : Nat} {ρ : Vs.Env} {Q : PyData → Vs.Env → Prop} {h : Held Q}
theorem c_lengths_to (hR : Ok R) (hl : l ≤ 200) (q : Q (lensL R l) ρ) : runS f_lengths_to [.v (ttN R), .v (nD l)] [ttN R, nD l] ρ Q h := runS_of List.nodup_nil ⟨R, l, rfl, hR, hl, rfl, q⟩
theorem c_lengths_by (hR : Ok R) (hl : l ≤ 200) (q : Q (tN (lens R l)) ρ) : runS f_lengths_by [.v (ttN R), .v (nD l)] [ttN R, nD l] ρ Q h := runS_of List.nodup_nil ⟨R, l, rfl, hR, hl, rfl, q⟩
theorem c_counts_to (hR : Ok R) (hl : l ≤ 200) (q : Q (cntsL R l) ρ) : runS f_counts_to [.v (ttN R), .v (nD l)] [ttN R, nD l] ρ Q h := runS_of List.nodup_nil ⟨R, l, rfl, hR, hl, rfl, q⟩
theorem c_counts_by (hR : Ok R) (hl : l ≤ 200) (q : Q (ttN (cnts R l)) ρ) : runS f_counts_by [.v (ttN R), .v (nD l)] [ttN R, nD l] ρ Q h := runS_of List.nodup_nil ⟨R, l, rfl, hR, hl, rfl, q⟩
theorem c_part_with {sizes : List Nat} (hp : p < sizes.sum) (q : Q (.tuple [nD (part sizes p).1, nD (part sizes p).2]) ρ) : runS f_part_with [.v (lN sizes), .v (nD p)] [lN sizes, nD p] ρ Q h := runS_of List.nodup_nil ⟨sizes, p, rfl, hp, rfl, q⟩
theorem c_way_down (hR : Ok R) (ha : a < R.length) (hl : l ≤ 200) (hp : p < Ln R l a) (q : Q (.tuple [tN (way R l a p).1, nD (way R l a p).2]) ρ) : runS f_way_down [.v (ttN R), .v (lensL R l), .v (nD a), .v (nD p)] [ttN R, lensL R l, nD a, nD p] ρ Q h := runS_of List.nodup_nil ⟨R, l, a, p, rfl, hR, ha, hl, hp, rfl, q⟩
theorem c_word_in (hR : Ok R) (ha : a < R.length) (hl : l ≤ 200) (hp : p + n ≤ Ln R l a) (hn : n ≤ 300) (q : Q (tN ((List.range n).map fun k => (way R l a (p + k)).2)) ρ) : runS f_word_in [.v (ttN R), .v (nD a), .v (nD l), .v (nD p), .v (nD n)] [ttN R, nD a, nD l, nD p, nD n] ρ Q h := runS_of List.nodup_nil ⟨R, l, a, p, n, rfl, hR, ha, hl, hp, hn, rfl, q⟩
theorem c_ahead_in (hR : Ok R) (ha : a < R.length) (ho : o < R.length) (hl : l ≤ 200) (hp : p ≤ Ln R l a) (q : Q (nD (if p = Ln R l a then Cn R l a o else ahd R o l a p)) ρ) : runS f_ahead_in [.v (ttN R), .v (nD a), .v (nD l), .v (nD p), .v (nD o)] [ttN R, nD a, nD l, nD p, nD o] ρ Q h := runS_of List.nodup_nil ⟨R, l, a, p, o, rfl, hR, ha, ho, hl, hp, rfl, q⟩
theorem c_place_in (hR : Ok R) (ha : a < R.length) (ho : o < R.length) (hl : l ≤ 200) (q : Q (if Cn R l a o ≤ n then .none else nD (plc R o l a n)) ρ) : runS f_place_in [.v (ttN R), .v (nD a), .v (nD l), .v (nD o), .v (nD n)] [ttN R, nD a, nD l, nD o, nD n] ρ Q h := runS_of List.nodup_nil ⟨R, l, a, o, n, rfl, hR, ha, ho, hl, rfl, q⟩
theorem c_want {x : PyData} (q : Q .none ρ) : runS f_want_2 [.v (.bool true), .v x] [.bool true, x] ρ Q h := runS_of List.nodup_nil ⟨x, _, rfl, rfl, q⟩
theorem c_want_rule (hR : Ok R) (q : Q .none ρ) : runS f_want_rule_1 [.v (ttN R)] [ttN R] ρ Q h := runS_of List.nodup_nil ⟨R, _, rfl, hR, rfl, q⟩
theorem c_want_growing (hR : Ok R) (hg : Grows R) (q : Q .none ρ) : runS f_want_growing_1 [.v (ttN R)] [ttN R] ρ Q h := runS_of List.nodup_nil ⟨R, _, rfl, hR, hg, rfl, q⟩
theorem c_want_index {x : PyData} {m : Nat} (hn : n < m) (q : Q .none ρ) : runS f_want_index [.v (nD m), .v (nD n), .v x] [nD m, nD n, x] ρ Q h := runS_of List.nodup_nil ⟨m, n, x, rfl, hn, rfl, q⟩
theorem c_want_block (hR : Ok R) (ha : a < R.length) (q : Q .none ρ) : runS f_want_block [.v (ttN R), .v (nD a), .v (nD l)] [ttN R, nD a, nD l] ρ Q h := runS_of List.nodup_nil ⟨R, a, l, rfl, hR, ha, rfl, q⟩
theorem c_is_number (q : Q (.bool true) ρ) : runS f_is_number [.v (nD n)] [nD n] ρ Q h := runS_of List.nodup_nil ⟨nD n, rfl, rfl, by
  have : isNum (nD n) = true := by simp [isNum]
  rw [this]
  exact q⟩
theorem c_is_index {m : Nat} (q : Q (.bool (decide (n < m))) ρ) : runS f_is_index [.v (nD n), .v (nD m)] [nD n, nD m] ρ Q h := runS_of List.nodup_nil ⟨nD n, _, rfl, rfl, by rw [isIdx_nat]; exact q⟩
theorem c_word_after {w : List Nat} (hR : Ok R) (hw : ∀ x ∈ w, x < R.length) (hl : w.length ≤ 300) (q : Q (tN (w.flatMap (ltr R))) ρ) : runS f_word_after [.v (ttN R), .v (tN w)] [ttN R, tN w] ρ Q h := runS_of List.nodup_nil ⟨R, w, rfl, hR, hw, hl, rfl, q⟩
theorem c_block_of (hR : Ok R) (ha : a < R.length) (hl : l ≤ 200) (h3 : Ln R l a ≤ 300) (q : Q (tN (blk R l a)) ρ) : runS f_block_of [.v (ttN R), .v (nD a), .v (nD l)] [ttN R, nD a, nD l] ρ Q h := runS_of List.nodup_nil ⟨R, a, l, rfl, hR, ha, hl, h3, rfl, q⟩
theorem c_length_of (hR : Ok R) (ha : a < R.length) (hl : l ≤ 200) (q : Q (nD (Ln R l a)) ρ) : runS f_length_of [.v (ttN R), .v (nD a), .v (nD l)] [ttN R, nD a, nD l] ρ Q h := runS_of List.nodup_nil ⟨R, a, l, rfl, hR, ha, hl, rfl, q⟩
theorem c_lengths_of (hR : Ok R) (ha : a < R.length) (hl : l ≤ 200) (q : Q (tN ((List.range (l + 1)).map fun j => Ln R j a)) ρ) : runS f_lengths_of [.v (ttN R), .v (nD a), .v (nD l)] [ttN R, nD a, nD l] ρ Q h := runS_of List.nodup_nil ⟨R, a, l, rfl, hR, ha, hl, rfl, q⟩
theorem c_counts_in (hR : Ok R) (ha : a < R.length) (hl : l ≤ 200) (q : Q (tN ((List.range R.length).map (Cn R l a))) ρ) : runS f_counts_in [.v (ttN R), .v (nD a), .v (nD l)] [ttN R, nD a, nD l] ρ Q h := runS_of List.nodup_nil ⟨R, a, l, rfl, hR, ha, hl, rfl, q⟩
theorem c_letter_at (hR : Ok R) (ha : a < R.length) (hl : l ≤ 200) (hp : p < Ln R l a) (q : Q (nD (way R l a p).2) ρ) : runS f_letter_at [.v (ttN R), .v (nD a), .v (nD l), .v (nD p)] [ttN R, nD a, nD l, nD p] ρ Q h := runS_of List.nodup_nil ⟨R, a, l, p, rfl, hR, ha, hl, hp, rfl, q⟩
theorem c_path_to (hR : Ok R) (ha : a < R.length) (hl : l ≤ 200) (hp : p < Ln R l a) (q : Q (tN (way R l a p).1) ρ) : runS f_path_to [.v (ttN R), .v (nD a), .v (nD l), .v (nD p)] [ttN R, nD a, nD l, nD p] ρ Q h := runS_of List.nodup_nil ⟨R, a, l, p, rfl, hR, ha, hl, hp, rfl, q⟩
theorem c_word_at (hR : Ok R) (ha : a < R.length) (hl : l ≤ 200) (hp : p + n ≤ Ln R l a) (hn : n ≤ 300) (q : Q (tN ((List.range n).map fun k => (way R l a (p + k)).2)) ρ) : runS f_word_at [.v (ttN R), .v (nD a), .v (nD l), .v (nD p), .v (nD n)] [ttN R, nD a, nD l, nD p, nD n] ρ Q h := runS_of List.nodup_nil ⟨R, a, l, p, n, rfl, hR, ha, hl, hp, hn, rfl, q⟩
theorem c_count_before (hR : Ok R) (ha : a < R.length) (ho : o < R.length) (hl : l ≤ 200) (hp : p ≤ Ln R l a) (q : Q (nD (if p = Ln R l a then Cn R l a o else ahd R o l a p)) ρ) : runS f_count_before [.v (ttN R), .v (nD a), .v (nD l), .v (nD p), .v (nD o)] [ttN R, nD a, nD l, nD p, nD o] ρ Q h := runS_of List.nodup_nil ⟨R, a, l, p, o, rfl, hR, ha, ho, hl, hp, rfl, q⟩
theorem c_place_of (hR : Ok R) (ha : a < R.length) (ho : o < R.length) (hl : l ≤ 200) (q : Q (if Cn R l a o ≤ n then .none else nD (plc R o l a n)) ρ) : runS f_place_of [.v (ttN R), .v (nD a), .v (nD l), .v (nD o), .v (nD n)] [ttN R, nD a, nD l, nD o, nD n] ρ Q h := runS_of List.nodup_nil ⟨R, a, l, o, n, rfl, hR, ha, ho, hl, rfl, q⟩
theorem c_place_by {ks : List Nat} (hR : Ok R) (ha : a < R.length) (hl : ks.length ≤ 200) (hp : Path R ks a) (q : Q (nD (pby R ks a)) ρ) : runS f_place_by [.v (ttN R), .v (nD a), .v (tN ks)] [ttN R, nD a, tN ks] ρ Q h := runS_of List.nodup_nil ⟨R, a, ks, rfl, hR, ha, hl, hp, rfl, q⟩
theorem c_first_again (hR : Ok R) (ha : a < R.length) (q : Q (optD (again R a)) ρ) : runS f_first_again [.v (ttN R), .v (nD a)] [ttN R, nD a] ρ Q h := runS_of List.nodup_nil ⟨R, a, rfl, hR, ha, rfl, q⟩
theorem c_seeds (hR : Ok R) (q : Q (.tuple ((seedsOf R).map pairD)) ρ) : runS f_seeds [.v (ttN R)] [ttN R] ρ Q h := runS_of List.nodup_nil ⟨R, rfl, hR, rfl, q⟩
theorem c_law_seeds (hR : Ok R) (q : Q (.tuple ((seedsOf R).map pairD)) ρ) : runS f_law_seeds [.v (ttN R)] [ttN R] ρ Q h := runS_of List.nodup_nil ⟨R, rfl, hR, rfl, q⟩
theorem c_level_holding {m : Nat} (hR : Ok R) (ha : a < R.length) (hg : Grows R) (hm : m ≤ 200) (h1 : p < Ln R m a) (h2 : ∀ j, j < m → Ln R j a ≤ p) (q : Q (nD m) ρ) : runS f_level_holding [.v (ttN R), .v (nD a), .v (nD p)] [ttN R, nD a, nD p] ρ Q h := runS_of List.nodup_nil ⟨R, a, p, m, rfl, hR, ha, hg, hm, h1, h2, rfl, q⟩
theorem c_same {x : PyData} (hs : Shown x) (q : Q (.bool true) ρ) : runS f_law_same [.v x, .v x] [x, x] ρ Q h := runS_of List.nodup_nil ⟨x, rfl, hs, rfl, q⟩
theorem c_becomes {w : List Nat} (hR : Ok R) (hw : ∀ x ∈ w, x < R.length) (hl : w.length ≤ 300) (q : Q (tN (w.flatMap (ltr R))) ρ) : runS f_law_becomes [.v (ttN R), .v (tN w)] [ttN R, tN w] ρ Q h := runS_of List.nodup_nil ⟨R, w, _, rfl, .inl rfl, hR, hw, hl, rfl, q⟩
end
end K87

set_option maxHeartbeats 4000000
/-! KF: plain laws: what is asked of blocks and places. -/
namespace K87
open PySem L2 Vs
local macro_rules | `(tactic| and_intros) => `(tactic| try simp only [↓rdG0v, rdG0v, ↓rdG0o, rdG0o, ↓rdGs, rdGs, ↓takeG0v, takeG0v, ↓takeG0o, takeG0o, ↓takeGs, takeGs, ↓hasG0, hasG0, ↓hasGs, hasGs, ↓ownG0, ownG0, ↓ownGs, ownGs, ↓free0n, free0n, ↓free0v, free0v, ↓free0o, free0o, ↓frees, frees, ↓hass, hass, ↓has0, has0, ↓isL0, isL0, ↓isLs, isLs, ↓S_nil, S_nil, ↓S_cons, S_cons, ↓seq_nx, seq_nx, ↓seq_rt, seq_rt, ↓seq_bk, seq_bk, ↓seq_ct, seq_ct, ↓lp_nx, lp_nx, ↓lp_rt, lp_rt, ↓lp_bk, lp_bk, ↓lp_ct, lp_ct, ↓fin_rt, fin_rt, ↓fin_nx, fin_nx, ↓outs_nil, outs_nil, ↓outs_f, outs_f, ↓outs_t, outs_t, ↓S_set, S_set, ↓S_unpack, S_unpack, ↓S_par, S_par, ↓S_setIdx, S_setIdx, ↓appK_l, appK_l, ↓extK_l, extK_l, ↓extK_t, extK_t, ↓S_append, S_append, ↓S_extend, S_extend, ↓S_expr, S_expr, ↓S_ret, S_ret, ↓S_retN, S_retN, ↓S_ite, S_ite, ↓S_whl, S_whl, ↓S_forr, S_forr, ↓S_never, S_never, ↓S_pass, S_pass, ↓S_brk, S_brk, ↓S_cont, S_cont, ↓S_tryy, S_tryy, ↓W_var, W_var, ↓W_varT, W_varT, ↓W_con, W_con, ↓W_conT, W_conT, ↓negW_i, negW_i, ↓W_neg, W_neg, ↓W_not, W_not, ↓W_notT, W_notT, ↓andK_b, andK_b, ↓W_and, W_and, ↓W_andT, W_andT, ↓W_or, W_or, ↓W_orT, W_orT, ↓W_bin, W_bin, ↓W_cmp, W_cmp, ↓W_cmpT, W_cmpT, ↓W_ite, W_ite, ↓W_tup, W_tup, ↓W_lst, W_lst, ↓W_dct, W_dct, ↓W_idx, W_idx, ↓W_sli, W_sli, ↓W_comp, W_comp, ↓W_comp2, W_comp2, ↓W_call, W_call, ↓W_bi, W_bi, ↓W_isT, W_isT, ↓W_cat, W_cat, ↓W_rep, W_rep, ↓W_callT, W_callT, ↓W_biT, W_biT, ↓W_isTT, W_isTT, ↓W_idxT, W_idxT, ↓W_binT, W_binT, ↓W_compT, W_compT, ↓O_var, O_var, ↓O_con, O_con, ↓O_neg, O_neg, ↓O_not, O_not, ↓O_and, O_and, ↓O_or, O_or, ↓O_bin, O_bin, ↓O_cmp, O_cmp, ↓O_ite, O_ite, ↓O_tup, O_tup, ↓O_lst, O_lst, ↓O_dct, O_dct, ↓O_idx, O_idx, ↓O_sli, O_sli, ↓O_comp, O_comp, ↓O_comp2, O_comp2, ↓O_call, O_call, ↓O_bi, O_bi, ↓O_isT, O_isT, ↓O_cat, O_cat, ↓O_rep, O_rep, ↓on_d, on_d, ↓on_s, on_s, ↓Ws_nil, Ws_nil, ↓Ws_cons, Ws_cons, ↓Wo_nil, Wo_nil, ↓Wo_cons, Wo_cons, ↓oa_nil, oa_nil, ↓oa_cons, oa_cons, ↓Wa_nil, Wa_nil, ↓Wa_f, Wa_f, ↓Wa_t, Wa_t, ↓ao_nil, ao_nil, ↓ao_v, ao_v, ↓ao_l, ao_l, ↓Wp_no, Wp_no, ↓intK_i, intK_i, ↓Wp_one, Wp_one, ↓Wc_no, Wc_no, ↓Wc_one, Wc_one, ↓Wi_seq, Wi_seq, ↓Wi_r1, Wi_r1, ↓Wi_r2, Wi_r2, ↓Wi_r3, Wi_r3, ↓seqK_l, seqK_l, ↓seqK_t, seqK_t, ↓zipK_l, zipK_l, ↓zipK_t, zipK_t, ↓Wi_enum, Wi_enum, ↓Wi_zip, Wi_zip, ↓it_l, it_l, ↓it_t, it_t, ↓it_d, it_d, ↓tr_b, tr_b, ↓tr_i, tr_i, ↓tr_n, tr_n, ↓tr_l, tr_l, ↓tr_t, tr_t, ↓b_add, b_add, ↓b_sub, b_sub, ↓b_mul, b_mul, ↓b_fdiv, b_fdiv, ↓b_mod, b_mod, ↓b_pow, b_pow, ↓b_addT, b_addT, ↓c_lt, c_lt, ↓c_le, c_le, ↓c_gt, c_gt, ↓c_ge, c_ge, ↓c_eq, c_eq, ↓c_ne, c_ne, ↓c_eqs, c_eqs, ↓c_nes, c_nes, ↓c_eq_list, c_eq_list, ↓c_eq_tuple, c_eq_tuple, ↓c_ne_list, c_ne_list, ↓c_ne_tuple, c_ne_tuple, ↓nonB_n, nonB_n, ↓nonB_i, nonB_i, ↓nonB_b, nonB_b, ↓nonB_t, nonB_t, ↓nonB_l, nonB_l, ↓c_is, c_is, ↓c_isnot, c_isnot, ↓ix_l, ix_l, ↓ix_t, ix_t, ↓sl_l, sl_l, ↓sl_t, sl_t, ↓cat_l, cat_l, ↓rep_l, rep_l, ↓bl_l, bl_l, ↓bl_t, bl_t, ↓bl_d, bl_d, ↓bt_l, bt_l, ↓bt_t, bt_t, ↓bs_l, bs_l, ↓bs_t, bs_t, ↓bi_i, bi_i, ↓bi_b, bi_b, ↓bx2, bx2, ↓bn2, bn2, ↓babs, babs, ↓bsum, bsum, ↓bmax, bmax, ↓bmin, bmin, ↓ball, ball, ↓bany, bany, ↓bsor, bsor, ↓bdic, bdic, ↓brep, brep, ↓bd_one, bd_one, ↓bd_many, bd_many, ↓so_l, so_l, ↓br_t, br_t, ↓br_f, br_f, ↓mk_t, mk_t, ↓mk_f, mk_f, Cs.freshes, C.fresh, putPar, putAll, initE, Fn.run, argsBack, Arg.lends, wipeE, backE, valOf, Tg.slots, List.getElem?_cons_zero, List.getElem?_cons_succ, List.getElem?_nil, List.set_cons_zero, List.set_cons_succ, List.zip_cons_cons, List.zip_nil_right, List.zip_nil_left, List.length_cons, List.length_nil, List.cons_append, List.nil_append, List.append_nil, List.replicate_succ, List.replicate_zero, ↓reduceIte, Bool.false_eq_true, List.mem_cons, List.not_mem_nil, or_false, forall_eq_or_imp, forall_eq, true_and, and_true, List.nodup_nil, List.nodup_cons, Nat.zero_add, Nat.reduceAdd, Nat.reduceSub, Nat.reduceEqDiff, reduceCtorEq, not_false_eq_true, false_or, or_self, forall_const, implies_true, List.map_cons, List.map_nil, and_self, Bool.not_true, Bool.not_false, Bool.not_eq_true, decide_true, decide_false, mk_t, mk_f, false_implies, ↓free0s, free0s, ↓m_is_integer, m_is_integer, q_is_integer, ↓m_is_number, m_is_number, q_is_number, ↓m_is_index, m_is_index, q_is_index, ↓m_is_full_tuple, m_is_full_tuple, q_is_full_tuple, ↓m_are_indexes, m_are_indexes, q_are_indexes, ↓m_is_rule, m_is_rule, q_is_rule, ↓m_units_by, m_units_by, q_units_by, ↓m_added_rows, m_added_rows, q_added_rows, ↓m_counts_to, m_counts_to, q_counts_to, ↓m_counts_by, m_counts_by, q_counts_by, ↓m_lengths_to, m_lengths_to, q_lengths_to, ↓m_lengths_by, m_lengths_by, q_lengths_by, ↓m_part_with, m_part_with, q_part_with, ↓m_way_down, m_way_down, q_way_down, ↓m_word_in, m_word_in, q_word_in, ↓m_ahead_in, m_ahead_in, q_ahead_in, ↓m_place_in, m_place_in, q_place_in, ↓m_want, m_want, q_want, ↓m_want_2, m_want_2, q_want_2, ↓m_want_rule, m_want_rule, q_want_rule, ↓m_want_rule_1, m_want_rule_1, q_want_rule_1, ↓m_want_index, m_want_index, q_want_index, ↓m_word_after, m_word_after, q_word_after, ↓m_want_block, m_want_block, q_want_block, ↓m_block_of, m_block_of, q_block_of, ↓m_length_of, m_length_of, q_length_of, ↓m_lengths_of, m_lengths_of, q_lengths_of, ↓m_counts_in, m_counts_in, q_counts_in, ↓m_growth_by, m_growth_by, q_growth_by, ↓m_want_growing, m_want_growing, q_want_growing, ↓m_want_growing_1, m_want_growing_1, q_want_growing_1, ↓m_letter_at, m_letter_at, q_letter_at, ↓m_word_at, m_word_at, q_word_at, ↓m_count_before, m_count_before, q_count_before, ↓m_place_of, m_place_of, q_place_of, ↓m_path_to, m_path_to, q_path_to, ↓m_place_by, m_place_by, q_place_by, ↓m_first_again, m_first_again, q_first_again, ↓m_seeds, m_seeds, q_seeds, ↓m_level_holding, m_level_holding, q_level_holding, ↓m_law_draw, m_law_draw, q_law_draw, ↓m_law_pick, m_law_pick, q_law_pick, ↓m_law_same, m_law_same, q_law_same, ↓m_law_becomes, m_law_becomes, q_law_becomes, ↓m_law_does_grow, m_law_does_grow, q_law_does_grow, ↓m_law_grown, m_law_grown, q_law_grown, ↓m_law_any_rule, m_law_any_rule, q_law_any_rule, ↓m_law_far, m_law_far, q_law_far, ↓m_law_sums, m_law_sums, q_law_sums, ↓m_law_down, m_law_down, q_law_down, ↓m_law_found, m_law_found, q_law_found, ↓m_law_halves_right, m_law_halves_right, q_law_halves_right, ↓m_law_place_right, m_law_place_right, q_law_place_right, ↓m_law_index_right, m_law_index_right, q_law_index_right, ↓m_law_small_right, m_law_small_right, q_law_small_right, ↓m_law_seeds, m_law_seeds, q_law_seeds, ↓m_law_holding_right, m_law_holding_right, q_law_holding_right, ↓m_law_is_right, m_law_is_right, q_law_is_right])
theorem den_length_of : Den f_length_of N_length_of.length cb_length_of := by
  rintro _ K ⟨R, a, l, rfl, hR, ha, hl, hk⟩
  refine ⟨rfl, ?_⟩
  unfold cb_length_of
  (simp only [m_length_of, N_length_of, f_length_of, v3]; and_intros)
  refine c_want_block hR ha ?_
  and_intros
  refine c_lengths_by hR hl ?_
  and_intros
  refine atS_of (mapN_at (lens_at ha)) ?_
  and_intros
  exact hk
theorem den_counts_in : Den f_counts_in N_counts_in.length cb_counts_in := by
  rintro _ K ⟨R, a, l, rfl, hR, ha, hl, hk⟩
  refine ⟨rfl, ?_⟩
  unfold cb_counts_in
  (simp only [m_counts_in, N_counts_in, f_counts_in, v3]; and_intros)
  refine c_want_block hR ha ?_
  and_intros
  refine c_counts_by hR hl ?_
  and_intros
  refine atS_of (mapN_at (cnts_at ha)) ?_
  and_intros
  exact hk
theorem den_lengths_of : Den f_lengths_of N_lengths_of.length cb_lengths_of := by
  rintro _ K ⟨R, a, l, rfl, hR, ha, hl, hk⟩
  refine ⟨rfl, ?_⟩
  unfold cb_lengths_of
  (simp only [m_lengths_of, N_lengths_of, f_lengths_of, v3]; and_intros)
  refine c_want_block hR ha ?_
  and_intros
  refine c_lengths_to hR hl ?_
  and_intros
  refine compS_map (fun j => nD (Ln R j a)) (fun j hj Φ q => ?_) ?_
  · and_intros
    refine atS_of (mapN_at (lens_at ha)) ?_
    and_intros
    exact q
  · and_intros
    rw [tN_map] at hk
    exact hk
theorem den_letter_at : Den f_letter_at N_letter_at.length cb_letter_at := by
  rintro _ K ⟨R, a, l, p, rfl, hR, ha, hl, hp, hk⟩
  refine ⟨rfl, ?_⟩
  unfold cb_letter_at
  (simp only [m_letter_at, N_letter_at, f_letter_at, v4]; and_intros)
  refine c_want_block hR ha ?_
  and_intros
  refine c_lengths_by hR hl ?_
  and_intros
  refine atS_of (mapN_at (lens_at ha)) ?_
  and_intros
  refine c_is_index ?_
  rw [decide_eq_true hp]
  and_intros
  refine c_want ?_
  and_intros
  refine c_lengths_to hR hl ?_
  and_intros
  refine c_way_down hR ha hl hp ?_
  and_intros
  refine atS_of (d := nD (way R l a p).2) rfl ?_
  and_intros
  exact hk
theorem den_path_to : Den f_path_to N_path_to.length cb_path_to := by
  rintro _ K ⟨R, a, l, p, rfl, hR, ha, hl, hp, hk⟩
  refine ⟨rfl, ?_⟩
  unfold cb_path_to
  (simp only [m_path_to, N_path_to, f_path_to, v4]; and_intros)
  refine c_want_block hR ha ?_
  and_intros
  refine c_lengths_by hR hl ?_
  and_intros
  refine atS_of (mapN_at (lens_at ha)) ?_
  and_intros
  refine c_is_index ?_
  rw [decide_eq_true hp]
  and_intros
  refine c_want ?_
  and_intros
  refine c_lengths_to hR hl ?_
  and_intros
  refine c_way_down hR ha hl hp ?_
  and_intros
  refine atS_of (d := tN (way R l a p).1) rfl ?_
  and_intros
  exact hk
theorem dle {a b : Nat} (h : a ≤ b) : decide ((a : Int) ≤ (b : Int)) = true := decide_eq_true (by omega)
theorem den_word_at : Den f_word_at N_word_at.length cb_word_at := by
  rintro _ K ⟨R, a, l, p, n, rfl, hR, ha, hl, hp, hn, hk⟩
  refine ⟨rfl, ?_⟩
  unfold cb_word_at
  (simp only [m_word_at, N_word_at, f_word_at, v5]; and_intros)
  refine c_want_block hR ha ?_
  and_intros
  refine c_lengths_by hR hl ?_
  and_intros
  refine atS_of (mapN_at (lens_at ha)) ?_
  and_intros
  refine c_is_number ?_
  and_intros
  rw [dle (show p ≤ Ln R l a by omega)]
  refine c_want ?_
  and_intros
  refine c_is_number ?_
  and_intros
  rw [show (p : Int) + (n : Int) = ((p + n : Nat) : Int) by simp, dle hp]
  refine c_want ?_
  and_intros
  refine c_word_in hR ha hl hp hn ?_
  and_intros
  exact hk
theorem den_count_before : Den f_count_before N_count_before.length cb_count_before := by
  rintro _ K ⟨R, a, l, p, o, rfl, hR, ha, ho, hl, hp, hk⟩
  refine ⟨rfl, ?_⟩
  unfold cb_count_before
  (simp only [m_count_before, N_count_before, f_count_before, v5]; and_intros)
  refine c_want_block hR ha ?_
  and_intros
  refine c_is_number ?_
  and_intros
  refine c_lengths_by hR hl ?_
  and_intros
  refine atS_of (mapN_at (lens_at ha)) ?_
  and_intros
  rw [dle hp]
  refine c_want ?_
  and_intros
  rw [List.length_map]
  refine c_want_index ho ?_
  and_intros
  refine c_ahead_in hR ha ho hl hp ?_
  and_intros
  exact hk
theorem den_place_of : Den f_place_of N_place_of.length cb_place_of := by
  rintro _ K ⟨R, a, l, o, n, rfl, hR, ha, ho, hl, hk⟩
  refine ⟨rfl, ?_⟩
  unfold cb_place_of
  (simp only [m_place_of, N_place_of, f_place_of, v5]; and_intros)
  refine c_want_block hR ha ?_
  and_intros
  rw [List.length_map]
  refine c_want_index ho ?_
  and_intros
  refine c_is_number ?_
  and_intros
  refine c_want ?_
  and_intros
  refine c_place_in hR ha ho hl ?_
  and_intros
  exact hk
/-! ### slices -/
theorem cut_take {α : Type} {f : α → PyData} {xs : List α} {k : Nat} (h : k ≤ xs.length) : cutD (xs.map f) none (some (k : Int)) = (xs.take k).map f := by
  unfold cutD
  rw [HT.sIx_none, HT.sIx_nat, List.drop_zero, List.map_take, List.length_map]
  congr 1
  omega
theorem rngN_at {f : Nat → Nat} {k n : Nat} (h : k < n) : atI (((List.range n).map f).map nD) ((k : Nat) : Int) = some (nD (f k)) := mapN_at (by simp [h])
theorem den_ahead_in : Den f_ahead_in N_ahead_in.length cb_ahead_in := by
  rintro _ K ⟨R, l, a, p, o, rfl, hR, ha, ho, hl, hp, hk⟩
  refine ⟨rfl, ?_⟩
  unfold cb_ahead_in
  (simp only [m_ahead_in, N_ahead_in, f_ahead_in, v5]; and_intros)
  refine c_lengths_to hR hl ?_
  and_intros
  refine c_counts_to hR hl ?_
  and_intros
  refine atS_of (rng_at (by omega)) ?_
  and_intros
  refine atS_of (mapN_at (lens_at ha)) ?_
  and_intros
  refine br_of (fun h => ?_) (fun h => ?_)
  · have h : p = Ln R l a := by have := of_decide_eq_true h; omega
    rw [if_pos h] at hk
    and_intros
    refine atS_of (rng_at (by omega)) ?_
    and_intros
    refine atS_of (mapN_at (cnts_at ha)) ?_
    and_intros
    refine atS_of (rngN_at ho) ?_
    and_intros
    exact hk
  · have h : p ≠ Ln R l a := by have := of_decide_eq_false h; omega
    rw [if_neg h] at hk
    have hp : p < Ln R l a := by omega
    and_intros
    refine c_way_down hR ha hl hp ?_
    and_intros
    refine atS_of (d := tN (way R l a p).1) rfl ?_
    and_intros
    refine forS_ind (fun i ρ => ∃ (o1 : Option PyData) (pre : List Nat) (here rest found : Nat), ρ = [some (.val (ttN R)), some (.val (nD a)), some (.val (nD l)), some (.val (nD p)), some (.val (nD o)), some (.val (lensL R l)), some (.val (cntsL R l)), some (.val (nD found)), some (.val (nD here)), some (.val (nD (l - i))), vS o1, none]
      ∧ here < R.length ∧ rest < Ln R (l - i) here ∧ pre.length = i ∧ (way R l a p).1 = pre ++ (way R (l - i) here rest).1 ∧ found + ahd R o (l - i) here rest = ahd R o l a p) ⟨none, [], a, p, 0, rfl, ha, hp, rfl, rfl, by simp⟩ ?_ ?_
    · rintro i d ρ Φ hd ⟨o1, pre, here, rest, found, rfl, hh, hr, hpl, hw, hf⟩ hΦ
      have hi : i < l := by
        have := (List.getElem?_eq_some_iff.mp hd).1
        rw [List.length_map, way_len] at this
        exact this
      obtain ⟨m, hm⟩ : ∃ m, l - i = m + 1 := ⟨l - i - 1, by omega⟩
      rw [hm] at hr hw hf
      obtain ⟨x, hx1, hx2, hx3, hx4, hx5⟩ := step_ok hR (f := Ln R m) hh hr
      simp only [way, ahd, hx2] at hw hf
      have hkl := (List.getElem?_eq_some_iff.mp hx1).1
      have hd : d = nD (part ((ltr R here).map (Ln R m)) rest).1 := by
        rw [hw, List.map_append, List.getElem?_append_right (by simp [hpl]), List.length_map, hpl, Nat.sub_self] at hd
        simpa using hd.symm
      subst hd
      and_intros
      have e1 : ((l - i : Nat) : Int) - 1 = ((m : Nat) : Int) := by omega
      rw [e1]
      refine atS_of (mapN_at (ltr_at hh)) ?_
      and_intros
      rw [cut_take (Nat.le_of_lt hkl)]
      refine compS_map (fun b => nD (Cn R m b o)) (fun b hb Φ q => ?_) ?_
      · have hbR : b < R.length := (hR.bl _ (ltr_mem hh)).2.2 b (List.mem_of_mem_take hb)
        and_intros
        refine atS_of (rng_at (by omega)) ?_
        and_intros
        refine atS_of (mapN_at (cnts_at hbR)) ?_
        and_intros
        refine atS_of (rngN_at ho) ?_
        and_intros
        exact q
      · and_intros
        refine sumS_of ?_
        and_intros
        refine atS_of (mapN_at (ltr_at hh)) ?_
        and_intros
        refine atS_of (mapN_at hx1) ?_
        and_intros
        refine hΦ _ ⟨some (nD (part ((ltr R here).map (Ln R m)) rest).1), pre ++ [(part ((ltr R here).map (Ln R m)) rest).1], x, (part ((ltr R here).map (Ln R m)) rest).2, found + (((ltr R here).take (part ((ltr R here).map (Ln R m)) rest).1).map fun b => Cn R m b o).sum, ?_, hx3, ?_, by rw [List.length_append, hpl]; rfl, ?_, ?_⟩
        · have e2 : l - (i + 1) = m := by omega
          rw [e2]
          rfl
        · have e2 : l - (i + 1) = m := by omega
          rw [e2]
          exact hx4
        · have e2 : l - (i + 1) = m := by omega
          rw [e2, hw, List.append_assoc]
          rfl
        · have e2 : l - (i + 1) = m := by omega
          rw [e2, ← hf, Nat.add_assoc]
    · rintro ρ ⟨o1, pre, here, rest, found, rfl, hh, hr, hpl, hw, hf⟩
      rw [List.length_map, way_len, Nat.sub_self] at hf
      and_intros
      rw [← hf] at hk
      exact hk
theorem den_place_in : Den f_place_in N_place_in.length cb_place_in := by
  rintro _ K ⟨R, l, a, o, n, rfl, hR, ha, ho, hl, hk⟩
  refine ⟨rfl, ?_⟩
  unfold cb_place_in
  (simp only [m_place_in, N_place_in, f_place_in, v5]; and_intros)
  refine c_lengths_to hR hl ?_
  and_intros
  refine c_counts_to hR hl ?_
  and_intros
  refine atS_of (rng_at (by omega)) ?_
  and_intros
  refine atS_of (mapN_at (cnts_at ha)) ?_
  and_intros
  refine atS_of (rngN_at ho) ?_
  and_intros
  refine br_of (fun h => ?_) (fun h => ?_)
  · have h : Cn R l a o ≤ n := by have := of_decide_eq_true h; omega
    rw [if_pos h] at hk
    and_intros
    exact hk
  · have h : ¬ Cn R l a o ≤ n := by have := of_decide_eq_false h; omega
    rw [if_neg h] at hk
    have hp : n < Cn R l a o := by omega
    and_intros
    refine ⟨⟨⟨by omega, by omega⟩, ⟨by omega, by omega⟩, by omega⟩, ?_⟩
    have e2 : ((l : Int) - 1 - -1).toNat = l := by omega
    rw [e2]
    refine forS_ind (fun i ρ => ∃ (o1 o2 : Option PyData) (here rest found : Nat), ρ = [some (.val (ttN R)), some (.val (nD a)), some (.val (nD l)), some (.val (nD o)), some (.val (nD n)), some (.val (lensL R l)), some (.val (cntsL R l)), some (.val (nD found)), some (.val (nD here)), some (.val (nD rest)), vS o1, vS o2, none]
      ∧ here < R.length ∧ rest < Cn R (l - i) here o ∧ found + plc R o (l - i) here rest = plc R o l a n) ⟨none, none, a, n, 0, rfl, ha, hp, by simp⟩ ?_ ?_
    · rintro i d ρ Φ hd ⟨o1, o2, here, rest, found, rfl, hh, hr, hf⟩ hΦ
      obtain ⟨hi, rfl⟩ := rng_get (f := fun n => PyData.int ((l : Int) - 1 - (n : Int))) hd
      obtain ⟨m, hm⟩ : ∃ m, l - i = m + 1 := ⟨l - i - 1, by omega⟩
      rw [hm] at hr hf
      obtain ⟨x, hx1, hx2, hx3, hx4, hx5⟩ := step_ok hR (f := fun b => Cn R m b o) hh hr
      simp only [plc, hx2] at hf
      have hkl := (List.getElem?_eq_some_iff.mp hx1).1
      have e1 : (l : Int) - 1 - (i : Int) = ((m : Nat) : Int) := by omega
      rw [e1]
      and_intros
      refine atS_of (mapN_at (ltr_at hh)) ?_
      and_intros
      refine compS_map (fun b => nD (Cn R m b o)) (fun b hb Φ q => ?_) ?_
      · have hbR : b < R.length := (hR.bl _ (ltr_mem hh)).2.2 b hb
        and_intros
        refine atS_of (rng_at (by omega)) ?_
        and_intros
        refine atS_of (mapN_at (cnts_at hbR)) ?_
        and_intros
        refine atS_of (rngN_at ho) ?_
        and_intros
        exact q
      · and_intros
        have e3 : (PyData.list ((ltr R here).map fun b => nD (Cn R m b o))) = lN ((ltr R here).map fun b => Cn R m b o) := by
          show _ = PyData.list (((ltr R here).map _).map nD)
          rw [List.map_map]; rfl
        rw [e3]
        refine c_part_with hr ?_
        and_intros
        refine atS_of (mapN_at (ltr_at hh)) ?_
        and_intros
        rw [cut_take (Nat.le_of_lt hkl)]
        refine compS_map (fun b => nD (Ln R m b)) (fun b hb Φ q => ?_) ?_
        · have hbR : b < R.length := (hR.bl _ (ltr_mem hh)).2.2 b (List.mem_of_mem_take hb)
          and_intros
          refine atS_of (rng_at (by omega)) ?_
          and_intros
          refine atS_of (mapN_at (lens_at hbR)) ?_
          and_intros
          exact q
        · and_intros
          refine sumS_of ?_
          and_intros
          refine atS_of (mapN_at (ltr_at hh)) ?_
          and_intros
          refine atS_of (mapN_at hx1) ?_
          and_intros
          refine hΦ _ ⟨some (nD m), some (nD (part ((ltr R here).map fun b => Cn R m b o) rest).1), x, (part ((ltr R here).map fun b => Cn R m b o) rest).2, found + (((ltr R here).take (part ((ltr R here).map fun b => Cn R m b o) rest).1).map (Ln R m)).sum, rfl, hx3, ?_, ?_⟩
          · have e2 : l - (i + 1) = m := by omega
            rw [e2]
            exact hx4
          · have e2 : l - (i + 1) = m := by omega
            rw [e2, ← hf, Nat.add_assoc]
    · rintro ρ ⟨o1, o2, here, rest, found, rfl, hh, hr, hf⟩
      have e0 : ((List.range l).map fun (n : Nat) => PyData.int ((l : Int) - 1 - (n : Int))).length = l := by simp
      rw [e0, Nat.sub_self] at hf
      and_intros
      rw [← hf] at hk
      exact hk
theorem den_place_by : Den f_place_by N_place_by.length cb_place_by := by
  rintro _ K ⟨R, a, ks, rfl, hR, ha, hl, hp, hk⟩
  refine ⟨rfl, ?_⟩
  unfold cb_place_by
  (simp only [m_place_by, N_place_by, f_place_by, v3]; and_intros)
  refine c_want_rule hR ?_
  and_intros
  rw [List.length_map]
  refine c_want_index ha ?_
  and_intros
  have ht : isTB "tuple" (tN ks) = true := rfl
  rw [ht]
  refine c_want ?_
  and_intros
  rw [List.length_map]
  refine c_lengths_to hR hl ?_
  and_intros
  refine forS_ind (fun i ρ => ∃ (o1 o2 : Option PyData) (pre ks2 : List Nat) (here found : Nat), ρ = [some (.val (ttN R)), some (.val (nD a)), some (.val (tN ks)), some (.val (lensL R ks.length)), some (.val (nD found)), some (.val (nD here)), vS o1, vS o2, none]
      ∧ here < R.length ∧ ks = pre ++ ks2 ∧ pre.length = i ∧ Path R ks2 here ∧ found + pby R ks2 here = pby R ks a) ⟨none, none, [], ks, a, 0, rfl, ha, rfl, rfl, hp, by simp⟩ ?_ ?_
  · rintro i d ρ Φ hd ⟨o1, o2, pre, ks2, here, found, rfl, hh, hks, hpl, hpa, hf⟩ hΦ
    have hi : i < ks.length := by
      have := (List.getElem?_eq_some_iff.mp hd).1
      rw [enumD_len, List.length_map] at this
      exact this
    cases ks2 with
    | nil => rw [hks] at hi; simp at hi; omega
    | cons k ks2 =>
      have hki : ks[i]? = some k := by
        rw [hks, List.getElem?_append_right (by omega), hpl, Nat.sub_self]
        rfl
      have hd2 : d = .tuple [nD i, nD k] := by
        rw [enumD_at (d := nD k) (by rw [List.getElem?_map, hki]; rfl)] at hd
        exact (Option.some.inj hd).symm
      subst hd2
      obtain ⟨hk1, hk2⟩ := hpa
      obtain ⟨x, hx⟩ : ∃ x, (ltr R here)[k]? = some x := ⟨_, List.getElem?_eq_getElem hk1⟩
      have hxd : (ltr R here).getD k 0 = x := by rw [List.getD_eq_getElem?_getD, hx]; rfl
      simp only [pby, hxd] at hf
      rw [hxd] at hk2
      have hm : ks.length - 1 - i = ks2.length := by rw [hks]; simp; omega
      and_intros
      refine atS_of (mapN_at (ltr_at hh)) ?_
      and_intros
      rw [List.length_map]
      refine c_is_index ?_
      rw [decide_eq_true hk1]
      and_intros
      refine c_want ?_
      and_intros
      refine atS_of (mapN_at (ltr_at hh)) ?_
      and_intros
      rw [cut_take (Nat.le_of_lt hk1)]
      refine compS_map (fun b => nD (Ln R ks2.length b)) (fun b hb Φ q => ?_) ?_
      · have hbR : b < R.length := (hR.bl _ (ltr_mem hh)).2.2 b (List.mem_of_mem_take hb)
        and_intros
        rw [List.length_map]
        have e1 : (ks.length : Int) - 1 - (i : Int) = ((ks2.length : Nat) : Int) := by omega
        rw [e1]
        refine atS_of (rng_at (by omega)) ?_
        and_intros
        refine atS_of (mapN_at (lens_at hbR)) ?_
        and_intros
        exact q
      · and_intros
        refine sumS_of ?_
        and_intros
        refine atS_of (mapN_at (ltr_at hh)) ?_
        and_intros
        refine atS_of (mapN_at hx) ?_
        and_intros
        refine hΦ _ ⟨some (nD i), some (nD k), pre ++ [k], ks2, x, found + (((ltr R here).take k).map (Ln R ks2.length)).sum, rfl, ?_, ?_, by simp [hpl], hk2, ?_⟩
        · exact (hR.bl _ (ltr_mem hh)).2.2 x (List.mem_of_getElem? hx)
        · rw [hks, List.append_assoc]; rfl
        · rw [← hf, Nat.add_assoc]
  · rintro ρ ⟨o1, o2, pre, ks2, here, found, rfl, hh, hks, hpl, hpa, hf⟩
    rw [enumD_len, List.length_map] at hpl
    have : ks2 = [] := by
      have := congrArg List.length hks
      rw [List.length_append, hpl] at this
      exact List.length_eq_zero_iff.mp (by omega)
    subst this
    and_intros
    rw [← hf] at hk
    exact hk
end K87

set_option maxHeartbeats 4000000
/-! KG: plain laws: words, seeds, levels; the law's small defs. -/
namespace Vs
open PySem L2
/-- a comprehension of two clauses without effects -/
theorem comp2S_flat {vs : List Nat} {t t1 : Tg} {it1 : Ci} {body : C} {α β : Type} {xs : List α} {g : α → PyData} {g1 : β → PyData} {ρ : Env} {Q : PyData → Env → Prop} {h : Held Q} (ys : α → List β) (f : α → β → PyData) (e : α → Env)
    (hl : (xs.flatMap fun x => (ys x).map (f x)).length ≤ 16777216)
    (h1 : ∀ x, x ∈ xs → ∀ Φ : List PyData → Env → Prop, Φ ((ys x).map g1) (e x) → t.bind (g x) (wipeE ρ vs) fun ρ1 => Wi it1 ρ1 Φ)
    (h2 : ∀ x, x ∈ xs → ∀ y, y ∈ ys x → ∀ Φ : PyData → Env → Prop, Φ (f x y) (wipeE (e x) t1.slots) → t1.bind (g1 y) (wipeE (e x) t1.slots) fun ρ1 => (W body).v ρ1 fun r ρ3 => Φ r (wipeE ρ3 t1.slots))
    (h3 : ∀ x, x ∈ xs → wipeE (wipeE (e x) t1.slots) vs = wipeE ρ vs)
    (q : Q (.list (xs.flatMap fun x => (ys x).map (f x))) (backE ρ (wipeE ρ vs) vs)) : comp2S vs t .no it1 t1 .no body (xs.map g) ρ Q h := by
  unfold comp2S
  have go : ∀ (l : List α) (acc : List PyData), (∀ x, x ∈ l → x ∈ xs) → acc.length + (l.flatMap fun x => (ys x).map (f x)).length ≤ 16777216 → Q (.list (acc ++ l.flatMap fun x => (ys x).map (f x))) (backE ρ (wipeE ρ vs) vs) →
      compW2 vs t (Wcond .no) (Wi it1) t1 (Wcond .no) (W body).v (l.map g) acc (wipeE ρ vs) fun rs ρ2 => Q (.list rs) (backE ρ ρ2 vs) := by
    intro l
    induction l with
    | nil =>
      intro acc _ _ q
      rw [List.flatMap_nil, List.append_nil] at q
      exact q
    | cons x l ih =>
      intro acc hm hl q
      rw [List.flatMap_cons] at hl q
      rw [List.length_append] at hl
      have hx := hm x (by simp)
      refine h1 x hx (fun es ρ3 => compIn t1.slots t1 (Wcond .no) (W body).v es acc (wipeE ρ3 t1.slots) fun acc' ρ4 => compW2 vs t (Wcond .no) (Wi it1) t1 (Wcond .no) (W body).v (l.map g) acc' (wipeE ρ4 vs) fun rs ρ2 => Q (.list rs) (backE ρ ρ2 vs)) ?_
      have inner : ∀ (zs : List β) (acc : List PyData), (∀ y, y ∈ zs → y ∈ ys x) → acc.length + (zs.map (f x)).length + (l.flatMap fun x => (ys x).map (f x)).length ≤ 16777216 → Q (.list (acc ++ (zs.map (f x) ++ l.flatMap fun x => (ys x).map (f x)))) (backE ρ (wipeE ρ vs) vs) →
          compIn t1.slots t1 (Wcond .no) (W body).v (zs.map g1) acc (wipeE (e x) t1.slots) fun acc' ρ4 => compW2 vs t (Wcond .no) (Wi it1) t1 (Wcond .no) (W body).v (l.map g) acc' (wipeE ρ4 vs) fun rs ρ2 => Q (.list rs) (backE ρ ρ2 vs) := by
        intro zs
        induction zs with
        | nil =>
          intro acc _ hl q
          show compW2 vs t (Wcond .no) (Wi it1) t1 (Wcond .no) (W body).v (l.map g) acc (wipeE (wipeE (e x) t1.slots) vs) _
          rw [h3 x hx]
          exact ih acc (fun y hy => hm y (by simp [hy])) (by simpa using hl) (by simpa using q)
        | cons y zs ihz =>
          intro acc hmz hl q
          refine h2 x hx y (hmz y (by simp)) (fun r ρ3 => acc.length < 16777216 ∧ compIn t1.slots t1 (Wcond .no) (W body).v (zs.map g1) (acc ++ [r]) ρ3 fun acc' ρ4 => compW2 vs t (Wcond .no) (Wi it1) t1 (Wcond .no) (W body).v (l.map g) acc' (wipeE ρ4 vs) fun rs ρ2 => Q (.list rs) (backE ρ ρ2 vs)) ⟨?_, ?_⟩
          · simp only [List.map_cons, List.length_cons] at hl
            omega
          · refine ihz _ (fun z hz => hmz z (by simp [hz])) ?_ ?_
            · simp only [List.map_cons, List.length_cons, List.length_append, List.length_nil] at hl ⊢
              omega
            · simpa using q
      exact inner (ys x) acc (fun y hy => hy) (by omega) (by simpa using q)
  exact go xs [] (fun x hx => hx) (by simpa using hl) (by simpa using q)
end Vs
namespace K87
open PySem L2 Vs
local macro_rules | `(tactic| and_intros) => `(tactic| try simp only [↓rdG0v, rdG0v, ↓rdG0o, rdG0o, ↓rdGs, rdGs, ↓takeG0v, takeG0v, ↓takeG0o, takeG0o, ↓takeGs, takeGs, ↓hasG0, hasG0, ↓hasGs, hasGs, ↓ownG0, ownG0, ↓ownGs, ownGs, ↓free0n, free0n, ↓free0v, free0v, ↓free0o, free0o, ↓frees, frees, ↓hass, hass, ↓has0, has0, ↓isL0, isL0, ↓isLs, isLs, ↓S_nil, S_nil, ↓S_cons, S_cons, ↓seq_nx, seq_nx, ↓seq_rt, seq_rt, ↓seq_bk, seq_bk, ↓seq_ct, seq_ct, ↓lp_nx, lp_nx, ↓lp_rt, lp_rt, ↓lp_bk, lp_bk, ↓lp_ct, lp_ct, ↓fin_rt, fin_rt, ↓fin_nx, fin_nx, ↓outs_nil, outs_nil, ↓outs_f, outs_f, ↓outs_t, outs_t, ↓S_set, S_set, ↓S_unpack, S_unpack, ↓S_par, S_par, ↓S_setIdx, S_setIdx, ↓appK_l, appK_l, ↓extK_l, extK_l, ↓extK_t, extK_t, ↓S_append, S_append, ↓S_extend, S_extend, ↓S_expr, S_expr, ↓S_ret, S_ret, ↓S_retN, S_retN, ↓S_ite, S_ite, ↓S_whl, S_whl, ↓S_forr, S_forr, ↓S_never, S_never, ↓S_pass, S_pass, ↓S_brk, S_brk, ↓S_cont, S_cont, ↓S_tryy, S_tryy, ↓W_var, W_var, ↓W_varT, W_varT, ↓W_con, W_con, ↓W_conT, W_conT, ↓negW_i, negW_i, ↓W_neg, W_neg, ↓W_not, W_not, ↓W_notT, W_notT, ↓andK_b, andK_b, ↓W_and, W_and, ↓W_andT, W_andT, ↓W_or, W_or, ↓W_orT, W_orT, ↓W_bin, W_bin, ↓W_cmp, W_cmp, ↓W_cmpT, W_cmpT, ↓W_ite, W_ite, ↓W_tup, W_tup, ↓W_lst, W_lst, ↓W_dct, W_dct, ↓W_idx, W_idx, ↓W_sli, W_sli, ↓W_comp, W_comp, ↓W_comp2, W_comp2, ↓W_call, W_call, ↓W_bi, W_bi, ↓W_isT, W_isT, ↓W_cat, W_cat, ↓W_rep, W_rep, ↓W_callT, W_callT, ↓W_biT, W_biT, ↓W_isTT, W_isTT, ↓W_idxT, W_idxT, ↓W_binT, W_binT, ↓W_compT, W_compT, ↓O_var, O_var, ↓O_con, O_con, ↓O_neg, O_neg, ↓O_not, O_not, ↓O_and, O_and, ↓O_or, O_or, ↓O_bin, O_bin, ↓O_cmp, O_cmp, ↓O_ite, O_ite, ↓O_tup, O_tup, ↓O_lst, O_lst, ↓O_dct, O_dct, ↓O_idx, O_idx, ↓O_sli, O_sli, ↓O_comp, O_comp, ↓O_comp2, O_comp2, ↓O_call, O_call, ↓O_bi, O_bi, ↓O_isT, O_isT, ↓O_cat, O_cat, ↓O_rep, O_rep, ↓on_d, on_d, ↓on_s, on_s, ↓Ws_nil, Ws_nil, ↓Ws_cons, Ws_cons, ↓Wo_nil, Wo_nil, ↓Wo_cons, Wo_cons, ↓oa_nil, oa_nil, ↓oa_cons, oa_cons, ↓Wa_nil, Wa_nil, ↓Wa_f, Wa_f, ↓Wa_t, Wa_t, ↓ao_nil, ao_nil, ↓ao_v, ao_v, ↓ao_l, ao_l, ↓Wp_no, Wp_no, ↓intK_i, intK_i, ↓Wp_one, Wp_one, ↓Wc_no, Wc_no, ↓Wc_one, Wc_one, ↓Wi_seq, Wi_seq, ↓Wi_r1, Wi_r1, ↓Wi_r2, Wi_r2, ↓Wi_r3, Wi_r3, ↓seqK_l, seqK_l, ↓seqK_t, seqK_t, ↓zipK_l, zipK_l, ↓zipK_t, zipK_t, ↓Wi_enum, Wi_enum, ↓Wi_zip, Wi_zip, ↓it_l, it_l, ↓it_t, it_t, ↓it_d, it_d, ↓tr_b, tr_b, ↓tr_i, tr_i, ↓tr_n, tr_n, ↓tr_l, tr_l, ↓tr_t, tr_t, ↓b_add, b_add, ↓b_sub, b_sub, ↓b_mul, b_mul, ↓b_fdiv, b_fdiv, ↓b_mod, b_mod, ↓b_pow, b_pow, ↓b_addT, b_addT, ↓c_lt, c_lt, ↓c_le, c_le, ↓c_gt, c_gt, ↓c_ge, c_ge, ↓c_eq, c_eq, ↓c_ne, c_ne, ↓c_eqs, c_eqs, ↓c_nes, c_nes, ↓c_eq_list, c_eq_list, ↓c_eq_tuple, c_eq_tuple, ↓c_ne_list, c_ne_list, ↓c_ne_tuple, c_ne_tuple, ↓nonB_n, nonB_n, ↓nonB_i, nonB_i, ↓nonB_b, nonB_b, ↓nonB_t, nonB_t, ↓nonB_l, nonB_l, ↓c_is, c_is, ↓c_isnot, c_isnot, ↓ix_l, ix_l, ↓ix_t, ix_t, ↓sl_l, sl_l, ↓sl_t, sl_t, ↓cat_l, cat_l, ↓rep_l, rep_l, ↓bl_l, bl_l, ↓bl_t, bl_t, ↓bl_d, bl_d, ↓bt_l, bt_l, ↓bt_t, bt_t, ↓bs_l, bs_l, ↓bs_t, bs_t, ↓bi_i, bi_i, ↓bi_b, bi_b, ↓bx2, bx2, ↓bn2, bn2, ↓babs, babs, ↓bsum, bsum, ↓bmax, bmax, ↓bmin, bmin, ↓ball, ball, ↓bany, bany, ↓bsor, bsor, ↓bdic, bdic, ↓brep, brep, ↓bd_one, bd_one, ↓bd_many, bd_many, ↓so_l, so_l, ↓br_t, br_t, ↓br_f, br_f, ↓mk_t, mk_t, ↓mk_f, mk_f, Cs.freshes, C.fresh, putPar, putAll, initE, Fn.run, argsBack, Arg.lends, wipeE, backE, valOf, Tg.slots, List.getElem?_cons_zero, List.getElem?_cons_succ, List.getElem?_nil, List.set_cons_zero, List.set_cons_succ, List.zip_cons_cons, List.zip_nil_right, List.zip_nil_left, List.length_cons, List.length_nil, List.cons_append, List.nil_append, List.append_nil, List.replicate_succ, List.replicate_zero, ↓reduceIte, Bool.false_eq_true, List.mem_cons, List.not_mem_nil, or_false, forall_eq_or_imp, forall_eq, true_and, and_true, List.nodup_nil, List.nodup_cons, Nat.zero_add, Nat.reduceAdd, Nat.reduceSub, Nat.reduceEqDiff, reduceCtorEq, not_false_eq_true, false_or, or_self, forall_const, implies_true, List.map_cons, List.map_nil, and_self, Bool.not_true, Bool.not_false, Bool.not_eq_true, decide_true, decide_false, mk_t, mk_f, false_implies, ↓free0s, free0s, ↓m_is_integer, m_is_integer, q_is_integer, ↓m_is_number, m_is_number, q_is_number, ↓m_is_index, m_is_index, q_is_index, ↓m_is_full_tuple, m_is_full_tuple, q_is_full_tuple, ↓m_are_indexes, m_are_indexes, q_are_indexes, ↓m_is_rule, m_is_rule, q_is_rule, ↓m_units_by, m_units_by, q_units_by, ↓m_added_rows, m_added_rows, q_added_rows, ↓m_counts_to, m_counts_to, q_counts_to, ↓m_counts_by, m_counts_by, q_counts_by, ↓m_lengths_to, m_lengths_to, q_lengths_to, ↓m_lengths_by, m_lengths_by, q_lengths_by, ↓m_part_with, m_part_with, q_part_with, ↓m_way_down, m_way_down, q_way_down, ↓m_word_in, m_word_in, q_word_in, ↓m_ahead_in, m_ahead_in, q_ahead_in, ↓m_place_in, m_place_in, q_place_in, ↓m_want, m_want, q_want, ↓m_want_2, m_want_2, q_want_2, ↓m_want_rule, m_want_rule, q_want_rule, ↓m_want_rule_1, m_want_rule_1, q_want_rule_1, ↓m_want_index, m_want_index, q_want_index, ↓m_word_after, m_word_after, q_word_after, ↓m_want_block, m_want_block, q_want_block, ↓m_block_of, m_block_of, q_block_of, ↓m_length_of, m_length_of, q_length_of, ↓m_lengths_of, m_lengths_of, q_lengths_of, ↓m_counts_in, m_counts_in, q_counts_in, ↓m_growth_by, m_growth_by, q_growth_by, ↓m_want_growing, m_want_growing, q_want_growing, ↓m_want_growing_1, m_want_growing_1, q_want_growing_1, ↓m_letter_at, m_letter_at, q_letter_at, ↓m_word_at, m_word_at, q_word_at, ↓m_count_before, m_count_before, q_count_before, ↓m_place_of, m_place_of, q_place_of, ↓m_path_to, m_path_to, q_path_to, ↓m_place_by, m_place_by, q_place_by, ↓m_first_again, m_first_again, q_first_again, ↓m_seeds, m_seeds, q_seeds, ↓m_level_holding, m_level_holding, q_level_holding, ↓m_law_draw, m_law_draw, q_law_draw, ↓m_law_pick, m_law_pick, q_law_pick, ↓m_law_same, m_law_same, q_law_same, ↓m_law_becomes, m_law_becomes, q_law_becomes, ↓m_law_does_grow, m_law_does_grow, q_law_does_grow, ↓m_law_grown, m_law_grown, q_law_grown, ↓m_law_any_rule, m_law_any_rule, q_law_any_rule, ↓m_law_far, m_law_far, q_law_far, ↓m_law_sums, m_law_sums, q_law_sums, ↓m_law_down, m_law_down, q_law_down, ↓m_law_found, m_law_found, q_law_found, ↓m_law_halves_right, m_law_halves_right, q_law_halves_right, ↓m_law_place_right, m_law_place_right, q_law_place_right, ↓m_law_index_right, m_law_index_right, q_law_index_right, ↓m_law_small_right, m_law_small_right, q_law_small_right, ↓m_law_seeds, m_law_seeds, q_law_seeds, ↓m_law_holding_right, m_law_holding_right, q_law_holding_right, ↓m_law_is_right, m_law_is_right, q_law_is_right])
theorem flat_len {R : List (List Nat)} (hR : Ok R) : ∀ {w : List Nat}, (∀ x ∈ w, x < R.length) → (w.flatMap (ltr R)).length ≤ 4 * w.length
  | [], _ => by simp
  | x :: w, h => by
    have h1 := flat_len hR (w := w) fun y hy => h y (by simp [hy])
    have h2 := (hR.bl _ (ltr_mem (h x (by simp)))).2.1
    rw [List.flatMap_cons, List.length_append, List.length_cons]
    omega
theorem flat_mem {R : List (List Nat)} (hR : Ok R) {w : List Nat} (h : ∀ x ∈ w, x < R.length) : ∀ y ∈ w.flatMap (ltr R), y < R.length := by
  intro y hy
  obtain ⟨x, hx, hy⟩ := List.mem_flatMap.mp hy
  exact (hR.bl _ (ltr_mem (h x hx))).2.2 y hy
theorem map_flat {α β : Type} (f : α → β) (g : Nat → List α) (w : List Nat) : (w.flatMap g).map f = w.flatMap fun x => (g x).map f := by
  induction w with
  | nil => rfl
  | cons x w ih => rw [List.flatMap_cons, List.flatMap_cons, List.map_append, ih]
theorem den_word_after : Den f_word_after N_word_after.length cb_word_after := by
  rintro _ K ⟨R, w, rfl, hR, hw, hl, hk⟩
  refine ⟨rfl, ?_⟩
  unfold cb_word_after
  (simp only [m_word_after, N_word_after, f_word_after, v2]; and_intros)
  have hfl := flat_len hR hw
  refine comp2S_flat (g1 := nD) (ltr R) (fun x y => nD y) (fun x => [some (.val (ttN R)), some (.val (tN w)), some (.val (nD x)), none]) ?_ (fun x hx Φ q => ?_) (fun x hx y hy Φ q => ?_) (fun x hx => ?_) ?_
  · rw [← map_flat nD, List.length_map]; omega
  · and_intros
    refine atS_of (mapN_at (ltr_at (hw x hx))) ?_
    and_intros
    exact q
  · and_intros
    exact q
  · rfl
  · and_intros
    rw [← map_flat nD]
    exact hk
theorem blk_succ (R : List (List Nat)) : ∀ (l a : Nat), blk R (l + 1) a = (ltr R a).flatMap (blk R l)
  | 0, a => by
    have e : ∀ l : List Nat, l.flatMap (blk R 0) = l := fun l => by
      induction l with
      | nil => rfl
      | cons x l ih => rw [List.flatMap_cons, ih]; rfl
    rw [e]
    simp [blk]
  | l + 1, a => by
    show (blk R (l + 1) a).flatMap (ltr R) = _
    rw [blk_succ R l a, List.flatMap_assoc]
    rfl
theorem blk_len (R : List (List Nat)) : ∀ (l a : Nat), (blk R l a).length = Ln R l a
  | 0, a => rfl
  | l + 1, a => by
    rw [blk_succ, List.length_flatMap]
    show _ = ((ltr R a).map (Ln R l)).sum
    congr 1
    apply List.map_congr_left
    intro b _
    exact blk_len R l b
theorem blk_mem {R : List (List Nat)} (hR : Ok R) {a : Nat} (ha : a < R.length) : ∀ l, ∀ x ∈ blk R l a, x < R.length
  | 0, x, hx => by
    have : x = a := by simpa [blk] using hx
    rw [this]; exact ha
  | l + 1, x, hx => flat_mem hR (blk_mem hR ha l) x hx
theorem flat_ge {R : List (List Nat)} (hR : Ok R) : ∀ {w : List Nat}, (∀ x ∈ w, x < R.length) → w.length ≤ (w.flatMap (ltr R)).length
  | [], _ => by simp
  | x :: w, h => by
    have h1 := flat_ge hR (w := w) fun y hy => h y (by simp [hy])
    have h2 := List.length_pos_iff.mpr (hR.bl _ (ltr_mem (h x (by simp)))).1
    rw [List.flatMap_cons, List.length_append, List.length_cons]
    omega
theorem Ln_succ {R : List (List Nat)} (hR : Ok R) {a : Nat} (ha : a < R.length) (l : Nat) : Ln R l a ≤ Ln R (l + 1) a := by
  rw [← blk_len, ← blk_len]
  exact flat_ge hR (blk_mem hR ha l)
theorem Ln_mono {R : List (List Nat)} (hR : Ok R) {a : Nat} (ha : a < R.length) {l m : Nat} (h : l ≤ m) : Ln R l a ≤ Ln R m a := by
  induction h with
  | refl => exact Nat.le_refl _
  | step _ ih => exact Nat.le_trans ih (Ln_succ hR ha _)
theorem den_block_of : Den f_block_of N_block_of.length cb_block_of := by
  rintro _ K ⟨R, a, l, rfl, hR, ha, hl, h3, hk⟩
  refine ⟨rfl, ?_⟩
  unfold cb_block_of
  (simp only [m_block_of, N_block_of, f_block_of, v3]; and_intros)
  refine c_want_block hR ha ?_
  and_intros
  refine ⟨⟨by omega, by omega⟩, ?_⟩
  rw [Int.toNat_natCast, rangeD_nat]
  refine forS_ind (fun i ρ => ∃ (o1 : Option PyData), ρ = [some (.val (ttN R)), some (.val (nD a)), some (.val (nD l)), some (.val (tN (blk R i a))), vS o1]) ⟨none, rfl⟩ ?_ ?_
  · rintro i d ρ Φ hd ⟨o1, rfl⟩ hΦ
    obtain ⟨hi, rfl⟩ := rng_get hd
    and_intros
    refine c_word_after hR (blk_mem hR ha i) ?_ ?_
    · rw [blk_len]
      exact Nat.le_trans (Ln_mono hR ha (by omega)) h3
    · and_intros
      exact hΦ _ ⟨some (nD i), rfl⟩
  · rintro ρ ⟨o1, rfl⟩
    have : ((List.range l).map nD).length = l := by simp
    rw [this]
    and_intros
    exact hk
theorem den_law_becomes : Den f_law_becomes N_law_becomes.length cb_law_becomes := by
  rintro _ K ⟨R, w, dw, rfl, hdw, hR, hw, hl, hk⟩
  refine ⟨rfl, ?_⟩
  unfold cb_law_becomes
  (simp only [m_law_becomes, N_law_becomes, f_law_becomes, v2]; and_intros)
  refine forS_ind (fun i ρ => ∃ (o1 : Option PyData), ρ = [some (.val dw), some (.val (tN w)), some (.own (lN ((w.take i).flatMap (ltr R))) false), vS o1]) ⟨none, rfl⟩ ?_ ?_
  · rintro i d ρ Φ hd ⟨o1, rfl⟩ hΦ
    rw [List.getElem?_map] at hd
    obtain ⟨x, hx, rfl⟩ := Option.map_eq_some_iff.mp hd
    have hxm := List.mem_of_getElem? hx
    have hi := (List.getElem?_eq_some_iff.mp hx).1
    have go : ∀ {k : PyData → Prop}, k (tN (ltr R x)) → idxW dw (nD x) k := fun {k} q => by
      rcases hdw with rfl | rfl
      · exact ⟨_, mapN_at (ltr_at (hw x hxm)), q⟩
      · exact ⟨_, mapN_at (ltr_at (hw x hxm)), q⟩
    and_intros
    refine go ?_
    and_intros
    have h4 := (hR.bl _ (ltr_mem (hw x hxm))).2.1
    have h5 := flat_len hR (w := w.take i) fun y hy => hw y (List.mem_of_mem_take hy)
    have h6 : (w.take i).length ≤ 300 := by rw [List.length_take]; omega
    refine ⟨by rw [List.length_map, List.length_map]; omega, hΦ _ ⟨some (nD x), ?_⟩⟩
    have e : w.take (i + 1) = w.take i ++ [x] := by rw [List.take_add_one, hx]; rfl
    rw [e, List.flatMap_append]
    show _ = [some (Slot.val dw), some (Slot.val (tN w)), some (Slot.own (.list ((List.flatMap (ltr R) (w.take i) ++ List.flatMap (ltr R) [x]).map nD)) false), _]
    rw [List.map_append]
    simp [vS]
  · rintro ρ ⟨o1, rfl⟩
    rw [List.length_map, List.take_length]
    and_intros
    exact hk
theorem den_law_same : Den f_law_same N_law_same.length cb_law_same := by
  rintro _ K ⟨x, rfl, hs, hk⟩
  refine ⟨rfl, ?_⟩
  unfold cb_law_same
  (simp only [m_law_same, N_law_same, f_law_same, v2]; and_intros)
  refine ⟨hs, ?_⟩
  and_intros
  refine ⟨hs, ?_⟩
  and_intros
  exact hk
end K87

set_option maxHeartbeats 4000000
/-! KH: plain laws: seeds, levels. -/
namespace K87
open PySem L2 Vs
local macro_rules | `(tactic| and_intros) => `(tactic| try simp only [↓rdG0v, rdG0v, ↓rdG0o, rdG0o, ↓rdGs, rdGs, ↓takeG0v, takeG0v, ↓takeG0o, takeG0o, ↓takeGs, takeGs, ↓hasG0, hasG0, ↓hasGs, hasGs, ↓ownG0, ownG0, ↓ownGs, ownGs, ↓free0n, free0n, ↓free0v, free0v, ↓free0o, free0o, ↓frees, frees, ↓hass, hass, ↓has0, has0, ↓isL0, isL0, ↓isLs, isLs, ↓S_nil, S_nil, ↓S_cons, S_cons, ↓seq_nx, seq_nx, ↓seq_rt, seq_rt, ↓seq_bk, seq_bk, ↓seq_ct, seq_ct, ↓lp_nx, lp_nx, ↓lp_rt, lp_rt, ↓lp_bk, lp_bk, ↓lp_ct, lp_ct, ↓fin_rt, fin_rt, ↓fin_nx, fin_nx, ↓outs_nil, outs_nil, ↓outs_f, outs_f, ↓outs_t, outs_t, ↓S_set, S_set, ↓S_unpack, S_unpack, ↓S_par, S_par, ↓S_setIdx, S_setIdx, ↓appK_l, appK_l, ↓extK_l, extK_l, ↓extK_t, extK_t, ↓S_append, S_append, ↓S_extend, S_extend, ↓S_expr, S_expr, ↓S_ret, S_ret, ↓S_retN, S_retN, ↓S_ite, S_ite, ↓S_whl, S_whl, ↓S_forr, S_forr, ↓S_never, S_never, ↓S_pass, S_pass, ↓S_brk, S_brk, ↓S_cont, S_cont, ↓S_tryy, S_tryy, ↓W_var, W_var, ↓W_varT, W_varT, ↓W_con, W_con, ↓W_conT, W_conT, ↓negW_i, negW_i, ↓W_neg, W_neg, ↓W_not, W_not, ↓W_notT, W_notT, ↓andK_b, andK_b, ↓W_and, W_and, ↓W_andT, W_andT, ↓W_or, W_or, ↓W_orT, W_orT, ↓W_bin, W_bin, ↓W_cmp, W_cmp, ↓W_cmpT, W_cmpT, ↓W_ite, W_ite, ↓W_tup, W_tup, ↓W_lst, W_lst, ↓W_dct, W_dct, ↓W_idx, W_idx, ↓W_sli, W_sli, ↓W_comp, W_comp, ↓W_comp2, W_comp2, ↓W_call, W_call, ↓W_bi, W_bi, ↓W_isT, W_isT, ↓W_cat, W_cat, ↓W_rep, W_rep, ↓W_callT, W_callT, ↓W_biT, W_biT, ↓W_isTT, W_isTT, ↓W_idxT, W_idxT, ↓W_binT, W_binT, ↓W_compT, W_compT, ↓O_var, O_var, ↓O_con, O_con, ↓O_neg, O_neg, ↓O_not, O_not, ↓O_and, O_and, ↓O_or, O_or, ↓O_bin, O_bin, ↓O_cmp, O_cmp, ↓O_ite, O_ite, ↓O_tup, O_tup, ↓O_lst, O_lst, ↓O_dct, O_dct, ↓O_idx, O_idx, ↓O_sli, O_sli, ↓O_comp, O_comp, ↓O_comp2, O_comp2, ↓O_call, O_call, ↓O_bi, O_bi, ↓O_isT, O_isT, ↓O_cat, O_cat, ↓O_rep, O_rep, ↓on_d, on_d, ↓on_s, on_s, ↓Ws_nil, Ws_nil, ↓Ws_cons, Ws_cons, ↓Wo_nil, Wo_nil, ↓Wo_cons, Wo_cons, ↓oa_nil, oa_nil, ↓oa_cons, oa_cons, ↓Wa_nil, Wa_nil, ↓Wa_f, Wa_f, ↓Wa_t, Wa_t, ↓ao_nil, ao_nil, ↓ao_v, ao_v, ↓ao_l, ao_l, ↓Wp_no, Wp_no, ↓intK_i, intK_i, ↓Wp_one, Wp_one, ↓Wc_no, Wc_no, ↓Wc_one, Wc_one, ↓Wi_seq, Wi_seq, ↓Wi_r1, Wi_r1, ↓Wi_r2, Wi_r2, ↓Wi_r3, Wi_r3, ↓seqK_l, seqK_l, ↓seqK_t, seqK_t, ↓zipK_l, zipK_l, ↓zipK_t, zipK_t, ↓Wi_enum, Wi_enum, ↓Wi_zip, Wi_zip, ↓it_l, it_l, ↓it_t, it_t, ↓it_d, it_d, ↓tr_b, tr_b, ↓tr_i, tr_i, ↓tr_n, tr_n, ↓tr_l, tr_l, ↓tr_t, tr_t, ↓b_add, b_add, ↓b_sub, b_sub, ↓b_mul, b_mul, ↓b_fdiv, b_fdiv, ↓b_mod, b_mod, ↓b_pow, b_pow, ↓b_addT, b_addT, ↓c_lt, c_lt, ↓c_le, c_le, ↓c_gt, c_gt, ↓c_ge, c_ge, ↓c_eq, c_eq, ↓c_ne, c_ne, ↓c_eqs, c_eqs, ↓c_nes, c_nes, ↓c_eq_list, c_eq_list, ↓c_eq_tuple, c_eq_tuple, ↓c_ne_list, c_ne_list, ↓c_ne_tuple, c_ne_tuple, ↓nonB_n, nonB_n, ↓nonB_i, nonB_i, ↓nonB_b, nonB_b, ↓nonB_t, nonB_t, ↓nonB_l, nonB_l, ↓c_is, c_is, ↓c_isnot, c_isnot, ↓ix_l, ix_l, ↓ix_t, ix_t, ↓sl_l, sl_l, ↓sl_t, sl_t, ↓cat_l, cat_l, ↓rep_l, rep_l, ↓bl_l, bl_l, ↓bl_t, bl_t, ↓bl_d, bl_d, ↓bt_l, bt_l, ↓bt_t, bt_t, ↓bs_l, bs_l, ↓bs_t, bs_t, ↓bi_i, bi_i, ↓bi_b, bi_b, ↓bx2, bx2, ↓bn2, bn2, ↓babs, babs, ↓bsum, bsum, ↓bmax, bmax, ↓bmin, bmin, ↓ball, ball, ↓bany, bany, ↓bsor, bsor, ↓bdic, bdic, ↓brep, brep, ↓bd_one, bd_one, ↓bd_many, bd_many, ↓so_l, so_l, ↓br_t, br_t, ↓br_f, br_f, ↓mk_t, mk_t, ↓mk_f, mk_f, Cs.freshes, C.fresh, putPar, putAll, initE, Fn.run, argsBack, Arg.lends, wipeE, backE, valOf, Tg.slots, List.getElem?_cons_zero, List.getElem?_cons_succ, List.getElem?_nil, List.set_cons_zero, List.set_cons_succ, List.zip_cons_cons, List.zip_nil_right, List.zip_nil_left, List.length_cons, List.length_nil, List.cons_append, List.nil_append, List.append_nil, List.replicate_succ, List.replicate_zero, ↓reduceIte, Bool.false_eq_true, List.mem_cons, List.not_mem_nil, or_false, forall_eq_or_imp, forall_eq, true_and, and_true, List.nodup_nil, List.nodup_cons, Nat.zero_add, Nat.reduceAdd, Nat.reduceSub, Nat.reduceEqDiff, reduceCtorEq, not_false_eq_true, false_or, or_self, forall_const, implies_true, List.map_cons, List.map_nil, and_self, Bool.not_true, Bool.not_false, Bool.not_eq_true, decide_true, decide_false, mk_t, mk_f, false_implies, ↓free0s, free0s, ↓m_is_integer, m_is_integer, q_is_integer, ↓m_is_number, m_is_number, q_is_number, ↓m_is_index, m_is_index, q_is_index, ↓m_is_full_tuple, m_is_full_tuple, q_is_full_tuple, ↓m_are_indexes, m_are_indexes, q_are_indexes, ↓m_is_rule, m_is_rule, q_is_rule, ↓m_units_by, m_units_by, q_units_by, ↓m_added_rows, m_added_rows, q_added_rows, ↓m_counts_to, m_counts_to, q_counts_to, ↓m_counts_by, m_counts_by, q_counts_by, ↓m_lengths_to, m_lengths_to, q_lengths_to, ↓m_lengths_by, m_lengths_by, q_lengths_by, ↓m_part_with, m_part_with, q_part_with, ↓m_way_down, m_way_down, q_way_down, ↓m_word_in, m_word_in, q_word_in, ↓m_ahead_in, m_ahead_in, q_ahead_in, ↓m_place_in, m_place_in, q_place_in, ↓m_want, m_want, q_want, ↓m_want_2, m_want_2, q_want_2, ↓m_want_rule, m_want_rule, q_want_rule, ↓m_want_rule_1, m_want_rule_1, q_want_rule_1, ↓m_want_index, m_want_index, q_want_index, ↓m_word_after, m_word_after, q_word_after, ↓m_want_block, m_want_block, q_want_block, ↓m_block_of, m_block_of, q_block_of, ↓m_length_of, m_length_of, q_length_of, ↓m_lengths_of, m_lengths_of, q_lengths_of, ↓m_counts_in, m_counts_in, q_counts_in, ↓m_growth_by, m_growth_by, q_growth_by, ↓m_want_growing, m_want_growing, q_want_growing, ↓m_want_growing_1, m_want_growing_1, q_want_growing_1, ↓m_letter_at, m_letter_at, q_letter_at, ↓m_word_at, m_word_at, q_word_at, ↓m_count_before, m_count_before, q_count_before, ↓m_place_of, m_place_of, q_place_of, ↓m_path_to, m_path_to, q_path_to, ↓m_place_by, m_place_by, q_place_by, ↓m_first_again, m_first_again, q_first_again, ↓m_seeds, m_seeds, q_seeds, ↓m_level_holding, m_level_holding, q_level_holding, ↓m_law_draw, m_law_draw, q_law_draw, ↓m_law_pick, m_law_pick, q_law_pick, ↓m_law_same, m_law_same, q_law_same, ↓m_law_becomes, m_law_becomes, q_law_becomes, ↓m_law_does_grow, m_law_does_grow, q_law_does_grow, ↓m_law_grown, m_law_grown, q_law_grown, ↓m_law_any_rule, m_law_any_rule, q_law_any_rule, ↓m_law_far, m_law_far, q_law_far, ↓m_law_sums, m_law_sums, q_law_sums, ↓m_law_down, m_law_down, q_law_down, ↓m_law_found, m_law_found, q_law_found, ↓m_law_halves_right, m_law_halves_right, q_law_halves_right, ↓m_law_place_right, m_law_place_right, q_law_place_right, ↓m_law_index_right, m_law_index_right, q_law_index_right, ↓m_law_small_right, m_law_small_right, q_law_small_right, ↓m_law_seeds, m_law_seeds, q_law_seeds, ↓m_law_holding_right, m_law_holding_right, q_law_holding_right, ↓m_law_is_right, m_law_is_right, q_law_is_right])
theorem frst_lt {R : List (List Nat)} (hR : Ok R) {a : Nat} (ha : a < R.length) : ∀ l, frst R l a < R.length
  | 0 => ha
  | l + 1 => by
    have h1 := frst_lt hR ha l
    obtain ⟨b1, b2, b3⟩ := hR.bl _ (ltr_mem h1)
    show (ltr R (frst R l a)).getD 0 0 < _
    cases e : ltr R (frst R l a) with
    | nil => exact absurd e b1
    | cons x w =>
      rw [e] at b3
      exact b3 x (by simp)
theorem ltr0_at {R : List (List Nat)} (hR : Ok R) {x : Nat} (hx : x < R.length) : atI ((ltr R x).map nD) 0 = some (nD ((ltr R x).getD 0 0)) := by
  obtain ⟨b1, b2, b3⟩ := hR.bl _ (ltr_mem hx)
  cases e : ltr R x with
  | nil => exact absurd e b1
  | cons y w => exact at0
theorem again_some {R : List (List Nat)} {a i : Nat} (h1 : ∀ j, j < i → frst R (j + 1) a ≠ a) (h2 : frst R (i + 1) a = a) (h3 : i < R.length) : again R a = some (i + 1) := by
  unfold again
  rw [List.find?_eq_some_iff_getElem]
  refine ⟨by simpa using h2, i, by simpa using h3, by simp, fun j hj => ?_⟩
  simpa using h1 j hj
theorem again_none {R : List (List Nat)} {a : Nat} (h1 : ∀ j, j < R.length → frst R (j + 1) a ≠ a) : again R a = none := by
  unfold again
  rw [List.find?_eq_none]
  intro x hx
  obtain ⟨j, hj, rfl⟩ := List.mem_map.mp hx
  simpa using h1 j (by simpa using hj)
theorem rangeD_one (n : Nat) : rangeD 1 n = (List.range n).map fun i => nD (i + 1) := by
  unfold rangeD
  apply List.map_congr_left
  intro i _
  show PyData.int (1 + (i : Int)) = PyData.int ((i + 1 : Nat) : Int)
  congr 1
  omega
theorem den_first_again : Den f_first_again N_first_again.length cb_first_again := by
  rintro _ K ⟨R, a, rfl, hR, ha, hk⟩
  refine ⟨rfl, ?_⟩
  unfold cb_first_again
  (simp only [m_first_again, N_first_again, f_first_again, v2]; and_intros)
  have h4 := hR.n4
  rw [List.length_map]
  refine ⟨⟨⟨by omega, by omega⟩, ⟨by omega, by omega⟩, by omega⟩, ?_⟩
  have e : ((R.length : Int) + 1 - 1).toNat = R.length := by omega
  rw [e, rangeD_one]
  refine forS_ind (fun i ρ => ∃ (o1 : Option PyData), ρ = [some (.val (ttN R)), some (.val (nD a)), some (.val (nD (frst R i a))), vS o1] ∧ ∀ j, j < i → frst R (j + 1) a ≠ a) ⟨none, rfl, fun j hj => by omega⟩ ?_ ?_
  · rintro i d ρ Φ hd ⟨o1, rfl, hn⟩ hΦ
    obtain ⟨hi, rfl⟩ := rng_get hd
    have hf := frst_lt hR ha i
    and_intros
    refine atS_of (mapN_at (ltr_at hf)) ?_
    and_intros
    refine atS_of (ltr0_at hR hf) ?_
    and_intros
    refine br_of (fun h => ?_) (fun h => ?_)
    · have h : frst R (i + 1) a = a := by
        have := of_decide_eq_true h
        show (ltr R (frst R i a)).getD 0 0 = a
        omega
      and_intros
      rw [again_some hn h hi] at hk
      exact hk
    · have h : frst R (i + 1) a ≠ a := by
        have := of_decide_eq_false h
        show (ltr R (frst R i a)).getD 0 0 ≠ a
        omega
      and_intros
      refine hΦ _ ⟨some (nD (i + 1)), rfl, fun j hj => ?_⟩
      by_cases hji : j = i
      · subst hji; exact h
      · exact hn j (by omega)
  · rintro ρ ⟨o1, rfl, hn⟩
    have e2 : ((List.range R.length).map fun i => nD (i + 1)).length = R.length := by simp
    rw [e2] at hn
    and_intros
    rw [again_none hn] at hk
    exact hk
theorem seeds_filter (R : List (List Nat)) : (seedsOf R).map pairD = (((List.range R.length).filter fun a => (again R a).isSome).map fun a => PyData.tuple [nD a, optD (again R a)]) := by
  unfold seedsOf
  induction List.range R.length with
  | nil => rfl
  | cons a l ih =>
    rw [List.filterMap_cons, List.filter_cons]
    cases e : again R a with
    | none => simpa using ih
    | some m =>
      simp only [Option.map_some, Option.isSome_some, if_true, List.map_cons]
      rw [ih, e]
      rfl
theorem den_seeds : Den f_seeds N_seeds.length cb_seeds := by
  rintro _ K ⟨R, rfl, hR, hk⟩
  refine ⟨rfl, ?_⟩
  unfold cb_seeds
  (simp only [m_seeds, N_seeds, f_seeds, v1]; and_intros)
  have h4 := hR.n4
  refine c_want_rule hR ?_
  and_intros
  rw [List.length_map]
  refine ⟨⟨by omega, by omega⟩, ?_⟩
  rw [Int.toNat_natCast, rangeD_nat]
  refine compS_map (fun a => PyData.tuple [nD a, optD (again R a)]) (fun a ha Φ q => ?_) ?_
  · have ha : a < R.length := by simpa using ha
    and_intros
    refine c_first_again hR ha ?_
    and_intros
    exact q
  · and_intros
    refine compS_filter (g := fun a => PyData.tuple [nD a, optD (again R a)]) (fun a => (again R a).isSome) (fun a => PyData.tuple [nD a, optD (again R a)]) (fun a ha Φ1 Φ0 q1 q0 => ?_) ?_
    · and_intros
      refine atS_of (d := optD (again R a)) rfl ?_
      and_intros
      cases e : again R a with
      | none =>
        rw [e] at q0 q1
        exact q0 rfl
      | some m =>
        rw [e] at q0 q1
        exact q1 rfl
    · and_intros
      rw [seeds_filter] at hk
      exact hk
/-! ### pigeons -/
theorem nodup_lt : ∀ (n : Nat) (l : List Nat), l.Nodup → (∀ x ∈ l, x < n) → l.length ≤ n
  | 0, [], _, _ => Nat.le_refl _
  | 0, x :: l, _, h => absurd (h x (by simp)) (Nat.not_lt_zero _)
  | n + 1, l, hn, h => by
    have h1 := nodup_lt n (l.erase n) (hn.erase n) fun x hx => by
      have := (List.Nodup.mem_erase_iff hn).mp hx
      have := h x this.2
      omega
    have h2 := List.length_erase (a := n) (l := l)
    split at h2 <;> omega
theorem frst_add (R : List (List Nat)) (a : Nat) : ∀ i j, frst R i a = frst R j a → ∀ k, frst R (i + k) a = frst R (j + k) a
  | i, j, h, 0 => h
  | i, j, h, k + 1 => by
    show (ltr R (frst R (i + k) a)).getD 0 0 = (ltr R (frst R (j + k) a)).getD 0 0
    rw [frst_add R a i j h k]
/-- what comes again comes again within n steps -/
theorem frst_again {R : List (List Nat)} (hR : Ok R) {a : Nat} (ha : a < R.length) (h : frst R (R.length + 1) a = a) : ∃ j, j < R.length ∧ frst R (j + 1) a = a := by
  refine Classical.byContradiction fun hno => ?_
  have hne : ∀ j, j < R.length → frst R (j + 1) a ≠ a := fun j hj e => hno ⟨j, hj, e⟩
  have inj : ∀ i j, i < j → j ≤ R.length → frst R i a ≠ frst R j a := by
    intro i j hij hj e
    have e2 := frst_add R a i j e (R.length + 1 - j)
    rw [show j + (R.length + 1 - j) = R.length + 1 by omega, h] at e2
    have := hne (i + (R.length + 1 - j) - 1) (by omega)
    rw [show i + (R.length + 1 - j) - 1 + 1 = i + (R.length + 1 - j) by omega] at this
    exact this e2
  have nd : ((List.range (R.length + 1)).map fun i => frst R i a).Nodup := by
    rw [List.nodup_iff_pairwise_ne, List.pairwise_map]
    refine List.Pairwise.imp_of_mem (R := (· < ·)) (fun {i j} hi hj hij => ?_) List.pairwise_lt_range
    exact inj i j hij (by have := List.mem_range.mp hj; omega)
  have := nodup_lt R.length _ nd fun x hx => by
    obtain ⟨i, _, rfl⟩ := List.mem_map.mp hx
    exact frst_lt hR ha i
  simp at this
  omega
end K87

set_option maxHeartbeats 4000000
/-! KI: plain laws: seeds of the law, levels, draws. -/
namespace K87
open PySem L2 Vs
local macro_rules | `(tactic| and_intros) => `(tactic| try simp only [↓rdG0v, rdG0v, ↓rdG0o, rdG0o, ↓rdGs, rdGs, ↓takeG0v, takeG0v, ↓takeG0o, takeG0o, ↓takeGs, takeGs, ↓hasG0, hasG0, ↓hasGs, hasGs, ↓ownG0, ownG0, ↓ownGs, ownGs, ↓free0n, free0n, ↓free0v, free0v, ↓free0o, free0o, ↓frees, frees, ↓hass, hass, ↓has0, has0, ↓isL0, isL0, ↓isLs, isLs, ↓S_nil, S_nil, ↓S_cons, S_cons, ↓seq_nx, seq_nx, ↓seq_rt, seq_rt, ↓seq_bk, seq_bk, ↓seq_ct, seq_ct, ↓lp_nx, lp_nx, ↓lp_rt, lp_rt, ↓lp_bk, lp_bk, ↓lp_ct, lp_ct, ↓fin_rt, fin_rt, ↓fin_nx, fin_nx, ↓outs_nil, outs_nil, ↓outs_f, outs_f, ↓outs_t, outs_t, ↓S_set, S_set, ↓S_unpack, S_unpack, ↓S_par, S_par, ↓S_setIdx, S_setIdx, ↓appK_l, appK_l, ↓extK_l, extK_l, ↓extK_t, extK_t, ↓S_append, S_append, ↓S_extend, S_extend, ↓S_expr, S_expr, ↓S_ret, S_ret, ↓S_retN, S_retN, ↓S_ite, S_ite, ↓S_whl, S_whl, ↓S_forr, S_forr, ↓S_never, S_never, ↓S_pass, S_pass, ↓S_brk, S_brk, ↓S_cont, S_cont, ↓S_tryy, S_tryy, ↓W_var, W_var, ↓W_varT, W_varT, ↓W_con, W_con, ↓W_conT, W_conT, ↓negW_i, negW_i, ↓W_neg, W_neg, ↓W_not, W_not, ↓W_notT, W_notT, ↓andK_b, andK_b, ↓W_and, W_and, ↓W_andT, W_andT, ↓W_or, W_or, ↓W_orT, W_orT, ↓W_bin, W_bin, ↓W_cmp, W_cmp, ↓W_cmpT, W_cmpT, ↓W_ite, W_ite, ↓W_tup, W_tup, ↓W_lst, W_lst, ↓W_dct, W_dct, ↓W_idx, W_idx, ↓W_sli, W_sli, ↓W_comp, W_comp, ↓W_comp2, W_comp2, ↓W_call, W_call, ↓W_bi, W_bi, ↓W_isT, W_isT, ↓W_cat, W_cat, ↓W_rep, W_rep, ↓W_callT, W_callT, ↓W_biT, W_biT, ↓W_isTT, W_isTT, ↓W_idxT, W_idxT, ↓W_binT, W_binT, ↓W_compT, W_compT, ↓O_var, O_var, ↓O_con, O_con, ↓O_neg, O_neg, ↓O_not, O_not, ↓O_and, O_and, ↓O_or, O_or, ↓O_bin, O_bin, ↓O_cmp, O_cmp, ↓O_ite, O_ite, ↓O_tup, O_tup, ↓O_lst, O_lst, ↓O_dct, O_dct, ↓O_idx, O_idx, ↓O_sli, O_sli, ↓O_comp, O_comp, ↓O_comp2, O_comp2, ↓O_call, O_call, ↓O_bi, O_bi, ↓O_isT, O_isT, ↓O_cat, O_cat, ↓O_rep, O_rep, ↓on_d, on_d, ↓on_s, on_s, ↓Ws_nil, Ws_nil, ↓Ws_cons, Ws_cons, ↓Wo_nil, Wo_nil, ↓Wo_cons, Wo_cons, ↓oa_nil, oa_nil, ↓oa_cons, oa_cons, ↓Wa_nil, Wa_nil, ↓Wa_f, Wa_f, ↓Wa_t, Wa_t, ↓ao_nil, ao_nil, ↓ao_v, ao_v, ↓ao_l, ao_l, ↓Wp_no, Wp_no, ↓intK_i, intK_i, ↓Wp_one, Wp_one, ↓Wc_no, Wc_no, ↓Wc_one, Wc_one, ↓Wi_seq, Wi_seq, ↓Wi_r1, Wi_r1, ↓Wi_r2, Wi_r2, ↓Wi_r3, Wi_r3, ↓seqK_l, seqK_l, ↓seqK_t, seqK_t, ↓zipK_l, zipK_l, ↓zipK_t, zipK_t, ↓Wi_enum, Wi_enum, ↓Wi_zip, Wi_zip, ↓it_l, it_l, ↓it_t, it_t, ↓it_d, it_d, ↓tr_b, tr_b, ↓tr_i, tr_i, ↓tr_n, tr_n, ↓tr_l, tr_l, ↓tr_t, tr_t, ↓b_add, b_add, ↓b_sub, b_sub, ↓b_mul, b_mul, ↓b_fdiv, b_fdiv, ↓b_mod, b_mod, ↓b_pow, b_pow, ↓b_addT, b_addT, ↓c_lt, c_lt, ↓c_le, c_le, ↓c_gt, c_gt, ↓c_ge, c_ge, ↓c_eq, c_eq, ↓c_ne, c_ne, ↓c_eqs, c_eqs, ↓c_nes, c_nes, ↓c_eq_list, c_eq_list, ↓c_eq_tuple, c_eq_tuple, ↓c_ne_list, c_ne_list, ↓c_ne_tuple, c_ne_tuple, ↓nonB_n, nonB_n, ↓nonB_i, nonB_i, ↓nonB_b, nonB_b, ↓nonB_t, nonB_t, ↓nonB_l, nonB_l, ↓c_is, c_is, ↓c_isnot, c_isnot, ↓ix_l, ix_l, ↓ix_t, ix_t, ↓sl_l, sl_l, ↓sl_t, sl_t, ↓cat_l, cat_l, ↓rep_l, rep_l, ↓bl_l, bl_l, ↓bl_t, bl_t, ↓bl_d, bl_d, ↓bt_l, bt_l, ↓bt_t, bt_t, ↓bs_l, bs_l, ↓bs_t, bs_t, ↓bi_i, bi_i, ↓bi_b, bi_b, ↓bx2, bx2, ↓bn2, bn2, ↓babs, babs, ↓bsum, bsum, ↓bmax, bmax, ↓bmin, bmin, ↓ball, ball, ↓bany, bany, ↓bsor, bsor, ↓bdic, bdic, ↓brep, brep, ↓bd_one, bd_one, ↓bd_many, bd_many, ↓so_l, so_l, ↓br_t, br_t, ↓br_f, br_f, ↓mk_t, mk_t, ↓mk_f, mk_f, Cs.freshes, C.fresh, putPar, putAll, initE, Fn.run, argsBack, Arg.lends, wipeE, backE, valOf, Tg.slots, List.getElem?_cons_zero, List.getElem?_cons_succ, List.getElem?_nil, List.set_cons_zero, List.set_cons_succ, List.zip_cons_cons, List.zip_nil_right, List.zip_nil_left, List.length_cons, List.length_nil, List.cons_append, List.nil_append, List.append_nil, List.replicate_succ, List.replicate_zero, ↓reduceIte, Bool.false_eq_true, List.mem_cons, List.not_mem_nil, or_false, forall_eq_or_imp, forall_eq, true_and, and_true, List.nodup_nil, List.nodup_cons, Nat.zero_add, Nat.reduceAdd, Nat.reduceSub, Nat.reduceEqDiff, reduceCtorEq, not_false_eq_true, false_or, or_self, forall_const, implies_true, List.map_cons, List.map_nil, and_self, Bool.not_true, Bool.not_false, Bool.not_eq_true, decide_true, decide_false, mk_t, mk_f, false_implies, ↓free0s, free0s, ↓m_is_integer, m_is_integer, q_is_integer, ↓m_is_number, m_is_number, q_is_number, ↓m_is_index, m_is_index, q_is_index, ↓m_is_full_tuple, m_is_full_tuple, q_is_full_tuple, ↓m_are_indexes, m_are_indexes, q_are_indexes, ↓m_is_rule, m_is_rule, q_is_rule, ↓m_units_by, m_units_by, q_units_by, ↓m_added_rows, m_added_rows, q_added_rows, ↓m_counts_to, m_counts_to, q_counts_to, ↓m_counts_by, m_counts_by, q_counts_by, ↓m_lengths_to, m_lengths_to, q_lengths_to, ↓m_lengths_by, m_lengths_by, q_lengths_by, ↓m_part_with, m_part_with, q_part_with, ↓m_way_down, m_way_down, q_way_down, ↓m_word_in, m_word_in, q_word_in, ↓m_ahead_in, m_ahead_in, q_ahead_in, ↓m_place_in, m_place_in, q_place_in, ↓m_want, m_want, q_want, ↓m_want_2, m_want_2, q_want_2, ↓m_want_rule, m_want_rule, q_want_rule, ↓m_want_rule_1, m_want_rule_1, q_want_rule_1, ↓m_want_index, m_want_index, q_want_index, ↓m_word_after, m_word_after, q_word_after, ↓m_want_block, m_want_block, q_want_block, ↓m_block_of, m_block_of, q_block_of, ↓m_length_of, m_length_of, q_length_of, ↓m_lengths_of, m_lengths_of, q_lengths_of, ↓m_counts_in, m_counts_in, q_counts_in, ↓m_growth_by, m_growth_by, q_growth_by, ↓m_want_growing, m_want_growing, q_want_growing, ↓m_want_growing_1, m_want_growing_1, q_want_growing_1, ↓m_letter_at, m_letter_at, q_letter_at, ↓m_word_at, m_word_at, q_word_at, ↓m_count_before, m_count_before, q_count_before, ↓m_place_of, m_place_of, q_place_of, ↓m_path_to, m_path_to, q_path_to, ↓m_place_by, m_place_by, q_place_by, ↓m_first_again, m_first_again, q_first_again, ↓m_seeds, m_seeds, q_seeds, ↓m_level_holding, m_level_holding, q_level_holding, ↓m_law_draw, m_law_draw, q_law_draw, ↓m_law_pick, m_law_pick, q_law_pick, ↓m_law_same, m_law_same, q_law_same, ↓m_law_becomes, m_law_becomes, q_law_becomes, ↓m_law_does_grow, m_law_does_grow, q_law_does_grow, ↓m_law_grown, m_law_grown, q_law_grown, ↓m_law_any_rule, m_law_any_rule, q_law_any_rule, ↓m_law_far, m_law_far, q_law_far, ↓m_law_sums, m_law_sums, q_law_sums, ↓m_law_down, m_law_down, q_law_down, ↓m_law_found, m_law_found, q_law_found, ↓m_law_halves_right, m_law_halves_right, q_law_halves_right, ↓m_law_place_right, m_law_place_right, q_law_place_right, ↓m_law_index_right, m_law_index_right, q_law_index_right, ↓m_law_small_right, m_law_small_right, q_law_small_right, ↓m_law_seeds, m_law_seeds, q_law_seeds, ↓m_law_holding_right, m_law_holding_right, q_law_holding_right, ↓m_law_is_right, m_law_is_right, q_law_is_right])
def seedsTo (R : List (List Nat)) (i : Nat) : List (Nat × Nat) := (List.range i).filterMap fun a => (again R a).map fun l => (a, l)
theorem seedsTo_succ (R : List (List Nat)) (i : Nat) : seedsTo R (i + 1) = seedsTo R i ++ ((again R i).map fun l => (i, l)).toList := by
  unfold seedsTo
  rw [List.range_succ, List.filterMap_append]
  congr 1
theorem seedsTo_len (R : List (List Nat)) (i : Nat) : (seedsTo R i).length ≤ i := by
  unfold seedsTo
  exact Nat.le_trans (List.length_filterMap_le _ _) (by simp)
theorem den_law_seeds : Den f_law_seeds N_law_seeds.length cb_law_seeds := by
  rintro _ K ⟨R, rfl, hR, hk⟩
  refine ⟨rfl, ?_⟩
  unfold cb_law_seeds
  (simp only [m_law_seeds, N_law_seeds, f_law_seeds, v1]; and_intros)
  have h4 := hR.n4
  rw [List.length_map]
  refine ⟨⟨by omega, by omega⟩, ?_⟩
  rw [Int.toNat_natCast, rangeD_nat]
  refine forS_ind (fun i ρ => ∃ (o1 o2 o3 : Option PyData), ρ = [some (.val (ttN R)), some (.own (.list ((seedsTo R i).map pairD)) false), vS o1, vS o2, vS o3]) ⟨none, none, none, rfl⟩ ?_ ?_
  · rintro i d ρ Φ hd ⟨o1, o2, o3, rfl⟩ hΦ
    obtain ⟨hi, rfl⟩ := rng_get hd
    and_intros
    refine atS_of (mapN_at (ltr_at hi)) ?_
    and_intros
    refine atS_of (ltr0_at hR hi) ?_
    and_intros
    refine whileS_ind (fun m ρ => ∃ lev : Nat, ρ = [some (.val (ttN R)), some (.own (.list ((seedsTo R i).map pairD)) false), some (.val (nD i)), some (.val (nD (frst R lev i))), some (.val (nD lev))] ∧ 1 ≤ lev ∧ lev ≤ R.length + 1 ∧ m = R.length + 1 - lev ∧ ∀ j, j + 1 < lev → frst R (j + 1) i ≠ i) _ ⟨1, rfl, Nat.le_refl _, by omega, rfl, fun j hj => by omega⟩ ?_
    rintro m ρ Ψ ⟨lev, rfl, h1, h2, rfl, hn⟩ hΨ
    have fin : (R.length < lev ∨ frst R lev i = i) → WSs (.cons (.ite (.cmp .Eq (.var 3) (.var 2)) (.cons (.append 1 (.tup (.cons (.var 2) (.cons (.var 4) .nil)))) .nil) .nil) .nil) [some (.val (ttN R)), some (.own (.list ((seedsTo R i).map pairD)) false), some (.val (nD i)), some (.val (nD (frst R lev i))), some (.val (nD lev))] (lpE (seqS (.cons (.ret (.bi .tuple (.cons (.var 1) .nil))) .nil) (finE false [false] K)) Φ) := by
      intro hor
      and_intros
      refine br_of (fun h => ?_) (fun h => ?_)
      · have h : frst R lev i = i := by have := of_decide_eq_true h; omega
        have hle : lev ≤ R.length := by
          by_cases hl : lev ≤ R.length
          · exact hl
          · have e : lev = R.length + 1 := by omega
            rw [e] at h
            obtain ⟨j, hj1, hj2⟩ := frst_again hR hi h
            exact absurd hj2 (hn j (by omega))
        have ha : again R i = some lev := by
          have := again_some (R := R) (a := i) (i := lev - 1) (fun j hj => hn j (by omega)) (by rw [show lev - 1 + 1 = lev by omega]; exact h) (by omega)
          rw [show lev - 1 + 1 = lev by omega] at this
          exact this
        and_intros
        have hlen := seedsTo_len R i
        refine ⟨by rw [List.length_map]; omega, hΦ _ ⟨some (nD i), some (nD (frst R lev i)), some (nD lev), ?_⟩⟩
        rw [seedsTo_succ, ha]
        simp [vS]
      · have h : frst R lev i ≠ i := by have := of_decide_eq_false h; omega
        have ha : again R i = none := again_none fun j hj => by
          rcases hor with hor | hor
          · by_cases hjl : j + 1 < lev
            · exact hn j hjl
            · omega
          · exact absurd hor h
        and_intros
        refine hΦ _ ⟨some (nD i), some (nD (frst R lev i)), some (nD lev), ?_⟩
        rw [seedsTo_succ, ha]
        simp [vS]
    and_intros
    refine br_of (fun h => ?_) (fun h => ?_)
    · have h : frst R lev i ≠ i := by
        intro e
        rw [e] at h
        simp at h
      and_intros
      rw [List.length_map]
      refine br_of (fun h3 => ?_) (fun h3 => ?_)
      · have h3 : lev ≤ R.length := by have := of_decide_eq_true h3; omega
        have hf := frst_lt hR hi lev
        and_intros
        refine atS_of (mapN_at (ltr_at hf)) ?_
        and_intros
        refine atS_of (ltr0_at hR hf) ?_
        and_intros
        refine hΨ (R.length + 1 - (lev + 1)) _ (by omega) ⟨lev + 1, rfl, by omega, by omega, rfl, fun j hj => ?_⟩
        by_cases hjl : j + 1 = lev
        · rw [hjl]; exact h
        · exact hn j (by omega)
      · have h3 : R.length < lev := by have := of_decide_eq_false h3; omega
        and_intros
        exact fin (.inl h3)
    · have h : frst R lev i = i := by
        have := of_decide_eq_true (show decide ((frst R lev i : Int) = (i : Int)) = true by simpa using h)
        omega
      and_intros
      exact fin (.inr h)
  · rintro ρ ⟨o1, o2, o3, rfl⟩
    have e : ((List.range R.length).map nD).length = R.length := by simp
    rw [e]
    and_intros
    exact hk
theorem den_level_holding : Den f_level_holding N_level_holding.length cb_level_holding := by
  rintro _ K ⟨R, a, p, m, rfl, hR, ha, hg, hm, h1, h2, hk⟩
  refine ⟨rfl, ?_⟩
  unfold cb_level_holding
  (simp only [m_level_holding, N_level_holding, f_level_holding, v3]; and_intros)
  refine c_want_growing hR hg ?_
  and_intros
  rw [List.length_map]
  refine c_want_index ha ?_
  and_intros
  refine c_is_number ?_
  and_intros
  refine c_want ?_
  and_intros
  refine compS_map (fun b => nD 1) (fun b hb Φ q => ?_) ?_
  · and_intros; exact q
  and_intros
  have e0 : (PyData.tuple (R.map fun b => nD 1)) = tN (lens R 0) := by rw [lens_zero, tN_map]
  rw [e0]
  refine whileS_ind (fun i ρ => ∃ lev : Nat, ρ = [some (.val (ttN R)), some (.val (nD a)), some (.val (nD p)), some (.val (tN (lens R lev))), some (.val (nD lev)), none, none] ∧ lev ≤ m ∧ i = m - lev) _ ⟨0, rfl, Nat.zero_le _, rfl⟩ ?_
  rintro i ρ Φ ⟨lev, rfl, hlm, rfl⟩ hΦ
  and_intros
  refine atS_of (mapN_at (lens_at ha)) ?_
  and_intros
  refine br_of (fun h => ?_) (fun h => ?_)
  · have h : Ln R lev a ≤ p := by have := of_decide_eq_true h; omega
    have hlt : lev < m := by
      rcases Nat.lt_or_ge lev m with q | q
      · exact q
      · have : lev = m := by omega
        subst this
        omega
    and_intros
    refine compS_map (fun b => nD (b.map (Ln R lev)).sum) (fun b hb Φ q => ?_) ?_
    · and_intros
      refine compS_map (fun x => nD (Ln R lev x)) (fun x hx Φ q => ?_) ?_
      · and_intros
        refine atS_of (mapN_at (lens_at ((hR.bl b hb).2.2 x hx))) ?_
        and_intros
        exact q
      · and_intros
        exact sumS_of (by and_intros; exact q)
    · and_intros
      refine hΦ (m - (lev + 1)) _ (by omega) ⟨lev + 1, ?_, by omega, rfl⟩
      rw [lens_succ, tN_map]
      rfl
  · have h : p < Ln R lev a := by have := of_decide_eq_false h; omega
    have : lev = m := by
      rcases Nat.lt_or_ge lev m with q | q
      · have := h2 lev q; omega
      · omega
    subst this
    and_intros
    exact hk
theorem den_want_growing : Den f_want_growing N_want_growing.length cb_want_growing := by
  rintro _ K ⟨R, x, rfl, hR, hg, hk⟩
  refine ⟨rfl, ?_⟩
  unfold cb_want_growing
  (simp only [m_want_growing, N_want_growing, f_want_growing, v2]; and_intros)
  refine runS_of List.nodup_nil ⟨R, rfl, hR, rfl, ?_⟩
  and_intros
  refine runS_of List.nodup_nil ⟨R, rfl, hR, hg, fun v => ⟨rfl, ?_⟩⟩
  and_intros
  refine c_want ?_
  and_intros
  exact hk
end K87

set_option maxHeartbeats 4000000
/-! KK: what may be written out. -/
namespace K87
open PySem L2 Vs
structure Sm (d : PyData) (k n : Nat) : Prop where
  lay : d.canLay0 = true
  dep : d.depth ≤ k
  sh : d.showable = true
  len : d.shown.length ≤ n
theorem Sm.shown {d : PyData} {k n : Nat} (h : Sm d k n) (hk : k ≤ 64) (hn : n ≤ 16777216) : Shown d := by
  refine ⟨h.sh, ?_, Nat.le_trans h.len hn⟩
  unfold SeqAt.shaped
  rw [h.lay, decide_eq_true (Nat.le_trans h.dep hk)]
  rfl
theorem Sm.mono {d : PyData} {k n k2 n2 : Nat} (h : Sm d k n) (hk : k ≤ k2) (hn : n ≤ n2) : Sm d k2 n2 := ⟨h.lay, Nat.le_trans h.dep hk, h.sh, Nat.le_trans h.len hn⟩
theorem Sm.int {i : Int} (h : i.natAbs.log2 < 1920) : Sm (.int i) 0 1921 := by
  refine ⟨by simp [PyData.canLay0], by simp [PyData.depth], by simp [PyData.showable, h], ?_⟩
  rw [PyData.shown_int]
  exact PyProof.Rows.int_text_len_1921 h
theorem Sm.none : Sm .none 0 1921 := by
  refine ⟨by simp [PyData.canLay0], by simp [PyData.depth], by simp [PyData.showable], ?_⟩
  rw [PyData.shown_none]
  decide
theorem join_le : ∀ (ts : List Str) (n : Nat), (∀ t ∈ ts, t.length ≤ n) → (Str.join ", " ts).length ≤ ts.length * (n + 2)
  | [], n, _ => by show 0 ≤ _; omega
  | [x], n, h => by
    show x.length ≤ _
    have := h x (by simp)
    simp only [List.length_cons, List.length_nil, Nat.zero_add, Nat.one_mul]
    omega
  | x :: y :: r, n, h => by
    have ih := join_le (y :: r) n fun t ht => h t (by simp [ht])
    have hx := h x (by simp)
    show (x ++ ", " ++ Str.join ", " (y :: r)).length ≤ _
    have e2 : ((", " : String) : Str).length = 2 := rfl
    rw [Str.length_append, Str.length_append, e2]
    rw [List.length_cons, Nat.add_mul, Nat.one_mul]
    omega
theorem all_shown {xs : List PyData} {k n : Nat} (h : ∀ x ∈ xs, Sm x k n) : PyData.canLayAll0 xs = true ∧ PyData.depthAll xs ≤ k ∧ PyData.showableAll xs = true ∧ (∀ t ∈ PyData.shownAll xs, t.length ≤ n) ∧ (PyData.shownAll xs).length = xs.length := by
  induction xs with
  | nil => refine ⟨by simp [PyData.canLayAll0], by simp [PyData.depthAll], by simp [PyData.showableAll], fun t ht => by simp [PyData.shownAll] at ht, by simp [PyData.shownAll]⟩
  | cons x xs ih =>
    obtain ⟨a, b, c, d, e⟩ := ih fun y hy => h y (by simp [hy])
    have hx := h x (by simp)
    refine ⟨by simp [PyData.canLayAll0, a, hx.lay], ?_, by simp [PyData.showableAll, c, hx.sh], fun t ht => ?_, by simp [PyData.shownAll, e]⟩
    · have := hx.dep
      simp only [PyData.depthAll]
      omega
    · rw [PyData.shownAll_cons] at ht
      rcases List.mem_cons.mp ht with rfl | ht
      · exact hx.len
      · exact d t ht
theorem Sm.list {xs : List PyData} {k n : Nat} (h : ∀ x ∈ xs, Sm x k n) : Sm (.list xs) (k + 1) (2 + xs.length * (n + 2)) := by
  obtain ⟨a, b, c, d, e⟩ := all_shown h
  refine ⟨by simp [PyData.canLay0, a], by simp only [PyData.depth]; omega, by simp [PyData.showable, c], ?_⟩
  rw [PyData.shown_list, Str.length_append, Str.length_append]
  have h1 := join_le _ n d
  rw [e] at h1
  have e1 : ((("[" : String) : Str)).length = 1 := rfl
  have e2 : ((("]" : String) : Str)).length = 1 := rfl
  rw [e1, e2]
  omega
theorem Sm.tuple {xs : List PyData} {k n : Nat} (h : ∀ x ∈ xs, Sm x k n) : Sm (.tuple xs) (k + 1) (3 + xs.length * (n + 2)) := by
  obtain ⟨a, b, c, d, e⟩ := all_shown h
  refine ⟨by simp [PyData.canLay0, a], by simp only [PyData.depth]; omega, by simp [PyData.showable, c], ?_⟩
  rw [PyData.shown_tuple, Str.length_append, Str.length_append]
  have h1 := join_le _ n d
  rw [e] at h1
  have e1 : ((("(" : String) : Str)).length = 1 := rfl
  have e3 : (((if xs.length == 1 then ",)" else ")" : String) : Str)).length ≤ 2 := by split <;> decide
  rw [e1]
  omega
theorem shaped_ints (cells : List Int) : SeqAt.shaped (.list (intsD cells)) = true := by
  have : ∀ l : List Int, PyData.canLayAll0 (intsD l) = true ∧ PyData.depthAll (intsD l) ≤ 0 := fun l => by
    induction l with
    | nil => exact ⟨by simp [intsD, PyData.canLayAll0], by simp [intsD, PyData.depthAll]⟩
    | cons i l ih =>
      refine ⟨?_, ?_⟩
      · show PyData.canLayAll0 (.int i :: intsD l) = true
        simp [PyData.canLayAll0, PyData.canLay0, ih.1]
      · show PyData.depthAll (.int i :: intsD l) ≤ 0
        have := ih.2
        simp only [PyData.depthAll, PyData.depth]
        omega
  obtain ⟨a, b⟩ := this cells
  unfold SeqAt.shaped
  rw [Bool.and_eq_true]
  exact ⟨by simp [PyData.canLay0, a], decide_eq_true (by simp only [PyData.depth]; omega)⟩
end K87

set_option maxHeartbeats 4000000
/-! KJ: plain laws: draws. -/
namespace K87
open PySem L2 Vs
local macro_rules | `(tactic| and_intros) => `(tactic| try simp only [↓rdG0v, rdG0v, ↓rdG0o, rdG0o, ↓rdGs, rdGs, ↓takeG0v, takeG0v, ↓takeG0o, takeG0o, ↓takeGs, takeGs, ↓hasG0, hasG0, ↓hasGs, hasGs, ↓ownG0, ownG0, ↓ownGs, ownGs, ↓free0n, free0n, ↓free0v, free0v, ↓free0o, free0o, ↓frees, frees, ↓hass, hass, ↓has0, has0, ↓isL0, isL0, ↓isLs, isLs, ↓S_nil, S_nil, ↓S_cons, S_cons, ↓seq_nx, seq_nx, ↓seq_rt, seq_rt, ↓seq_bk, seq_bk, ↓seq_ct, seq_ct, ↓lp_nx, lp_nx, ↓lp_rt, lp_rt, ↓lp_bk, lp_bk, ↓lp_ct, lp_ct, ↓fin_rt, fin_rt, ↓fin_nx, fin_nx, ↓outs_nil, outs_nil, ↓outs_f, outs_f, ↓outs_t, outs_t, ↓S_set, S_set, ↓S_unpack, S_unpack, ↓S_par, S_par, ↓S_setIdx, S_setIdx, ↓appK_l, appK_l, ↓extK_l, extK_l, ↓extK_t, extK_t, ↓S_append, S_append, ↓S_extend, S_extend, ↓S_expr, S_expr, ↓S_ret, S_ret, ↓S_retN, S_retN, ↓S_ite, S_ite, ↓S_whl, S_whl, ↓S_forr, S_forr, ↓S_never, S_never, ↓S_pass, S_pass, ↓S_brk, S_brk, ↓S_cont, S_cont, ↓S_tryy, S_tryy, ↓W_var, W_var, ↓W_varT, W_varT, ↓W_con, W_con, ↓W_conT, W_conT, ↓negW_i, negW_i, ↓W_neg, W_neg, ↓W_not, W_not, ↓W_notT, W_notT, ↓andK_b, andK_b, ↓W_and, W_and, ↓W_andT, W_andT, ↓W_or, W_or, ↓W_orT, W_orT, ↓W_bin, W_bin, ↓W_cmp, W_cmp, ↓W_cmpT, W_cmpT, ↓W_ite, W_ite, ↓W_tup, W_tup, ↓W_lst, W_lst, ↓W_dct, W_dct, ↓W_idx, W_idx, ↓W_sli, W_sli, ↓W_comp, W_comp, ↓W_comp2, W_comp2, ↓W_call, W_call, ↓W_bi, W_bi, ↓W_isT, W_isT, ↓W_cat, W_cat, ↓W_rep, W_rep, ↓W_callT, W_callT, ↓W_biT, W_biT, ↓W_isTT, W_isTT, ↓W_idxT, W_idxT, ↓W_binT, W_binT, ↓W_compT, W_compT, ↓O_var, O_var, ↓O_con, O_con, ↓O_neg, O_neg, ↓O_not, O_not, ↓O_and, O_and, ↓O_or, O_or, ↓O_bin, O_bin, ↓O_cmp, O_cmp, ↓O_ite, O_ite, ↓O_tup, O_tup, ↓O_lst, O_lst, ↓O_dct, O_dct, ↓O_idx, O_idx, ↓O_sli, O_sli, ↓O_comp, O_comp, ↓O_comp2, O_comp2, ↓O_call, O_call, ↓O_bi, O_bi, ↓O_isT, O_isT, ↓O_cat, O_cat, ↓O_rep, O_rep, ↓on_d, on_d, ↓on_s, on_s, ↓Ws_nil, Ws_nil, ↓Ws_cons, Ws_cons, ↓Wo_nil, Wo_nil, ↓Wo_cons, Wo_cons, ↓oa_nil, oa_nil, ↓oa_cons, oa_cons, ↓Wa_nil, Wa_nil, ↓Wa_f, Wa_f, ↓Wa_t, Wa_t, ↓ao_nil, ao_nil, ↓ao_v, ao_v, ↓ao_l, ao_l, ↓Wp_no, Wp_no, ↓intK_i, intK_i, ↓Wp_one, Wp_one, ↓Wc_no, Wc_no, ↓Wc_one, Wc_one, ↓Wi_seq, Wi_seq, ↓Wi_r1, Wi_r1, ↓Wi_r2, Wi_r2, ↓Wi_r3, Wi_r3, ↓seqK_l, seqK_l, ↓seqK_t, seqK_t, ↓zipK_l, zipK_l, ↓zipK_t, zipK_t, ↓Wi_enum, Wi_enum, ↓Wi_zip, Wi_zip, ↓it_l, it_l, ↓it_t, it_t, ↓it_d, it_d, ↓tr_b, tr_b, ↓tr_i, tr_i, ↓tr_n, tr_n, ↓tr_l, tr_l, ↓tr_t, tr_t, ↓b_add, b_add, ↓b_sub, b_sub, ↓b_mul, b_mul, ↓b_fdiv, b_fdiv, ↓b_mod, b_mod, ↓b_pow, b_pow, ↓b_addT, b_addT, ↓c_lt, c_lt, ↓c_le, c_le, ↓c_gt, c_gt, ↓c_ge, c_ge, ↓c_eq, c_eq, ↓c_ne, c_ne, ↓c_eqs, c_eqs, ↓c_nes, c_nes, ↓c_eq_list, c_eq_list, ↓c_eq_tuple, c_eq_tuple, ↓c_ne_list, c_ne_list, ↓c_ne_tuple, c_ne_tuple, ↓nonB_n, nonB_n, ↓nonB_i, nonB_i, ↓nonB_b, nonB_b, ↓nonB_t, nonB_t, ↓nonB_l, nonB_l, ↓c_is, c_is, ↓c_isnot, c_isnot, ↓ix_l, ix_l, ↓ix_t, ix_t, ↓sl_l, sl_l, ↓sl_t, sl_t, ↓cat_l, cat_l, ↓rep_l, rep_l, ↓bl_l, bl_l, ↓bl_t, bl_t, ↓bl_d, bl_d, ↓bt_l, bt_l, ↓bt_t, bt_t, ↓bs_l, bs_l, ↓bs_t, bs_t, ↓bi_i, bi_i, ↓bi_b, bi_b, ↓bx2, bx2, ↓bn2, bn2, ↓babs, babs, ↓bsum, bsum, ↓bmax, bmax, ↓bmin, bmin, ↓ball, ball, ↓bany, bany, ↓bsor, bsor, ↓bdic, bdic, ↓brep, brep, ↓bd_one, bd_one, ↓bd_many, bd_many, ↓so_l, so_l, ↓br_t, br_t, ↓br_f, br_f, ↓mk_t, mk_t, ↓mk_f, mk_f, Cs.freshes, C.fresh, putPar, putAll, initE, Fn.run, argsBack, Arg.lends, wipeE, backE, valOf, Tg.slots, List.getElem?_cons_zero, List.getElem?_cons_succ, List.getElem?_nil, List.set_cons_zero, List.set_cons_succ, List.zip_cons_cons, List.zip_nil_right, List.zip_nil_left, List.length_cons, List.length_nil, List.cons_append, List.nil_append, List.append_nil, List.replicate_succ, List.replicate_zero, ↓reduceIte, Bool.false_eq_true, List.mem_cons, List.not_mem_nil, or_false, forall_eq_or_imp, forall_eq, true_and, and_true, List.nodup_nil, List.nodup_cons, Nat.zero_add, Nat.reduceAdd, Nat.reduceSub, Nat.reduceEqDiff, reduceCtorEq, not_false_eq_true, false_or, or_self, forall_const, implies_true, List.map_cons, List.map_nil, and_self, Bool.not_true, Bool.not_false, Bool.not_eq_true, decide_true, decide_false, mk_t, mk_f, false_implies, ↓free0s, free0s, ↓m_is_integer, m_is_integer, q_is_integer, ↓m_is_number, m_is_number, q_is_number, ↓m_is_index, m_is_index, q_is_index, ↓m_is_full_tuple, m_is_full_tuple, q_is_full_tuple, ↓m_are_indexes, m_are_indexes, q_are_indexes, ↓m_is_rule, m_is_rule, q_is_rule, ↓m_units_by, m_units_by, q_units_by, ↓m_added_rows, m_added_rows, q_added_rows, ↓m_counts_to, m_counts_to, q_counts_to, ↓m_counts_by, m_counts_by, q_counts_by, ↓m_lengths_to, m_lengths_to, q_lengths_to, ↓m_lengths_by, m_lengths_by, q_lengths_by, ↓m_part_with, m_part_with, q_part_with, ↓m_way_down, m_way_down, q_way_down, ↓m_word_in, m_word_in, q_word_in, ↓m_ahead_in, m_ahead_in, q_ahead_in, ↓m_place_in, m_place_in, q_place_in, ↓m_want, m_want, q_want, ↓m_want_2, m_want_2, q_want_2, ↓m_want_rule, m_want_rule, q_want_rule, ↓m_want_rule_1, m_want_rule_1, q_want_rule_1, ↓m_want_index, m_want_index, q_want_index, ↓m_word_after, m_word_after, q_word_after, ↓m_want_block, m_want_block, q_want_block, ↓m_block_of, m_block_of, q_block_of, ↓m_length_of, m_length_of, q_length_of, ↓m_lengths_of, m_lengths_of, q_lengths_of, ↓m_counts_in, m_counts_in, q_counts_in, ↓m_growth_by, m_growth_by, q_growth_by, ↓m_want_growing, m_want_growing, q_want_growing, ↓m_want_growing_1, m_want_growing_1, q_want_growing_1, ↓m_letter_at, m_letter_at, q_letter_at, ↓m_word_at, m_word_at, q_word_at, ↓m_count_before, m_count_before, q_count_before, ↓m_place_of, m_place_of, q_place_of, ↓m_path_to, m_path_to, q_path_to, ↓m_place_by, m_place_by, q_place_by, ↓m_first_again, m_first_again, q_first_again, ↓m_seeds, m_seeds, q_seeds, ↓m_level_holding, m_level_holding, q_level_holding, ↓m_law_draw, m_law_draw, q_law_draw, ↓m_law_pick, m_law_pick, q_law_pick, ↓m_law_same, m_law_same, q_law_same, ↓m_law_becomes, m_law_becomes, q_law_becomes, ↓m_law_does_grow, m_law_does_grow, q_law_does_grow, ↓m_law_grown, m_law_grown, q_law_grown, ↓m_law_any_rule, m_law_any_rule, q_law_any_rule, ↓m_law_far, m_law_far, q_law_far, ↓m_law_sums, m_law_sums, q_law_sums, ↓m_law_down, m_law_down, q_law_down, ↓m_law_found, m_law_found, q_law_found, ↓m_law_halves_right, m_law_halves_right, q_law_halves_right, ↓m_law_place_right, m_law_place_right, q_law_place_right, ↓m_law_index_right, m_law_index_right, q_law_index_right, ↓m_law_small_right, m_law_small_right, q_law_small_right, ↓m_law_seeds, m_law_seeds, q_law_seeds, ↓m_law_holding_right, m_law_holding_right, q_law_holding_right, ↓m_law_is_right, m_law_is_right, q_law_is_right])
theorem at1 {α : Type} {x y : α} {l : List α} : atI (x :: y :: l) 1 = some y := by
  unfold atI ixN
  rw [if_pos (by decide), if_pos (by simp; omega)]
  rfl
theorem at2 {α : Type} {x y z : α} {l : List α} : atI (x :: y :: z :: l) 2 = some z := by
  unfold atI ixN
  rw [if_pos (by decide), if_pos (by simp; omega)]
  rfl
theorem at3 {α : Type} {x y z u : α} {l : List α} : atI (x :: y :: z :: u :: l) 3 = some u := by
  unfold atI ixN
  rw [if_pos (by decide), if_pos (by simp; omega)]
  rfl
theorem den_law_draw : Den f_law_draw N_law_draw.length cb_law_draw := by
  rintro _ K ⟨feed, n, size, rfl, ⟨cells, spot, rest, m, rfl, hm, hs, hc⟩, hn, h0, h1, hk⟩
  refine ⟨rfl, ?_⟩
  unfold cb_law_draw
  (simp only [m_law_draw, N_law_draw, f_law_draw, w2]; and_intros)
  refine atS_of at3 ?_
  and_intros
  refine ⟨3, rfl, ?_⟩
  and_intros
  refine atS_of at2 ?_
  and_intros
  have e1 : (m : Int) + 1 = ((m + 1 : Nat) : Int) := by omega
  rw [e1]
  have hfm : ∀ x : Int, 0 ≤ x.fmod size ∧ x.fmod size < size := fun x => ⟨Int.fmod_nonneg_of_pos x h0, Int.fmod_lt_of_pos x h0⟩
  have ret : ∀ (x : Int) (feed' : PyData), Feed feed' (n + 1) → K (.int (x.fmod size)) [feed'] := fun x feed' hf => by
    have e : x.fmod size = ((x.fmod size).toNat : Int) := by have := (hfm x).1; omega
    rw [e]
    exact hk _ _ hf (by have := (hfm x).2; have := (hfm x).1; omega)
  have hz : size ≠ 0 := by omega
  have hdv : CDivN size.natAbs size := ⟨hz, by omega⟩
  refine br_of (fun h => ?_) (fun h => ?_)
  · and_intros
    refine atS_of at2 ?_
    and_intros
    refine ⟨hz, atS_of at2 ?_⟩
    and_intros
    refine ⟨⟨hz, by omega⟩, ⟨2, rfl, ?_⟩⟩
    and_intros
    exact ret _ _ ⟨cells, spot, rest.fdiv size, m + 1, rfl, by omega, by omega, hc⟩
  · and_intros
    refine atS_of at1 ?_
    and_intros
    refine ⟨1, rfl, ?_⟩
    and_intros
    refine atS_of at0 ?_
    and_intros
    have e2 : (spot : Int) + 1 = ((spot + 1 : Nat) : Int) := by omega
    rw [e2]
    refine ⟨shaped_ints cells, shaped_ints [], ?_⟩
    have hfeed : ∀ r : Int, Feed (.list [.list (intsD cells), nD (spot + 1), .int r, nD (m + 1)]) (n + 1) := fun r => ⟨cells, spot + 1, r, m + 1, rfl, by omega, by omega, hc⟩
    have rest2 : ∀ cell : Int, WSs (.cons (.ite (.and (.cmp .GtE (.var 4) (.bin .Pow (.con (.int 10)) (.con (.int 18)))) (.cmp .Lt (.var 3) (.bi .len (.cons (.idx (.var 0) (.con (.int 0))) .nil))))
(.cons (.setIdx 0 (.con (.int 2)) (.bin .FloorDiv (.var 4) (.var 1))) (.cons (.ret (.bin .Mod (.bi .int (.cons (.var 4) .nil)) (.var 1))) .nil))
.nil) (.cons (.set 5 (.bin .Mod (.bi .int (.cons (.bin .Pow (.bin .Add (.bin .Add (.bin .Mod (.bi .int (.cons (.var 4) .nil)) (.con (.int 1999988467))) (.bin .Mult (.con (.int 32203)) (.idx (.var 0) (.con (.int 3))))) (.con (.int 43))) (.con (.int 3))) .nil)) (.con (.int 2147473939)))) (.cons (.set 5 (.bin .Mod (.bi .int (.cons (.bin .Pow (.bin .Add (.bin .Add (.var 5) (.bin .Mult (.bin .Mult (.con (.int 32225)) (.idx (.var 0) (.con (.int 3)))) (.idx (.var 0) (.con (.int 3))))) (.con (.int 77))) (.con (.int 5))) .nil)) (.con (.int 2147473881)))) (.cons (.ret (.bin .Mod (.bi .int (.cons (.bin .FloorDiv (.var 5) (.con (.int 64))) .nil)) (.var 1))) .nil))))
        [some (.own (.list [.list (intsD cells), nD (spot + 1), .int rest, nD (m + 1)]) true), some (.val (.int size)), none, some (.val (nD spot)), some (.val (.int cell)), none] (finE false [true, false] K) := by
      intro cell
      have last : WSs (.cons (.set 5 (.bin .Mod (.bi .int (.cons (.bin .Pow (.bin .Add (.bin .Add (.bin .Mod (.bi .int (.cons (.var 4) .nil)) (.con (.int 1999988467))) (.bin .Mult (.con (.int 32203)) (.idx (.var 0) (.con (.int 3))))) (.con (.int 43))) (.con (.int 3))) .nil)) (.con (.int 2147473939)))) (.cons (.set 5 (.bin .Mod (.bi .int (.cons (.bin .Pow (.bin .Add (.bin .Add (.var 5) (.bin .Mult (.bin .Mult (.con (.int 32225)) (.idx (.var 0) (.con (.int 3)))) (.idx (.var 0) (.con (.int 3))))) (.con (.int 77))) (.con (.int 5))) .nil)) (.con (.int 2147473881)))) (.cons (.ret (.bin .Mod (.bi .int (.cons (.bin .FloorDiv (.var 5) (.con (.int 64))) .nil)) (.var 1))) .nil)))
          [some (.own (.list [.list (intsD cells), nD (spot + 1), .int rest, nD (m + 1)]) true), some (.val (.int size)), none, some (.val (nD spot)), some (.val (.int cell)), none] (finE false [true, false] K) := by
        and_intros
        refine ⟨by decide, atS_of at3 ?_⟩
        and_intros
        have hc1 := Int.fmod_nonneg_of_pos cell (b := 1999988467) (by decide)
        have hc2 := Int.fmod_lt_of_pos cell (b := 1999988467) (by decide)
        refine ⟨.inl ⟨by decide, by decide⟩, ⟨by decide, by decide, ?_⟩, by decide, ?_⟩
        · omega
        generalize hx : ((cell.fmod 1999988467 + 32203 * ((m + 1 : Nat) : Int) + 43) ^ (3 : Int).toNat).fmod 2147473939 = x
        have hx1 : 0 ≤ x := hx ▸ Int.fmod_nonneg_of_pos _ (by decide)
        have hx2 : x < 2147473939 := hx ▸ Int.fmod_lt_of_pos _ (by decide)
        refine atS_of at3 ?_
        and_intros
        refine ⟨.inl ⟨by decide, by decide⟩, atS_of at3 ?_⟩
        and_intros
        refine ⟨.inr ⟨by omega, by omega⟩, ⟨by decide, by decide, ?_⟩, by decide, ?_⟩
        · have hb : (32225 : Int) * ((m + 1 : Nat) : Int) * ((m + 1 : Nat) : Int) ≤ 32225 * 100001 * 100001 := by
            have h1 : ((m + 1 : Nat) : Int) ≤ 100001 := by omega
            have h2 : (0 : Int) ≤ ((m + 1 : Nat) : Int) := by omega
            have h3 := Int.mul_le_mul (show (32225 : Int) * ((m + 1 : Nat) : Int) ≤ 32225 * 100001 by omega) h1 h2 (by decide)
            exact h3
          have hb2 : (0 : Int) ≤ (32225 : Int) * ((m + 1 : Nat) : Int) * ((m + 1 : Nat) : Int) := Int.mul_nonneg (by omega) (by omega)
          omega
        · refine ⟨⟨by decide, by decide⟩, hz, ?_⟩
          exact ret _ _ (hfeed rest)
      and_intros
      refine ⟨⟨by decide, by decide, by decide⟩, ?_⟩
      refine br_of (fun h => ?_) (fun h => ?_)
      · and_intros
        refine atS_of at0 ?_
        and_intros
        refine br_of (fun h => ?_) (fun h => ?_)
        · and_intros
          refine ⟨⟨hz, by omega⟩, ⟨2, rfl, ?_⟩⟩
          and_intros
          refine ⟨hz, ?_⟩
          exact ret _ _ (hfeed _)
        · exact last
      · exact last
    refine br_of (fun h => ?_) (fun h => ?_)
    · have hne : 0 < cells.length := by
        cases cells with
        | nil => exact absurd h (by decide)
        | cons c cs => simp
      and_intros
      refine atS_of at0 ?_
      and_intros
      refine atS_of at0 ?_
      and_intros
      have hlen : ((intsD cells).length : Int) = (cells.length : Int) := by simp [intsD]
      rw [hlen]
      refine ⟨by omega, ?_⟩
      have e3 : (spot : Int).fmod (cells.length : Int) = ((spot % cells.length : Nat) : Int) := by
        rw [Int.fmod_eq_emod_of_nonneg _ (by omega)]
        rfl
      rw [e3]
      have hlt : spot % cells.length < cells.length := Nat.mod_lt _ hne
      refine atS_of (mapN_at (List.getElem?_eq_getElem hlt)) ?_
      exact ⟨trivial, rest2 _⟩
    · exact ⟨trivial, rest2 349⟩
section
variable {R : List (List Nat)} {feed : PyData} {n : Nat} {ρ : Vs.Env} {Q : PyData → Vs.Env → Prop} {h : Held Q}
theorem c_draw {size : Int} {i : Nat} (hf : Feed feed n) (hn : n < 100000) (h0 : 0 < size) (h1 : size < 1073741824) (q : ∀ feed' (v : Nat), Feed feed' (n + 1) → (v : Int) < size → Q (nD v) (argsBack [.lend i, .v (.int size)] ρ [feed'])) :
    runS f_law_draw [.lend i, .v (.int size)] [feed, .int size] ρ Q h := runS_of (by simp [Arg.lends]) ⟨feed, n, size, rfl, hf, hn, h0, h1, fun f v a b => ⟨rfl, q f v a b⟩⟩
theorem c_pick {xs : List PyData} {i : Nat} (hf : Feed feed n) (hn : n < 100000) (h0 : xs ≠ []) (h1 : xs.length ≤ 1000) (q : ∀ feed' x, Feed feed' (n + 1) → x ∈ xs → Q x (argsBack [.lend i, .v (.list xs)] ρ [feed'])) :
    runS f_law_pick [.lend i, .v (.list xs)] [feed, .list xs] ρ Q h := runS_of (by simp [Arg.lends]) ⟨feed, n, xs, rfl, hf, hn, h0, h1, fun f v a b => ⟨rfl, q f v a b⟩⟩
theorem c_far {most i : Nat} (hf : Feed feed n) (hn : n < 10000) (h0 : 0 < most) (q : ∀ feed' v, Feed feed' (n + 20) → v < most → Q (nD v) (argsBack [.lend i, .v (nD most)] ρ [feed'])) :
    runS f_law_far [.lend i, .v (nD most)] [feed, nD most] ρ Q h := runS_of (by simp [Arg.lends]) ⟨feed, n, most, rfl, hf, hn, h0, fun f v a b => ⟨rfl, q f v a b⟩⟩
end
theorem den_law_pick : Den f_law_pick N_law_pick.length cb_law_pick := by
  rintro _ K ⟨feed, n, xs, rfl, hf, hn, h0, h1, hk⟩
  refine ⟨rfl, ?_⟩
  unfold cb_law_pick
  (simp only [m_law_pick, N_law_pick, f_law_pick, w2]; and_intros)
  have hl : 0 < xs.length := List.length_pos_iff.mpr h0
  refine c_draw hf hn (by omega) (by omega) fun feed' v hf' hv => ?_
  and_intros
  have hv : v < xs.length := by omega
  refine atS_of (atN (List.getElem?_eq_getElem hv)) ?_
  and_intros
  exact hk _ _ hf' (List.getElem_mem hv)
theorem den_law_far : Den f_law_far N_law_far.length cb_law_far := by
  rintro _ K ⟨feed, n, most, rfl, hf, hn, h0, hk⟩
  refine ⟨rfl, ?_⟩
  unfold cb_law_far
  (simp only [m_law_far, N_law_far, f_law_far, w2]; and_intros)
  refine c_draw hf (by omega) (by decide) (by decide) fun feed1 v1 hf1 hv1 => ?_
  and_intros
  refine br_of (fun h => ?_) (fun h => ?_)
  · and_intros
    refine ⟨[(most : Int), 50], rfl, by simp, fun m hm hmin => ?_⟩
    and_intros
    have hm1 : m ≤ most := hmin _ (by simp)
    have hm2 : m ≤ 50 := hmin _ (by simp)
    have hm0 : 0 < m := by
      simp at hm
      rcases hm with rfl | rfl
      · omega
      · decide
    refine c_draw hf1 (by omega) hm0 (by omega) fun feed2 v2 hf2 hv2 => ?_
    and_intros
    exact hk _ _ (hf2.mono (by omega)) (by omega)
  · and_intros
    refine ⟨⟨by decide, by decide⟩, ?_⟩
    rw [show (11 : Int).toNat = 11 from rfl, rangeD_nat]
    refine forS_ind (fun i ρ => ∃ (o1 : Option PyData) (feed' : PyData) (found : Nat), ρ = [some (.own feed' true), some (.val (nD most)), some (.val (nD found)), vS o1] ∧ Feed feed' (n + 1 + i)) ⟨none, feed1, 0, rfl, hf1⟩ ?_ ?_
    · rintro i d ρ Φ hd ⟨o1, feed', found, rfl, hf'⟩ hΦ
      obtain ⟨hi, rfl⟩ := rng_get hd
      and_intros
      refine ⟨⟨by decide, by decide, by decide⟩, .inr ⟨by decide, by decide⟩, ⟨by decide, by decide, by decide⟩, ?_⟩
      refine c_draw hf' (by omega) (by decide) (by decide) fun feed2 v2 hf2 hv2 => ?_
      and_intros
      refine hΦ _ ⟨some (nD i), feed2, found * 10 ^ 6 + v2, ?_, hf2⟩
      have : (found : Int) * 10 ^ (6 : Int).toNat + (v2 : Int) = ((found * 10 ^ 6 + v2 : Nat) : Int) := by
        rw [show (6 : Int).toNat = 6 from rfl]
        simp
      rw [this]
      rfl
    · rintro ρ ⟨o1, feed', found, rfl, hf'⟩
      and_intros
      refine ⟨by omega, ?_⟩
      have e3 : (found : Int).fmod (most : Int) = ((found % most : Nat) : Int) := by
        rw [Int.fmod_eq_emod_of_nonneg _ (by omega)]
        rfl
      rw [e3]
      exact hk _ _ (hf'.mono (by simp)) (Nat.mod_lt _ h0)
theorem rows_zero (R : List (List Nat)) : (cnts R 0).map lN = (List.range R.length).map fun a => .list ((List.range R.length).map fun c => nD (if a = c then 1 else 0)) := by
  unfold cnts
  rw [List.map_map]
  apply List.map_congr_left
  intro a _
  show PyData.list (((List.range R.length).map (Cn R 0 a)).map nD) = _
  rw [List.map_map]
  rfl
theorem rows_succ (R : List (List Nat)) (l : Nat) : (cnts R (l + 1)).map lN = R.map fun b => .list ((List.range R.length).map fun c => nD (b.map fun x => Cn R l x c).sum) := by
  rw [cnts_succ, List.map_map]
  apply List.map_congr_left
  intro b _
  show PyData.list (((List.range R.length).map _).map nD) = _
  rw [List.map_map]
  rfl
theorem rows_at {R : List (List Nat)} {l a : Nat} (h : a < R.length) : atI ((cnts R l).map lN) ((a : Nat) : Int) = some (lN ((List.range R.length).map (Cn R l a))) := mapN_at (cnts_at h)
theorem den_law_sums : Den f_law_sums N_law_sums.length cb_law_sums := by
  rintro _ K ⟨R, l, rfl, hR, hl, hk⟩
  refine ⟨rfl, ?_⟩
  unfold cb_law_sums
  (simp only [m_law_sums, N_law_sums, f_law_sums, v2]; and_intros)
  have h4 := hR.n4
  rw [List.length_map]
  refine ⟨⟨by omega, by omega⟩, ?_⟩
  rw [Int.toNat_natCast, rangeD_nat]
  refine compS_map (fun a => .list ((List.range R.length).map fun c => nD (if a = c then 1 else 0))) (fun a ha Φ q => ?_) ?_
  · and_intros
    refine ⟨⟨by omega, by omega⟩, ?_⟩
    rw [Int.toNat_natCast, rangeD_nat]
    refine compS_map (fun c => nD (if a = c then 1 else 0)) (fun c hc Φ2 q2 => ?_) ?_
    · and_intros
      have : (if decide ((a : Int) = (c : Int)) = true then (1 : Int) else 0) = ((if a = c then 1 else 0 : Nat) : Int) := by
        by_cases h : a = c
        · subst h; simp
        · have : ¬ ((a : Int) = (c : Int)) := by omega
          simp [h, this]
      rw [this]
      exact q2
    · and_intros
      exact q
  and_intros
  refine ⟨⟨by omega, by omega⟩, ?_⟩
  rw [Int.toNat_natCast, rangeD_nat]
  refine forS_ind (fun i ρ => ∃ (o1 o2 o3 : Option PyData), ρ = [some (.val (ttN R)), some (.val (nD l)), some (.val (nD R.length)), some (.own (rows R i) false), vS o1, vS o2, vS o3, none, none, none]) ⟨none, none, none, ?_⟩ ?_ ?_
  · show _ = [some (Slot.val (ttN R)), some (Slot.val (nD l)), some (Slot.val (nD R.length)), some (Slot.own (.list [.list ((cnts R 0).map lN)]) false), none, none, none, none, none, none]
    rw [rows_zero]
  · rintro i d ρ Φ hd ⟨o1, o2, o3, rfl⟩ hΦ
    obtain ⟨hi, rfl⟩ := rng_get hd
    and_intros
    refine forS_ind (fun j ρ => ∃ (o3 : Option PyData), ρ = [some (.val (ttN R)), some (.val (nD l)), some (.val (nD R.length)), some (.own (rows R i) false), some (.val (nD i)), some (.own (.list ((R.take j).map fun b => .list ((List.range R.length).map fun c => nD (b.map fun x => Cn R i x c).sum))) false), vS o3, none, none, none]) ⟨o3, rfl⟩ ?_ ?_
    · rintro j d ρ Ψ hd2 ⟨o4, rfl⟩ hΨ
      rw [List.getElem?_map] at hd2
      obtain ⟨b, hb, rfl⟩ := Option.map_eq_some_iff.mp hd2
      have hbm := List.mem_of_getElem? hb
      and_intros
      refine ⟨⟨by omega, by omega⟩, ?_⟩
      rw [Int.toNat_natCast, rangeD_nat]
      refine compS_map (fun c => nD (b.map fun x => Cn R i x c).sum) (fun c hc Φ2 q2 => ?_) ?_
      · have hc : c < R.length := by simpa using hc
        and_intros
        refine compS_map (fun x => nD (Cn R i x c)) (fun x hx Φ3 q3 => ?_) ?_
        · have hxR := (hR.bl b hbm).2.2 x hx
          unfold rows
          and_intros
          refine atS_of rng_last ?_
          and_intros
          refine atS_of (rows_at hxR) ?_
          and_intros
          refine atS_of (rngN_at hc) ?_
          and_intros
          exact q3
        · and_intros
          exact sumS_of (by and_intros; exact q2)
      · and_intros
        refine ⟨by rw [List.length_map, List.length_take]; omega, hΨ _ ⟨some (tN b), ?_⟩⟩
        have e : R.take (j + 1) = R.take j ++ [b] := by rw [List.take_add_one, hb]; rfl
        rw [e, List.map_append]
        rfl
    · rintro ρ ⟨o4, rfl⟩
      rw [List.length_map, List.take_length]
      unfold rows
      and_intros
      refine ⟨by simp; omega, hΦ _ ⟨some (nD i), some (.list (R.map fun b => .list ((List.range R.length).map fun c => nD (b.map fun x => Cn R i x c).sum))), o4, ?_⟩⟩
      unfold rows
      rw [← range_push (fun j => PyData.list ((cnts R j).map lN)) (i + 1), rows_succ]
      rfl
  · rintro ρ ⟨o1, o2, o3, rfl⟩
    have e : ((List.range l).map nD).length = l := by simp
    rw [e]
    and_intros
    exact hk
end K87

set_option maxHeartbeats 4000000
/-! KL: plain laws: the drawn rules. -/
namespace K87
open PySem L2 Vs
local macro_rules | `(tactic| and_intros) => `(tactic| try simp only [↓rdG0v, rdG0v, ↓rdG0o, rdG0o, ↓rdGs, rdGs, ↓takeG0v, takeG0v, ↓takeG0o, takeG0o, ↓takeGs, takeGs, ↓hasG0, hasG0, ↓hasGs, hasGs, ↓ownG0, ownG0, ↓ownGs, ownGs, ↓free0n, free0n, ↓free0v, free0v, ↓free0o, free0o, ↓frees, frees, ↓hass, hass, ↓has0, has0, ↓isL0, isL0, ↓isLs, isLs, ↓S_nil, S_nil, ↓S_cons, S_cons, ↓seq_nx, seq_nx, ↓seq_rt, seq_rt, ↓seq_bk, seq_bk, ↓seq_ct, seq_ct, ↓lp_nx, lp_nx, ↓lp_rt, lp_rt, ↓lp_bk, lp_bk, ↓lp_ct, lp_ct, ↓fin_rt, fin_rt, ↓fin_nx, fin_nx, ↓outs_nil, outs_nil, ↓outs_f, outs_f, ↓outs_t, outs_t, ↓S_set, S_set, ↓S_unpack, S_unpack, ↓S_par, S_par, ↓S_setIdx, S_setIdx, ↓appK_l, appK_l, ↓extK_l, extK_l, ↓extK_t, extK_t, ↓S_append, S_append, ↓S_extend, S_extend, ↓S_expr, S_expr, ↓S_ret, S_ret, ↓S_retN, S_retN, ↓S_ite, S_ite, ↓S_whl, S_whl, ↓S_forr, S_forr, ↓S_never, S_never, ↓S_pass, S_pass, ↓S_brk, S_brk, ↓S_cont, S_cont, ↓S_tryy, S_tryy, ↓W_var, W_var, ↓W_varT, W_varT, ↓W_con, W_con, ↓W_conT, W_conT, ↓negW_i, negW_i, ↓W_neg, W_neg, ↓W_not, W_not, ↓W_notT, W_notT, ↓andK_b, andK_b, ↓W_and, W_and, ↓W_andT, W_andT, ↓W_or, W_or, ↓W_orT, W_orT, ↓W_bin, W_bin, ↓W_cmp, W_cmp, ↓W_cmpT, W_cmpT, ↓W_ite, W_ite, ↓W_tup, W_tup, ↓W_lst, W_lst, ↓W_dct, W_dct, ↓W_idx, W_idx, ↓W_sli, W_sli, ↓W_comp, W_comp, ↓W_comp2, W_comp2, ↓W_call, W_call, ↓W_bi, W_bi, ↓W_isT, W_isT, ↓W_cat, W_cat, ↓W_rep, W_rep, ↓W_callT, W_callT, ↓W_biT, W_biT, ↓W_isTT, W_isTT, ↓W_idxT, W_idxT, ↓W_binT, W_binT, ↓W_compT, W_compT, ↓O_var, O_var, ↓O_con, O_con, ↓O_neg, O_neg, ↓O_not, O_not, ↓O_and, O_and, ↓O_or, O_or, ↓O_bin, O_bin, ↓O_cmp, O_cmp, ↓O_ite, O_ite, ↓O_tup, O_tup, ↓O_lst, O_lst, ↓O_dct, O_dct, ↓O_idx, O_idx, ↓O_sli, O_sli, ↓O_comp, O_comp, ↓O_comp2, O_comp2, ↓O_call, O_call, ↓O_bi, O_bi, ↓O_isT, O_isT, ↓O_cat, O_cat, ↓O_rep, O_rep, ↓on_d, on_d, ↓on_s, on_s, ↓Ws_nil, Ws_nil, ↓Ws_cons, Ws_cons, ↓Wo_nil, Wo_nil, ↓Wo_cons, Wo_cons, ↓oa_nil, oa_nil, ↓oa_cons, oa_cons, ↓Wa_nil, Wa_nil, ↓Wa_f, Wa_f, ↓Wa_t, Wa_t, ↓ao_nil, ao_nil, ↓ao_v, ao_v, ↓ao_l, ao_l, ↓Wp_no, Wp_no, ↓intK_i, intK_i, ↓Wp_one, Wp_one, ↓Wc_no, Wc_no, ↓Wc_one, Wc_one, ↓Wi_seq, Wi_seq, ↓Wi_r1, Wi_r1, ↓Wi_r2, Wi_r2, ↓Wi_r3, Wi_r3, ↓seqK_l, seqK_l, ↓seqK_t, seqK_t, ↓zipK_l, zipK_l, ↓zipK_t, zipK_t, ↓Wi_enum, Wi_enum, ↓Wi_zip, Wi_zip, ↓it_l, it_l, ↓it_t, it_t, ↓it_d, it_d, ↓tr_b, tr_b, ↓tr_i, tr_i, ↓tr_n, tr_n, ↓tr_l, tr_l, ↓tr_t, tr_t, ↓b_add, b_add, ↓b_sub, b_sub, ↓b_mul, b_mul, ↓b_fdiv, b_fdiv, ↓b_mod, b_mod, ↓b_pow, b_pow, ↓b_addT, b_addT, ↓c_lt, c_lt, ↓c_le, c_le, ↓c_gt, c_gt, ↓c_ge, c_ge, ↓c_eq, c_eq, ↓c_ne, c_ne, ↓c_eqs, c_eqs, ↓c_nes, c_nes, ↓c_eq_list, c_eq_list, ↓c_eq_tuple, c_eq_tuple, ↓c_ne_list, c_ne_list, ↓c_ne_tuple, c_ne_tuple, ↓nonB_n, nonB_n, ↓nonB_i, nonB_i, ↓nonB_b, nonB_b, ↓nonB_t, nonB_t, ↓nonB_l, nonB_l, ↓c_is, c_is, ↓c_isnot, c_isnot, ↓ix_l, ix_l, ↓ix_t, ix_t, ↓sl_l, sl_l, ↓sl_t, sl_t, ↓cat_l, cat_l, ↓rep_l, rep_l, ↓bl_l, bl_l, ↓bl_t, bl_t, ↓bl_d, bl_d, ↓bt_l, bt_l, ↓bt_t, bt_t, ↓bs_l, bs_l, ↓bs_t, bs_t, ↓bi_i, bi_i, ↓bi_b, bi_b, ↓bx2, bx2, ↓bn2, bn2, ↓babs, babs, ↓bsum, bsum, ↓bmax, bmax, ↓bmin, bmin, ↓ball, ball, ↓bany, bany, ↓bsor, bsor, ↓bdic, bdic, ↓brep, brep, ↓bd_one, bd_one, ↓bd_many, bd_many, ↓so_l, so_l, ↓br_t, br_t, ↓br_f, br_f, ↓mk_t, mk_t, ↓mk_f, mk_f, Cs.freshes, C.fresh, putPar, putAll, initE, Fn.run, argsBack, Arg.lends, wipeE, backE, valOf, Tg.slots, List.getElem?_cons_zero, List.getElem?_cons_succ, List.getElem?_nil, List.set_cons_zero, List.set_cons_succ, List.zip_cons_cons, List.zip_nil_right, List.zip_nil_left, List.length_cons, List.length_nil, List.cons_append, List.nil_append, List.append_nil, List.replicate_succ, List.replicate_zero, ↓reduceIte, Bool.false_eq_true, List.mem_cons, List.not_mem_nil, or_false, forall_eq_or_imp, forall_eq, true_and, and_true, List.nodup_nil, List.nodup_cons, Nat.zero_add, Nat.reduceAdd, Nat.reduceSub, Nat.reduceEqDiff, reduceCtorEq, not_false_eq_true, false_or, or_self, forall_const, implies_true, List.map_cons, List.map_nil, and_self, Bool.not_true, Bool.not_false, Bool.not_eq_true, decide_true, decide_false, mk_t, mk_f, false_implies, ↓free0s, free0s, ↓m_is_integer, m_is_integer, q_is_integer, ↓m_is_number, m_is_number, q_is_number, ↓m_is_index, m_is_index, q_is_index, ↓m_is_full_tuple, m_is_full_tuple, q_is_full_tuple, ↓m_are_indexes, m_are_indexes, q_are_indexes, ↓m_is_rule, m_is_rule, q_is_rule, ↓m_units_by, m_units_by, q_units_by, ↓m_added_rows, m_added_rows, q_added_rows, ↓m_counts_to, m_counts_to, q_counts_to, ↓m_counts_by, m_counts_by, q_counts_by, ↓m_lengths_to, m_lengths_to, q_lengths_to, ↓m_lengths_by, m_lengths_by, q_lengths_by, ↓m_part_with, m_part_with, q_part_with, ↓m_way_down, m_way_down, q_way_down, ↓m_word_in, m_word_in, q_word_in, ↓m_ahead_in, m_ahead_in, q_ahead_in, ↓m_place_in, m_place_in, q_place_in, ↓m_want, m_want, q_want, ↓m_want_2, m_want_2, q_want_2, ↓m_want_rule, m_want_rule, q_want_rule, ↓m_want_rule_1, m_want_rule_1, q_want_rule_1, ↓m_want_index, m_want_index, q_want_index, ↓m_word_after, m_word_after, q_word_after, ↓m_want_block, m_want_block, q_want_block, ↓m_block_of, m_block_of, q_block_of, ↓m_length_of, m_length_of, q_length_of, ↓m_lengths_of, m_lengths_of, q_lengths_of, ↓m_counts_in, m_counts_in, q_counts_in, ↓m_growth_by, m_growth_by, q_growth_by, ↓m_want_growing, m_want_growing, q_want_growing, ↓m_want_growing_1, m_want_growing_1, q_want_growing_1, ↓m_letter_at, m_letter_at, q_letter_at, ↓m_word_at, m_word_at, q_word_at, ↓m_count_before, m_count_before, q_count_before, ↓m_place_of, m_place_of, q_place_of, ↓m_path_to, m_path_to, q_path_to, ↓m_place_by, m_place_by, q_place_by, ↓m_first_again, m_first_again, q_first_again, ↓m_seeds, m_seeds, q_seeds, ↓m_level_holding, m_level_holding, q_level_holding, ↓m_law_draw, m_law_draw, q_law_draw, ↓m_law_pick, m_law_pick, q_law_pick, ↓m_law_same, m_law_same, q_law_same, ↓m_law_becomes, m_law_becomes, q_law_becomes, ↓m_law_does_grow, m_law_does_grow, q_law_does_grow, ↓m_law_grown, m_law_grown, q_law_grown, ↓m_law_any_rule, m_law_any_rule, q_law_any_rule, ↓m_law_far, m_law_far, q_law_far, ↓m_law_sums, m_law_sums, q_law_sums, ↓m_law_down, m_law_down, q_law_down, ↓m_law_found, m_law_found, q_law_found, ↓m_law_halves_right, m_law_halves_right, q_law_halves_right, ↓m_law_place_right, m_law_place_right, q_law_place_right, ↓m_law_index_right, m_law_index_right, q_law_index_right, ↓m_law_small_right, m_law_small_right, q_law_small_right, ↓m_law_seeds, m_law_seeds, q_law_seeds, ↓m_law_holding_right, m_law_holding_right, q_law_holding_right, ↓m_law_is_right, m_law_is_right, q_law_is_right])
def toldL : List (List (List Nat)) := [[[0, 1], [1, 0]], [[0, 1], [0]], [[0, 1], [0, 0]], [[0, 1], [1, 2], [2, 0]], [[0, 1, 0], [1, 0, 1]], [[0, 1], [0, 2], [0]], [[1, 0], [0, 1]], [[0, 1, 2], [0, 2], [1]], [[0, 0, 1], [0, 2], [1, 0]]]
theorem told_ok : ∀ R ∈ toldL, Ok R := by
  have : ∀ R ∈ toldL, R ≠ [] ∧ R.length ≤ 4 ∧ ∀ b ∈ R, b ≠ [] ∧ b.length ≤ 4 ∧ ∀ x ∈ b, x < R.length := by decide +kernel
  intro R hR
  obtain ⟨a, b, c⟩ := this R hR
  exact ⟨a, b, c⟩
def Bl (m : Nat) (b : List Nat) : Prop := b ≠ [] ∧ b.length ≤ 4 ∧ ∀ x ∈ b, x < m
theorem den_law_grown : Den f_law_grown N_law_grown.length cb_law_grown := by
  rintro _ K ⟨feed, n, rfl, hf, hn, hk⟩
  refine ⟨rfl, ?_⟩
  unfold cb_law_grown
  (simp only [m_law_grown, N_law_grown, f_law_grown, w1]; and_intros)
  refine ⟨by decide, ?_⟩
  refine c_draw hf (by omega) (by decide) (by decide) fun feed1 v1 hf1 hv1 => ?_
  and_intros
  have pick : ∀ (feed' : PyData) (m : Nat) (r2 r3 r4 r5 : Option Slot), Feed feed' m → m ≤ n + 150 → WSs (.cons (.ret (.call f_law_pick (.cons (.var 0) (.cons (.var 1) .nil)))) .nil) [some (.own feed' true), some (.own (.list (toldL.map ttN)) false), r2, r3, r4, r5, none] (finE false [true] K) := by
    intro feed' m r2 r3 r4 r5 hf' hm
    and_intros
    refine c_pick hf' (by omega) (by decide) (by decide) fun feed2 x hf2 hx => ?_
    and_intros
    obtain ⟨R, hR, rfl⟩ := List.mem_map.mp hx
    exact hk _ _ (hf2.mono (by omega)) (told_ok R hR)
  refine br_of (fun h => ?_) (fun h => ?_)
  · exact pick _ _ _ _ _ _ hf1 (by omega)
  · and_intros
    refine ⟨⟨by decide, by decide⟩, ?_⟩
    rw [show (4 : Int).toNat = 4 from rfl, rangeD_nat]
    refine forS_ind (fun i ρ => ∃ (o2 o3 o4 o5 : Option PyData) (feed' : PyData), ρ = [some (.own feed' true), some (.own (.list (toldL.map ttN)) false), vS o2, vS o3, vS o4, vS o5, none] ∧ Feed feed' (n + 1 + 20 * i)) ⟨none, none, none, none, feed1, rfl, hf1⟩ ?_ ?_
    · rintro i d ρ Φ hd ⟨o2, o3, o4, o5, feed', rfl, hf'⟩ hΦ
      obtain ⟨hi, rfl⟩ := rng_get hd
      and_intros
      refine c_draw hf' (by omega) (by decide) (by decide) fun feed2 v2 hf2 hv2 => ?_
      and_intros
      obtain ⟨size, hsz, hs2⟩ : ∃ size : Nat, (2 : Int) + (if decide ((v2 : Int) = 0) = true then 1 else 0) = (size : Int) ∧ (size = 2 ∨ size = 3) := by
        by_cases h : decide ((v2 : Int) = 0) = true
        · exact ⟨3, by rw [if_pos h]; rfl, .inr rfl⟩
        · exact ⟨2, by rw [if_neg h]; rfl, .inl rfl⟩
      rw [hsz]
      refine ⟨⟨by omega, by omega⟩, ?_⟩
      rw [Int.toNat_natCast, rangeD_nat]
      refine forS_ind (fun j ρ => ∃ (o5 : Option PyData) (feed' : PyData) (bs : List (List Nat)), ρ = [some (.own feed' true), some (.own (.list (toldL.map ttN)) false), some (.val (nD i)), some (.val (nD size)), some (.own (ltN bs) false), vS o5, none] ∧ Feed feed' (n + 2 + 20 * i + 4 * j) ∧ bs.length = j ∧ ∀ b ∈ bs, Bl size b) ⟨o5, feed2, [], rfl, hf2.mono (by omega), rfl, by simp⟩ ?_ ?_
      · rintro j d ρ Ψ hd2 ⟨o5, feed3, bs, rfl, hf3, hbs, hbl⟩ hΨ
        obtain ⟨hj, rfl⟩ := rng_get hd2
        and_intros
        refine c_draw hf3 (by omega) (by decide) (by decide) fun feed4 v4 hf4 hv4 => ?_
        and_intros
        rw [show (1 : Int) + (v4 : Int) = ((1 + v4 : Nat) : Int) by omega]
        refine ⟨⟨by omega, by omega⟩, ?_⟩
        rw [Int.toNat_natCast, rangeD_nat]
        refine compS_ind (fun k acc ρ => ∃ (feed' : PyData) (b : List Nat), ρ = [some (.own feed' true), some (.own (.list (toldL.map ttN)) false), some (.val (nD i)), some (.val (nD size)), some (.own (ltN bs) false), some (.val (nD j)), none] ∧ acc = b.map nD ∧ b.length = k ∧ (∀ x ∈ b, x < size) ∧ Feed feed' (n + 2 + 20 * i + 4 * j + 1 + k)) ⟨feed4, [], rfl, rfl, rfl, by simp, hf4⟩ ?_ ?_
        · rintro k d acc ρ Ξ hd3 ⟨feed5, b, rfl, rfl, hbk, hbx, hf5⟩ hΞ
          obtain ⟨hk3, rfl⟩ := rng_get hd3
          and_intros
          refine c_draw hf5 (by omega) (by omega) (by omega) fun feed6 v6 hf6 hv6 => ?_
          and_intros
          refine hΞ _ _ ⟨feed6, b ++ [v6], rfl, by simp, by simp [hbk], fun x hx => ?_, hf6⟩
          rcases List.mem_append.mp hx with hx | hx
          · exact hbx x hx
          · have : x = v6 := by simpa using hx
            omega
        · rintro acc ρ ⟨feed5, b, rfl, rfl, hbk, hbx, hf5⟩
          have e : ((List.range (1 + v4)).map nD).length = 1 + v4 := by simp
          rw [e] at hbk hf5
          and_intros
          refine ⟨by simp; omega, hΨ _ ⟨some (nD j), feed5, bs ++ [b], ?_, hf5.mono (by omega), by simp [hbs], fun c hc => ?_⟩⟩
          · simp [vS]
          · rcases List.mem_append.mp hc with hc | hc
            · exact hbl c hc
            · have : c = b := by simpa using hc
              subst this
              refine ⟨fun e => ?_, by omega, hbx⟩
              rw [e] at hbk
              simp at hbk
              omega
      · rintro ρ ⟨o5, feed3, bs, rfl, hf3, hbs, hbl⟩
        have e : ((List.range size).map nD).length = size := by simp
        rw [e] at hbs hf3
        have hOk : Ok bs := ⟨fun e => by rw [e] at hbs; simp at hbs; omega, by omega, fun b hb => by rw [hbs]; exact hbl b hb⟩
        and_intros
        refine runS_of List.nodup_nil ⟨bs, _, rfl, .inr rfl, hOk, ⟨rfl, ?_⟩, fun _ v => ⟨rfl, ?_⟩⟩
        · and_intros
          exact hΦ _ ⟨some (nD i), some (nD size), some (ltN bs), o5, feed3, rfl, hf3.mono (by omega)⟩
        · and_intros
          exact hk _ _ (hf3.mono (by omega)) hOk
    · rintro ρ ⟨o2, o3, o4, o5, feed', rfl, hf'⟩
      have e : ((List.range 4).map nD).length = 4 := by simp
      rw [e] at hf'
      exact pick _ _ _ _ _ _ hf' (by omega)
theorem den_law_any_rule : Den f_law_any_rule N_law_any_rule.length cb_law_any_rule := by
  rintro _ K ⟨feed, n, rfl, hf, hn, hk⟩
  refine ⟨rfl, ?_⟩
  unfold cb_law_any_rule
  (simp only [m_law_any_rule, N_law_any_rule, f_law_any_rule, w1]; and_intros)
  refine c_draw hf (by omega) (by decide) (by decide) fun feed1 v1 hf1 hv1 => ?_
  and_intros
  refine br_of (fun h => ?_) (fun h => ?_)
  · and_intros
    refine runS_of (by simp [Arg.lends]) ⟨feed1, n + 1, rfl, hf1, by omega, fun f R a b => ⟨rfl, ?_⟩⟩
    and_intros
    exact hk _ _ (a.mono (by omega)) b
  · and_intros
    refine c_draw hf1 (by omega) (by decide) (by decide) fun feed2 v2 hf2 hv2 => ?_
    and_intros
    obtain ⟨size, hsz, hs2⟩ : ∃ size : Nat, (1 : Int) + (v2 : Int) = (size : Int) ∧ 1 ≤ size ∧ size ≤ 4 := ⟨1 + v2, by omega, by omega, by omega⟩
    rw [hsz]
    refine ⟨⟨by omega, by omega⟩, ?_⟩
    rw [Int.toNat_natCast, rangeD_nat]
    refine forS_ind (fun j ρ => ∃ (o5 : Option PyData) (feed' : PyData) (bs : List (List Nat)), ρ = [some (.own feed' true), some (.val (nD size)), some (.own (ltN bs) false), vS o5, none] ∧ Feed feed' (n + 2 + 5 * j) ∧ bs.length = j ∧ ∀ b ∈ bs, Bl size b) ⟨none, feed2, [], rfl, hf2.mono (by omega), rfl, by simp⟩ ?_ ?_
    · rintro j d ρ Ψ hd2 ⟨o5, feed3, bs, rfl, hf3, hbs, hbl⟩ hΨ
      obtain ⟨hj, rfl⟩ := rng_get hd2
      and_intros
      refine c_draw hf3 (by omega) (by decide) (by decide) fun feed4 v4 hf4 hv4 => ?_
      and_intros
      rw [show (1 : Int) + (v4 : Int) = ((1 + v4 : Nat) : Int) by omega]
      refine ⟨⟨by omega, by omega⟩, ?_⟩
      rw [Int.toNat_natCast, rangeD_nat]
      refine compS_ind (fun k acc ρ => ∃ (feed' : PyData) (b : List Nat), ρ = [some (.own feed' true), some (.val (nD size)), some (.own (ltN bs) false), some (.val (nD j)), none] ∧ acc = b.map nD ∧ b.length = k ∧ (∀ x ∈ b, x < size) ∧ Feed feed' (n + 2 + 5 * j + 1 + k)) ⟨feed4, [], rfl, rfl, rfl, by simp, hf4⟩ ?_ ?_
      · rintro k d acc ρ Ξ hd3 ⟨feed5, b, rfl, rfl, hbk, hbx, hf5⟩ hΞ
        obtain ⟨hk3, rfl⟩ := rng_get hd3
        and_intros
        refine c_draw hf5 (by omega) (by omega) (by omega) fun feed6 v6 hf6 hv6 => ?_
        and_intros
        refine hΞ _ _ ⟨feed6, b ++ [v6], rfl, by simp, by simp [hbk], fun x hx => ?_, hf6⟩
        rcases List.mem_append.mp hx with hx | hx
        · exact hbx x hx
        · have : x = v6 := by simpa using hx
          omega
      · rintro acc ρ ⟨feed5, b, rfl, rfl, hbk, hbx, hf5⟩
        have e : ((List.range (1 + v4)).map nD).length = 1 + v4 := by simp
        rw [e] at hbk hf5
        and_intros
        refine ⟨by simp; omega, hΨ _ ⟨some (nD j), feed5, bs ++ [b], ?_, hf5.mono (by omega), by simp [hbs], fun c hc => ?_⟩⟩
        · simp [vS]
        · rcases List.mem_append.mp hc with hc | hc
          · exact hbl c hc
          · have : c = b := by simpa using hc
            subst this
            refine ⟨fun e => ?_, by omega, hbx⟩
            rw [e] at hbk
            simp at hbk
            omega
    · rintro ρ ⟨o5, feed3, bs, rfl, hf3, hbs, hbl⟩
      have e : ((List.range size).map nD).length = size := by simp
      rw [e] at hbs hf3
      have hOk : Ok bs := ⟨fun e => by rw [e] at hbs; simp at hbs; omega, by omega, fun b hb => by rw [hbs]; exact hbl b hb⟩
      and_intros
      exact hk _ _ (hf3.mono (by omega)) hOk
end K87

set_option maxHeartbeats 4000000
/-! KN: sums, ways and places; the law's own way down. -/
namespace K87
open PySem L2 Vs
local macro_rules | `(tactic| and_intros) => `(tactic| try simp only [↓rdG0v, rdG0v, ↓rdG0o, rdG0o, ↓rdGs, rdGs, ↓takeG0v, takeG0v, ↓takeG0o, takeG0o, ↓takeGs, takeGs, ↓hasG0, hasG0, ↓hasGs, hasGs, ↓ownG0, ownG0, ↓ownGs, ownGs, ↓free0n, free0n, ↓free0v, free0v, ↓free0o, free0o, ↓frees, frees, ↓hass, hass, ↓has0, has0, ↓isL0, isL0, ↓isLs, isLs, ↓S_nil, S_nil, ↓S_cons, S_cons, ↓seq_nx, seq_nx, ↓seq_rt, seq_rt, ↓seq_bk, seq_bk, ↓seq_ct, seq_ct, ↓lp_nx, lp_nx, ↓lp_rt, lp_rt, ↓lp_bk, lp_bk, ↓lp_ct, lp_ct, ↓fin_rt, fin_rt, ↓fin_nx, fin_nx, ↓outs_nil, outs_nil, ↓outs_f, outs_f, ↓outs_t, outs_t, ↓S_set, S_set, ↓S_unpack, S_unpack, ↓S_par, S_par, ↓S_setIdx, S_setIdx, ↓appK_l, appK_l, ↓extK_l, extK_l, ↓extK_t, extK_t, ↓S_append, S_append, ↓S_extend, S_extend, ↓S_expr, S_expr, ↓S_ret, S_ret, ↓S_retN, S_retN, ↓S_ite, S_ite, ↓S_whl, S_whl, ↓S_forr, S_forr, ↓S_never, S_never, ↓S_pass, S_pass, ↓S_brk, S_brk, ↓S_cont, S_cont, ↓S_tryy, S_tryy, ↓W_var, W_var, ↓W_varT, W_varT, ↓W_con, W_con, ↓W_conT, W_conT, ↓negW_i, negW_i, ↓W_neg, W_neg, ↓W_not, W_not, ↓W_notT, W_notT, ↓andK_b, andK_b, ↓W_and, W_and, ↓W_andT, W_andT, ↓W_or, W_or, ↓W_orT, W_orT, ↓W_bin, W_bin, ↓W_cmp, W_cmp, ↓W_cmpT, W_cmpT, ↓W_ite, W_ite, ↓W_tup, W_tup, ↓W_lst, W_lst, ↓W_dct, W_dct, ↓W_idx, W_idx, ↓W_sli, W_sli, ↓W_comp, W_comp, ↓W_comp2, W_comp2, ↓W_call, W_call, ↓W_bi, W_bi, ↓W_isT, W_isT, ↓W_cat, W_cat, ↓W_rep, W_rep, ↓W_callT, W_callT, ↓W_biT, W_biT, ↓W_isTT, W_isTT, ↓W_idxT, W_idxT, ↓W_binT, W_binT, ↓W_compT, W_compT, ↓O_var, O_var, ↓O_con, O_con, ↓O_neg, O_neg, ↓O_not, O_not, ↓O_and, O_and, ↓O_or, O_or, ↓O_bin, O_bin, ↓O_cmp, O_cmp, ↓O_ite, O_ite, ↓O_tup, O_tup, ↓O_lst, O_lst, ↓O_dct, O_dct, ↓O_idx, O_idx, ↓O_sli, O_sli, ↓O_comp, O_comp, ↓O_comp2, O_comp2, ↓O_call, O_call, ↓O_bi, O_bi, ↓O_isT, O_isT, ↓O_cat, O_cat, ↓O_rep, O_rep, ↓on_d, on_d, ↓on_s, on_s, ↓Ws_nil, Ws_nil, ↓Ws_cons, Ws_cons, ↓Wo_nil, Wo_nil, ↓Wo_cons, Wo_cons, ↓oa_nil, oa_nil, ↓oa_cons, oa_cons, ↓Wa_nil, Wa_nil, ↓Wa_f, Wa_f, ↓Wa_t, Wa_t, ↓ao_nil, ao_nil, ↓ao_v, ao_v, ↓ao_l, ao_l, ↓Wp_no, Wp_no, ↓intK_i, intK_i, ↓Wp_one, Wp_one, ↓Wc_no, Wc_no, ↓Wc_one, Wc_one, ↓Wi_seq, Wi_seq, ↓Wi_r1, Wi_r1, ↓Wi_r2, Wi_r2, ↓Wi_r3, Wi_r3, ↓seqK_l, seqK_l, ↓seqK_t, seqK_t, ↓zipK_l, zipK_l, ↓zipK_t, zipK_t, ↓Wi_enum, Wi_enum, ↓Wi_zip, Wi_zip, ↓it_l, it_l, ↓it_t, it_t, ↓it_d, it_d, ↓tr_b, tr_b, ↓tr_i, tr_i, ↓tr_n, tr_n, ↓tr_l, tr_l, ↓tr_t, tr_t, ↓b_add, b_add, ↓b_sub, b_sub, ↓b_mul, b_mul, ↓b_fdiv, b_fdiv, ↓b_mod, b_mod, ↓b_pow, b_pow, ↓b_addT, b_addT, ↓c_lt, c_lt, ↓c_le, c_le, ↓c_gt, c_gt, ↓c_ge, c_ge, ↓c_eq, c_eq, ↓c_ne, c_ne, ↓c_eqs, c_eqs, ↓c_nes, c_nes, ↓c_eq_list, c_eq_list, ↓c_eq_tuple, c_eq_tuple, ↓c_ne_list, c_ne_list, ↓c_ne_tuple, c_ne_tuple, ↓nonB_n, nonB_n, ↓nonB_i, nonB_i, ↓nonB_b, nonB_b, ↓nonB_t, nonB_t, ↓nonB_l, nonB_l, ↓c_is, c_is, ↓c_isnot, c_isnot, ↓ix_l, ix_l, ↓ix_t, ix_t, ↓sl_l, sl_l, ↓sl_t, sl_t, ↓cat_l, cat_l, ↓rep_l, rep_l, ↓bl_l, bl_l, ↓bl_t, bl_t, ↓bl_d, bl_d, ↓bt_l, bt_l, ↓bt_t, bt_t, ↓bs_l, bs_l, ↓bs_t, bs_t, ↓bi_i, bi_i, ↓bi_b, bi_b, ↓bx2, bx2, ↓bn2, bn2, ↓babs, babs, ↓bsum, bsum, ↓bmax, bmax, ↓bmin, bmin, ↓ball, ball, ↓bany, bany, ↓bsor, bsor, ↓bdic, bdic, ↓brep, brep, ↓bd_one, bd_one, ↓bd_many, bd_many, ↓so_l, so_l, ↓br_t, br_t, ↓br_f, br_f, ↓mk_t, mk_t, ↓mk_f, mk_f, Cs.freshes, C.fresh, putPar, putAll, initE, Fn.run, argsBack, Arg.lends, wipeE, backE, valOf, Tg.slots, List.getElem?_cons_zero, List.getElem?_cons_succ, List.getElem?_nil, List.set_cons_zero, List.set_cons_succ, List.zip_cons_cons, List.zip_nil_right, List.zip_nil_left, List.length_cons, List.length_nil, List.cons_append, List.nil_append, List.append_nil, List.replicate_succ, List.replicate_zero, ↓reduceIte, Bool.false_eq_true, List.mem_cons, List.not_mem_nil, or_false, forall_eq_or_imp, forall_eq, true_and, and_true, List.nodup_nil, List.nodup_cons, Nat.zero_add, Nat.reduceAdd, Nat.reduceSub, Nat.reduceEqDiff, reduceCtorEq, not_false_eq_true, false_or, or_self, forall_const, implies_true, List.map_cons, List.map_nil, and_self, Bool.not_true, Bool.not_false, Bool.not_eq_true, decide_true, decide_false, mk_t, mk_f, false_implies, ↓free0s, free0s, ↓m_is_integer, m_is_integer, q_is_integer, ↓m_is_number, m_is_number, q_is_number, ↓m_is_index, m_is_index, q_is_index, ↓m_is_full_tuple, m_is_full_tuple, q_is_full_tuple, ↓m_are_indexes, m_are_indexes, q_are_indexes, ↓m_is_rule, m_is_rule, q_is_rule, ↓m_units_by, m_units_by, q_units_by, ↓m_added_rows, m_added_rows, q_added_rows, ↓m_counts_to, m_counts_to, q_counts_to, ↓m_counts_by, m_counts_by, q_counts_by, ↓m_lengths_to, m_lengths_to, q_lengths_to, ↓m_lengths_by, m_lengths_by, q_lengths_by, ↓m_part_with, m_part_with, q_part_with, ↓m_way_down, m_way_down, q_way_down, ↓m_word_in, m_word_in, q_word_in, ↓m_ahead_in, m_ahead_in, q_ahead_in, ↓m_place_in, m_place_in, q_place_in, ↓m_want, m_want, q_want, ↓m_want_2, m_want_2, q_want_2, ↓m_want_rule, m_want_rule, q_want_rule, ↓m_want_rule_1, m_want_rule_1, q_want_rule_1, ↓m_want_index, m_want_index, q_want_index, ↓m_word_after, m_word_after, q_word_after, ↓m_want_block, m_want_block, q_want_block, ↓m_block_of, m_block_of, q_block_of, ↓m_length_of, m_length_of, q_length_of, ↓m_lengths_of, m_lengths_of, q_lengths_of, ↓m_counts_in, m_counts_in, q_counts_in, ↓m_growth_by, m_growth_by, q_growth_by, ↓m_want_growing, m_want_growing, q_want_growing, ↓m_want_growing_1, m_want_growing_1, q_want_growing_1, ↓m_letter_at, m_letter_at, q_letter_at, ↓m_word_at, m_word_at, q_word_at, ↓m_count_before, m_count_before, q_count_before, ↓m_place_of, m_place_of, q_place_of, ↓m_path_to, m_path_to, q_path_to, ↓m_place_by, m_place_by, q_place_by, ↓m_first_again, m_first_again, q_first_again, ↓m_seeds, m_seeds, q_seeds, ↓m_level_holding, m_level_holding, q_level_holding, ↓m_law_draw, m_law_draw, q_law_draw, ↓m_law_pick, m_law_pick, q_law_pick, ↓m_law_same, m_law_same, q_law_same, ↓m_law_becomes, m_law_becomes, q_law_becomes, ↓m_law_does_grow, m_law_does_grow, q_law_does_grow, ↓m_law_grown, m_law_grown, q_law_grown, ↓m_law_any_rule, m_law_any_rule, q_law_any_rule, ↓m_law_far, m_law_far, q_law_far, ↓m_law_sums, m_law_sums, q_law_sums, ↓m_law_down, m_law_down, q_law_down, ↓m_law_found, m_law_found, q_law_found, ↓m_law_halves_right, m_law_halves_right, q_law_halves_right, ↓m_law_place_right, m_law_place_right, q_law_place_right, ↓m_law_index_right, m_law_index_right, q_law_index_right, ↓m_law_small_right, m_law_small_right, q_law_small_right, ↓m_law_seeds, m_law_seeds, q_law_seeds, ↓m_law_holding_right, m_law_holding_right, q_law_holding_right, ↓m_law_is_right, m_law_is_right, q_law_is_right])
theorem sum_add {α : Type} (f g : α → Nat) : ∀ l : List α, (l.map fun x => f x + g x).sum = (l.map f).sum + (l.map g).sum
  | [] => rfl
  | x :: l => by
    simp only [List.map_cons, List.sum_cons, sum_add f g l]
    omega
theorem sum_swap {α β : Type} (f : α → β → Nat) (ys : List β) : ∀ xs : List α, (ys.map fun y => (xs.map fun x => f x y).sum).sum = (xs.map fun x => (ys.map (f x)).sum).sum
  | [] => by
    have : ∀ l : List β, (l.map fun _ => (0 : Nat)).sum = 0 := fun l => by induction l with
      | nil => rfl
      | cons a l ih => simpa using ih
    simpa using this ys
  | x :: xs => by
    simp only [List.map_cons, List.sum_cons]
    rw [← sum_swap f ys xs, ← sum_add]
theorem sum_one : ∀ (n a : Nat), ((List.range n).map fun c => if a = c then 1 else 0).sum = if a < n then 1 else 0
  | 0, a => by simp
  | n + 1, a => by
    rw [List.range_succ, List.map_append, List.sum_append, sum_one n a]
    by_cases h : a < n
    · have : a ≠ n := by omega
      simp [h, this]
      omega
    · by_cases h2 : a = n
      · subst h2; simp
      · have : ¬ a < n + 1 := by omega
        simp [h, h2, this]
theorem Cn_sum {R : List (List Nat)} (hR : Ok R) : ∀ {l a : Nat}, a < R.length → ((List.range R.length).map (Cn R l a)).sum = Ln R l a
  | 0, a, ha => by
    have := sum_one R.length a
    rw [if_pos ha] at this
    exact this
  | l + 1, a, ha => by
    show ((List.range R.length).map fun c => ((ltr R a).map fun b => Cn R l b c).sum).sum = ((ltr R a).map (Ln R l)).sum
    rw [sum_swap (fun b c => Cn R l b c)]
    congr 1
    apply List.map_congr_left
    intro b hb
    exact Cn_sum hR ((hR.bl _ (ltr_mem ha)).2.2 b hb)
theorem part_at : ∀ {sizes : List Nat} {k r s : Nat}, sizes[k]? = some s → r < s → part sizes ((sizes.take k).sum + r) = (k, r)
  | [], k, r, s, h, _ => by simp at h
  | t :: ss, 0, r, s, h, hr => by
    simp at h
    subst h
    simp [part, hr]
  | t :: ss, k + 1, r, s, h, hr => by
    have ih := part_at (sizes := ss) (k := k) (r := r) (s := s) (by simpa using h) hr
    unfold part
    have e : (List.take (k + 1) (t :: ss)).sum + r = t + ((ss.take k).sum + r) := by simp [Nat.add_assoc]
    rw [e, if_neg (by omega), show t + ((ss.take k).sum + r) - t = (ss.take k).sum + r by omega, ih]
theorem take_sum_lt : ∀ {sizes : List Nat} {k r s : Nat}, sizes[k]? = some s → r < s → (sizes.take k).sum + r < sizes.sum
  | [], k, r, s, h, _ => by simp at h
  | t :: ss, 0, r, s, h, hr => by
    simp at h
    subst h
    simp
    omega
  | t :: ss, k + 1, r, s, h, hr => by
    have ih := take_sum_lt (sizes := ss) (k := k) (r := r) (s := s) (by simpa using h) hr
    simp only [List.take_succ_cons, List.sum_cons]
    omega
/-- the place from the path -/
theorem pby_way {R : List (List Nat)} (hR : Ok R) : ∀ {l a p : Nat}, a < R.length → p < Ln R l a → pby R (way R l a p).1 a = p ∧ Path R (way R l a p).1 a ∧ ltrBy R (way R l a p).1 a = (way R l a p).2 ∧ (way R l a p).2 < R.length
  | 0, a, p, ha, hp => by
    have : p = 0 := by simpa [Ln] using hp
    exact ⟨this.symm, trivial, rfl, ha⟩
  | l + 1, a, p, ha, hp => by
    obtain ⟨x, h1, h2, h3, h4, h5⟩ := step_ok hR (f := Ln R l) ha hp
    obtain ⟨i1, i2, i3, i4⟩ := pby_way hR (l := l) h3 h4
    simp only [way, h2, pby, Path, ltrBy, way_len]
    refine ⟨by rw [i1]; exact h5.symm, ⟨(List.getElem?_eq_some_iff.mp h1).1, i2⟩, i3, i4⟩
/-- the way of a path's place -/
theorem way_pby {R : List (List Nat)} (hR : Ok R) : ∀ {ks : List Nat} {a : Nat}, a < R.length → Path R ks a → pby R ks a < Ln R ks.length a ∧ way R ks.length a (pby R ks a) = (ks, ltrBy R ks a) ∧ ltrBy R ks a < R.length
  | [], a, ha, _ => ⟨by simp [pby, Ln], rfl, ha⟩
  | k :: ks, a, ha, hp => by
    obtain ⟨h1, h2⟩ := hp
    obtain ⟨x, hx⟩ : ∃ x, (ltr R a)[k]? = some x := ⟨_, List.getElem?_eq_getElem h1⟩
    have hxd : (ltr R a).getD k 0 = x := by rw [List.getD_eq_getElem?_getD, hx]; rfl
    rw [hxd] at h2
    have hxR := (hR.bl _ (ltr_mem ha)).2.2 x (List.mem_of_getElem? hx)
    obtain ⟨i1, i2, i3⟩ := way_pby hR hxR h2
    have hs : ((ltr R a).map (Ln R ks.length))[k]? = some (Ln R ks.length x) := by rw [List.getElem?_map, hx]; rfl
    have e1 : pby R (k :: ks) a = (((ltr R a).map (Ln R ks.length)).take k).sum + pby R ks x := by
      simp only [pby, hxd, List.map_take]
    refine ⟨?_, ?_, by simp only [ltrBy, hxd]; exact i3⟩
    · rw [e1]
      exact take_sum_lt hs i1
    · show way R (ks.length + 1) a _ = _
      rw [e1]
      simp only [way, part_at hs i1, hxd, i2, ltrBy]
theorem Path_take {R : List (List Nat)} : ∀ {ks : List Nat} {a : Nat} (n : Nat), Path R ks a → Path R (ks.take n) a
  | [], a, n, _ => by simp [Path]
  | k :: ks, a, 0, _ => by simp [Path]
  | k :: ks, a, n + 1, h => by
    simp only [List.take_succ_cons, Path]
    exact ⟨h.1, Path_take n h.2⟩
/-- the place from the count -/
theorem plc_ahd {R : List (List Nat)} (hR : Ok R) : ∀ {l a p : Nat}, a < R.length → p < Ln R l a → ahd R (way R l a p).2 l a p < Cn R l a (way R l a p).2 ∧ plc R (way R l a p).2 l a (ahd R (way R l a p).2 l a p) = p
  | 0, a, p, ha, hp => by
    have : p = 0 := by simpa [Ln] using hp
    subst this
    simp [ahd, Cn, way, plc]
  | l + 1, a, p, ha, hp => by
    obtain ⟨x, h1, h2, h3, h4, h5⟩ := step_ok hR (f := Ln R l) ha hp
    obtain ⟨i1, i2⟩ := plc_ahd hR (l := l) h3 h4
    simp only [way, h2, ahd]
    generalize he : (way R l x (part ((ltr R a).map (Ln R l)) p).2).2 = e at i1 i2 ⊢
    generalize hk : (part ((ltr R a).map (Ln R l)) p).1 = k at h1 h5 ⊢
    generalize hr : (part ((ltr R a).map (Ln R l)) p).2 = r at h4 h5 i1 i2 ⊢
    have hs : ((ltr R a).map fun b => Cn R l b e)[k]? = some (Cn R l x e) := by rw [List.getElem?_map, h1]; rfl
    have e1 : (((ltr R a).take k).map fun b => Cn R l b e).sum = (((ltr R a).map fun b => Cn R l b e).take k).sum := by rw [List.map_take]
    rw [e1]
    refine ⟨take_sum_lt hs i1, ?_⟩
    have hxd : (ltr R a).getD k 0 = x := by rw [List.getD_eq_getElem?_getD, h1]; rfl
    simp only [plc, part_at hs i1, hxd, i2]
    exact h5.symm
theorem flat_at {f : Nat → List Nat} : ∀ {bs : List Nat} {k r x : Nat}, bs[k]? = some x → r < (f x).length → (bs.flatMap f)[((bs.take k).map fun b => (f b).length).sum + r]? = (f x)[r]?
  | [], k, r, x, h, _ => by simp at h
  | b :: bs, 0, r, x, h, hr => by
    simp at h
    subst h
    rw [List.flatMap_cons, List.getElem?_append_left (by simpa using hr)]
    simp
  | b :: bs, k + 1, r, x, h, hr => by
    have ih := flat_at (f := f) (bs := bs) (k := k) (r := r) (x := x) (by simpa using h) hr
    rw [List.flatMap_cons]
    simp only [List.take_succ_cons, List.map_cons, List.sum_cons]
    rw [List.getElem?_append_right (by omega), ← ih]
    congr 1
    omega
/-- the letter at a place -/
theorem way_blk {R : List (List Nat)} (hR : Ok R) : ∀ {l a p : Nat}, a < R.length → p < Ln R l a → (blk R l a)[p]? = some (way R l a p).2
  | 0, a, p, ha, hp => by
    have : p = 0 := by simpa [Ln] using hp
    subst this
    rfl
  | l + 1, a, p, ha, hp => by
    obtain ⟨x, h1, h2, h3, h4, h5⟩ := step_ok hR (f := Ln R l) ha hp
    have ih := way_blk hR (l := l) h3 h4
    have e : ((ltr R a).take (part ((ltr R a).map (Ln R l)) p).1).map (Ln R l) = ((ltr R a).take (part ((ltr R a).map (Ln R l)) p).1).map fun b => (blk R l b).length := by
      apply List.map_congr_left
      intro b _
      exact (blk_len R l b).symm
    rw [e] at h5
    rw [blk_succ]
    have := flat_at (f := blk R l) h1 (r := (part ((ltr R a).map (Ln R l)) p).2) (by rw [blk_len]; exact h4)
    rw [← h5, ih] at this
    rw [this]
    simp only [way, h2]
theorem Ln_le {R : List (List Nat)} (hR : Ok R) : ∀ {l a : Nat}, a < R.length → Ln R l a ≤ 4 ^ l
  | 0, a, _ => by simp [Ln]
  | l + 1, a, ha => by
    have hb := hR.bl _ (ltr_mem ha)
    have : ∀ bs : List Nat, (∀ x ∈ bs, x < R.length) → (bs.map (Ln R l)).sum ≤ bs.length * 4 ^ l := fun bs => by
      induction bs with
      | nil => intro _; simp
      | cons x bs ih =>
        intro h
        have h1 := ih fun y hy => h y (by simp [hy])
        have h2 := Ln_le hR (l := l) (h x (by simp))
        simp only [List.map_cons, List.sum_cons, List.length_cons, Nat.add_mul, Nat.one_mul]
        omega
    have h1 := this (ltr R a) hb.2.2
    show ((ltr R a).map (Ln R l)).sum ≤ 4 ^ (l + 1)
    have h2 : (ltr R a).length * 4 ^ l ≤ 4 * 4 ^ l := Nat.mul_le_mul_right _ hb.2.1
    rw [Nat.pow_succ]
    omega
theorem Ln_pos {R : List (List Nat)} (hR : Ok R) {l a : Nat} (ha : a < R.length) : 0 < Ln R l a := Nat.lt_of_lt_of_le (by simp [Ln]) (Ln_mono hR ha (Nat.zero_le l))
theorem Cn_le {R : List (List Nat)} (hR : Ok R) {l a c : Nat} (ha : a < R.length) (hc : c < R.length) : Cn R l a c ≤ Ln R l a := by
  rw [← Cn_sum hR ha]
  have : ∀ (n : Nat), c < n → Cn R l a c ≤ ((List.range n).map (Cn R l a)).sum := fun n => by
    induction n with
    | zero => intro h; omega
    | succ n ih =>
      intro h
      rw [List.range_succ, List.map_append, List.sum_append]
      simp only [List.map_cons, List.map_nil, List.sum_cons, List.sum_nil]
      by_cases e : c = n
      · subst e; omega
      · have := ih (by omega); omega
  exact this _ hc
end K87

set_option maxHeartbeats 4000000
/-! KO: plain laws: the law's own way down. -/
namespace K87
open PySem L2 Vs
local macro_rules | `(tactic| and_intros) => `(tactic| try simp only [↓rdG0v, rdG0v, ↓rdG0o, rdG0o, ↓rdGs, rdGs, ↓takeG0v, takeG0v, ↓takeG0o, takeG0o, ↓takeGs, takeGs, ↓hasG0, hasG0, ↓hasGs, hasGs, ↓ownG0, ownG0, ↓ownGs, ownGs, ↓free0n, free0n, ↓free0v, free0v, ↓free0o, free0o, ↓frees, frees, ↓hass, hass, ↓has0, has0, ↓isL0, isL0, ↓isLs, isLs, ↓S_nil, S_nil, ↓S_cons, S_cons, ↓seq_nx, seq_nx, ↓seq_rt, seq_rt, ↓seq_bk, seq_bk, ↓seq_ct, seq_ct, ↓lp_nx, lp_nx, ↓lp_rt, lp_rt, ↓lp_bk, lp_bk, ↓lp_ct, lp_ct, ↓fin_rt, fin_rt, ↓fin_nx, fin_nx, ↓outs_nil, outs_nil, ↓outs_f, outs_f, ↓outs_t, outs_t, ↓S_set, S_set, ↓S_unpack, S_unpack, ↓S_par, S_par, ↓S_setIdx, S_setIdx, ↓appK_l, appK_l, ↓extK_l, extK_l, ↓extK_t, extK_t, ↓S_append, S_append, ↓S_extend, S_extend, ↓S_expr, S_expr, ↓S_ret, S_ret, ↓S_retN, S_retN, ↓S_ite, S_ite, ↓S_whl, S_whl, ↓S_forr, S_forr, ↓S_never, S_never, ↓S_pass, S_pass, ↓S_brk, S_brk, ↓S_cont, S_cont, ↓S_tryy, S_tryy, ↓W_var, W_var, ↓W_varT, W_varT, ↓W_con, W_con, ↓W_conT, W_conT, ↓negW_i, negW_i, ↓W_neg, W_neg, ↓W_not, W_not, ↓W_notT, W_notT, ↓andK_b, andK_b, ↓W_and, W_and, ↓W_andT, W_andT, ↓W_or, W_or, ↓W_orT, W_orT, ↓W_bin, W_bin, ↓W_cmp, W_cmp, ↓W_cmpT, W_cmpT, ↓W_ite, W_ite, ↓W_tup, W_tup, ↓W_lst, W_lst, ↓W_dct, W_dct, ↓W_idx, W_idx, ↓W_sli, W_sli, ↓W_comp, W_comp, ↓W_comp2, W_comp2, ↓W_call, W_call, ↓W_bi, W_bi, ↓W_isT, W_isT, ↓W_cat, W_cat, ↓W_rep, W_rep, ↓W_callT, W_callT, ↓W_biT, W_biT, ↓W_isTT, W_isTT, ↓W_idxT, W_idxT, ↓W_binT, W_binT, ↓W_compT, W_compT, ↓O_var, O_var, ↓O_con, O_con, ↓O_neg, O_neg, ↓O_not, O_not, ↓O_and, O_and, ↓O_or, O_or, ↓O_bin, O_bin, ↓O_cmp, O_cmp, ↓O_ite, O_ite, ↓O_tup, O_tup, ↓O_lst, O_lst, ↓O_dct, O_dct, ↓O_idx, O_idx, ↓O_sli, O_sli, ↓O_comp, O_comp, ↓O_comp2, O_comp2, ↓O_call, O_call, ↓O_bi, O_bi, ↓O_isT, O_isT, ↓O_cat, O_cat, ↓O_rep, O_rep, ↓on_d, on_d, ↓on_s, on_s, ↓Ws_nil, Ws_nil, ↓Ws_cons, Ws_cons, ↓Wo_nil, Wo_nil, ↓Wo_cons, Wo_cons, ↓oa_nil, oa_nil, ↓oa_cons, oa_cons, ↓Wa_nil, Wa_nil, ↓Wa_f, Wa_f, ↓Wa_t, Wa_t, ↓ao_nil, ao_nil, ↓ao_v, ao_v, ↓ao_l, ao_l, ↓Wp_no, Wp_no, ↓intK_i, intK_i, ↓Wp_one, Wp_one, ↓Wc_no, Wc_no, ↓Wc_one, Wc_one, ↓Wi_seq, Wi_seq, ↓Wi_r1, Wi_r1, ↓Wi_r2, Wi_r2, ↓Wi_r3, Wi_r3, ↓seqK_l, seqK_l, ↓seqK_t, seqK_t, ↓zipK_l, zipK_l, ↓zipK_t, zipK_t, ↓Wi_enum, Wi_enum, ↓Wi_zip, Wi_zip, ↓it_l, it_l, ↓it_t, it_t, ↓it_d, it_d, ↓tr_b, tr_b, ↓tr_i, tr_i, ↓tr_n, tr_n, ↓tr_l, tr_l, ↓tr_t, tr_t, ↓b_add, b_add, ↓b_sub, b_sub, ↓b_mul, b_mul, ↓b_fdiv, b_fdiv, ↓b_mod, b_mod, ↓b_pow, b_pow, ↓b_addT, b_addT, ↓c_lt, c_lt, ↓c_le, c_le, ↓c_gt, c_gt, ↓c_ge, c_ge, ↓c_eq, c_eq, ↓c_ne, c_ne, ↓c_eqs, c_eqs, ↓c_nes, c_nes, ↓c_eq_list, c_eq_list, ↓c_eq_tuple, c_eq_tuple, ↓c_ne_list, c_ne_list, ↓c_ne_tuple, c_ne_tuple, ↓nonB_n, nonB_n, ↓nonB_i, nonB_i, ↓nonB_b, nonB_b, ↓nonB_t, nonB_t, ↓nonB_l, nonB_l, ↓c_is, c_is, ↓c_isnot, c_isnot, ↓ix_l, ix_l, ↓ix_t, ix_t, ↓sl_l, sl_l, ↓sl_t, sl_t, ↓cat_l, cat_l, ↓rep_l, rep_l, ↓bl_l, bl_l, ↓bl_t, bl_t, ↓bl_d, bl_d, ↓bt_l, bt_l, ↓bt_t, bt_t, ↓bs_l, bs_l, ↓bs_t, bs_t, ↓bi_i, bi_i, ↓bi_b, bi_b, ↓bx2, bx2, ↓bn2, bn2, ↓babs, babs, ↓bsum, bsum, ↓bmax, bmax, ↓bmin, bmin, ↓ball, ball, ↓bany, bany, ↓bsor, bsor, ↓bdic, bdic, ↓brep, brep, ↓bd_one, bd_one, ↓bd_many, bd_many, ↓so_l, so_l, ↓br_t, br_t, ↓br_f, br_f, ↓mk_t, mk_t, ↓mk_f, mk_f, Cs.freshes, C.fresh, putPar, putAll, initE, Fn.run, argsBack, Arg.lends, wipeE, backE, valOf, Tg.slots, List.getElem?_cons_zero, List.getElem?_cons_succ, List.getElem?_nil, List.set_cons_zero, List.set_cons_succ, List.zip_cons_cons, List.zip_nil_right, List.zip_nil_left, List.length_cons, List.length_nil, List.cons_append, List.nil_append, List.append_nil, List.replicate_succ, List.replicate_zero, ↓reduceIte, Bool.false_eq_true, List.mem_cons, List.not_mem_nil, or_false, forall_eq_or_imp, forall_eq, true_and, and_true, List.nodup_nil, List.nodup_cons, Nat.zero_add, Nat.reduceAdd, Nat.reduceSub, Nat.reduceEqDiff, reduceCtorEq, not_false_eq_true, false_or, or_self, forall_const, implies_true, List.map_cons, List.map_nil, and_self, Bool.not_true, Bool.not_false, Bool.not_eq_true, decide_true, decide_false, mk_t, mk_f, false_implies, ↓free0s, free0s, ↓m_is_integer, m_is_integer, q_is_integer, ↓m_is_number, m_is_number, q_is_number, ↓m_is_index, m_is_index, q_is_index, ↓m_is_full_tuple, m_is_full_tuple, q_is_full_tuple, ↓m_are_indexes, m_are_indexes, q_are_indexes, ↓m_is_rule, m_is_rule, q_is_rule, ↓m_units_by, m_units_by, q_units_by, ↓m_added_rows, m_added_rows, q_added_rows, ↓m_counts_to, m_counts_to, q_counts_to, ↓m_counts_by, m_counts_by, q_counts_by, ↓m_lengths_to, m_lengths_to, q_lengths_to, ↓m_lengths_by, m_lengths_by, q_lengths_by, ↓m_part_with, m_part_with, q_part_with, ↓m_way_down, m_way_down, q_way_down, ↓m_word_in, m_word_in, q_word_in, ↓m_ahead_in, m_ahead_in, q_ahead_in, ↓m_place_in, m_place_in, q_place_in, ↓m_want, m_want, q_want, ↓m_want_2, m_want_2, q_want_2, ↓m_want_rule, m_want_rule, q_want_rule, ↓m_want_rule_1, m_want_rule_1, q_want_rule_1, ↓m_want_index, m_want_index, q_want_index, ↓m_word_after, m_word_after, q_word_after, ↓m_want_block, m_want_block, q_want_block, ↓m_block_of, m_block_of, q_block_of, ↓m_length_of, m_length_of, q_length_of, ↓m_lengths_of, m_lengths_of, q_lengths_of, ↓m_counts_in, m_counts_in, q_counts_in, ↓m_growth_by, m_growth_by, q_growth_by, ↓m_want_growing, m_want_growing, q_want_growing, ↓m_want_growing_1, m_want_growing_1, q_want_growing_1, ↓m_letter_at, m_letter_at, q_letter_at, ↓m_word_at, m_word_at, q_word_at, ↓m_count_before, m_count_before, q_count_before, ↓m_place_of, m_place_of, q_place_of, ↓m_path_to, m_path_to, q_path_to, ↓m_place_by, m_place_by, q_place_by, ↓m_first_again, m_first_again, q_first_again, ↓m_seeds, m_seeds, q_seeds, ↓m_level_holding, m_level_holding, q_level_holding, ↓m_law_draw, m_law_draw, q_law_draw, ↓m_law_pick, m_law_pick, q_law_pick, ↓m_law_same, m_law_same, q_law_same, ↓m_law_becomes, m_law_becomes, q_law_becomes, ↓m_law_does_grow, m_law_does_grow, q_law_does_grow, ↓m_law_grown, m_law_grown, q_law_grown, ↓m_law_any_rule, m_law_any_rule, q_law_any_rule, ↓m_law_far, m_law_far, q_law_far, ↓m_law_sums, m_law_sums, q_law_sums, ↓m_law_down, m_law_down, q_law_down, ↓m_law_found, m_law_found, q_law_found, ↓m_law_halves_right, m_law_halves_right, q_law_halves_right, ↓m_law_place_right, m_law_place_right, q_law_place_right, ↓m_law_index_right, m_law_index_right, q_law_index_right, ↓m_law_small_right, m_law_small_right, q_law_small_right, ↓m_law_seeds, m_law_seeds, q_law_seeds, ↓m_law_holding_right, m_law_holding_right, q_law_holding_right, ↓m_law_is_right, m_law_is_right, q_law_is_right])
abbrev rowN (R : List (List Nat)) (l a : Nat) : PyData := lN ((List.range R.length).map (Cn R l a))
theorem rowN_sum {R : List (List Nat)} (hR : Ok R) {l a : Nat} (ha : a < R.length) {k : PyData → Prop} {h : Held k} (q : k (nD (Ln R l a))) : sumS (((List.range R.length).map (Cn R l a)).map nD) k h := by
  have := sumS_of (xs := (List.range R.length).map (Cn R l a)) (p := fun x => x) (k := k) (h := h) (by rw [List.map_id', Cn_sum hR ha]; exact q)
  exact this
theorem rows_idx {R : List (List Nat)} {l m : Nat} (h : m ≤ l) : atI ((List.range (l + 1)).map fun j => PyData.list ((cnts R j).map lN)) ((m : Nat) : Int) = some (.list ((cnts R m).map lN)) := rng_at (by omega)
theorem lN_map {α : Type} {xs : List α} {f : α → Nat} : lN (xs.map f) = .list (xs.map fun x => nD (f x)) := by
  show PyData.list ((xs.map f).map nD) = _
  rw [List.map_map]
  rfl
theorem zip_rng (f g : Nat → Nat) (n : Nat) : zipD (((List.range n).map f).map nD) (((List.range n).map g).map nD) = (List.range n).map fun o => PyData.tuple [nD (f o), nD (g o)] := by
  unfold zipD
  rw [List.map_map, List.map_map]
  induction List.range n with
  | nil => rfl
  | cons a l ih =>
    simp only [List.map_cons, List.zip_cons_cons]
    rw [← ih]
    rfl
theorem den_law_down : Den f_law_down N_law_down.length cb_law_down := by
  rintro _ K ⟨R, l, a, p, rfl, hR, ha, hl, hp, hk⟩
  refine ⟨rfl, ?_⟩
  unfold cb_law_down
  (simp only [m_law_down, N_law_down, f_law_down, v5]; and_intros)
  have h4 := hR.n4
  rw [List.length_map]
  refine ⟨⟨by omega, by omega, by simp; omega⟩, ?_⟩
  simp only [Int.toNat_natCast]
  have e0 : (List.replicate R.length [PyData.int 0]).flatten = ((List.range R.length).map fun _ => 0).map nD := by
    rw [List.map_map]
    generalize R.length = n
    induction n with
    | zero => rfl
    | succ n ih =>
      rw [List.range_succ, List.map_append, ← ih, List.replicate_succ', List.flatten_append]
      rfl
  rw [e0]
  refine ⟨⟨by omega, by omega⟩, ?_⟩
  rw [rangeD_nat]
  refine forS_ind (fun i ρ => ∃ (o1 o2 o3 : Option PyData) (pre : List Nat) (here rest : Nat) (A : Nat → Nat) (sa : Slot), ρ = [some (.val (ttN R)), some (.val (rows R l)), some (.val (nD a)), some (.val (nD l)), some (.val (nD p)), some (.own (lN pre) false), some (.own (lN ((List.range R.length).map A)) false), some (.val (nD here)), some (.val (nD rest)), vS o1, vS o2, vS o3, none, none]
      ∧ here < R.length ∧ rest < Ln R (l - i) here ∧ pre.length = i ∧ way R l a p = (pre ++ (way R (l - i) here rest).1, (way R (l - i) here rest).2) ∧ ∀ o, A o + ahd R o (l - i) here rest = ahd R o l a p) ⟨none, none, none, [], a, p, fun _ => 0, .val .none, rfl, ha, hp, rfl, rfl, by simp⟩ ?_ ?_
  · rintro i d ρ Φ hd ⟨o1, o2, o3, pre, here, rest, A, sa, rfl, hh, hr, hpl, hw, hA⟩ hΦ
    obtain ⟨hi, rfl⟩ := rng_get hd
    obtain ⟨m, hm⟩ : ∃ m, l - i = m + 1 := ⟨l - i - 1, by omega⟩
    rw [hm] at hr hw hA
    obtain ⟨x, hx1, hx2, hx3, hx4, hx5⟩ := step_ok hR (f := Ln R m) hh hr
    unfold rows
    and_intros
    have e1 : (l : Int) - (i : Int) - 1 = ((m : Nat) : Int) := by omega
    rw [e1]
    refine atS_of (rows_idx (by omega)) ?_
    and_intros
    have hb := hR.bl _ (ltr_mem hh)
    refine whileS_ind (fun q ρ => ∃ (k left : Nat), ρ = [some (.val (ttN R)), some (.val (rows R l)), some (.val (nD a)), some (.val (nD l)), some (.val (nD p)), some (.own (lN pre) false), some (.own (lN ((List.range R.length).map fun o => A o + (((ltr R here).take k).map fun b => Cn R m b o).sum)) false), some (.val (nD here)), some (.val (nD left)), some (.val (nD i)), some (.val (.list ((cnts R m).map lN))), some (.val (nD k)), none, none]
      ∧ left < (((ltr R here).drop k).map (Ln R m)).sum ∧ part ((ltr R here).map (Ln R m)) rest = ((part (((ltr R here).drop k).map (Ln R m)) left).1 + k, (part (((ltr R here).drop k).map (Ln R m)) left).2) ∧ q = (ltr R here).length - k) _ ⟨0, rest, ?_, hr, rfl, rfl⟩ ?_
    · simp [rows]
    rintro q ρ Ψ ⟨k, left, rfl, hlt, hpt, rfl⟩ hΨ
    obtain ⟨y, hy⟩ : ∃ y, (ltr R here)[k]? = some y := by
      cases e : (ltr R here)[k]? with
      | some y => exact ⟨y, rfl⟩
      | none =>
        rw [List.getElem?_eq_none_iff] at e
        rw [List.drop_eq_nil_of_le e] at hlt
        exact absurd hlt (by simp)
    have hkl := (List.getElem?_eq_some_iff.mp hy).1
    have hyR := hb.2.2 y (List.mem_of_getElem? hy)
    rw [drop_at hy, List.map_cons] at hlt hpt
    have get : ∀ {Q : PyData → Prop} {h : Held Q}, Q (rowN R m y) → atS ((cnts R m).map lN) ((y : Nat) : Int) Q h := fun q => atS_of (rows_at hyR) q
    and_intros
    refine atS_of (mapN_at (ltr_at hh)) ?_
    and_intros
    refine atS_of (mapN_at hy) ?_
    and_intros
    refine get ?_
    and_intros
    refine rowN_sum hR hyR ?_
    and_intros
    refine br_of (fun h => ?_) (fun h => ?_)
    · have h : Ln R m y ≤ left := by have := of_decide_eq_true h; omega
      and_intros
      refine atS_of (mapN_at (ltr_at hh)) ?_
      and_intros
      refine atS_of (mapN_at hy) ?_
      and_intros
      refine get ?_
      and_intros
      refine rowN_sum hR hyR ?_
      and_intros
      refine atS_of (mapN_at (ltr_at hh)) ?_
      and_intros
      refine atS_of (mapN_at hy) ?_
      and_intros
      refine get ?_
      and_intros
      rw [zip_rng]
      refine compS_map (fun o => nD (A o + (((ltr R here).take k).map fun b => Cn R m b o).sum + Cn R m y o)) (fun o ho Φ2 q2 => ?_) ?_
      · and_intros
        exact q2
      · and_intros
        refine hΨ ((ltr R here).length - (k + 1)) _ (by omega) ⟨k + 1, left - Ln R m y, ?_, ?_, ?_, rfl⟩
        · have e2 : (left : Int) - (Ln R m y : Int) = ((left - Ln R m y : Nat) : Int) := by omega
          have e3 : (ltr R here).take (k + 1) = (ltr R here).take k ++ [y] := by rw [List.take_add_one, hy]; rfl
          rw [e2, e3, lN_map]
          simp only [List.map_append, List.map_cons, List.map_nil, List.sum_append, List.sum_cons, List.sum_nil, Nat.add_zero, Nat.add_assoc]
          rfl
        · rw [List.sum_cons] at hlt; omega
        · rw [hpt, part, if_neg (by omega)]
          simp only [Nat.add_assoc, Nat.add_comm 1 k]
    · have h : left < Ln R m y := by have := of_decide_eq_false h; omega
      rw [part, if_pos h] at hpt
      simp only [Nat.zero_add] at hpt
      rw [hpt] at hx1 hx2 hx4 hx5
      have hyx : y = x := by rw [hy] at hx1; exact Option.some.inj hx1
      subst hyx
      and_intros
      refine ⟨by simp; omega, ?_⟩
      refine atS_of (mapN_at (ltr_at hh)) ?_
      and_intros
      refine atS_of (mapN_at hy) ?_
      and_intros
      refine hΦ _ ⟨some (nD i), some (.list ((cnts R m).map lN)), some (nD k), pre ++ [k], y, left, fun o => A o + (((ltr R here).take k).map fun b => Cn R m b o).sum, .val .none, ?_, hx3, ?_, by simp [hpl], ?_, fun o => ?_⟩
      · rw [lN_push]
        rfl
      · have : l - (i + 1) = m := by omega
        rw [this]
        exact hx4
      · have : l - (i + 1) = m := by omega
        rw [this, hw]
        simp only [way, hpt, hx2, List.append_assoc, List.cons_append, List.nil_append]
      · have : l - (i + 1) = m := by omega
        rw [this, ← hA o]
        simp only [ahd, hpt, hx2, Nat.add_assoc]
  · rintro ρ ⟨o1, o2, o3, pre, here, rest, A, sa, rfl, hh, hr, hpl, hw, hA⟩
    have e : ((List.range l).map nD).length = l := by simp
    rw [e, Nat.sub_self] at hw hA
    and_intros
    rw [hw] at hk
    have e2 : (fun o => ahd R o l a p) = A := by
      funext o
      rw [← hA o]
      rfl
    rw [e2] at hk
    simpa [way] using hk
theorem den_law_found : Den f_law_found N_law_found.length cb_law_found := by
  rintro _ K ⟨R, l, a, o, n, rfl, hR, ha, ho, hl, hk⟩
  refine ⟨rfl, ?_⟩
  unfold cb_law_found
  (simp only [m_law_found, N_law_found, f_law_found, v6]; and_intros)
  unfold rows
  and_intros
  refine atS_of (rows_idx (Nat.le_refl _)) ?_
  and_intros
  refine atS_of (rows_at ha) ?_
  and_intros
  refine atS_of (rngN_at ho) ?_
  and_intros
  refine br_of (fun h => ?_) (fun h => ?_)
  · have h : Cn R l a o ≤ n := by have := of_decide_eq_true h; omega
    rw [if_pos h] at hk
    and_intros
    exact hk
  have h : ¬ Cn R l a o ≤ n := by have := of_decide_eq_false h; omega
  rw [if_neg h] at hk
  have hp : n < Cn R l a o := by omega
  and_intros
  refine ⟨⟨by omega, by omega⟩, ?_⟩
  rw [Int.toNat_natCast, rangeD_nat]
  refine forS_ind (fun i ρ => ∃ (o1 o2 o3 o4 : Option PyData) (here rest found : Nat), ρ = [some (.val (ttN R)), some (.val (rows R l)), some (.val (nD a)), some (.val (nD l)), some (.val (nD o)), some (.val (nD n)), some (.val (nD found)), some (.val (nD here)), some (.val (nD rest)), vS o1, vS o2, vS o3, vS o4]
      ∧ here < R.length ∧ rest < Cn R (l - i) here o ∧ found + plc R o (l - i) here rest = plc R o l a n) ⟨none, none, none, none, a, n, 0, rfl, ha, hp, by simp⟩ ?_ ?_
  · rintro i d ρ Φ hd ⟨o1, o2, o3, o4, here, rest, found, rfl, hh, hr, hf⟩ hΦ
    obtain ⟨hi, rfl⟩ := rng_get hd
    obtain ⟨m, hm⟩ : ∃ m, l - i = m + 1 := ⟨l - i - 1, by omega⟩
    rw [hm] at hr hf
    obtain ⟨x, hx1, hx2, hx3, hx4, hx5⟩ := step_ok hR (f := fun b => Cn R m b o) hh hr
    unfold rows
    and_intros
    have e1 : (l : Int) - (i : Int) - 1 = ((m : Nat) : Int) := by omega
    rw [e1]
    refine atS_of (rows_idx (by omega)) ?_
    and_intros
    have hb := hR.bl _ (ltr_mem hh)
    refine whileS_ind (fun q ρ => ∃ (o4 : Option PyData) (k left : Nat), ρ = [some (.val (ttN R)), some (.val (rows R l)), some (.val (nD a)), some (.val (nD l)), some (.val (nD o)), some (.val (nD n)), some (.val (nD (found + (((ltr R here).take k).map (Ln R m)).sum))), some (.val (nD here)), some (.val (nD left)), some (.val (nD i)), some (.val (.list ((cnts R m).map lN))), some (.val (nD k)), vS o4]
      ∧ left < (((ltr R here).drop k).map fun b => Cn R m b o).sum ∧ part ((ltr R here).map fun b => Cn R m b o) rest = ((part (((ltr R here).drop k).map fun b => Cn R m b o) left).1 + k, (part (((ltr R here).drop k).map fun b => Cn R m b o) left).2) ∧ q = (ltr R here).length - k) _ ⟨o4, 0, rest, ?_, hr, rfl, rfl⟩ ?_
    · simp [rows]
    rintro q ρ Ψ ⟨o4, k, left, rfl, hlt, hpt, rfl⟩ hΨ
    obtain ⟨y, hy⟩ : ∃ y, (ltr R here)[k]? = some y := by
      cases e : (ltr R here)[k]? with
      | some y => exact ⟨y, rfl⟩
      | none =>
        rw [List.getElem?_eq_none_iff] at e
        rw [List.drop_eq_nil_of_le e] at hlt
        exact absurd hlt (by simp)
    have hkl := (List.getElem?_eq_some_iff.mp hy).1
    have hyR := hb.2.2 y (List.mem_of_getElem? hy)
    rw [drop_at hy, List.map_cons] at hlt hpt
    have get : ∀ {Q : PyData → Prop} {h : Held Q}, Q (rowN R m y) → atS ((cnts R m).map lN) ((y : Nat) : Int) Q h := fun q => atS_of (rows_at hyR) q
    and_intros
    refine atS_of (mapN_at (ltr_at hh)) ?_
    and_intros
    refine atS_of (mapN_at hy) ?_
    and_intros
    refine get ?_
    and_intros
    refine atS_of (rngN_at ho) ?_
    and_intros
    refine br_of (fun h => ?_) (fun h => ?_)
    · have h : Cn R m y o ≤ left := by have := of_decide_eq_true h; omega
      and_intros
      refine atS_of (mapN_at (ltr_at hh)) ?_
      and_intros
      refine atS_of (mapN_at hy) ?_
      and_intros
      refine get ?_
      and_intros
      refine atS_of (rngN_at ho) ?_
      and_intros
      refine rowN_sum hR hyR ?_
      and_intros
      refine hΨ ((ltr R here).length - (k + 1)) _ (by omega) ⟨some (rowN R m y), k + 1, left - Cn R m y o, ?_, ?_, ?_, rfl⟩
      · have e2 : (left : Int) - (Cn R m y o : Int) = ((left - Cn R m y o : Nat) : Int) := by omega
        have e3 : (ltr R here).take (k + 1) = (ltr R here).take k ++ [y] := by rw [List.take_add_one, hy]; rfl
        rw [e2, e3]
        simp only [List.map_append, List.map_cons, List.map_nil, List.sum_append, List.sum_cons, List.sum_nil, Nat.add_zero, ← Nat.add_assoc]
        rfl
      · rw [List.sum_cons] at hlt; omega
      · rw [hpt, part, if_neg (by omega)]
        simp only [Nat.add_assoc, Nat.add_comm 1 k]
    · have h : left < Cn R m y o := by have := of_decide_eq_false h; omega
      rw [part, if_pos h] at hpt
      simp only [Nat.zero_add] at hpt
      rw [hpt] at hx1 hx2 hx4 hx5
      have hyx : y = x := by rw [hy] at hx1; exact Option.some.inj hx1
      subst hyx
      and_intros
      refine atS_of (mapN_at (ltr_at hh)) ?_
      and_intros
      refine atS_of (mapN_at hy) ?_
      and_intros
      refine hΦ _ ⟨some (nD i), some (.list ((cnts R m).map lN)), some (nD k), o4, y, left, found + (((ltr R here).take k).map (Ln R m)).sum, rfl, hx3, ?_, ?_⟩
      · have : l - (i + 1) = m := by omega
        rw [this]
        exact hx4
      · have : l - (i + 1) = m := by omega
        rw [this, ← hf]
        simp only [plc, hpt, hx2, Nat.add_assoc]
  · rintro ρ ⟨o1, o2, o3, o4, here, rest, found, rfl, hh, hr, hf⟩
    have e : ((List.range l).map nD).length = l := by simp
    rw [e, Nat.sub_self] at hf
    and_intros
    rw [← hf] at hk
    exact hk
end K87

set_option maxHeartbeats 4000000
/-! KP: plain laws: the law's questions. -/
namespace K87
open PySem L2 Vs
local macro_rules | `(tactic| and_intros) => `(tactic| try simp only [↓rdG0v, rdG0v, ↓rdG0o, rdG0o, ↓rdGs, rdGs, ↓takeG0v, takeG0v, ↓takeG0o, takeG0o, ↓takeGs, takeGs, ↓hasG0, hasG0, ↓hasGs, hasGs, ↓ownG0, ownG0, ↓ownGs, ownGs, ↓free0n, free0n, ↓free0v, free0v, ↓free0o, free0o, ↓frees, frees, ↓hass, hass, ↓has0, has0, ↓isL0, isL0, ↓isLs, isLs, ↓S_nil, S_nil, ↓S_cons, S_cons, ↓seq_nx, seq_nx, ↓seq_rt, seq_rt, ↓seq_bk, seq_bk, ↓seq_ct, seq_ct, ↓lp_nx, lp_nx, ↓lp_rt, lp_rt, ↓lp_bk, lp_bk, ↓lp_ct, lp_ct, ↓fin_rt, fin_rt, ↓fin_nx, fin_nx, ↓outs_nil, outs_nil, ↓outs_f, outs_f, ↓outs_t, outs_t, ↓S_set, S_set, ↓S_unpack, S_unpack, ↓S_par, S_par, ↓S_setIdx, S_setIdx, ↓appK_l, appK_l, ↓extK_l, extK_l, ↓extK_t, extK_t, ↓S_append, S_append, ↓S_extend, S_extend, ↓S_expr, S_expr, ↓S_ret, S_ret, ↓S_retN, S_retN, ↓S_ite, S_ite, ↓S_whl, S_whl, ↓S_forr, S_forr, ↓S_never, S_never, ↓S_pass, S_pass, ↓S_brk, S_brk, ↓S_cont, S_cont, ↓S_tryy, S_tryy, ↓W_var, W_var, ↓W_varT, W_varT, ↓W_con, W_con, ↓W_conT, W_conT, ↓negW_i, negW_i, ↓W_neg, W_neg, ↓W_not, W_not, ↓W_notT, W_notT, ↓andK_b, andK_b, ↓W_and, W_and, ↓W_andT, W_andT, ↓W_or, W_or, ↓W_orT, W_orT, ↓W_bin, W_bin, ↓W_cmp, W_cmp, ↓W_cmpT, W_cmpT, ↓W_ite, W_ite, ↓W_tup, W_tup, ↓W_lst, W_lst, ↓W_dct, W_dct, ↓W_idx, W_idx, ↓W_sli, W_sli, ↓W_comp, W_comp, ↓W_comp2, W_comp2, ↓W_call, W_call, ↓W_bi, W_bi, ↓W_isT, W_isT, ↓W_cat, W_cat, ↓W_rep, W_rep, ↓W_callT, W_callT, ↓W_biT, W_biT, ↓W_isTT, W_isTT, ↓W_idxT, W_idxT, ↓W_binT, W_binT, ↓W_compT, W_compT, ↓O_var, O_var, ↓O_con, O_con, ↓O_neg, O_neg, ↓O_not, O_not, ↓O_and, O_and, ↓O_or, O_or, ↓O_bin, O_bin, ↓O_cmp, O_cmp, ↓O_ite, O_ite, ↓O_tup, O_tup, ↓O_lst, O_lst, ↓O_dct, O_dct, ↓O_idx, O_idx, ↓O_sli, O_sli, ↓O_comp, O_comp, ↓O_comp2, O_comp2, ↓O_call, O_call, ↓O_bi, O_bi, ↓O_isT, O_isT, ↓O_cat, O_cat, ↓O_rep, O_rep, ↓on_d, on_d, ↓on_s, on_s, ↓Ws_nil, Ws_nil, ↓Ws_cons, Ws_cons, ↓Wo_nil, Wo_nil, ↓Wo_cons, Wo_cons, ↓oa_nil, oa_nil, ↓oa_cons, oa_cons, ↓Wa_nil, Wa_nil, ↓Wa_f, Wa_f, ↓Wa_t, Wa_t, ↓ao_nil, ao_nil, ↓ao_v, ao_v, ↓ao_l, ao_l, ↓Wp_no, Wp_no, ↓intK_i, intK_i, ↓Wp_one, Wp_one, ↓Wc_no, Wc_no, ↓Wc_one, Wc_one, ↓Wi_seq, Wi_seq, ↓Wi_r1, Wi_r1, ↓Wi_r2, Wi_r2, ↓Wi_r3, Wi_r3, ↓seqK_l, seqK_l, ↓seqK_t, seqK_t, ↓zipK_l, zipK_l, ↓zipK_t, zipK_t, ↓Wi_enum, Wi_enum, ↓Wi_zip, Wi_zip, ↓it_l, it_l, ↓it_t, it_t, ↓it_d, it_d, ↓tr_b, tr_b, ↓tr_i, tr_i, ↓tr_n, tr_n, ↓tr_l, tr_l, ↓tr_t, tr_t, ↓b_add, b_add, ↓b_sub, b_sub, ↓b_mul, b_mul, ↓b_fdiv, b_fdiv, ↓b_mod, b_mod, ↓b_pow, b_pow, ↓b_addT, b_addT, ↓c_lt, c_lt, ↓c_le, c_le, ↓c_gt, c_gt, ↓c_ge, c_ge, ↓c_eq, c_eq, ↓c_ne, c_ne, ↓c_eqs, c_eqs, ↓c_nes, c_nes, ↓c_eq_list, c_eq_list, ↓c_eq_tuple, c_eq_tuple, ↓c_ne_list, c_ne_list, ↓c_ne_tuple, c_ne_tuple, ↓nonB_n, nonB_n, ↓nonB_i, nonB_i, ↓nonB_b, nonB_b, ↓nonB_t, nonB_t, ↓nonB_l, nonB_l, ↓c_is, c_is, ↓c_isnot, c_isnot, ↓ix_l, ix_l, ↓ix_t, ix_t, ↓sl_l, sl_l, ↓sl_t, sl_t, ↓cat_l, cat_l, ↓rep_l, rep_l, ↓bl_l, bl_l, ↓bl_t, bl_t, ↓bl_d, bl_d, ↓bt_l, bt_l, ↓bt_t, bt_t, ↓bs_l, bs_l, ↓bs_t, bs_t, ↓bi_i, bi_i, ↓bi_b, bi_b, ↓bx2, bx2, ↓bn2, bn2, ↓babs, babs, ↓bsum, bsum, ↓bmax, bmax, ↓bmin, bmin, ↓ball, ball, ↓bany, bany, ↓bsor, bsor, ↓bdic, bdic, ↓brep, brep, ↓bd_one, bd_one, ↓bd_many, bd_many, ↓so_l, so_l, ↓br_t, br_t, ↓br_f, br_f, ↓mk_t, mk_t, ↓mk_f, mk_f, Cs.freshes, C.fresh, putPar, putAll, initE, Fn.run, argsBack, Arg.lends, wipeE, backE, valOf, Tg.slots, List.getElem?_cons_zero, List.getElem?_cons_succ, List.getElem?_nil, List.set_cons_zero, List.set_cons_succ, List.zip_cons_cons, List.zip_nil_right, List.zip_nil_left, List.length_cons, List.length_nil, List.cons_append, List.nil_append, List.append_nil, List.replicate_succ, List.replicate_zero, ↓reduceIte, Bool.false_eq_true, List.mem_cons, List.not_mem_nil, or_false, forall_eq_or_imp, forall_eq, true_and, and_true, List.nodup_nil, List.nodup_cons, Nat.zero_add, Nat.reduceAdd, Nat.reduceSub, Nat.reduceEqDiff, reduceCtorEq, not_false_eq_true, false_or, or_self, forall_const, implies_true, List.map_cons, List.map_nil, and_self, Bool.not_true, Bool.not_false, Bool.not_eq_true, decide_true, decide_false, mk_t, mk_f, false_implies, ↓free0s, free0s, ↓m_is_integer, m_is_integer, q_is_integer, ↓m_is_number, m_is_number, q_is_number, ↓m_is_index, m_is_index, q_is_index, ↓m_is_full_tuple, m_is_full_tuple, q_is_full_tuple, ↓m_are_indexes, m_are_indexes, q_are_indexes, ↓m_is_rule, m_is_rule, q_is_rule, ↓m_units_by, m_units_by, q_units_by, ↓m_added_rows, m_added_rows, q_added_rows, ↓m_counts_to, m_counts_to, q_counts_to, ↓m_counts_by, m_counts_by, q_counts_by, ↓m_lengths_to, m_lengths_to, q_lengths_to, ↓m_lengths_by, m_lengths_by, q_lengths_by, ↓m_part_with, m_part_with, q_part_with, ↓m_way_down, m_way_down, q_way_down, ↓m_word_in, m_word_in, q_word_in, ↓m_ahead_in, m_ahead_in, q_ahead_in, ↓m_place_in, m_place_in, q_place_in, ↓m_want, m_want, q_want, ↓m_want_2, m_want_2, q_want_2, ↓m_want_rule, m_want_rule, q_want_rule, ↓m_want_rule_1, m_want_rule_1, q_want_rule_1, ↓m_want_index, m_want_index, q_want_index, ↓m_word_after, m_word_after, q_word_after, ↓m_want_block, m_want_block, q_want_block, ↓m_block_of, m_block_of, q_block_of, ↓m_length_of, m_length_of, q_length_of, ↓m_lengths_of, m_lengths_of, q_lengths_of, ↓m_counts_in, m_counts_in, q_counts_in, ↓m_growth_by, m_growth_by, q_growth_by, ↓m_want_growing, m_want_growing, q_want_growing, ↓m_want_growing_1, m_want_growing_1, q_want_growing_1, ↓m_letter_at, m_letter_at, q_letter_at, ↓m_word_at, m_word_at, q_word_at, ↓m_count_before, m_count_before, q_count_before, ↓m_place_of, m_place_of, q_place_of, ↓m_path_to, m_path_to, q_path_to, ↓m_place_by, m_place_by, q_place_by, ↓m_first_again, m_first_again, q_first_again, ↓m_seeds, m_seeds, q_seeds, ↓m_level_holding, m_level_holding, q_level_holding, ↓m_law_draw, m_law_draw, q_law_draw, ↓m_law_pick, m_law_pick, q_law_pick, ↓m_law_same, m_law_same, q_law_same, ↓m_law_becomes, m_law_becomes, q_law_becomes, ↓m_law_does_grow, m_law_does_grow, q_law_does_grow, ↓m_law_grown, m_law_grown, q_law_grown, ↓m_law_any_rule, m_law_any_rule, q_law_any_rule, ↓m_law_far, m_law_far, q_law_far, ↓m_law_sums, m_law_sums, q_law_sums, ↓m_law_down, m_law_down, q_law_down, ↓m_law_found, m_law_found, q_law_found, ↓m_law_halves_right, m_law_halves_right, q_law_halves_right, ↓m_law_place_right, m_law_place_right, q_law_place_right, ↓m_law_index_right, m_law_index_right, q_law_index_right, ↓m_law_small_right, m_law_small_right, q_law_small_right, ↓m_law_seeds, m_law_seeds, q_law_seeds, ↓m_law_holding_right, m_law_holding_right, q_law_holding_right, ↓m_law_is_right, m_law_is_right, q_law_is_right])
theorem sm_nat {n : Nat} (h : n < 2 ^ 1920) : Sm (nD n) 0 1921 := by
  refine Sm.int ?_
  rw [Int.natAbs_natCast]
  by_cases h0 : n = 0
  · subst h0
    decide
  · exact (Nat.log2_lt h0).mpr h
theorem pow_big {l : Nat} (h : l ≤ 200) : 4 ^ l < 2 ^ 1920 := by
  have h1 : 4 ^ l ≤ 4 ^ 200 := Nat.pow_le_pow_right (by decide) h
  have h2 : (4 : Nat) ^ 200 = 2 ^ (2 * 200) := by rw [Nat.pow_mul]
  have h3 : (2 : Nat) ^ (2 * 200) < 2 ^ 1920 := Nat.pow_lt_pow_right (by decide) (by decide)
  omega
theorem sm_le {R : List (List Nat)} (hR : Ok R) {l a x : Nat} (ha : a < R.length) (hl : l ≤ 200) (h : x ≤ Ln R l a) : Sm (nD x) 0 1921 := sm_nat (Nat.lt_of_le_of_lt (Nat.le_trans h (Ln_le hR ha)) (pow_big hl))
theorem sm_small {x : Nat} (h : x ≤ 1000) : Sm (nD x) 0 1921 := sm_nat (Nat.lt_of_le_of_lt h (Nat.lt_of_lt_of_le (show 1000 < 2 ^ 10 by decide) (Nat.pow_le_pow_right (by decide) (by decide))))
theorem sm_tN {xs : List Nat} (h : ∀ x ∈ xs, Sm (nD x) 0 1921) : Sm (tN xs) 1 (3 + xs.length * 1923) := by
  have := Sm.tuple (xs := xs.map nD) (k := 0) (n := 1921) fun d hd => by
    obtain ⟨x, hx, rfl⟩ := List.mem_map.mp hd
    exact h x hx
  rw [List.length_map] at this
  exact this
theorem cut_any {α : Type} {f : α → PyData} {xs : List α} (k : Nat) : cutD (xs.map f) none (some (k : Int)) = (xs.take k).map f := by
  unfold cutD
  rw [HT.sIx_none, HT.sIx_nat, List.drop_zero, List.map_take, List.length_map, Nat.sub_zero]
  apply List.ext_getElem?
  intro i
  rw [List.getElem?_take, List.getElem?_take]
  by_cases h1 : i < k
  · by_cases h2 : i < xs.length
    · rw [if_pos (by omega), if_pos h1]
    · rw [if_neg (by omega), if_pos h1, List.getElem?_eq_none (by simp; omega)]
  · rw [if_neg (by omega), if_neg h1]
theorem way_take {R : List (List Nat)} (hR : Ok R) {l a n : Nat} (ha : a < R.length) (hn : n ≤ Ln R l a) : (List.range n).map (fun k => (way R l a k).2) = (blk R l a).take n := by
  apply List.ext_getElem?
  intro i
  rw [List.getElem?_map, List.getElem?_take]
  by_cases h : i < n
  · rw [if_pos h, List.getElem?_range h, way_blk hR ha (by omega)]
    rfl
  · rw [if_neg h, List.getElem?_eq_none (by simp; omega)]
    rfl
theorem take_min {α : Type} {xs : List α} {n k : Nat} (h : xs.length = n) : xs.take (min n k) = xs.take k := by
  rw [← h]
  apply List.ext_getElem?
  intro i
  rw [List.getElem?_take, List.getElem?_take]
  by_cases h1 : i < k
  · by_cases h2 : i < xs.length
    · rw [if_pos (by omega), if_pos h1]
    · rw [if_neg (by omega), if_pos h1, List.getElem?_eq_none (by omega)]
  · rw [if_neg (by omega), if_neg h1]
theorem minS_nat {x y : Nat} {k : PyData → Prop} {h : Held k} (q : k (nD (min x y))) : minS [nD x, nD y] k h := by
  refine ⟨[(x : Int), (y : Int)], rfl, by simp, fun m hm hmin => ?_⟩
  have h1 : m ≤ x := hmin _ (by simp)
  have h2 : m ≤ y := hmin _ (by simp)
  have h3 : m = x ∨ m = y := by simpa using hm
  have : m = ((min x y : Nat) : Int) := by omega
  rw [this]
  exact q
theorem plc_lt {R : List (List Nat)} (hR : Ok R) {o : Nat} : ∀ {l a n : Nat}, a < R.length → n < Cn R l a o → plc R o l a n < Ln R l a
  | 0, a, n, ha, _ => by simp [plc, Ln]
  | l + 1, a, n, ha, hn => by
    obtain ⟨x, h1, h2, h3, h4, h5⟩ := step_ok hR (f := fun b => Cn R l b o) ha hn
    have ih := plc_lt hR (l := l) h3 h4
    simp only [plc, h2]
    have hs : ((ltr R a).map (Ln R l))[(part ((ltr R a).map fun b => Cn R l b o) n).1]? = some (Ln R l x) := by rw [List.getElem?_map, h1]; rfl
    have := take_sum_lt hs ih
    rw [← List.map_take] at this
    exact this
theorem den_law_small_right : Den f_law_small_right N_law_small_right.length cb_law_small_right := by
  rintro _ K ⟨R, a, l, rfl, hR, ha, hl, h3, hk⟩
  refine ⟨rfl, ?_⟩
  unfold cb_law_small_right
  (simp only [m_law_small_right, N_law_small_right, f_law_small_right, v3]; and_intros)
  refine ⟨⟨by omega, by omega⟩, ?_⟩
  rw [Int.toNat_natCast, rangeD_nat]
  refine forS_ind (fun i ρ => ∃ (o1 : Option PyData), ρ = [some (.val (ttN R)), some (.val (nD a)), some (.val (nD l)), some (.val (tN (blk R i a))), vS o1, none, none]) ⟨none, rfl⟩ ?_ ?_
  · rintro i d ρ Φ hd ⟨o1, rfl⟩ hΦ
    obtain ⟨hi, rfl⟩ := rng_get hd
    and_intros
    refine c_becomes hR (blk_mem hR ha i) ?_ ?_
    · rw [blk_len]
      have := Ln_mono hR ha (show i ≤ l by omega)
      omega
    · and_intros
      exact hΦ _ ⟨some (nD i), rfl⟩
  · rintro ρ ⟨o1, rfl⟩
    have e : ((List.range l).map nD).length = l := by simp
    rw [e]
    have hbl := blk_len R l a
    and_intros
    refine c_block_of hR ha hl (by omega) ?_
    and_intros
    rw [List.length_map, hbl]
    refine minS_nat (x := Ln R l a) (y := 40) ?_
    refine c_word_at (p := 0) (n := min (Ln R l a) 40) hR ha hl (by omega) (by omega) ?_
    and_intros
    rw [List.length_map, hbl]
    refine minS_nat (x := Ln R l a) (y := 20) ?_
    and_intros
    refine ⟨⟨by omega, by omega⟩, ?_⟩
    rw [Int.toNat_natCast, rangeD_nat]
    refine compS_map (fun k => nD (way R l a k).2) (fun k hk Φ q => ?_) ?_
    · have hk20 : k < min (Ln R l a) 20 := by simpa using hk
      and_intros
      refine c_letter_at hR ha hl (by omega) ?_
      and_intros
      exact q
    · and_intros
      have t40 : (List.range (min (Ln R l a) 40)).map (fun k => (way R l a k).2) = (blk R l a).take 40 := by
        rw [way_take hR ha (by omega), take_min hbl]
      have t20 : PyData.tuple ((List.range (min (Ln R l a) 20)).map (fun k => nD (way R l a k).2)) = tN ((blk R l a).take 20) := by
        rw [← tN_map, way_take hR ha (by omega), take_min hbl]
      refine ⟨by decide, ?_⟩
      rw [t40, t20]
      rw [show (40 : Int) = ((40 : Nat) : Int) from rfl, show (20 : Int) = ((20 : Nat) : Int) from rfl, cut_any, cut_any]
      refine c_same ?_ ?_
      · have hm := blk_mem hR ha l
        have h4 := hR.n4
        have s0 : ∀ xs : List Nat, (∀ x ∈ xs, x < R.length) → xs.length ≤ 300 → Sm (tN xs) 1 600000 := fun xs h1 h2 => (sm_tN fun x hx => sm_small (by have := h1 x hx; omega)).mono (Nat.le_refl _) (by omega)
        refine (Sm.list (k := 1) (n := 600000) fun d hd => ?_).shown (by decide) (by simp)
        simp only [List.mem_cons, List.not_mem_nil, or_false] at hd
        rcases hd with rfl | rfl | rfl
        · exact s0 _ hm (by omega)
        · exact s0 _ (fun x hx => hm x (List.mem_of_mem_take hx)) (by rw [List.length_take]; omega)
        · exact s0 _ (fun x hx => hm x (List.mem_of_mem_take hx)) (by rw [List.length_take]; omega)
      · and_intros
        exact hk
theorem den_law_index_right : Den f_law_index_right N_law_index_right.length cb_law_index_right := by
  rintro _ K ⟨feed, n, R, l, a, rfl, hf, hn, hR, ha, hl, hk⟩
  refine ⟨rfl, ?_⟩
  unfold cb_law_index_right
  (simp only [m_law_index_right, N_law_index_right, f_law_index_right, w5]; and_intros)
  have h4 := hR.n4
  have h0 := List.length_pos_iff.mpr hR.ne
  rw [List.length_map]
  refine c_draw hf (by omega) (by omega) (by omega) fun feed1 o hf1 ho => ?_
  have ho : o < R.length := by omega
  unfold rows
  and_intros
  refine atS_of (rows_idx (Nat.le_refl _)) ?_
  and_intros
  refine atS_of (rows_at ha) ?_
  and_intros
  refine atS_of (rngN_at ho) ?_
  and_intros
  refine atS_of (rows_idx (Nat.le_refl _)) ?_
  and_intros
  refine atS_of (rows_at ha) ?_
  and_intros
  refine rowN_sum hR ha ?_
  and_intros
  refine ⟨⟨by decide, by decide, by decide⟩, ?_⟩
  have e1 : (Cn R l a o : Int) + 2 = ((Cn R l a o + 2 : Nat) : Int) := by omega
  rw [e1]
  refine minS_nat (x := Cn R l a o + 2) (y := 10 ^ 60) ?_
  and_intros
  refine c_far hf1 (by omega) (Nat.lt_min.mpr ⟨by omega, Nat.pow_pos (by decide)⟩) fun feed2 ix hf2 hix => ?_
  and_intros
  refine c_place_of hR ha ho hl ?_
  and_intros
  refine runS_of List.nodup_nil ⟨R, l, a, o, ix, rfl, hR, ha, ho, hl, ⟨rfl, ?_⟩⟩
  and_intros
  refine c_same ?_ ?_
  · by_cases hc : Cn R l a o ≤ ix
    · rw [if_pos hc]
      exact Sm.none.shown (by decide) (by decide)
    · rw [if_neg hc]
      exact (sm_le hR ha hl (Nat.le_of_lt (plc_lt hR ha (by omega)))).shown (by decide) (by decide)
  and_intros
  refine ⟨⟨by decide, by decide, by decide⟩, ?_⟩
  refine br_of (fun h => ?_) (fun h => ?_)
  · and_intros
    exact hk _ (hf2.mono (by omega))
  · and_intros
    refine c_count_before hR ha ho hl (Nat.le_refl _) ?_
    rw [if_pos rfl]
    and_intros
    refine c_word_at (n := 0) hR ha hl (Nat.le_refl _) (by decide) ?_
    and_intros
    refine c_same ?_ ?_
    · refine (Sm.list (k := 1) (n := 1921) fun d hd => ?_).shown (by decide) (by simp)
      simp only [List.mem_cons, List.not_mem_nil, or_false] at hd
      rcases hd with rfl | rfl
      · exact (sm_le hR ha hl (Cn_le hR ha ho)).mono (by decide) (by decide)
      · exact (sm_tN (xs := []) (by simp)).mono (by decide) (by decide)
    · and_intros
      exact hk _ (hf2.mono (by omega))
end K87

set_option maxHeartbeats 4000000
/-! KQ: plain laws: the law's questions, further. -/
namespace K87
open PySem L2 Vs
local macro_rules | `(tactic| and_intros) => `(tactic| try simp only [↓rdG0v, rdG0v, ↓rdG0o, rdG0o, ↓rdGs, rdGs, ↓takeG0v, takeG0v, ↓takeG0o, takeG0o, ↓takeGs, takeGs, ↓hasG0, hasG0, ↓hasGs, hasGs, ↓ownG0, ownG0, ↓ownGs, ownGs, ↓free0n, free0n, ↓free0v, free0v, ↓free0o, free0o, ↓frees, frees, ↓hass, hass, ↓has0, has0, ↓isL0, isL0, ↓isLs, isLs, ↓S_nil, S_nil, ↓S_cons, S_cons, ↓seq_nx, seq_nx, ↓seq_rt, seq_rt, ↓seq_bk, seq_bk, ↓seq_ct, seq_ct, ↓lp_nx, lp_nx, ↓lp_rt, lp_rt, ↓lp_bk, lp_bk, ↓lp_ct, lp_ct, ↓fin_rt, fin_rt, ↓fin_nx, fin_nx, ↓outs_nil, outs_nil, ↓outs_f, outs_f, ↓outs_t, outs_t, ↓S_set, S_set, ↓S_unpack, S_unpack, ↓S_par, S_par, ↓S_setIdx, S_setIdx, ↓appK_l, appK_l, ↓extK_l, extK_l, ↓extK_t, extK_t, ↓S_append, S_append, ↓S_extend, S_extend, ↓S_expr, S_expr, ↓S_ret, S_ret, ↓S_retN, S_retN, ↓S_ite, S_ite, ↓S_whl, S_whl, ↓S_forr, S_forr, ↓S_never, S_never, ↓S_pass, S_pass, ↓S_brk, S_brk, ↓S_cont, S_cont, ↓S_tryy, S_tryy, ↓W_var, W_var, ↓W_varT, W_varT, ↓W_con, W_con, ↓W_conT, W_conT, ↓negW_i, negW_i, ↓W_neg, W_neg, ↓W_not, W_not, ↓W_notT, W_notT, ↓andK_b, andK_b, ↓W_and, W_and, ↓W_andT, W_andT, ↓W_or, W_or, ↓W_orT, W_orT, ↓W_bin, W_bin, ↓W_cmp, W_cmp, ↓W_cmpT, W_cmpT, ↓W_ite, W_ite, ↓W_tup, W_tup, ↓W_lst, W_lst, ↓W_dct, W_dct, ↓W_idx, W_idx, ↓W_sli, W_sli, ↓W_comp, W_comp, ↓W_comp2, W_comp2, ↓W_call, W_call, ↓W_bi, W_bi, ↓W_isT, W_isT, ↓W_cat, W_cat, ↓W_rep, W_rep, ↓W_callT, W_callT, ↓W_biT, W_biT, ↓W_isTT, W_isTT, ↓W_idxT, W_idxT, ↓W_binT, W_binT, ↓W_compT, W_compT, ↓O_var, O_var, ↓O_con, O_con, ↓O_neg, O_neg, ↓O_not, O_not, ↓O_and, O_and, ↓O_or, O_or, ↓O_bin, O_bin, ↓O_cmp, O_cmp, ↓O_ite, O_ite, ↓O_tup, O_tup, ↓O_lst, O_lst, ↓O_dct, O_dct, ↓O_idx, O_idx, ↓O_sli, O_sli, ↓O_comp, O_comp, ↓O_comp2, O_comp2, ↓O_call, O_call, ↓O_bi, O_bi, ↓O_isT, O_isT, ↓O_cat, O_cat, ↓O_rep, O_rep, ↓on_d, on_d, ↓on_s, on_s, ↓Ws_nil, Ws_nil, ↓Ws_cons, Ws_cons, ↓Wo_nil, Wo_nil, ↓Wo_cons, Wo_cons, ↓oa_nil, oa_nil, ↓oa_cons, oa_cons, ↓Wa_nil, Wa_nil, ↓Wa_f, Wa_f, ↓Wa_t, Wa_t, ↓ao_nil, ao_nil, ↓ao_v, ao_v, ↓ao_l, ao_l, ↓Wp_no, Wp_no, ↓intK_i, intK_i, ↓Wp_one, Wp_one, ↓Wc_no, Wc_no, ↓Wc_one, Wc_one, ↓Wi_seq, Wi_seq, ↓Wi_r1, Wi_r1, ↓Wi_r2, Wi_r2, ↓Wi_r3, Wi_r3, ↓seqK_l, seqK_l, ↓seqK_t, seqK_t, ↓zipK_l, zipK_l, ↓zipK_t, zipK_t, ↓Wi_enum, Wi_enum, ↓Wi_zip, Wi_zip, ↓it_l, it_l, ↓it_t, it_t, ↓it_d, it_d, ↓tr_b, tr_b, ↓tr_i, tr_i, ↓tr_n, tr_n, ↓tr_l, tr_l, ↓tr_t, tr_t, ↓b_add, b_add, ↓b_sub, b_sub, ↓b_mul, b_mul, ↓b_fdiv, b_fdiv, ↓b_mod, b_mod, ↓b_pow, b_pow, ↓b_addT, b_addT, ↓c_lt, c_lt, ↓c_le, c_le, ↓c_gt, c_gt, ↓c_ge, c_ge, ↓c_eq, c_eq, ↓c_ne, c_ne, ↓c_eqs, c_eqs, ↓c_nes, c_nes, ↓c_eq_list, c_eq_list, ↓c_eq_tuple, c_eq_tuple, ↓c_ne_list, c_ne_list, ↓c_ne_tuple, c_ne_tuple, ↓nonB_n, nonB_n, ↓nonB_i, nonB_i, ↓nonB_b, nonB_b, ↓nonB_t, nonB_t, ↓nonB_l, nonB_l, ↓c_is, c_is, ↓c_isnot, c_isnot, ↓ix_l, ix_l, ↓ix_t, ix_t, ↓sl_l, sl_l, ↓sl_t, sl_t, ↓cat_l, cat_l, ↓rep_l, rep_l, ↓bl_l, bl_l, ↓bl_t, bl_t, ↓bl_d, bl_d, ↓bt_l, bt_l, ↓bt_t, bt_t, ↓bs_l, bs_l, ↓bs_t, bs_t, ↓bi_i, bi_i, ↓bi_b, bi_b, ↓bx2, bx2, ↓bn2, bn2, ↓babs, babs, ↓bsum, bsum, ↓bmax, bmax, ↓bmin, bmin, ↓ball, ball, ↓bany, bany, ↓bsor, bsor, ↓bdic, bdic, ↓brep, brep, ↓bd_one, bd_one, ↓bd_many, bd_many, ↓so_l, so_l, ↓br_t, br_t, ↓br_f, br_f, ↓mk_t, mk_t, ↓mk_f, mk_f, Cs.freshes, C.fresh, putPar, putAll, initE, Fn.run, argsBack, Arg.lends, wipeE, backE, valOf, Tg.slots, List.getElem?_cons_zero, List.getElem?_cons_succ, List.getElem?_nil, List.set_cons_zero, List.set_cons_succ, List.zip_cons_cons, List.zip_nil_right, List.zip_nil_left, List.length_cons, List.length_nil, List.cons_append, List.nil_append, List.append_nil, List.replicate_succ, List.replicate_zero, ↓reduceIte, Bool.false_eq_true, List.mem_cons, List.not_mem_nil, or_false, forall_eq_or_imp, forall_eq, true_and, and_true, List.nodup_nil, List.nodup_cons, Nat.zero_add, Nat.reduceAdd, Nat.reduceSub, Nat.reduceEqDiff, reduceCtorEq, not_false_eq_true, false_or, or_self, forall_const, implies_true, List.map_cons, List.map_nil, and_self, Bool.not_true, Bool.not_false, Bool.not_eq_true, decide_true, decide_false, mk_t, mk_f, false_implies, ↓free0s, free0s, ↓m_is_integer, m_is_integer, q_is_integer, ↓m_is_number, m_is_number, q_is_number, ↓m_is_index, m_is_index, q_is_index, ↓m_is_full_tuple, m_is_full_tuple, q_is_full_tuple, ↓m_are_indexes, m_are_indexes, q_are_indexes, ↓m_is_rule, m_is_rule, q_is_rule, ↓m_units_by, m_units_by, q_units_by, ↓m_added_rows, m_added_rows, q_added_rows, ↓m_counts_to, m_counts_to, q_counts_to, ↓m_counts_by, m_counts_by, q_counts_by, ↓m_lengths_to, m_lengths_to, q_lengths_to, ↓m_lengths_by, m_lengths_by, q_lengths_by, ↓m_part_with, m_part_with, q_part_with, ↓m_way_down, m_way_down, q_way_down, ↓m_word_in, m_word_in, q_word_in, ↓m_ahead_in, m_ahead_in, q_ahead_in, ↓m_place_in, m_place_in, q_place_in, ↓m_want, m_want, q_want, ↓m_want_2, m_want_2, q_want_2, ↓m_want_rule, m_want_rule, q_want_rule, ↓m_want_rule_1, m_want_rule_1, q_want_rule_1, ↓m_want_index, m_want_index, q_want_index, ↓m_word_after, m_word_after, q_word_after, ↓m_want_block, m_want_block, q_want_block, ↓m_block_of, m_block_of, q_block_of, ↓m_length_of, m_length_of, q_length_of, ↓m_lengths_of, m_lengths_of, q_lengths_of, ↓m_counts_in, m_counts_in, q_counts_in, ↓m_growth_by, m_growth_by, q_growth_by, ↓m_want_growing, m_want_growing, q_want_growing, ↓m_want_growing_1, m_want_growing_1, q_want_growing_1, ↓m_letter_at, m_letter_at, q_letter_at, ↓m_word_at, m_word_at, q_word_at, ↓m_count_before, m_count_before, q_count_before, ↓m_place_of, m_place_of, q_place_of, ↓m_path_to, m_path_to, q_path_to, ↓m_place_by, m_place_by, q_place_by, ↓m_first_again, m_first_again, q_first_again, ↓m_seeds, m_seeds, q_seeds, ↓m_level_holding, m_level_holding, q_level_holding, ↓m_law_draw, m_law_draw, q_law_draw, ↓m_law_pick, m_law_pick, q_law_pick, ↓m_law_same, m_law_same, q_law_same, ↓m_law_becomes, m_law_becomes, q_law_becomes, ↓m_law_does_grow, m_law_does_grow, q_law_does_grow, ↓m_law_grown, m_law_grown, q_law_grown, ↓m_law_any_rule, m_law_any_rule, q_law_any_rule, ↓m_law_far, m_law_far, q_law_far, ↓m_law_sums, m_law_sums, q_law_sums, ↓m_law_down, m_law_down, q_law_down, ↓m_law_found, m_law_found, q_law_found, ↓m_law_halves_right, m_law_halves_right, q_law_halves_right, ↓m_law_place_right, m_law_place_right, q_law_place_right, ↓m_law_index_right, m_law_index_right, q_law_index_right, ↓m_law_small_right, m_law_small_right, q_law_small_right, ↓m_law_seeds, m_law_seeds, q_law_seeds, ↓m_law_holding_right, m_law_holding_right, q_law_holding_right, ↓m_law_is_right, m_law_is_right, q_law_is_right])
section
variable {R : List (List Nat)} {l a p o n : Nat} {ρ : Vs.Env} {Q : PyData → Vs.Env → Prop} {h : Held Q}
theorem c_law_down (hR : Ok R) (ha : a < R.length) (hl : l ≤ 200) (hp : p < Ln R l a) (q : Q (.tuple [tN (way R l a p).1, lN ((List.range R.length).map fun o => ahd R o l a p), nD (way R l a p).2]) ρ) : runS f_law_down [.v (ttN R), .v (rows R l), .v (nD a), .v (nD l), .v (nD p)] [ttN R, rows R l, nD a, nD l, nD p] ρ Q h := runS_of List.nodup_nil ⟨R, l, a, p, rfl, hR, ha, hl, hp, rfl, q⟩
theorem c_halves (hR : Ok R) (ha : a < R.length) (hl : l ≤ 200) (hp : p < Ln R l a) (q : Q (.bool true) ρ) : runS f_law_halves_right [.v (ttN R), .v (rows R l), .v (nD a), .v (nD l), .v (nD p), .v (nD (way R l a p).2)] [ttN R, rows R l, nD a, nD l, nD p, nD (way R l a p).2] ρ Q h := runS_of List.nodup_nil ⟨R, l, a, p, rfl, hR, ha, hl, hp, rfl, q⟩
end
theorem ahd_le {R : List (List Nat)} (hR : Ok R) {l a p o : Nat} (ha : a < R.length) (ho : o < R.length) (hp : p < Ln R l a) : ahd R o l a p ≤ Cn R l a o := by
  induction l generalizing a p with
  | zero => simp [ahd]
  | succ l ih =>
    obtain ⟨x, h1, h2, h3, h4, h5⟩ := step_ok hR (f := Ln R l) ha hp
    have i := ih h3 h4
    simp only [ahd, h2]
    generalize (part ((ltr R a).map (Ln R l)) p).1 = k at h1 i ⊢
    show _ ≤ ((ltr R a).map fun b => Cn R l b o).sum
    have hs : ((ltr R a).map fun b => Cn R l b o)[k]? = some (Cn R l x o) := by rw [List.getElem?_map, h1]; rfl
    have e : ((ltr R a).map fun b => Cn R l b o).drop k = Cn R l x o :: ((ltr R a).map fun b => Cn R l b o).drop (k + 1) := drop_at hs
    have e2 := congrArg List.sum (List.take_append_drop k ((ltr R a).map fun b => Cn R l b o))
    rw [List.sum_append, e, List.sum_cons, ← List.map_take] at e2
    omega
theorem way_small {R : List (List Nat)} (hR : Ok R) : ∀ {l a p : Nat}, a < R.length → p < Ln R l a → ∀ k ∈ (way R l a p).1, k < 4
  | 0, a, p, _, _ => by simp [way]
  | l + 1, a, p, ha, hp => by
    obtain ⟨x, h1, h2, h3, h4, h5⟩ := step_ok hR (f := Ln R l) ha hp
    intro k hk
    simp only [way, h2] at hk
    rcases List.mem_cons.mp hk with rfl | hk
    · have := (List.getElem?_eq_some_iff.mp h1).1
      have := (hR.bl _ (ltr_mem ha)).2.1
      omega
    · exact way_small hR h3 h4 k hk
theorem den_law_place_right : Den f_law_place_right N_law_place_right.length cb_law_place_right := by
  rintro _ K ⟨feed, n, R, l, a, rfl, hf, hn, hR, ha, hl, hk⟩
  refine ⟨rfl, ?_⟩
  unfold cb_law_place_right
  (simp only [m_law_place_right, N_law_place_right, f_law_place_right, w5]; and_intros)
  have h4 := hR.n4
  have hpos := Ln_pos hR (l := l) ha
  have er : rows R l = .list ((List.range (l + 1)).map fun j => PyData.list ((cnts R j).map lN)) := rfl
  rw [er]
  and_intros
  refine atS_of (rows_idx (Nat.le_refl _)) ?_
  and_intros
  refine atS_of (rows_at ha) ?_
  and_intros
  refine rowN_sum hR ha ?_
  and_intros
  refine ⟨⟨by decide, by decide, by decide⟩, ?_⟩
  refine minS_nat (x := Ln R l a) (y := 10 ^ 60) ?_
  and_intros
  refine c_far hf (by omega) (Nat.lt_min.mpr ⟨hpos, Nat.pow_pos (by decide)⟩) fun feed2 p hf2 hp => ?_
  have hp : p < Ln R l a := (Nat.lt_min.mp hp).1
  obtain ⟨w1, w2, w3, w4⟩ := pby_way hR ha hp
  obtain ⟨q1, q2⟩ := plc_ahd hR ha hp
  rw [← er]
  and_intros
  refine c_law_down hR ha hl hp ?_
  and_intros
  refine c_letter_at hR ha hl hp ?_
  and_intros
  refine c_path_to hR ha hl hp ?_
  and_intros
  refine c_place_by hR ha (by rw [way_len]; exact hl) w2 ?_
  rw [w1]
  and_intros
  rw [List.length_map]
  refine ⟨⟨by omega, by omega⟩, ?_⟩
  rw [Int.toNat_natCast, rangeD_nat]
  refine compS_map (fun o => nD (ahd R o l a p)) (fun o ho Φ q => ?_) ?_
  · have ho : o < R.length := by simpa using ho
    and_intros
    refine c_count_before hR ha ho hl (Nat.le_of_lt hp) ?_
    rw [if_neg (by omega)]
    and_intros
    exact q
  and_intros
  refine ⟨by simp; omega, ?_⟩
  refine atS_of (rngN_at w4) ?_
  and_intros
  refine c_place_of hR ha w4 hl ?_
  rw [if_neg (by omega), q2]
  and_intros
  refine ⟨by simp; omega, by simp; omega, by simp; omega, ?_⟩
  rw [List.map_map]
  have sm : Sm (.list (nD (way R l a p).2 :: tN (way R l a p).1 :: nD p :: (((List.range R.length).map fun o => nD (ahd R o l a p)) ++ [nD p]))) 2 4000000 := by
    refine (Sm.list (k := 1) (n := 400000) fun d hd => ?_).mono (Nat.le_refl _) (by simp; omega)
    simp only [List.mem_cons, List.mem_append, List.not_mem_nil, or_false] at hd
    have sp : Sm (nD p) 1 400000 := (sm_le hR ha hl (Nat.le_of_lt hp)).mono (by decide) (by decide)
    rcases hd with rfl | rfl | rfl | hd | rfl
    · exact (sm_small (by omega)).mono (by decide) (by decide)
    · refine (sm_tN fun x hx => ?_).mono (Nat.le_refl _) (by rw [way_len]; omega)
      exact sm_small (by have := way_small hR ha hp x hx; omega)
    · exact sp
    · obtain ⟨o, ho, rfl⟩ := List.mem_map.mp hd
      have ho : o < R.length := by simpa using ho
      exact (sm_le hR ha hl (Nat.le_trans (ahd_le hR ha ho hp) (Cn_le hR ha ho))).mono (by decide) (by decide)
    · exact sp
  refine c_same (sm.shown (by decide) (by decide)) ?_
  and_intros
  refine c_draw hf2 (by omega) (by decide) (by decide) fun feed3 v hf3 hv => ?_
  and_intros
  have e5 : (Ln R l a : Int) - (p : Int) = ((Ln R l a - p : Nat) : Int) := by omega
  rw [e5]
  refine minS_nat (x := v) (y := Ln R l a - p) ?_
  and_intros
  refine ⟨⟨by omega, by omega⟩, ?_⟩
  rw [Int.toNat_natCast, rangeD_nat]
  refine compS_map (fun k => nD (way R l a (p + k)).2) (fun k hk Φ q => ?_) ?_
  · have hk7 : k < min v (Ln R l a - p) := by simpa using hk
    and_intros
    have e6 : (p : Int) + (k : Int) = ((p + k : Nat) : Int) := by omega
    rw [e6]
    refine c_law_down hR ha hl (by omega) ?_
    and_intros
    refine atS_of at2 ?_
    and_intros
    exact q
  and_intros
  refine c_word_at hR ha hl (by omega) (by omega) ?_
  and_intros
  rw [tN_map]
  have sm2 : Sm (.tuple ((List.range (min v (Ln R l a - p))).map fun k => nD (way R l a (p + k)).2)) 1 20000 := by
    rw [← tN_map]
    refine (sm_tN fun x hx => ?_).mono (Nat.le_refl _) (by simp; omega)
    obtain ⟨k, hk, rfl⟩ := List.mem_map.mp hx
    have hk7 : k < min v (Ln R l a - p) := by simpa using hk
    have := (pby_way hR ha (show p + k < Ln R l a by omega)).2.2.2
    exact sm_small (by omega)
  refine c_same (sm2.shown (by decide) (by decide)) ?_
  and_intros
  refine c_halves hR ha hl hp ?_
  and_intros
  exact hk _ (hf3.mono (by omega))
end K87

set_option maxHeartbeats 4000000
/-! KR: plain laws: the halves. -/
namespace K87
open PySem L2 Vs
local macro_rules | `(tactic| and_intros) => `(tactic| try simp only [↓rdG0v, rdG0v, ↓rdG0o, rdG0o, ↓rdGs, rdGs, ↓takeG0v, takeG0v, ↓takeG0o, takeG0o, ↓takeGs, takeGs, ↓hasG0, hasG0, ↓hasGs, hasGs, ↓ownG0, ownG0, ↓ownGs, ownGs, ↓free0n, free0n, ↓free0v, free0v, ↓free0o, free0o, ↓frees, frees, ↓hass, hass, ↓has0, has0, ↓isL0, isL0, ↓isLs, isLs, ↓S_nil, S_nil, ↓S_cons, S_cons, ↓seq_nx, seq_nx, ↓seq_rt, seq_rt, ↓seq_bk, seq_bk, ↓seq_ct, seq_ct, ↓lp_nx, lp_nx, ↓lp_rt, lp_rt, ↓lp_bk, lp_bk, ↓lp_ct, lp_ct, ↓fin_rt, fin_rt, ↓fin_nx, fin_nx, ↓outs_nil, outs_nil, ↓outs_f, outs_f, ↓outs_t, outs_t, ↓S_set, S_set, ↓S_unpack, S_unpack, ↓S_par, S_par, ↓S_setIdx, S_setIdx, ↓appK_l, appK_l, ↓extK_l, extK_l, ↓extK_t, extK_t, ↓S_append, S_append, ↓S_extend, S_extend, ↓S_expr, S_expr, ↓S_ret, S_ret, ↓S_retN, S_retN, ↓S_ite, S_ite, ↓S_whl, S_whl, ↓S_forr, S_forr, ↓S_never, S_never, ↓S_pass, S_pass, ↓S_brk, S_brk, ↓S_cont, S_cont, ↓S_tryy, S_tryy, ↓W_var, W_var, ↓W_varT, W_varT, ↓W_con, W_con, ↓W_conT, W_conT, ↓negW_i, negW_i, ↓W_neg, W_neg, ↓W_not, W_not, ↓W_notT, W_notT, ↓andK_b, andK_b, ↓W_and, W_and, ↓W_andT, W_andT, ↓W_or, W_or, ↓W_orT, W_orT, ↓W_bin, W_bin, ↓W_cmp, W_cmp, ↓W_cmpT, W_cmpT, ↓W_ite, W_ite, ↓W_tup, W_tup, ↓W_lst, W_lst, ↓W_dct, W_dct, ↓W_idx, W_idx, ↓W_sli, W_sli, ↓W_comp, W_comp, ↓W_comp2, W_comp2, ↓W_call, W_call, ↓W_bi, W_bi, ↓W_isT, W_isT, ↓W_cat, W_cat, ↓W_rep, W_rep, ↓W_callT, W_callT, ↓W_biT, W_biT, ↓W_isTT, W_isTT, ↓W_idxT, W_idxT, ↓W_binT, W_binT, ↓W_compT, W_compT, ↓O_var, O_var, ↓O_con, O_con, ↓O_neg, O_neg, ↓O_not, O_not, ↓O_and, O_and, ↓O_or, O_or, ↓O_bin, O_bin, ↓O_cmp, O_cmp, ↓O_ite, O_ite, ↓O_tup, O_tup, ↓O_lst, O_lst, ↓O_dct, O_dct, ↓O_idx, O_idx, ↓O_sli, O_sli, ↓O_comp, O_comp, ↓O_comp2, O_comp2, ↓O_call, O_call, ↓O_bi, O_bi, ↓O_isT, O_isT, ↓O_cat, O_cat, ↓O_rep, O_rep, ↓on_d, on_d, ↓on_s, on_s, ↓Ws_nil, Ws_nil, ↓Ws_cons, Ws_cons, ↓Wo_nil, Wo_nil, ↓Wo_cons, Wo_cons, ↓oa_nil, oa_nil, ↓oa_cons, oa_cons, ↓Wa_nil, Wa_nil, ↓Wa_f, Wa_f, ↓Wa_t, Wa_t, ↓ao_nil, ao_nil, ↓ao_v, ao_v, ↓ao_l, ao_l, ↓Wp_no, Wp_no, ↓intK_i, intK_i, ↓Wp_one, Wp_one, ↓Wc_no, Wc_no, ↓Wc_one, Wc_one, ↓Wi_seq, Wi_seq, ↓Wi_r1, Wi_r1, ↓Wi_r2, Wi_r2, ↓Wi_r3, Wi_r3, ↓seqK_l, seqK_l, ↓seqK_t, seqK_t, ↓zipK_l, zipK_l, ↓zipK_t, zipK_t, ↓Wi_enum, Wi_enum, ↓Wi_zip, Wi_zip, ↓it_l, it_l, ↓it_t, it_t, ↓it_d, it_d, ↓tr_b, tr_b, ↓tr_i, tr_i, ↓tr_n, tr_n, ↓tr_l, tr_l, ↓tr_t, tr_t, ↓b_add, b_add, ↓b_sub, b_sub, ↓b_mul, b_mul, ↓b_fdiv, b_fdiv, ↓b_mod, b_mod, ↓b_pow, b_pow, ↓b_addT, b_addT, ↓c_lt, c_lt, ↓c_le, c_le, ↓c_gt, c_gt, ↓c_ge, c_ge, ↓c_eq, c_eq, ↓c_ne, c_ne, ↓c_eqs, c_eqs, ↓c_nes, c_nes, ↓c_eq_list, c_eq_list, ↓c_eq_tuple, c_eq_tuple, ↓c_ne_list, c_ne_list, ↓c_ne_tuple, c_ne_tuple, ↓nonB_n, nonB_n, ↓nonB_i, nonB_i, ↓nonB_b, nonB_b, ↓nonB_t, nonB_t, ↓nonB_l, nonB_l, ↓c_is, c_is, ↓c_isnot, c_isnot, ↓ix_l, ix_l, ↓ix_t, ix_t, ↓sl_l, sl_l, ↓sl_t, sl_t, ↓cat_l, cat_l, ↓rep_l, rep_l, ↓bl_l, bl_l, ↓bl_t, bl_t, ↓bl_d, bl_d, ↓bt_l, bt_l, ↓bt_t, bt_t, ↓bs_l, bs_l, ↓bs_t, bs_t, ↓bi_i, bi_i, ↓bi_b, bi_b, ↓bx2, bx2, ↓bn2, bn2, ↓babs, babs, ↓bsum, bsum, ↓bmax, bmax, ↓bmin, bmin, ↓ball, ball, ↓bany, bany, ↓bsor, bsor, ↓bdic, bdic, ↓brep, brep, ↓bd_one, bd_one, ↓bd_many, bd_many, ↓so_l, so_l, ↓br_t, br_t, ↓br_f, br_f, ↓mk_t, mk_t, ↓mk_f, mk_f, Cs.freshes, C.fresh, putPar, putAll, initE, Fn.run, argsBack, Arg.lends, wipeE, backE, valOf, Tg.slots, List.getElem?_cons_zero, List.getElem?_cons_succ, List.getElem?_nil, List.set_cons_zero, List.set_cons_succ, List.zip_cons_cons, List.zip_nil_right, List.zip_nil_left, List.length_cons, List.length_nil, List.cons_append, List.nil_append, List.append_nil, List.replicate_succ, List.replicate_zero, ↓reduceIte, Bool.false_eq_true, List.mem_cons, List.not_mem_nil, or_false, forall_eq_or_imp, forall_eq, true_and, and_true, List.nodup_nil, List.nodup_cons, Nat.zero_add, Nat.reduceAdd, Nat.reduceSub, Nat.reduceEqDiff, reduceCtorEq, not_false_eq_true, false_or, or_self, forall_const, implies_true, List.map_cons, List.map_nil, and_self, Bool.not_true, Bool.not_false, Bool.not_eq_true, decide_true, decide_false, mk_t, mk_f, false_implies, ↓free0s, free0s, ↓m_is_integer, m_is_integer, q_is_integer, ↓m_is_number, m_is_number, q_is_number, ↓m_is_index, m_is_index, q_is_index, ↓m_is_full_tuple, m_is_full_tuple, q_is_full_tuple, ↓m_are_indexes, m_are_indexes, q_are_indexes, ↓m_is_rule, m_is_rule, q_is_rule, ↓m_units_by, m_units_by, q_units_by, ↓m_added_rows, m_added_rows, q_added_rows, ↓m_counts_to, m_counts_to, q_counts_to, ↓m_counts_by, m_counts_by, q_counts_by, ↓m_lengths_to, m_lengths_to, q_lengths_to, ↓m_lengths_by, m_lengths_by, q_lengths_by, ↓m_part_with, m_part_with, q_part_with, ↓m_way_down, m_way_down, q_way_down, ↓m_word_in, m_word_in, q_word_in, ↓m_ahead_in, m_ahead_in, q_ahead_in, ↓m_place_in, m_place_in, q_place_in, ↓m_want, m_want, q_want, ↓m_want_2, m_want_2, q_want_2, ↓m_want_rule, m_want_rule, q_want_rule, ↓m_want_rule_1, m_want_rule_1, q_want_rule_1, ↓m_want_index, m_want_index, q_want_index, ↓m_word_after, m_word_after, q_word_after, ↓m_want_block, m_want_block, q_want_block, ↓m_block_of, m_block_of, q_block_of, ↓m_length_of, m_length_of, q_length_of, ↓m_lengths_of, m_lengths_of, q_lengths_of, ↓m_counts_in, m_counts_in, q_counts_in, ↓m_growth_by, m_growth_by, q_growth_by, ↓m_want_growing, m_want_growing, q_want_growing, ↓m_want_growing_1, m_want_growing_1, q_want_growing_1, ↓m_letter_at, m_letter_at, q_letter_at, ↓m_word_at, m_word_at, q_word_at, ↓m_count_before, m_count_before, q_count_before, ↓m_place_of, m_place_of, q_place_of, ↓m_path_to, m_path_to, q_path_to, ↓m_place_by, m_place_by, q_place_by, ↓m_first_again, m_first_again, q_first_again, ↓m_seeds, m_seeds, q_seeds, ↓m_level_holding, m_level_holding, q_level_holding, ↓m_law_draw, m_law_draw, q_law_draw, ↓m_law_pick, m_law_pick, q_law_pick, ↓m_law_same, m_law_same, q_law_same, ↓m_law_becomes, m_law_becomes, q_law_becomes, ↓m_law_does_grow, m_law_does_grow, q_law_does_grow, ↓m_law_grown, m_law_grown, q_law_grown, ↓m_law_any_rule, m_law_any_rule, q_law_any_rule, ↓m_law_far, m_law_far, q_law_far, ↓m_law_sums, m_law_sums, q_law_sums, ↓m_law_down, m_law_down, q_law_down, ↓m_law_found, m_law_found, q_law_found, ↓m_law_halves_right, m_law_halves_right, q_law_halves_right, ↓m_law_place_right, m_law_place_right, q_law_place_right, ↓m_law_index_right, m_law_index_right, q_law_index_right, ↓m_law_small_right, m_law_small_right, q_law_small_right, ↓m_law_seeds, m_law_seeds, q_law_seeds, ↓m_law_holding_right, m_law_holding_right, q_law_holding_right, ↓m_law_is_right, m_law_is_right, q_law_is_right])
theorem cut_drop {α : Type} {f : α → PyData} {xs : List α} (k : Nat) : cutD (xs.map f) (some (k : Int)) none = (xs.drop k).map f := by
  unfold cutD
  rw [HT.sIx_none, HT.sIx_nat, List.length_map]
  apply List.ext_getElem?
  intro i
  rw [List.getElem?_take, List.getElem?_drop, List.getElem?_map, List.getElem?_map, List.getElem?_drop]
  by_cases h : k ≤ xs.length
  · rw [Nat.min_eq_left h]
    by_cases h2 : i < xs.length - k
    · rw [if_pos h2]
    · rw [if_neg h2, List.getElem?_eq_none (by omega)]
      rfl
  · rw [if_neg (by omega), List.getElem?_eq_none (by omega)]
    rfl
theorem ltrBy_push {R : List (List Nat)} {k : Nat} : ∀ {ks : List Nat} {a : Nat}, ltrBy R (ks ++ [k]) a = (ltr R (ltrBy R ks a)).getD k 0
  | [], a => rfl
  | q :: ks, a => by
    simp only [List.cons_append, ltrBy]
    exact ltrBy_push
theorem rng_take {f : Nat → Nat} {w : List Nat} {k : Nat} (h : k ≤ w.length) : (List.range k).map (fun q => f (w.getD q 0)) = (w.take k).map f := by
  apply List.ext_getElem?
  intro i
  rw [List.getElem?_map, List.getElem?_map, List.getElem?_take]
  by_cases hi : i < k
  · rw [if_pos hi, List.getElem?_range hi]
    have : i < w.length := by omega
    simp [List.getD, this]
  · rw [if_neg hi, List.getElem?_eq_none (by simp; omega)]
    rfl
theorem den_law_halves_right : Den f_law_halves_right N_law_halves_right.length cb_law_halves_right := by
  rintro _ K ⟨R, l, a, p, rfl, hR, ha, hl, hp, hk⟩
  refine ⟨rfl, ?_⟩
  unfold cb_law_halves_right
  (simp only [m_law_halves_right, N_law_halves_right, f_law_halves_right, v6]; and_intros)
  obtain ⟨w1, w2, w3, w4⟩ := pby_way hR ha hp
  refine ⟨⟨by decide, by decide⟩, ?_⟩
  have e1 : (l : Int).fdiv 2 = ((l / 2 : Nat) : Int) := by
    rw [Int.fdiv_eq_ediv_of_nonneg _ (by decide)]
    rfl
  rw [e1]
  obtain ⟨j, hj⟩ : ∃ j, j = l - l / 2 := ⟨_, rfl⟩
  have e2 : (l : Int) - ((l / 2 : Nat) : Int) = (j : Int) := by omega
  refine c_path_to hR ha hl hp ?_
  and_intros
  rw [e2, cut_any, cut_drop]
  have wl := way_len R l a p
  have hpath := Path_take j w2
  have hll : ((way R l a p).1.take j).length = j := by rw [List.length_take, wl]; omega
  refine c_place_by hR ha (by rw [hll]; omega) hpath ?_
  and_intros
  rw [List.length_map, hll]
  refine ⟨⟨by omega, by omega⟩, ?_⟩
  rw [Int.toNat_natCast, rangeD_nat]
  obtain ⟨v1, v2, v3⟩ := way_pby hR ha hpath
  rw [hll] at v1 v2
  refine forS_ind (fun i ρ => ∃ (o1 o2 o3 : Option PyData) (pre : List Nat) (here rest : Nat), ρ = [some (.val (ttN R)), some (.val (rows R l)), some (.val (nD a)), some (.val (nD l)), some (.val (nD p)), some (.val (nD (way R l a p).2)), some (.val (nD (l / 2))), some (.val (tN (way R l a p).1)), some (.val (tN ((way R l a p).1.take j))), some (.val (tN ((way R l a p).1.drop j))), some (.val (nD (pby R ((way R l a p).1.take j) a))), some (.val (nD rest)), vS o1, vS o2, vS o3, none, none]
      ∧ here < R.length ∧ rest < Ln R (l - i) here ∧ pre.length = i ∧ way R l a p = (pre ++ (way R (l - i) here rest).1, (way R (l - i) here rest).2) ∧ ltrBy R pre a = here ∧
      (i = 0 ∨ ∃ prev k i', i = i' + 1 ∧ o3 = some (nD prev) ∧ prev < R.length ∧ ((way R l a p).1.take j)[i']? = some k ∧ (ltr R prev)[k]? = some here)) ⟨none, none, none, [], a, p, rfl, ha, hp, rfl, rfl, rfl, .inl rfl⟩ ?_ ?_
  · rintro i d ρ Φ hd ⟨o1, o2, o3, pre, here, rest, rfl, hh, hr, hpl, hw, hlb, hor⟩ hΦ
    obtain ⟨hi, rfl⟩ := rng_get hd
    obtain ⟨m, hm⟩ : ∃ m, l - i = m + 1 := ⟨l - i - 1, by omega⟩
    rw [hm] at hr hw
    obtain ⟨x, hx1, hx2, hx3, hx4, hx5⟩ := step_ok hR (f := Ln R m) hh hr
    have hkl := (List.getElem?_eq_some_iff.mp hx1).1
    have hlead : ((way R l a p).1.take j)[i]? = some (part ((ltr R here).map (Ln R m)) rest).1 := by
      rw [List.getElem?_take, if_pos hi, hw, List.getElem?_append_right (by omega), hpl, Nat.sub_self]
      simp [way]
    have e3 : (l : Int) - (i : Int) - 1 = ((m : Nat) : Int) := by omega
    have body : WSs (.cons (.set 11 (.bin .Sub (.var 11) (.bi .sum (.cons (.comp [16] (.one 16) (.range1 (.idx (.var 8) (.var 12))) .no (.bi .sum (.cons (.idx (.var 13) (.idx (.idx (.var 0) (.var 14)) (.var 16))) .nil))) .nil)))) .nil)
        [some (.val (ttN R)), some (.val (rows R l)), some (.val (nD a)), some (.val (nD l)), some (.val (nD p)), some (.val (nD (way R l a p).2)), some (.val (nD (l / 2))), some (.val (tN (way R l a p).1)), some (.val (tN ((way R l a p).1.take j))), some (.val (tN ((way R l a p).1.drop j))), some (.val (nD (pby R ((way R l a p).1.take j) a))), some (.val (nD rest)), some (.val (nD i)), some (.val (.list ((cnts R m).map lN))), some (.val (nD here)), none, none]
        (lpE (seqS (.cons (.set 15 (.call f_letter_at (.cons (.var 0) (.cons (.var 2) (.cons (.bin .Sub (.var 3) (.var 6)) (.cons (.var 10) .nil)))))) (.cons (.ret (.and (.cmp .Eq (.call f_letter_at (.cons (.var 0) (.cons (.var 15) (.cons (.var 6) (.cons (.var 11) .nil))))) (.var 5)) (.cmp .Eq (.call f_path_to (.cons (.var 0) (.cons (.var 15) (.cons (.var 6) (.cons (.var 11) .nil))))) (.var 9)))) .nil)) (finE false [false, false, false, false, false, false] K)) Φ) := by
      and_intros
      refine atS_of (mapN_at hlead) ?_
      and_intros
      have hk4 := (hR.bl _ (ltr_mem hh)).2.1
      refine ⟨⟨by omega, by omega⟩, ?_⟩
      rw [Int.toNat_natCast, rangeD_nat]
      refine compS_map (fun q => nD (Ln R m ((ltr R here).getD q 0))) (fun q hq Φ2 q2 => ?_) ?_
      · have hq : q < (part ((ltr R here).map (Ln R m)) rest).1 := by simpa using hq
        obtain ⟨y, hy⟩ : ∃ y, (ltr R here)[q]? = some y := ⟨_, List.getElem?_eq_getElem (by omega)⟩
        have hyR := (hR.bl _ (ltr_mem hh)).2.2 y (List.mem_of_getElem? hy)
        have hyd : (ltr R here).getD q 0 = y := by rw [List.getD_eq_getElem?_getD, hy]; rfl
        rw [hyd] at q2
        have get : ∀ {Q : PyData → Prop} {h : Held Q}, Q (rowN R m y) → atS ((cnts R m).map lN) ((y : Nat) : Int) Q h := fun q => atS_of (rows_at hyR) q
        and_intros
        refine atS_of (mapN_at (ltr_at hh)) ?_
        and_intros
        refine atS_of (mapN_at hy) ?_
        and_intros
        refine get ?_
        and_intros
        refine rowN_sum hR hyR ?_
        and_intros
        exact q2
      · and_intros
        refine sumS_of ?_
        rw [rng_take (Nat.le_of_lt hkl)]
        and_intros
        have e4 : (rest : Int) - ((((ltr R here).take (part ((ltr R here).map (Ln R m)) rest).1).map (Ln R m)).sum : Int) = (((part ((ltr R here).map (Ln R m)) rest).2 : Nat) : Int) := by omega
        rw [e4]
        have e5 : l - (i + 1) = m := by omega
        refine hΦ _ ⟨some (nD i), some (.list ((cnts R m).map lN)), some (nD here), pre ++ [(part ((ltr R here).map (Ln R m)) rest).1], x, (part ((ltr R here).map (Ln R m)) rest).2, rfl, hx3, by rw [e5]; exact hx4, by simp [hpl], ?_, ?_, .inr ⟨here, _, i, rfl, rfl, hh, hlead, hx1⟩⟩
        · rw [e5, hw]
          simp only [way, hx2, List.append_assoc, List.cons_append, List.nil_append]
        · rw [ltrBy_push, hlb, hx2]
    unfold rows
    rcases hor with rfl | ⟨prev, k, i', rfl, rfl, hprev, hk1, hk2⟩
    · have hae : here = a := by
        have : pre = [] := List.length_eq_zero_iff.mp hpl
        rw [this] at hlb
        exact hlb.symm
      subst hae
      and_intros
      rw [e3]
      refine atS_of (rows_idx (by omega)) ?_
      and_intros
      rw [show decide (((0 : Nat) : Int) = 0) = true from rfl]
      and_intros
      exact body
    · rw [← vS_s]
      and_intros
      rw [e3]
      refine atS_of (rows_idx (by omega)) ?_
      and_intros
      have e6 : decide (((i' + 1 : Nat) : Int) = 0) = false := decide_eq_false (by omega)
      rw [e6]
      and_intros
      refine atS_of (mapN_at (ltr_at hprev)) ?_
      and_intros
      have e7 : ((i' + 1 : Nat) : Int) - 1 = ((i' : Nat) : Int) := by omega
      rw [e7]
      refine atS_of (mapN_at hk1) ?_
      and_intros
      refine atS_of (mapN_at hk2) ?_
      and_intros
      exact body
  · rintro ρ ⟨o1, o2, o3, pre, here, rest, rfl, hh, hr, hpl, hw, hlb, hor⟩
    have e : ((List.range j).map nD).length = j := by simp
    rw [e] at hpl hw hr
    have e8 : l - j = l / 2 := by omega
    rw [e8] at hr hw
    have hpre : (way R l a p).1.take j = pre := by
      rw [hw]
      simp [← hpl]
    have hpost : (way R l a p).1.drop j = (way R (l / 2) here rest).1 := by
      rw [hw]
      simp [← hpl]
    have hend : (way R l a p).2 = (way R (l / 2) here rest).2 := by rw [hw]
    rw [hpre, hlb] at v2
    rw [hpre] at v1
    rw [hpre, hpost, hend]
    and_intros
    rw [e2]
    refine c_letter_at hR ha (by omega) v1 ?_
    rw [v2]
    and_intros
    refine c_letter_at hR hh (by omega) hr ?_
    and_intros
    refine c_path_to hR hh (by omega) hr ?_
    and_intros
    have smp : Sm (tN (way R (l / 2) here rest).1) 1 1000000 := (sm_tN fun x hx => sm_small (by have := way_small hR hh hr x hx; omega)).mono (Nat.le_refl _) (by rw [way_len]; omega)
    refine ⟨(smp.shown (by decide) (by decide)).2.1, (smp.shown (by decide) (by decide)).2.1, ?_⟩
    rw [show PyData.eqv (.tuple ((way R (l / 2) here rest).1.map nD)) (tN (way R (l / 2) here rest).1) = true from SeqAt.eqv_refl _ smp.lay]
    exact hk
end K87

set_option maxHeartbeats 4000000
/-! KS: plain laws: holding, the whole. -/
namespace K87
open PySem L2 Vs
local macro_rules | `(tactic| and_intros) => `(tactic| try simp only [↓rdG0v, rdG0v, ↓rdG0o, rdG0o, ↓rdGs, rdGs, ↓takeG0v, takeG0v, ↓takeG0o, takeG0o, ↓takeGs, takeGs, ↓hasG0, hasG0, ↓hasGs, hasGs, ↓ownG0, ownG0, ↓ownGs, ownGs, ↓free0n, free0n, ↓free0v, free0v, ↓free0o, free0o, ↓frees, frees, ↓hass, hass, ↓has0, has0, ↓isL0, isL0, ↓isLs, isLs, ↓S_nil, S_nil, ↓S_cons, S_cons, ↓seq_nx, seq_nx, ↓seq_rt, seq_rt, ↓seq_bk, seq_bk, ↓seq_ct, seq_ct, ↓lp_nx, lp_nx, ↓lp_rt, lp_rt, ↓lp_bk, lp_bk, ↓lp_ct, lp_ct, ↓fin_rt, fin_rt, ↓fin_nx, fin_nx, ↓outs_nil, outs_nil, ↓outs_f, outs_f, ↓outs_t, outs_t, ↓S_set, S_set, ↓S_unpack, S_unpack, ↓S_par, S_par, ↓S_setIdx, S_setIdx, ↓appK_l, appK_l, ↓extK_l, extK_l, ↓extK_t, extK_t, ↓S_append, S_append, ↓S_extend, S_extend, ↓S_expr, S_expr, ↓S_ret, S_ret, ↓S_retN, S_retN, ↓S_ite, S_ite, ↓S_whl, S_whl, ↓S_forr, S_forr, ↓S_never, S_never, ↓S_pass, S_pass, ↓S_brk, S_brk, ↓S_cont, S_cont, ↓S_tryy, S_tryy, ↓W_var, W_var, ↓W_varT, W_varT, ↓W_con, W_con, ↓W_conT, W_conT, ↓negW_i, negW_i, ↓W_neg, W_neg, ↓W_not, W_not, ↓W_notT, W_notT, ↓andK_b, andK_b, ↓W_and, W_and, ↓W_andT, W_andT, ↓W_or, W_or, ↓W_orT, W_orT, ↓W_bin, W_bin, ↓W_cmp, W_cmp, ↓W_cmpT, W_cmpT, ↓W_ite, W_ite, ↓W_tup, W_tup, ↓W_lst, W_lst, ↓W_dct, W_dct, ↓W_idx, W_idx, ↓W_sli, W_sli, ↓W_comp, W_comp, ↓W_comp2, W_comp2, ↓W_call, W_call, ↓W_bi, W_bi, ↓W_isT, W_isT, ↓W_cat, W_cat, ↓W_rep, W_rep, ↓W_callT, W_callT, ↓W_biT, W_biT, ↓W_isTT, W_isTT, ↓W_idxT, W_idxT, ↓W_binT, W_binT, ↓W_compT, W_compT, ↓O_var, O_var, ↓O_con, O_con, ↓O_neg, O_neg, ↓O_not, O_not, ↓O_and, O_and, ↓O_or, O_or, ↓O_bin, O_bin, ↓O_cmp, O_cmp, ↓O_ite, O_ite, ↓O_tup, O_tup, ↓O_lst, O_lst, ↓O_dct, O_dct, ↓O_idx, O_idx, ↓O_sli, O_sli, ↓O_comp, O_comp, ↓O_comp2, O_comp2, ↓O_call, O_call, ↓O_bi, O_bi, ↓O_isT, O_isT, ↓O_cat, O_cat, ↓O_rep, O_rep, ↓on_d, on_d, ↓on_s, on_s, ↓Ws_nil, Ws_nil, ↓Ws_cons, Ws_cons, ↓Wo_nil, Wo_nil, ↓Wo_cons, Wo_cons, ↓oa_nil, oa_nil, ↓oa_cons, oa_cons, ↓Wa_nil, Wa_nil, ↓Wa_f, Wa_f, ↓Wa_t, Wa_t, ↓ao_nil, ao_nil, ↓ao_v, ao_v, ↓ao_l, ao_l, ↓Wp_no, Wp_no, ↓intK_i, intK_i, ↓Wp_one, Wp_one, ↓Wc_no, Wc_no, ↓Wc_one, Wc_one, ↓Wi_seq, Wi_seq, ↓Wi_r1, Wi_r1, ↓Wi_r2, Wi_r2, ↓Wi_r3, Wi_r3, ↓seqK_l, seqK_l, ↓seqK_t, seqK_t, ↓zipK_l, zipK_l, ↓zipK_t, zipK_t, ↓Wi_enum, Wi_enum, ↓Wi_zip, Wi_zip, ↓it_l, it_l, ↓it_t, it_t, ↓it_d, it_d, ↓tr_b, tr_b, ↓tr_i, tr_i, ↓tr_n, tr_n, ↓tr_l, tr_l, ↓tr_t, tr_t, ↓b_add, b_add, ↓b_sub, b_sub, ↓b_mul, b_mul, ↓b_fdiv, b_fdiv, ↓b_mod, b_mod, ↓b_pow, b_pow, ↓b_addT, b_addT, ↓c_lt, c_lt, ↓c_le, c_le, ↓c_gt, c_gt, ↓c_ge, c_ge, ↓c_eq, c_eq, ↓c_ne, c_ne, ↓c_eqs, c_eqs, ↓c_nes, c_nes, ↓c_eq_list, c_eq_list, ↓c_eq_tuple, c_eq_tuple, ↓c_ne_list, c_ne_list, ↓c_ne_tuple, c_ne_tuple, ↓nonB_n, nonB_n, ↓nonB_i, nonB_i, ↓nonB_b, nonB_b, ↓nonB_t, nonB_t, ↓nonB_l, nonB_l, ↓c_is, c_is, ↓c_isnot, c_isnot, ↓ix_l, ix_l, ↓ix_t, ix_t, ↓sl_l, sl_l, ↓sl_t, sl_t, ↓cat_l, cat_l, ↓rep_l, rep_l, ↓bl_l, bl_l, ↓bl_t, bl_t, ↓bl_d, bl_d, ↓bt_l, bt_l, ↓bt_t, bt_t, ↓bs_l, bs_l, ↓bs_t, bs_t, ↓bi_i, bi_i, ↓bi_b, bi_b, ↓bx2, bx2, ↓bn2, bn2, ↓babs, babs, ↓bsum, bsum, ↓bmax, bmax, ↓bmin, bmin, ↓ball, ball, ↓bany, bany, ↓bsor, bsor, ↓bdic, bdic, ↓brep, brep, ↓bd_one, bd_one, ↓bd_many, bd_many, ↓so_l, so_l, ↓br_t, br_t, ↓br_f, br_f, ↓mk_t, mk_t, ↓mk_f, mk_f, Cs.freshes, C.fresh, putPar, putAll, initE, Fn.run, argsBack, Arg.lends, wipeE, backE, valOf, Tg.slots, List.getElem?_cons_zero, List.getElem?_cons_succ, List.getElem?_nil, List.set_cons_zero, List.set_cons_succ, List.zip_cons_cons, List.zip_nil_right, List.zip_nil_left, List.length_cons, List.length_nil, List.cons_append, List.nil_append, List.append_nil, List.replicate_succ, List.replicate_zero, ↓reduceIte, Bool.false_eq_true, List.mem_cons, List.not_mem_nil, or_false, forall_eq_or_imp, forall_eq, true_and, and_true, List.nodup_nil, List.nodup_cons, Nat.zero_add, Nat.reduceAdd, Nat.reduceSub, Nat.reduceEqDiff, reduceCtorEq, not_false_eq_true, false_or, or_self, forall_const, implies_true, List.map_cons, List.map_nil, and_self, Bool.not_true, Bool.not_false, Bool.not_eq_true, decide_true, decide_false, mk_t, mk_f, false_implies, ↓free0s, free0s, ↓m_is_integer, m_is_integer, q_is_integer, ↓m_is_number, m_is_number, q_is_number, ↓m_is_index, m_is_index, q_is_index, ↓m_is_full_tuple, m_is_full_tuple, q_is_full_tuple, ↓m_are_indexes, m_are_indexes, q_are_indexes, ↓m_is_rule, m_is_rule, q_is_rule, ↓m_units_by, m_units_by, q_units_by, ↓m_added_rows, m_added_rows, q_added_rows, ↓m_counts_to, m_counts_to, q_counts_to, ↓m_counts_by, m_counts_by, q_counts_by, ↓m_lengths_to, m_lengths_to, q_lengths_to, ↓m_lengths_by, m_lengths_by, q_lengths_by, ↓m_part_with, m_part_with, q_part_with, ↓m_way_down, m_way_down, q_way_down, ↓m_word_in, m_word_in, q_word_in, ↓m_ahead_in, m_ahead_in, q_ahead_in, ↓m_place_in, m_place_in, q_place_in, ↓m_want, m_want, q_want, ↓m_want_2, m_want_2, q_want_2, ↓m_want_rule, m_want_rule, q_want_rule, ↓m_want_rule_1, m_want_rule_1, q_want_rule_1, ↓m_want_index, m_want_index, q_want_index, ↓m_word_after, m_word_after, q_word_after, ↓m_want_block, m_want_block, q_want_block, ↓m_block_of, m_block_of, q_block_of, ↓m_length_of, m_length_of, q_length_of, ↓m_lengths_of, m_lengths_of, q_lengths_of, ↓m_counts_in, m_counts_in, q_counts_in, ↓m_growth_by, m_growth_by, q_growth_by, ↓m_want_growing, m_want_growing, q_want_growing, ↓m_want_growing_1, m_want_growing_1, q_want_growing_1, ↓m_letter_at, m_letter_at, q_letter_at, ↓m_word_at, m_word_at, q_word_at, ↓m_count_before, m_count_before, q_count_before, ↓m_place_of, m_place_of, q_place_of, ↓m_path_to, m_path_to, q_path_to, ↓m_place_by, m_place_by, q_place_by, ↓m_first_again, m_first_again, q_first_again, ↓m_seeds, m_seeds, q_seeds, ↓m_level_holding, m_level_holding, q_level_holding, ↓m_law_draw, m_law_draw, q_law_draw, ↓m_law_pick, m_law_pick, q_law_pick, ↓m_law_same, m_law_same, q_law_same, ↓m_law_becomes, m_law_becomes, q_law_becomes, ↓m_law_does_grow, m_law_does_grow, q_law_does_grow, ↓m_law_grown, m_law_grown, q_law_grown, ↓m_law_any_rule, m_law_any_rule, q_law_any_rule, ↓m_law_far, m_law_far, q_law_far, ↓m_law_sums, m_law_sums, q_law_sums, ↓m_law_down, m_law_down, q_law_down, ↓m_law_found, m_law_found, q_law_found, ↓m_law_halves_right, m_law_halves_right, q_law_halves_right, ↓m_law_place_right, m_law_place_right, q_law_place_right, ↓m_law_index_right, m_law_index_right, q_law_index_right, ↓m_law_small_right, m_law_small_right, q_law_small_right, ↓m_law_seeds, m_law_seeds, q_law_seeds, ↓m_law_holding_right, m_law_holding_right, q_law_holding_right, ↓m_law_is_right, m_law_is_right, q_law_is_right])
theorem den_law_holding_right : Den f_law_holding_right N_law_holding_right.length cb_law_holding_right := by
  rintro _ K ⟨feed, n, R, l, a, rfl, hf, hn, hR, ha, hl, hk⟩
  refine ⟨rfl, ?_⟩
  unfold cb_law_holding_right
  (simp only [m_law_holding_right, N_law_holding_right, f_law_holding_right, w4]; and_intros)
  refine ⟨⟨by decide, by decide, by decide⟩, ⟨by decide, by decide, by decide⟩, ⟨by decide, by decide, by decide⟩, ⟨by decide, by decide, by decide⟩, ?_⟩
  refine c_pick hf (by omega) (by simp) (by simp) fun feed1 x hf1 hx => ?_
  obtain ⟨most, rfl, hm0⟩ : ∃ most : Nat, x = nD most ∧ 0 < most := by
    simp only [List.mem_cons, List.not_mem_nil, or_false] at hx
    rcases hx with rfl | rfl | rfl | rfl | rfl
    · exact ⟨1, rfl, by decide⟩
    · exact ⟨10 ^ 3, rfl, by decide⟩
    · exact ⟨10 ^ 10, rfl, by decide⟩
    · exact ⟨10 ^ 22, rfl, by decide⟩
    · exact ⟨10 ^ 39, rfl, by decide⟩
  and_intros
  refine c_far hf1 (by omega) hm0 fun feed2 p hf2 hp => ?_
  have er : rows R l = .list ((List.range (l + 1)).map fun j => PyData.list ((cnts R j).map lN)) := rfl
  rw [er]
  and_intros
  rw [List.length_map, List.length_range]
  refine ⟨⟨by omega, by omega⟩, ?_⟩
  rw [Int.toNat_natCast, rangeD_nat]
  refine compS_filter (fun j => decide (p < Ln R j a)) nD (fun j hj Φ1 Φ0 q1 q0 => ?_) ?_
  · have hj : j < l + 1 := by simpa using hj
    and_intros
    refine atS_of (rng_at hj) ?_
    and_intros
    refine atS_of (rows_at ha) ?_
    and_intros
    refine rowN_sum hR ha ?_
    and_intros
    refine br_of (fun h => ?_) (fun h => ?_)
    · and_intros
      exact q1 (by have := of_decide_eq_true h; exact decide_eq_true (by omega))
    · and_intros
      exact q0 (by have := of_decide_eq_false h; exact decide_eq_false (by omega))
  and_intros
  have hf3 : Feed feed2 (n + 50) := hf2.mono (by omega)
  have smL : Sm (.list (((List.range (l + 1)).filter fun j => decide (p < Ln R j a)).map nD)) 1 1000000 := by
    have := Sm.list (xs := ((List.range (l + 1)).filter fun j => decide (p < Ln R j a)).map nD) (k := 0) (n := 1921) fun d hd => by
      obtain ⟨j, hj, rfl⟩ := List.mem_map.mp hd
      have : j < l + 1 := by simpa using (List.mem_filter.mp hj).1
      exact sm_small (by omega)
    refine this.mono (Nat.le_refl _) ?_
    rw [List.length_map]
    have := List.length_filter_le (fun j => decide (p < Ln R j a)) (List.range (l + 1))
    rw [List.length_range] at this
    omega
  refine runS_of List.nodup_nil ⟨R, _, rfl, .inl rfl, hR, ⟨rfl, ?_⟩, fun hg v => ⟨rfl, ?_⟩⟩
  · and_intros
    exact hk _ hf3
  · and_intros
    refine ⟨(smL.shown (by decide) (by decide)).2.1, shaped_ints [], ?_⟩
    refine br_of (fun h => ?_) (fun h => ?_)
    · and_intros
      exact hk _ hf3
    · and_intros
      generalize hL : (List.range (l + 1)).filter (fun j => decide (p < Ln R j a)) = L at h
      cases L with
      | nil => exact absurd h (by decide)
      | cons m ms =>
        have hfind : (List.range (l + 1)).find? (fun j => decide (p < Ln R j a)) = some m := by
          rw [← List.head?_filter, hL]
          rfl
        rw [List.find?_eq_some_iff_getElem] at hfind
        obtain ⟨h1, i, hi, h2, h3⟩ := hfind
        simp only [List.getElem_range] at h2 h3
        subst h2
        have hi : i < l + 1 := by simpa using hi
        have h1 : p < Ln R i a := by simpa using h1
        have h3 : ∀ j, j < i → Ln R j a ≤ p := fun j hj => by
          have := h3 j hj
          simpa using this
        refine c_level_holding hR ha hg (by omega) h1 h3 ?_
        and_intros
        refine atS_of at0 ?_
        and_intros
        refine c_same ((sm_small (by omega)).shown (by decide) (by decide)) ?_
        and_intros
        exact hk _ hf3
theorem den_law_is_right : Den f_law_is_right N_law_is_right.length cb_law_is_right := by
  rintro _ K ⟨feed, rfl, hf, hk⟩
  refine ⟨rfl, ?_⟩
  unfold cb_law_is_right
  (simp only [m_law_is_right, N_law_is_right, f_law_is_right, w1]; and_intros)
  refine runS_of (by simp [Arg.lends]) ⟨feed, 0, rfl, hf, by decide, fun feed1 R hf1 hR => ⟨rfl, ?_⟩⟩
  have h4 := hR.n4
  have h0 := List.length_pos_iff.mpr hR.ne
  and_intros
  rw [List.length_map]
  refine c_draw hf1 (by decide) (by omega) (by omega) fun feed2 a hf2 ha => ?_
  have ha : a < R.length := by omega
  and_intros
  refine c_draw hf2 (by decide) (by decide) (by decide) fun feed3 v3 hf3 hv3 => ?_
  and_intros
  refine c_draw hf3 (by decide) (by decide) (by decide) fun feed4 v4 hf4 hv4 => ?_
  and_intros
  refine c_pick hf4 (by decide) (by simp) (by simp) fun feed5 x hf5 hx => ?_
  obtain ⟨l, rfl, hl⟩ : ∃ l : Nat, x = nD l ∧ l ≤ 200 := by
    simp only [List.mem_cons, List.not_mem_nil, or_false] at hx
    rcases hx with rfl | rfl | rfl
    · exact ⟨v3, rfl, by omega⟩
    · exact ⟨v4, rfl, by omega⟩
    · exact ⟨200, rfl, by decide⟩
  and_intros
  refine runS_of List.nodup_nil ⟨R, l, rfl, hR, hl, ⟨rfl, ?_⟩⟩
  have er : rows R l = .list ((List.range (l + 1)).map fun j => PyData.list ((cnts R j).map lN)) := rfl
  and_intros
  have e1 : (l : Int) + 1 = ((l + 1 : Nat) : Int) := by omega
  rw [e1]
  refine ⟨⟨by omega, by omega⟩, ?_⟩
  rw [Int.toNat_natCast, rangeD_nat]
  refine compS_map (fun j => nD (Ln R j a)) (fun j hj Φ q => ?_) ?_
  · have hj : j < l + 1 := by simpa using hj
    rw [er] at q ⊢
    and_intros
    refine atS_of (rng_at hj) ?_
    and_intros
    refine atS_of (rows_at ha) ?_
    and_intros
    refine rowN_sum hR ha ?_
    and_intros
    exact q
  and_intros
  refine c_length_of hR ha hl ?_
  and_intros
  refine c_lengths_of hR ha hl ?_
  and_intros
  refine c_counts_in hR ha hl ?_
  and_intros
  refine c_seeds hR ?_
  and_intros
  refine ⟨by simp, ?_⟩
  refine atS_of rng_last ?_
  and_intros
  rw [er]
  and_intros
  refine atS_of (rows_idx (Nat.le_refl _)) ?_
  and_intros
  refine atS_of (rows_at ha) ?_
  and_intros
  refine c_law_seeds hR ?_
  and_intros
  simp only [tN_map, List.map_map]
  have smx : Sm (.list [nD (Ln R l a), .tuple ((List.range (l + 1)).map fun j => nD (Ln R j a)), .tuple ((List.range R.length).map fun o => nD (Cn R l a o)), .tuple ((seedsOf R).map pairD)]) 3 4000000 := by
    refine (Sm.list (k := 2) (n := 500000) fun d hd => ?_).mono (Nat.le_refl _) (by simp)
    simp only [List.mem_cons, List.not_mem_nil, or_false] at hd
    rcases hd with rfl | rfl | rfl | rfl
    · exact (sm_le hR ha hl (Nat.le_refl _)).mono (by decide) (by decide)
    · rw [← tN_map]
      refine (sm_tN fun x hx => ?_).mono (by decide) (by simp; omega)
      obtain ⟨j, hj, rfl⟩ := List.mem_map.mp hx
      have hj : j < l + 1 := by simpa using hj
      exact sm_le hR ha hl (Ln_mono hR ha (by omega))
    · rw [← tN_map]
      refine (sm_tN fun x hx => ?_).mono (by decide) (by simp; omega)
      obtain ⟨o, ho, rfl⟩ := List.mem_map.mp hx
      have ho : o < R.length := by simpa using ho
      exact sm_le hR ha hl (Cn_le hR ha ho)
    · have hsl : (seedsOf R).length ≤ R.length := seedsTo_len R R.length
      refine (Sm.tuple (k := 1) (n := 4000) fun d hd => ?_).mono (by decide) (by rw [List.length_map]; omega)
      obtain ⟨q, hq, rfl⟩ := List.mem_map.mp hd
      refine (Sm.tuple (k := 0) (n := 1921) fun e he => ?_).mono (by decide) (by simp)
      unfold seedsOf at hq
      obtain ⟨b, hb, hb2⟩ := List.mem_filterMap.mp hq
      have hb : b < R.length := by simpa using hb
      cases ea : again R b with
      | none => rw [ea] at hb2; cases hb2
      | some t =>
        rw [ea] at hb2
        cases hb2
        have ht : t ≤ R.length := by
          unfold again at ea
          have := List.mem_of_find?_eq_some ea
          obtain ⟨u, hu, rfl⟩ := List.mem_map.mp this
          have : u < R.length := by simpa using hu
          omega
        simp only [List.mem_cons, List.not_mem_nil, or_false] at he
        rcases he with rfl | rfl
        · exact sm_small (by omega)
        · exact sm_small (by omega)
  refine c_same (smx.shown (by decide) (by decide)) ?_
  rw [← er]
  and_intros
  refine runS_of (by simp [Arg.lends]) ⟨feed5, _, R, l, a, rfl, hf5, by decide, hR, ha, hl, fun feed6 hf6 => ⟨rfl, ?_⟩⟩
  and_intros
  refine runS_of (by simp [Arg.lends]) ⟨feed6, _, R, l, a, rfl, hf6, by decide, hR, ha, hl, fun feed7 hf7 => ⟨rfl, ?_⟩⟩
  and_intros
  refine atS_of rng_last ?_
  and_intros
  have fin : WSs (.cons (.ret (.call f_law_holding_right (.cons (.var 0) (.cons (.var 1) (.cons (.var 4) (.cons (.var 2) .nil)))))) .nil)
      [some (.own feed7 true), some (.val (ttN R)), some (.val (nD a)), some (.val (nD l)), some (.val (rows R l)), some (.val (.tuple ((List.range (l + 1)).map fun x => nD (Ln R x a)))), some (.own (.list [nD (Ln R l a), .tuple ((List.range (l + 1)).map fun x => nD (Ln R x a)), .tuple ((List.range R.length).map fun x => nD (Cn R l a x))]) false), none] (finE false [true] K) := by
    and_intros
    refine runS_of (by simp [Arg.lends]) ⟨feed7, _, R, l, a, rfl, hf7, by decide, hR, ha, hl, fun feed8 hf8 => ⟨rfl, ?_⟩⟩
    and_intros
    exact hk _
  refine br_of (fun h => ?_) (fun h => ?_)
  · have h : Ln R l a < 300 := by have := of_decide_eq_true h; omega
    and_intros
    refine runS_of List.nodup_nil ⟨R, a, l, rfl, hR, ha, hl, h, ⟨rfl, ?_⟩⟩
    and_intros
    exact fin
  · exact fin
end K87

set_option maxHeartbeats 4000000
/-! KT: growth. -/
namespace K87
open PySem L2 Vs
local macro_rules | `(tactic| and_intros) => `(tactic| try simp only [↓rdG0v, rdG0v, ↓rdG0o, rdG0o, ↓rdGs, rdGs, ↓takeG0v, takeG0v, ↓takeG0o, takeG0o, ↓takeGs, takeGs, ↓hasG0, hasG0, ↓hasGs, hasGs, ↓ownG0, ownG0, ↓ownGs, ownGs, ↓free0n, free0n, ↓free0v, free0v, ↓free0o, free0o, ↓frees, frees, ↓hass, hass, ↓has0, has0, ↓isL0, isL0, ↓isLs, isLs, ↓S_nil, S_nil, ↓S_cons, S_cons, ↓seq_nx, seq_nx, ↓seq_rt, seq_rt, ↓seq_bk, seq_bk, ↓seq_ct, seq_ct, ↓lp_nx, lp_nx, ↓lp_rt, lp_rt, ↓lp_bk, lp_bk, ↓lp_ct, lp_ct, ↓fin_rt, fin_rt, ↓fin_nx, fin_nx, ↓outs_nil, outs_nil, ↓outs_f, outs_f, ↓outs_t, outs_t, ↓S_set, S_set, ↓S_unpack, S_unpack, ↓S_par, S_par, ↓S_setIdx, S_setIdx, ↓appK_l, appK_l, ↓extK_l, extK_l, ↓extK_t, extK_t, ↓S_append, S_append, ↓S_extend, S_extend, ↓S_expr, S_expr, ↓S_ret, S_ret, ↓S_retN, S_retN, ↓S_ite, S_ite, ↓S_whl, S_whl, ↓S_forr, S_forr, ↓S_never, S_never, ↓S_pass, S_pass, ↓S_brk, S_brk, ↓S_cont, S_cont, ↓S_tryy, S_tryy, ↓W_var, W_var, ↓W_varT, W_varT, ↓W_con, W_con, ↓W_conT, W_conT, ↓negW_i, negW_i, ↓W_neg, W_neg, ↓W_not, W_not, ↓W_notT, W_notT, ↓andK_b, andK_b, ↓W_and, W_and, ↓W_andT, W_andT, ↓W_or, W_or, ↓W_orT, W_orT, ↓W_bin, W_bin, ↓W_cmp, W_cmp, ↓W_cmpT, W_cmpT, ↓W_ite, W_ite, ↓W_tup, W_tup, ↓W_lst, W_lst, ↓W_dct, W_dct, ↓W_idx, W_idx, ↓W_sli, W_sli, ↓W_comp, W_comp, ↓W_comp2, W_comp2, ↓W_call, W_call, ↓W_bi, W_bi, ↓W_isT, W_isT, ↓W_cat, W_cat, ↓W_rep, W_rep, ↓W_callT, W_callT, ↓W_biT, W_biT, ↓W_isTT, W_isTT, ↓W_idxT, W_idxT, ↓W_binT, W_binT, ↓W_compT, W_compT, ↓O_var, O_var, ↓O_con, O_con, ↓O_neg, O_neg, ↓O_not, O_not, ↓O_and, O_and, ↓O_or, O_or, ↓O_bin, O_bin, ↓O_cmp, O_cmp, ↓O_ite, O_ite, ↓O_tup, O_tup, ↓O_lst, O_lst, ↓O_dct, O_dct, ↓O_idx, O_idx, ↓O_sli, O_sli, ↓O_comp, O_comp, ↓O_comp2, O_comp2, ↓O_call, O_call, ↓O_bi, O_bi, ↓O_isT, O_isT, ↓O_cat, O_cat, ↓O_rep, O_rep, ↓on_d, on_d, ↓on_s, on_s, ↓Ws_nil, Ws_nil, ↓Ws_cons, Ws_cons, ↓Wo_nil, Wo_nil, ↓Wo_cons, Wo_cons, ↓oa_nil, oa_nil, ↓oa_cons, oa_cons, ↓Wa_nil, Wa_nil, ↓Wa_f, Wa_f, ↓Wa_t, Wa_t, ↓ao_nil, ao_nil, ↓ao_v, ao_v, ↓ao_l, ao_l, ↓Wp_no, Wp_no, ↓intK_i, intK_i, ↓Wp_one, Wp_one, ↓Wc_no, Wc_no, ↓Wc_one, Wc_one, ↓Wi_seq, Wi_seq, ↓Wi_r1, Wi_r1, ↓Wi_r2, Wi_r2, ↓Wi_r3, Wi_r3, ↓seqK_l, seqK_l, ↓seqK_t, seqK_t, ↓zipK_l, zipK_l, ↓zipK_t, zipK_t, ↓Wi_enum, Wi_enum, ↓Wi_zip, Wi_zip, ↓it_l, it_l, ↓it_t, it_t, ↓it_d, it_d, ↓tr_b, tr_b, ↓tr_i, tr_i, ↓tr_n, tr_n, ↓tr_l, tr_l, ↓tr_t, tr_t, ↓b_add, b_add, ↓b_sub, b_sub, ↓b_mul, b_mul, ↓b_fdiv, b_fdiv, ↓b_mod, b_mod, ↓b_pow, b_pow, ↓b_addT, b_addT, ↓c_lt, c_lt, ↓c_le, c_le, ↓c_gt, c_gt, ↓c_ge, c_ge, ↓c_eq, c_eq, ↓c_ne, c_ne, ↓c_eqs, c_eqs, ↓c_nes, c_nes, ↓c_eq_list, c_eq_list, ↓c_eq_tuple, c_eq_tuple, ↓c_ne_list, c_ne_list, ↓c_ne_tuple, c_ne_tuple, ↓nonB_n, nonB_n, ↓nonB_i, nonB_i, ↓nonB_b, nonB_b, ↓nonB_t, nonB_t, ↓nonB_l, nonB_l, ↓c_is, c_is, ↓c_isnot, c_isnot, ↓ix_l, ix_l, ↓ix_t, ix_t, ↓sl_l, sl_l, ↓sl_t, sl_t, ↓cat_l, cat_l, ↓rep_l, rep_l, ↓bl_l, bl_l, ↓bl_t, bl_t, ↓bl_d, bl_d, ↓bt_l, bt_l, ↓bt_t, bt_t, ↓bs_l, bs_l, ↓bs_t, bs_t, ↓bi_i, bi_i, ↓bi_b, bi_b, ↓bx2, bx2, ↓bn2, bn2, ↓babs, babs, ↓bsum, bsum, ↓bmax, bmax, ↓bmin, bmin, ↓ball, ball, ↓bany, bany, ↓bsor, bsor, ↓bdic, bdic, ↓brep, brep, ↓bd_one, bd_one, ↓bd_many, bd_many, ↓so_l, so_l, ↓br_t, br_t, ↓br_f, br_f, ↓mk_t, mk_t, ↓mk_f, mk_f, Cs.freshes, C.fresh, putPar, putAll, initE, Fn.run, argsBack, Arg.lends, wipeE, backE, valOf, Tg.slots, List.getElem?_cons_zero, List.getElem?_cons_succ, List.getElem?_nil, List.set_cons_zero, List.set_cons_succ, List.zip_cons_cons, List.zip_nil_right, List.zip_nil_left, List.length_cons, List.length_nil, List.cons_append, List.nil_append, List.append_nil, List.replicate_succ, List.replicate_zero, ↓reduceIte, Bool.false_eq_true, List.mem_cons, List.not_mem_nil, or_false, forall_eq_or_imp, forall_eq, true_and, and_true, List.nodup_nil, List.nodup_cons, Nat.zero_add, Nat.reduceAdd, Nat.reduceSub, Nat.reduceEqDiff, reduceCtorEq, not_false_eq_true, false_or, or_self, forall_const, implies_true, List.map_cons, List.map_nil, and_self, Bool.not_true, Bool.not_false, Bool.not_eq_true, decide_true, decide_false, mk_t, mk_f, false_implies, ↓free0s, free0s, ↓m_is_integer, m_is_integer, q_is_integer, ↓m_is_number, m_is_number, q_is_number, ↓m_is_index, m_is_index, q_is_index, ↓m_is_full_tuple, m_is_full_tuple, q_is_full_tuple, ↓m_are_indexes, m_are_indexes, q_are_indexes, ↓m_is_rule, m_is_rule, q_is_rule, ↓m_units_by, m_units_by, q_units_by, ↓m_added_rows, m_added_rows, q_added_rows, ↓m_counts_to, m_counts_to, q_counts_to, ↓m_counts_by, m_counts_by, q_counts_by, ↓m_lengths_to, m_lengths_to, q_lengths_to, ↓m_lengths_by, m_lengths_by, q_lengths_by, ↓m_part_with, m_part_with, q_part_with, ↓m_way_down, m_way_down, q_way_down, ↓m_word_in, m_word_in, q_word_in, ↓m_ahead_in, m_ahead_in, q_ahead_in, ↓m_place_in, m_place_in, q_place_in, ↓m_want, m_want, q_want, ↓m_want_2, m_want_2, q_want_2, ↓m_want_rule, m_want_rule, q_want_rule, ↓m_want_rule_1, m_want_rule_1, q_want_rule_1, ↓m_want_index, m_want_index, q_want_index, ↓m_word_after, m_word_after, q_word_after, ↓m_want_block, m_want_block, q_want_block, ↓m_block_of, m_block_of, q_block_of, ↓m_length_of, m_length_of, q_length_of, ↓m_lengths_of, m_lengths_of, q_lengths_of, ↓m_counts_in, m_counts_in, q_counts_in, ↓m_growth_by, m_growth_by, q_growth_by, ↓m_want_growing, m_want_growing, q_want_growing, ↓m_want_growing_1, m_want_growing_1, q_want_growing_1, ↓m_letter_at, m_letter_at, q_letter_at, ↓m_word_at, m_word_at, q_word_at, ↓m_count_before, m_count_before, q_count_before, ↓m_place_of, m_place_of, q_place_of, ↓m_path_to, m_path_to, q_path_to, ↓m_place_by, m_place_by, q_place_by, ↓m_first_again, m_first_again, q_first_again, ↓m_seeds, m_seeds, q_seeds, ↓m_level_holding, m_level_holding, q_level_holding, ↓m_law_draw, m_law_draw, q_law_draw, ↓m_law_pick, m_law_pick, q_law_pick, ↓m_law_same, m_law_same, q_law_same, ↓m_law_becomes, m_law_becomes, q_law_becomes, ↓m_law_does_grow, m_law_does_grow, q_law_does_grow, ↓m_law_grown, m_law_grown, q_law_grown, ↓m_law_any_rule, m_law_any_rule, q_law_any_rule, ↓m_law_far, m_law_far, q_law_far, ↓m_law_sums, m_law_sums, q_law_sums, ↓m_law_down, m_law_down, q_law_down, ↓m_law_found, m_law_found, q_law_found, ↓m_law_halves_right, m_law_halves_right, q_law_halves_right, ↓m_law_place_right, m_law_place_right, q_law_place_right, ↓m_law_index_right, m_law_index_right, q_law_index_right, ↓m_law_small_right, m_law_small_right, q_law_small_right, ↓m_law_seeds, m_law_seeds, q_law_seeds, ↓m_law_holding_right, m_law_holding_right, q_law_holding_right, ↓m_law_is_right, m_law_is_right, q_law_is_right])
/-! ### matrices of truth values -/
def rowsB : Nat → List (List Bool)
  | 0 => [[]]
  | n + 1 => (rowsB n).map (false :: ·) ++ (rowsB n).map (true :: ·)
theorem rowsB_mem : ∀ (r : List Bool), r ∈ rowsB r.length
  | [] => by simp [rowsB]
  | false :: r => by
    simp only [List.length_cons, rowsB, List.mem_append, List.mem_map]
    exact .inl ⟨r, rowsB_mem r, rfl⟩
  | true :: r => by
    simp only [List.length_cons, rowsB, List.mem_append, List.mem_map]
    exact .inr ⟨r, rowsB_mem r, rfl⟩
def gtB (P : List (List Bool)) (a c : Nat) : Bool := (P.getD a []).getD c false
def stepB (n : Nat) (A P : List (List Bool)) : List (List Bool) := (List.range n).map fun a => (List.range n).map fun c => (List.range n).any fun b => gtB A a b && gtB P b c
def powB (n : Nat) (A : List (List Bool)) : Nat → List (List Bool)
  | 0 => (List.range n).map fun a => (List.range n).map fun c => decide (a = c)
  | l + 1 => stepB n A (powB n A l)
def fullB (n : Nat) (P : List (List Bool)) : Bool := (List.range n).all fun a => (List.range n).all fun c => gtB P a c
theorem gt_tab {n : Nat} {f : Nat → Nat → Bool} {a c : Nat} (ha : a < n) (hc : c < n) : gtB ((List.range n).map fun a => (List.range n).map fun c => f a c) a c = f a c := by
  unfold gtB
  simp [List.getD, ha, hc]
def adj (R : List (List Nat)) : List (List Bool) := (List.range R.length).map fun a => (List.range R.length).map fun c => decide (c ∈ ltr R a)
theorem sum_pos {α : Type} {f : α → Nat} : ∀ {l : List α}, 0 < (l.map f).sum ↔ ∃ x ∈ l, 0 < f x
  | [] => by simp
  | x :: l => by
    have ih := sum_pos (f := f) (l := l)
    simp only [List.map_cons, List.sum_cons, List.mem_cons, exists_eq_or_imp]
    rw [← ih]
    omega
theorem pow_adj {R : List (List Nat)} (hR : Ok R) : ∀ (l : Nat) {a c : Nat}, a < R.length → c < R.length → gtB (powB R.length (adj R) l) a c = decide (0 < Cn R l a c)
  | 0, a, c, ha, hc => by
    unfold powB
    rw [gt_tab ha hc]
    simp only [Cn]
    by_cases h : a = c <;> simp [h]
  | l + 1, a, c, ha, hc => by
    show gtB (stepB R.length (adj R) (powB R.length (adj R) l)) a c = _
    unfold stepB
    rw [gt_tab ha hc]
    rw [Bool.eq_iff_iff, List.any_eq_true, decide_eq_true_iff]
    show _ ↔ 0 < ((ltr R a).map fun b => Cn R l b c).sum
    rw [sum_pos]
    constructor
    · rintro ⟨b, hb, h⟩
      have hb : b < R.length := by simpa using hb
      rw [Bool.and_eq_true, pow_adj hR l hb hc, decide_eq_true_iff] at h
      unfold adj at h
      rw [gt_tab ha hb, decide_eq_true_iff] at h
      exact ⟨b, h.1, h.2⟩
    · rintro ⟨b, hb, h⟩
      have hbR := (hR.bl _ (ltr_mem ha)).2.2 b hb
      refine ⟨b, by simpa using hbR, ?_⟩
      rw [Bool.and_eq_true, pow_adj hR l hbR hc]
      unfold adj
      rw [gt_tab ha hbR]
      exact ⟨decide_eq_true hb, decide_eq_true h⟩
theorem full_iff {R : List (List Nat)} (hR : Ok R) (l : Nat) : fullB R.length (powB R.length (adj R) l) = true ↔ Full R l := by
  unfold fullB Full
  simp only [List.all_eq_true, List.mem_range]
  constructor
  · intro h a c ha hc
    have := h a ha c hc
    rw [pow_adj hR l ha hc] at this
    exact of_decide_eq_true this
  · intro h a ha c hc
    rw [pow_adj hR l ha hc]
    exact decide_eq_true (h a c ha hc)
theorem full_succ {R : List (List Nat)} (hR : Ok R) {l : Nat} (h : Full R l) : Full R (l + 1) := by
  intro a c ha hc
  show 0 < ((ltr R a).map fun b => Cn R l b c).sum
  rw [sum_pos]
  obtain ⟨b, w, e⟩ := List.exists_cons_of_ne_nil (hR.bl _ (ltr_mem ha)).1
  have hb : b ∈ ltr R a := by rw [e]; simp
  exact ⟨b, hb, h b c ((hR.bl _ (ltr_mem ha)).2.2 b hb) hc⟩
theorem full_le {R : List (List Nat)} (hR : Ok R) {l m : Nat} (h : Full R l) (q : l ≤ m) : Full R m := by
  induction q with
  | refl => exact h
  | step _ ih => exact full_succ hR ih
theorem all3 : ((rowsB 3).all fun r0 => (rowsB 3).all fun r1 => (rowsB 3).all fun r2 => !fullB 3 (powB 3 [r0, r1, r2] 15) || fullB 3 (powB 3 [r0, r1, r2] 9)) = true := by decide +kernel
theorem all2 : ((rowsB 2).all fun r0 => (rowsB 2).all fun r1 => !fullB 2 (powB 2 [r0, r1] 15) || fullB 2 (powB 2 [r0, r1] 4)) = true := by decide +kernel
theorem small_full {R : List (List Nat)} (hR : Ok R) {l : Nat} (hl : l < 16) (h : Full R l) : ∃ m, m ≤ R.length * R.length ∧ Full R m := by
  have h15 : Full R 15 := full_le hR h (by omega)
  have h4 := hR.n4
  have h0 := List.length_pos_iff.mpr hR.ne
  rcases (show R.length = 1 ∨ R.length = 2 ∨ R.length = 3 ∨ R.length = 4 by omega) with e | e | e | e
  · refine ⟨0, Nat.zero_le _, fun a c ha hc => ?_⟩
    have : a = c := by omega
    simp [Cn, this]
  · have hf := (full_iff hR 15).mpr h15
    have ea : ∃ r0 r1, adj R = [r0, r1] ∧ r0.length = 2 ∧ r1.length = 2 := by
      unfold adj
      rw [e]
      exact ⟨_, _, rfl, rfl, rfl⟩
    obtain ⟨r0, r1, ea, l0, l1⟩ := ea
    have := all2
    simp only [List.all_eq_true] at this
    have := this r0 (l0 ▸ rowsB_mem r0) r1 (l1 ▸ rowsB_mem r1)
    rw [e, ea] at hf
    rw [hf] at this
    refine ⟨4, by rw [e]; decide, (full_iff hR 4).mp ?_⟩
    rw [e, ea]
    simpa using this
  · have hf := (full_iff hR 15).mpr h15
    have ea : ∃ r0 r1 r2, adj R = [r0, r1, r2] ∧ r0.length = 3 ∧ r1.length = 3 ∧ r2.length = 3 := by
      unfold adj
      rw [e]
      exact ⟨_, _, _, rfl, rfl, rfl, rfl⟩
    obtain ⟨r0, r1, r2, ea, l0, l1, l2⟩ := ea
    have := all3
    simp only [List.all_eq_true] at this
    have := this r0 (l0 ▸ rowsB_mem r0) r1 (l1 ▸ rowsB_mem r1) r2 (l2 ▸ rowsB_mem r2)
    rw [e, ea] at hf
    rw [hf] at this
    refine ⟨9, by rw [e]; decide, (full_iff hR 9).mp ?_⟩
    rw [e, ea]
    simpa using this
  · exact ⟨l, by rw [e]; omega, h⟩
end K87

set_option maxHeartbeats 4000000
/-! KU: plain laws: growth. -/
namespace K87
open PySem L2 Vs
local macro_rules | `(tactic| and_intros) => `(tactic| try simp only [↓rdG0v, rdG0v, ↓rdG0o, rdG0o, ↓rdGs, rdGs, ↓takeG0v, takeG0v, ↓takeG0o, takeG0o, ↓takeGs, takeGs, ↓hasG0, hasG0, ↓hasGs, hasGs, ↓ownG0, ownG0, ↓ownGs, ownGs, ↓free0n, free0n, ↓free0v, free0v, ↓free0o, free0o, ↓frees, frees, ↓hass, hass, ↓has0, has0, ↓isL0, isL0, ↓isLs, isLs, ↓S_nil, S_nil, ↓S_cons, S_cons, ↓seq_nx, seq_nx, ↓seq_rt, seq_rt, ↓seq_bk, seq_bk, ↓seq_ct, seq_ct, ↓lp_nx, lp_nx, ↓lp_rt, lp_rt, ↓lp_bk, lp_bk, ↓lp_ct, lp_ct, ↓fin_rt, fin_rt, ↓fin_nx, fin_nx, ↓outs_nil, outs_nil, ↓outs_f, outs_f, ↓outs_t, outs_t, ↓S_set, S_set, ↓S_unpack, S_unpack, ↓S_par, S_par, ↓S_setIdx, S_setIdx, ↓appK_l, appK_l, ↓extK_l, extK_l, ↓extK_t, extK_t, ↓S_append, S_append, ↓S_extend, S_extend, ↓S_expr, S_expr, ↓S_ret, S_ret, ↓S_retN, S_retN, ↓S_ite, S_ite, ↓S_whl, S_whl, ↓S_forr, S_forr, ↓S_never, S_never, ↓S_pass, S_pass, ↓S_brk, S_brk, ↓S_cont, S_cont, ↓S_tryy, S_tryy, ↓W_var, W_var, ↓W_varT, W_varT, ↓W_con, W_con, ↓W_conT, W_conT, ↓negW_i, negW_i, ↓W_neg, W_neg, ↓W_not, W_not, ↓W_notT, W_notT, ↓andK_b, andK_b, ↓W_and, W_and, ↓W_andT, W_andT, ↓W_or, W_or, ↓W_orT, W_orT, ↓W_bin, W_bin, ↓W_cmp, W_cmp, ↓W_cmpT, W_cmpT, ↓W_ite, W_ite, ↓W_tup, W_tup, ↓W_lst, W_lst, ↓W_dct, W_dct, ↓W_idx, W_idx, ↓W_sli, W_sli, ↓W_comp, W_comp, ↓W_comp2, W_comp2, ↓W_call, W_call, ↓W_bi, W_bi, ↓W_isT, W_isT, ↓W_cat, W_cat, ↓W_rep, W_rep, ↓W_callT, W_callT, ↓W_biT, W_biT, ↓W_isTT, W_isTT, ↓W_idxT, W_idxT, ↓W_binT, W_binT, ↓W_compT, W_compT, ↓O_var, O_var, ↓O_con, O_con, ↓O_neg, O_neg, ↓O_not, O_not, ↓O_and, O_and, ↓O_or, O_or, ↓O_bin, O_bin, ↓O_cmp, O_cmp, ↓O_ite, O_ite, ↓O_tup, O_tup, ↓O_lst, O_lst, ↓O_dct, O_dct, ↓O_idx, O_idx, ↓O_sli, O_sli, ↓O_comp, O_comp, ↓O_comp2, O_comp2, ↓O_call, O_call, ↓O_bi, O_bi, ↓O_isT, O_isT, ↓O_cat, O_cat, ↓O_rep, O_rep, ↓on_d, on_d, ↓on_s, on_s, ↓Ws_nil, Ws_nil, ↓Ws_cons, Ws_cons, ↓Wo_nil, Wo_nil, ↓Wo_cons, Wo_cons, ↓oa_nil, oa_nil, ↓oa_cons, oa_cons, ↓Wa_nil, Wa_nil, ↓Wa_f, Wa_f, ↓Wa_t, Wa_t, ↓ao_nil, ao_nil, ↓ao_v, ao_v, ↓ao_l, ao_l, ↓Wp_no, Wp_no, ↓intK_i, intK_i, ↓Wp_one, Wp_one, ↓Wc_no, Wc_no, ↓Wc_one, Wc_one, ↓Wi_seq, Wi_seq, ↓Wi_r1, Wi_r1, ↓Wi_r2, Wi_r2, ↓Wi_r3, Wi_r3, ↓seqK_l, seqK_l, ↓seqK_t, seqK_t, ↓zipK_l, zipK_l, ↓zipK_t, zipK_t, ↓Wi_enum, Wi_enum, ↓Wi_zip, Wi_zip, ↓it_l, it_l, ↓it_t, it_t, ↓it_d, it_d, ↓tr_b, tr_b, ↓tr_i, tr_i, ↓tr_n, tr_n, ↓tr_l, tr_l, ↓tr_t, tr_t, ↓b_add, b_add, ↓b_sub, b_sub, ↓b_mul, b_mul, ↓b_fdiv, b_fdiv, ↓b_mod, b_mod, ↓b_pow, b_pow, ↓b_addT, b_addT, ↓c_lt, c_lt, ↓c_le, c_le, ↓c_gt, c_gt, ↓c_ge, c_ge, ↓c_eq, c_eq, ↓c_ne, c_ne, ↓c_eqs, c_eqs, ↓c_nes, c_nes, ↓c_eq_list, c_eq_list, ↓c_eq_tuple, c_eq_tuple, ↓c_ne_list, c_ne_list, ↓c_ne_tuple, c_ne_tuple, ↓nonB_n, nonB_n, ↓nonB_i, nonB_i, ↓nonB_b, nonB_b, ↓nonB_t, nonB_t, ↓nonB_l, nonB_l, ↓c_is, c_is, ↓c_isnot, c_isnot, ↓ix_l, ix_l, ↓ix_t, ix_t, ↓sl_l, sl_l, ↓sl_t, sl_t, ↓cat_l, cat_l, ↓rep_l, rep_l, ↓bl_l, bl_l, ↓bl_t, bl_t, ↓bl_d, bl_d, ↓bt_l, bt_l, ↓bt_t, bt_t, ↓bs_l, bs_l, ↓bs_t, bs_t, ↓bi_i, bi_i, ↓bi_b, bi_b, ↓bx2, bx2, ↓bn2, bn2, ↓babs, babs, ↓bsum, bsum, ↓bmax, bmax, ↓bmin, bmin, ↓ball, ball, ↓bany, bany, ↓bsor, bsor, ↓bdic, bdic, ↓brep, brep, ↓bd_one, bd_one, ↓bd_many, bd_many, ↓so_l, so_l, ↓br_t, br_t, ↓br_f, br_f, ↓mk_t, mk_t, ↓mk_f, mk_f, Cs.freshes, C.fresh, putPar, putAll, initE, Fn.run, argsBack, Arg.lends, wipeE, backE, valOf, Tg.slots, List.getElem?_cons_zero, List.getElem?_cons_succ, List.getElem?_nil, List.set_cons_zero, List.set_cons_succ, List.zip_cons_cons, List.zip_nil_right, List.zip_nil_left, List.length_cons, List.length_nil, List.cons_append, List.nil_append, List.append_nil, List.replicate_succ, List.replicate_zero, ↓reduceIte, Bool.false_eq_true, List.mem_cons, List.not_mem_nil, or_false, forall_eq_or_imp, forall_eq, true_and, and_true, List.nodup_nil, List.nodup_cons, Nat.zero_add, Nat.reduceAdd, Nat.reduceSub, Nat.reduceEqDiff, reduceCtorEq, not_false_eq_true, false_or, or_self, forall_const, implies_true, List.map_cons, List.map_nil, and_self, Bool.not_true, Bool.not_false, Bool.not_eq_true, decide_true, decide_false, mk_t, mk_f, false_implies, ↓free0s, free0s, ↓m_is_integer, m_is_integer, q_is_integer, ↓m_is_number, m_is_number, q_is_number, ↓m_is_index, m_is_index, q_is_index, ↓m_is_full_tuple, m_is_full_tuple, q_is_full_tuple, ↓m_are_indexes, m_are_indexes, q_are_indexes, ↓m_is_rule, m_is_rule, q_is_rule, ↓m_units_by, m_units_by, q_units_by, ↓m_added_rows, m_added_rows, q_added_rows, ↓m_counts_to, m_counts_to, q_counts_to, ↓m_counts_by, m_counts_by, q_counts_by, ↓m_lengths_to, m_lengths_to, q_lengths_to, ↓m_lengths_by, m_lengths_by, q_lengths_by, ↓m_part_with, m_part_with, q_part_with, ↓m_way_down, m_way_down, q_way_down, ↓m_word_in, m_word_in, q_word_in, ↓m_ahead_in, m_ahead_in, q_ahead_in, ↓m_place_in, m_place_in, q_place_in, ↓m_want, m_want, q_want, ↓m_want_2, m_want_2, q_want_2, ↓m_want_rule, m_want_rule, q_want_rule, ↓m_want_rule_1, m_want_rule_1, q_want_rule_1, ↓m_want_index, m_want_index, q_want_index, ↓m_word_after, m_word_after, q_word_after, ↓m_want_block, m_want_block, q_want_block, ↓m_block_of, m_block_of, q_block_of, ↓m_length_of, m_length_of, q_length_of, ↓m_lengths_of, m_lengths_of, q_lengths_of, ↓m_counts_in, m_counts_in, q_counts_in, ↓m_growth_by, m_growth_by, q_growth_by, ↓m_want_growing, m_want_growing, q_want_growing, ↓m_want_growing_1, m_want_growing_1, q_want_growing_1, ↓m_letter_at, m_letter_at, q_letter_at, ↓m_word_at, m_word_at, q_word_at, ↓m_count_before, m_count_before, q_count_before, ↓m_place_of, m_place_of, q_place_of, ↓m_path_to, m_path_to, q_path_to, ↓m_place_by, m_place_by, q_place_by, ↓m_first_again, m_first_again, q_first_again, ↓m_seeds, m_seeds, q_seeds, ↓m_level_holding, m_level_holding, q_level_holding, ↓m_law_draw, m_law_draw, q_law_draw, ↓m_law_pick, m_law_pick, q_law_pick, ↓m_law_same, m_law_same, q_law_same, ↓m_law_becomes, m_law_becomes, q_law_becomes, ↓m_law_does_grow, m_law_does_grow, q_law_does_grow, ↓m_law_grown, m_law_grown, q_law_grown, ↓m_law_any_rule, m_law_any_rule, q_law_any_rule, ↓m_law_far, m_law_far, q_law_far, ↓m_law_sums, m_law_sums, q_law_sums, ↓m_law_down, m_law_down, q_law_down, ↓m_law_found, m_law_found, q_law_found, ↓m_law_halves_right, m_law_halves_right, q_law_halves_right, ↓m_law_place_right, m_law_place_right, q_law_place_right, ↓m_law_index_right, m_law_index_right, q_law_index_right, ↓m_law_small_right, m_law_small_right, q_law_small_right, ↓m_law_seeds, m_law_seeds, q_law_seeds, ↓m_law_holding_right, m_law_holding_right, q_law_holding_right, ↓m_law_is_right, m_law_is_right, q_law_is_right])
def ddF (s l : List Nat) : List Nat := l.foldl (fun s x => if x ∈ s then s else s ++ [x]) s
def encS (s : List Nat) : List (Key × PyData) := s.map fun (x : Nat) => (Sum.inl (x : Int), PyData.bool true)
abbrev setD (s : List Nat) : PyData := .dict (encK (encS s))
theorem ddF_ok : ∀ (l s : List Nat), s.Nodup → (ddF s l).Nodup ∧ ∀ x, x ∈ ddF s l ↔ x ∈ s ∨ x ∈ l
  | [], s, h => ⟨h, fun x => by simp [ddF]⟩
  | y :: l, s, h => by
    show (ddF (if y ∈ s then s else s ++ [y]) l).Nodup ∧ ∀ x, x ∈ ddF (if y ∈ s then s else s ++ [y]) l ↔ x ∈ s ∨ x ∈ y :: l
    by_cases hy : y ∈ s
    · rw [if_pos hy]
      obtain ⟨a, b⟩ := ddF_ok l s h
      refine ⟨a, fun x => ?_⟩
      rw [b x, List.mem_cons]
      constructor
      · rintro (q | q)
        · exact .inl q
        · exact .inr (.inr q)
      · rintro (q | rfl | q)
        · exact .inl q
        · exact .inl hy
        · exact .inr q
    · rw [if_neg hy]
      have hn : (s ++ [y]).Nodup := by
        rw [List.nodup_append]
        refine ⟨h, by simp, fun a ha b hb e => ?_⟩
        have : b = y := by simpa using hb
        subst this; subst e
        exact hy ha
      obtain ⟨a, b⟩ := ddF_ok l (s ++ [y]) hn
      refine ⟨a, fun x => ?_⟩
      simp only [b x, List.mem_append, List.mem_cons, List.not_mem_nil, or_false]
      constructor
      · rintro ((q | q) | q)
        · exact .inl q
        · exact .inr (.inl q)
        · exact .inr (.inr q)
      · rintro (q | q | q)
        · exact .inl (.inl q)
        · exact .inl (.inr q)
        · exact .inr q
theorem put_enc (s : List Nat) (y : Nat) : putG (encS s) (.inl (y : Int)) (.bool true) = encS (if y ∈ s then s else s ++ [y]) := by
  unfold putG
  have ha : ((encS s).any fun p => decide (p.1 = Sum.inl (y : Int))) = decide (y ∈ s) := by
    rw [Bool.eq_iff_iff, List.any_eq_true, decide_eq_true_iff]
    unfold encS
    constructor
    · rintro ⟨p, hp, e⟩
      obtain ⟨x, hx, rfl⟩ := List.mem_map.mp hp
      have : (x : Int) = (y : Int) := by simpa using e
      have : x = y := by omega
      rw [← this]; exact hx
    · intro h
      exact ⟨_, List.mem_map.mpr ⟨y, h, rfl⟩, by simp⟩
  rw [ha]
  by_cases hy : y ∈ s
  · rw [if_pos hy, decide_eq_true hy, if_pos rfl]
    unfold encS
    rw [List.map_map]
    apply List.map_congr_left
    intro x _
    show (if Sum.inl (x : Int) = Sum.inl (y : Int) then _ else _) = _
    split <;> rfl
  · rw [if_neg hy, decide_eq_false hy, if_neg (by decide)]
    unfold encS
    rw [List.map_append]
    rfl
theorem merge_enc : ∀ (l s : List Nat), mergeG (encS s) (encS l) = encS (ddF s l)
  | [], s => rfl
  | y :: l, s => by
    show mergeG (putG (encS s) (.inl (y : Int)) (.bool true)) (encS l) = _
    rw [put_enc, merge_enc l]
    rfl
theorem keys_enc (s : List Nat) : (encK (encS s)).map (·.1) = s.map nD := by
  unfold encK encS
  rw [List.map_map, List.map_map]
  rfl
theorem len_enc (s : List Nat) : (encK (encS s)).length = s.length := by simp [encK, encS]
theorem sub_len : ∀ (l1 l2 : List Nat), l1.Nodup → (∀ x ∈ l1, x ∈ l2) → l1.length ≤ l2.length
  | [], l2, _, _ => by simp
  | x :: l1, l2, hn, h => by
    obtain ⟨h1, h2⟩ := List.nodup_cons.mp hn
    have hx := h x (by simp)
    have := sub_len l1 (l2.erase x) h2 fun y hy => by
      have hne : y ≠ x := fun e => h1 (e ▸ hy)
      exact (List.mem_erase_of_ne hne).mpr (h y (by simp [hy]))
    rw [List.length_erase_of_mem hx] at this
    have hl : 0 < l2.length := List.length_pos_of_mem hx
    rw [List.length_cons]
    omega
/-- s holds, for every letter, the letters of its block -/
def Sets (R : List (List Nat)) (i : Nat) (s : Nat → List Nat) : Prop := ∀ a, a < R.length → (s a).Nodup ∧ ∀ c, c ∈ s a ↔ c < R.length ∧ 0 < Cn R i a c
theorem Sets.len {R : List (List Nat)} {i : Nat} {s : Nat → List Nat} (h : Sets R i s) {a : Nat} (ha : a < R.length) : (s a).length ≤ R.length := nodup_lt _ _ (h a ha).1 fun x hx => (((h a ha).2 x).mp hx).1
theorem Sets.full {R : List (List Nat)} {i : Nat} {s : Nat → List Nat} (h : Sets R i s) (hf : Full R i) {a : Nat} (ha : a < R.length) : (s a).length = R.length := by
  have h1 := h.len ha
  have h2 := sub_len (List.range R.length) (s a) List.nodup_range fun x hx => ((h a ha).2 x).mpr ⟨by simpa using hx, hf a x ha (by simpa using hx)⟩
  rw [List.length_range] at h2
  omega
theorem sets_zero (R : List (List Nat)) : Sets R 0 fun a => [a] := fun a ha => ⟨by simp, fun c => by
  simp only [List.mem_singleton, Cn]
  constructor
  · rintro rfl
    exact ⟨ha, by simp⟩
  · rintro ⟨_, h⟩
    by_cases e : a = c
    · exact e.symm
    · simp [e] at h⟩
theorem sets_succ {R : List (List Nat)} (hR : Ok R) {i : Nat} {s : Nat → List Nat} (h : Sets R i s) : Sets R (i + 1) fun a => ddF [] ((ltr R a).flatMap s) := fun a ha => by
  obtain ⟨h1, h2⟩ := ddF_ok ((ltr R a).flatMap s) [] List.nodup_nil
  refine ⟨h1, fun c => ?_⟩
  rw [h2 c]
  show _ ↔ c < R.length ∧ 0 < ((ltr R a).map fun b => Cn R i b c).sum
  rw [sum_pos]
  simp only [List.not_mem_nil, false_or, List.mem_flatMap]
  constructor
  · rintro ⟨b, hb, hc⟩
    have := ((h b ((hR.bl _ (ltr_mem ha)).2.2 b hb)).2 c).mp hc
    exact ⟨this.1, b, hb, this.2⟩
  · rintro ⟨hc, b, hb, hp⟩
    exact ⟨b, hb, ((h b ((hR.bl _ (ltr_mem ha)).2.2 b hb)).2 c).mpr ⟨hc, hp⟩⟩
theorem maxS_nat {ns : List Nat} {k : PyData → Prop} {h : Held k} (h0 : 0 < ns.length) (q : ∀ m : Nat, m ∈ ns → (∀ y ∈ ns, y ≤ m) → k (nD m)) : maxS (ns.map nD) k h := by
  refine ⟨ns.map fun x => ((x : Nat) : Int), by simp [intsD], by simpa using h0, fun m hm hmax => ?_⟩
  obtain ⟨x, hx, rfl⟩ := List.mem_map.mp hm
  refine q x hx fun y hy => ?_
  have := hmax _ (List.mem_map.mpr ⟨y, hy, rfl⟩)
  omega
theorem minS_list {ns : List Nat} {k : PyData → Prop} {h : Held k} (h0 : 0 < ns.length) (q : ∀ m : Nat, m ∈ ns → (∀ y ∈ ns, m ≤ y) → k (nD m)) : minS (ns.map nD) k h := by
  refine ⟨ns.map fun x => ((x : Nat) : Int), by simp [intsD], by simpa using h0, fun m hm hmax => ?_⟩
  obtain ⟨x, hx, rfl⟩ := List.mem_map.mp hm
  refine q x hx fun y hy => ?_
  have := hmax _ (List.mem_map.mpr ⟨y, hy, rfl⟩)
  omega
theorem den_growth_by : Den f_growth_by N_growth_by.length cb_growth_by := by
  rintro _ K ⟨R, rfl, hR, ⟨⟨b0, hb0, hb2⟩, lv, hlv, hfull⟩, hk⟩
  refine ⟨rfl, ?_⟩
  unfold cb_growth_by
  (simp only [m_growth_by, N_growth_by, f_growth_by, v1]; and_intros)
  have h4 := hR.n4
  have h0 := List.length_pos_iff.mpr hR.ne
  refine compS_map (fun b => nD b.length) (fun b hb Φ q => ?_) ?_
  · and_intros
    rw [List.length_map]
    exact q
  and_intros
  have em : (R.map fun b => nD b.length) = (R.map List.length).map nD := by rw [List.map_map]; rfl
  rw [em]
  refine maxS_nat (by simpa using h0) fun m hm hmax => ?_
  have hm2 : 2 ≤ m := Nat.le_trans hb2 (hmax _ (List.mem_map.mpr ⟨b0, hb0, rfl⟩))
  and_intros
  rw [show decide ((m : Int) < 2) = false from decide_eq_false (by omega)]
  and_intros
  rw [List.length_map]
  refine ⟨⟨by omega, by omega⟩, ?_⟩
  rw [Int.toNat_natCast, rangeD_nat]
  refine compS_map (fun a => setD [a]) (fun a ha Φ q => ?_) ?_
  · and_intros
    exact ⟨[(.inl (a : Int), .bool true)], rfl, by simp, by and_intros; exact q⟩
  and_intros
  refine ⟨.inl ⟨by omega, by omega⟩, ?_⟩
  obtain ⟨m0, hm0, hf0⟩ := small_full hR hlv hfull
  have e1 : (R.length : Int) * (R.length : Int) + 1 = ((R.length * R.length + 1 : Nat) : Int) := by simp
  have hsq : R.length * R.length ≤ 4 * 4 := Nat.mul_le_mul h4 h4
  rw [e1]
  refine ⟨⟨by omega, by omega⟩, ?_⟩
  rw [Int.toNat_natCast, rangeD_nat]
  refine forS_ind (fun i ρ => ∃ (o1 : Option PyData) (s : Nat → List Nat), ρ = [some (.val (ttN R)), some (.val (nD R.length)), some (.own (.list ((List.range R.length).map fun a => setD (s a))) false), vS o1, none, none, none, none] ∧ Sets R i s ∧ ∀ j, j < i → ¬ Full R j) ⟨none, fun a => [a], rfl, sets_zero R, fun j hj => by omega⟩ ?_ ?_
  · rintro i d ρ Φ hd ⟨o1, s, rfl, hs, hnf⟩ hΦ
    obtain ⟨hi, rfl⟩ := rng_get hd
    and_intros
    refine compS_map (fun a => nD (s a).length) (fun a ha Φ2 q2 => ?_) ?_
    · and_intros
      rw [len_enc]
      exact q2
    and_intros
    have em2 : ((List.range R.length).map fun a => nD (s a).length) = ((List.range R.length).map fun a => (s a).length).map nD := by rw [List.map_map]; rfl
    rw [em2]
    refine minS_list (by simpa using h0) fun m hm hmin => ?_
    and_intros
    refine br_of (fun h => ?_) (fun h => ?_)
    · and_intros
      exact hk i
    · have h : m ≠ R.length := by have := of_decide_eq_false h; omega
      have nf : ¬ Full R i := fun hf => by
        obtain ⟨a, ha, rfl⟩ := List.mem_map.mp hm
        exact h (hs.full hf (by simpa using ha))
      and_intros
      refine compS_map (fun b => setD (ddF [] (b.flatMap s))) (fun b hb Φ2 q2 => ?_) ?_
      · have hb4 := hR.bl b hb
        and_intros
        have hlen : (b.flatMap s).length ≤ 16 := by
          have : ∀ w : List Nat, (∀ x ∈ w, x < R.length) → (w.flatMap s).length ≤ 4 * w.length := fun w => by
            induction w with
            | nil => intro _; simp
            | cons x w ih =>
              intro hw
              have := ih fun y hy => hw y (by simp [hy])
              have := hs.len (hw x (by simp))
              rw [List.flatMap_cons, List.length_append, List.length_cons]
              omega
          have := this b hb4.2.2
          omega
        refine comp2S_flat (g1 := nD) s (fun x y => .tuple [nD y, .bool true]) (fun x => [some (.val (ttN R)), some (.val (nD R.length)), some (.val (.list ((List.range R.length).map fun a => setD (s a)))), some (.val (nD i)), some (.val (tN b)), some (.val (nD x)), none, none]) ?_ (fun x hx Φ3 q3 => ?_) (fun x hx y hy Φ3 q3 => ?_) (fun x hx => ?_) ?_
        · have : (b.flatMap fun x => (s x).map fun y => PyData.tuple [nD y, .bool true]).length = (b.flatMap s).length := by
            rw [← map_flat (fun y => PyData.tuple [nD y, .bool true]), List.length_map]
          rw [this]; omega
        · have hxR := hb4.2.2 x hx
          and_intros
          refine atS_of (rng_at hxR) ?_
          and_intros
          rw [keys_enc]
          exact q3
        · and_intros
          exact q3
        · rfl
        · and_intros
          rw [← map_flat (fun y => PyData.tuple [nD y, .bool true])]
          refine ⟨encS (b.flatMap s), ?_, by unfold encS; rw [List.length_map]; omega, ?_⟩
          · unfold encS
            rw [List.map_map]
            rfl
          · have := merge_enc (b.flatMap s) []
            rw [show mergeG [] (encS (b.flatMap s)) = encS (ddF [] (b.flatMap s)) from this]
            and_intros
            exact q2
      · and_intros
        refine hΦ _ ⟨some (nD i), fun a => ddF [] ((ltr R a).flatMap s), ?_, sets_succ hR hs, fun j hj => ?_⟩
        · rw [← map_ltr R (fun b => setD (ddF [] (b.flatMap s)))]
          rfl
        · by_cases e : j = i
          · subst e; exact nf
          · exact hnf j (by omega)
  · rintro ρ ⟨o1, s, rfl, hs, hnf⟩
    have e2 : ((List.range (R.length * R.length + 1)).map nD).length = R.length * R.length + 1 := by simp
    rw [e2] at hnf
    exact absurd hf0 (hnf m0 (by omega))
end K87

set_option maxHeartbeats 4000000
/-! KV: plain laws: the law's growth. -/
namespace K87
open PySem L2 Vs
local macro_rules | `(tactic| and_intros) => `(tactic| try simp only [↓rdG0v, rdG0v, ↓rdG0o, rdG0o, ↓rdGs, rdGs, ↓takeG0v, takeG0v, ↓takeG0o, takeG0o, ↓takeGs, takeGs, ↓hasG0, hasG0, ↓hasGs, hasGs, ↓ownG0, ownG0, ↓ownGs, ownGs, ↓free0n, free0n, ↓free0v, free0v, ↓free0o, free0o, ↓frees, frees, ↓hass, hass, ↓has0, has0, ↓isL0, isL0, ↓isLs, isLs, ↓S_nil, S_nil, ↓S_cons, S_cons, ↓seq_nx, seq_nx, ↓seq_rt, seq_rt, ↓seq_bk, seq_bk, ↓seq_ct, seq_ct, ↓lp_nx, lp_nx, ↓lp_rt, lp_rt, ↓lp_bk, lp_bk, ↓lp_ct, lp_ct, ↓fin_rt, fin_rt, ↓fin_nx, fin_nx, ↓outs_nil, outs_nil, ↓outs_f, outs_f, ↓outs_t, outs_t, ↓S_set, S_set, ↓S_unpack, S_unpack, ↓S_par, S_par, ↓S_setIdx, S_setIdx, ↓appK_l, appK_l, ↓extK_l, extK_l, ↓extK_t, extK_t, ↓S_append, S_append, ↓S_extend, S_extend, ↓S_expr, S_expr, ↓S_ret, S_ret, ↓S_retN, S_retN, ↓S_ite, S_ite, ↓S_whl, S_whl, ↓S_forr, S_forr, ↓S_never, S_never, ↓S_pass, S_pass, ↓S_brk, S_brk, ↓S_cont, S_cont, ↓S_tryy, S_tryy, ↓W_var, W_var, ↓W_varT, W_varT, ↓W_con, W_con, ↓W_conT, W_conT, ↓negW_i, negW_i, ↓W_neg, W_neg, ↓W_not, W_not, ↓W_notT, W_notT, ↓andK_b, andK_b, ↓W_and, W_and, ↓W_andT, W_andT, ↓W_or, W_or, ↓W_orT, W_orT, ↓W_bin, W_bin, ↓W_cmp, W_cmp, ↓W_cmpT, W_cmpT, ↓W_ite, W_ite, ↓W_tup, W_tup, ↓W_lst, W_lst, ↓W_dct, W_dct, ↓W_idx, W_idx, ↓W_sli, W_sli, ↓W_comp, W_comp, ↓W_comp2, W_comp2, ↓W_call, W_call, ↓W_bi, W_bi, ↓W_isT, W_isT, ↓W_cat, W_cat, ↓W_rep, W_rep, ↓W_callT, W_callT, ↓W_biT, W_biT, ↓W_isTT, W_isTT, ↓W_idxT, W_idxT, ↓W_binT, W_binT, ↓W_compT, W_compT, ↓O_var, O_var, ↓O_con, O_con, ↓O_neg, O_neg, ↓O_not, O_not, ↓O_and, O_and, ↓O_or, O_or, ↓O_bin, O_bin, ↓O_cmp, O_cmp, ↓O_ite, O_ite, ↓O_tup, O_tup, ↓O_lst, O_lst, ↓O_dct, O_dct, ↓O_idx, O_idx, ↓O_sli, O_sli, ↓O_comp, O_comp, ↓O_comp2, O_comp2, ↓O_call, O_call, ↓O_bi, O_bi, ↓O_isT, O_isT, ↓O_cat, O_cat, ↓O_rep, O_rep, ↓on_d, on_d, ↓on_s, on_s, ↓Ws_nil, Ws_nil, ↓Ws_cons, Ws_cons, ↓Wo_nil, Wo_nil, ↓Wo_cons, Wo_cons, ↓oa_nil, oa_nil, ↓oa_cons, oa_cons, ↓Wa_nil, Wa_nil, ↓Wa_f, Wa_f, ↓Wa_t, Wa_t, ↓ao_nil, ao_nil, ↓ao_v, ao_v, ↓ao_l, ao_l, ↓Wp_no, Wp_no, ↓intK_i, intK_i, ↓Wp_one, Wp_one, ↓Wc_no, Wc_no, ↓Wc_one, Wc_one, ↓Wi_seq, Wi_seq, ↓Wi_r1, Wi_r1, ↓Wi_r2, Wi_r2, ↓Wi_r3, Wi_r3, ↓seqK_l, seqK_l, ↓seqK_t, seqK_t, ↓zipK_l, zipK_l, ↓zipK_t, zipK_t, ↓Wi_enum, Wi_enum, ↓Wi_zip, Wi_zip, ↓it_l, it_l, ↓it_t, it_t, ↓it_d, it_d, ↓tr_b, tr_b, ↓tr_i, tr_i, ↓tr_n, tr_n, ↓tr_l, tr_l, ↓tr_t, tr_t, ↓b_add, b_add, ↓b_sub, b_sub, ↓b_mul, b_mul, ↓b_fdiv, b_fdiv, ↓b_mod, b_mod, ↓b_pow, b_pow, ↓b_addT, b_addT, ↓c_lt, c_lt, ↓c_le, c_le, ↓c_gt, c_gt, ↓c_ge, c_ge, ↓c_eq, c_eq, ↓c_ne, c_ne, ↓c_eqs, c_eqs, ↓c_nes, c_nes, ↓c_eq_list, c_eq_list, ↓c_eq_tuple, c_eq_tuple, ↓c_ne_list, c_ne_list, ↓c_ne_tuple, c_ne_tuple, ↓nonB_n, nonB_n, ↓nonB_i, nonB_i, ↓nonB_b, nonB_b, ↓nonB_t, nonB_t, ↓nonB_l, nonB_l, ↓c_is, c_is, ↓c_isnot, c_isnot, ↓ix_l, ix_l, ↓ix_t, ix_t, ↓sl_l, sl_l, ↓sl_t, sl_t, ↓cat_l, cat_l, ↓rep_l, rep_l, ↓bl_l, bl_l, ↓bl_t, bl_t, ↓bl_d, bl_d, ↓bt_l, bt_l, ↓bt_t, bt_t, ↓bs_l, bs_l, ↓bs_t, bs_t, ↓bi_i, bi_i, ↓bi_b, bi_b, ↓bx2, bx2, ↓bn2, bn2, ↓babs, babs, ↓bsum, bsum, ↓bmax, bmax, ↓bmin, bmin, ↓ball, ball, ↓bany, bany, ↓bsor, bsor, ↓bdic, bdic, ↓brep, brep, ↓bd_one, bd_one, ↓bd_many, bd_many, ↓so_l, so_l, ↓br_t, br_t, ↓br_f, br_f, ↓mk_t, mk_t, ↓mk_f, mk_f, Cs.freshes, C.fresh, putPar, putAll, initE, Fn.run, argsBack, Arg.lends, wipeE, backE, valOf, Tg.slots, List.getElem?_cons_zero, List.getElem?_cons_succ, List.getElem?_nil, List.set_cons_zero, List.set_cons_succ, List.zip_cons_cons, List.zip_nil_right, List.zip_nil_left, List.length_cons, List.length_nil, List.cons_append, List.nil_append, List.append_nil, List.replicate_succ, List.replicate_zero, ↓reduceIte, Bool.false_eq_true, List.mem_cons, List.not_mem_nil, or_false, forall_eq_or_imp, forall_eq, true_and, and_true, List.nodup_nil, List.nodup_cons, Nat.zero_add, Nat.reduceAdd, Nat.reduceSub, Nat.reduceEqDiff, reduceCtorEq, not_false_eq_true, false_or, or_self, forall_const, implies_true, List.map_cons, List.map_nil, and_self, Bool.not_true, Bool.not_false, Bool.not_eq_true, decide_true, decide_false, mk_t, mk_f, false_implies, ↓free0s, free0s, ↓m_is_integer, m_is_integer, q_is_integer, ↓m_is_number, m_is_number, q_is_number, ↓m_is_index, m_is_index, q_is_index, ↓m_is_full_tuple, m_is_full_tuple, q_is_full_tuple, ↓m_are_indexes, m_are_indexes, q_are_indexes, ↓m_is_rule, m_is_rule, q_is_rule, ↓m_units_by, m_units_by, q_units_by, ↓m_added_rows, m_added_rows, q_added_rows, ↓m_counts_to, m_counts_to, q_counts_to, ↓m_counts_by, m_counts_by, q_counts_by, ↓m_lengths_to, m_lengths_to, q_lengths_to, ↓m_lengths_by, m_lengths_by, q_lengths_by, ↓m_part_with, m_part_with, q_part_with, ↓m_way_down, m_way_down, q_way_down, ↓m_word_in, m_word_in, q_word_in, ↓m_ahead_in, m_ahead_in, q_ahead_in, ↓m_place_in, m_place_in, q_place_in, ↓m_want, m_want, q_want, ↓m_want_2, m_want_2, q_want_2, ↓m_want_rule, m_want_rule, q_want_rule, ↓m_want_rule_1, m_want_rule_1, q_want_rule_1, ↓m_want_index, m_want_index, q_want_index, ↓m_word_after, m_word_after, q_word_after, ↓m_want_block, m_want_block, q_want_block, ↓m_block_of, m_block_of, q_block_of, ↓m_length_of, m_length_of, q_length_of, ↓m_lengths_of, m_lengths_of, q_lengths_of, ↓m_counts_in, m_counts_in, q_counts_in, ↓m_growth_by, m_growth_by, q_growth_by, ↓m_want_growing, m_want_growing, q_want_growing, ↓m_want_growing_1, m_want_growing_1, q_want_growing_1, ↓m_letter_at, m_letter_at, q_letter_at, ↓m_word_at, m_word_at, q_word_at, ↓m_count_before, m_count_before, q_count_before, ↓m_place_of, m_place_of, q_place_of, ↓m_path_to, m_path_to, q_path_to, ↓m_place_by, m_place_by, q_place_by, ↓m_first_again, m_first_again, q_first_again, ↓m_seeds, m_seeds, q_seeds, ↓m_level_holding, m_level_holding, q_level_holding, ↓m_law_draw, m_law_draw, q_law_draw, ↓m_law_pick, m_law_pick, q_law_pick, ↓m_law_same, m_law_same, q_law_same, ↓m_law_becomes, m_law_becomes, q_law_becomes, ↓m_law_does_grow, m_law_does_grow, q_law_does_grow, ↓m_law_grown, m_law_grown, q_law_grown, ↓m_law_any_rule, m_law_any_rule, q_law_any_rule, ↓m_law_far, m_law_far, q_law_far, ↓m_law_sums, m_law_sums, q_law_sums, ↓m_law_down, m_law_down, q_law_down, ↓m_law_found, m_law_found, q_law_found, ↓m_law_halves_right, m_law_halves_right, q_law_halves_right, ↓m_law_place_right, m_law_place_right, q_law_place_right, ↓m_law_index_right, m_law_index_right, q_law_index_right, ↓m_law_small_right, m_law_small_right, q_law_small_right, ↓m_law_seeds, m_law_seeds, q_law_seeds, ↓m_law_holding_right, m_law_holding_right, q_law_holding_right, ↓m_law_is_right, m_law_is_right, q_law_is_right])
theorem mem_blk {R : List (List Nat)} (hR : Ok R) : ∀ (l : Nat) {a c : Nat}, a < R.length → (c ∈ blk R l a ↔ 0 < Cn R l a c)
  | 0, a, c, ha => by
    simp only [blk, List.mem_singleton, Cn]
    constructor
    · rintro rfl; simp
    · intro h
      by_cases e : a = c
      · exact e.symm
      · simp [e] at h
  | l + 1, a, c, ha => by
    rw [blk_succ, List.mem_flatMap]
    show _ ↔ 0 < ((ltr R a).map fun b => Cn R l b c).sum
    rw [sum_pos]
    constructor
    · rintro ⟨b, hb, hc⟩
      exact ⟨b, hb, (mem_blk hR l ((hR.bl _ (ltr_mem ha)).2.2 b hb)).mp hc⟩
    · rintro ⟨b, hb, hc⟩
      exact ⟨b, hb, (mem_blk hR l ((hR.bl _ (ltr_mem ha)).2.2 b hb)).mpr hc⟩
theorem fwd {R : List (List Nat)} (hR : Ok R) {l a c : Nat} (ha : a < R.length) : 0 < Cn R (l + 1) a c ↔ ∃ x, 0 < Cn R l a x ∧ c ∈ ltr R x := by
  rw [← mem_blk hR (l + 1) ha]
  show c ∈ (blk R l a).flatMap (ltr R) ↔ _
  rw [List.mem_flatMap]
  constructor
  · rintro ⟨x, hx, hc⟩
    exact ⟨x, (mem_blk hR l ha).mp hx, hc⟩
  · rintro ⟨x, hx, hc⟩
    exact ⟨x, (mem_blk hR l ha).mpr hx, hc⟩
theorem nat_list : ∀ {ms : List Int}, (∀ x ∈ ms, 0 ≤ x) → ∃ ns : List Nat, ms = ns.map fun (n : Nat) => (n : Int)
  | [], _ => ⟨[], rfl⟩
  | x :: ms, h => by
    obtain ⟨ns, e⟩ := nat_list (ms := ms) fun y hy => h y (by simp [hy])
    refine ⟨x.toNat :: ns, ?_⟩
    have := h x (by simp)
    rw [List.map_cons, ← e]
    congr 1
    omega
theorem all_in {n : Nat} {l : List Nat} (hn : l.Nodup) (h : ∀ x ∈ l, x < n) (hl : n ≤ l.length) {c : Nat} (hc : c < n) : c ∈ l := by
  refine Classical.byContradiction fun hno => ?_
  have := nodup_lt n (c :: l) (List.nodup_cons.mpr ⟨hno, hn⟩) fun x hx => by
    rcases List.mem_cons.mp hx with rfl | hx
    · exact hc
    · exact h x hx
  rw [List.length_cons] at this
  omega
theorem den_law_does_grow : Den f_law_does_grow N_law_does_grow.length cb_law_does_grow := by
  rintro _ K ⟨R, dw, rfl, hdw, hR, hkn, hkg⟩
  refine ⟨rfl, ?_⟩
  unfold cb_law_does_grow
  have h4 := hR.n4
  have h0 := List.length_pos_iff.mpr hR.ne
  have items : ∀ {k : List PyData → Prop}, k (R.map tN) → itemsW dw k := fun {k} q => by
    rcases hdw with rfl | rfl
    · exact q
    · exact q
  have len : ∀ {k : PyData → Prop}, k (nD R.length) → biW .len [dw] k := fun {k} q => by
    rcases hdw with rfl | rfl
    · simp only [biW, List.length_map]; exact q
    · simp only [biW, List.length_map]; exact q
  (simp only [m_law_does_grow, N_law_does_grow, f_law_does_grow, v1]; and_intros)
  refine items ?_
  refine compS_map (fun b => nD b.length) (fun b hb Φ q => ?_) ?_
  · and_intros
    rw [List.length_map]
    exact q
  and_intros
  have em : (R.map fun b => nD b.length) = (R.map List.length).map nD := by rw [List.map_map]; rfl
  rw [em]
  refine maxS_nat (by simpa using h0) fun m hm hmax => ?_
  and_intros
  refine br_of (fun h => ?_) (fun h => ?_)
  · and_intros
    exact hkn
  have hm2 : 2 ≤ m := by have := of_decide_eq_false h; omega
  obtain ⟨b0, hb0, hbm⟩ := List.mem_map.mp hm
  and_intros
  refine len ?_
  refine ⟨⟨by omega, by omega⟩, ?_⟩
  rw [Int.toNat_natCast, rangeD_nat]
  refine compS_map (fun a => tN [a]) (fun a ha Φ q => ?_) ?_
  · and_intros
    exact q
  and_intros
  refine ⟨⟨by decide, by decide⟩, ?_⟩
  rw [show (16 : Int).toNat = 16 from rfl, rangeD_nat]
  refine forS_ind (fun i ρ => ∃ (o1 o2 : Option PyData) (o3 : Option PyData) (s : Nat → List Nat), ρ = [some (.val dw), some (.own (.list ((List.range R.length).map fun a => tN (s a))) false), vS o1, o3.map (Slot.own · false), vS o2, none, none] ∧ Sets R i s) ⟨none, none, none, fun a => [a], rfl, sets_zero R⟩ ?_ ?_
  · rintro i d ρ Φ hd ⟨o1, o2, o3, s, rfl, hs⟩ hΦ
    obtain ⟨hi, rfl⟩ := rng_get hd
    rcases o2 with _ | d2 <;> rcases o3 with _ | d3
    all_goals
      simp only [show ∀ d, vS (some d) = some (Slot.val d) from fun _ => rfl, show vS none = none from rfl, Option.map_none, Option.map_some]
      and_intros
      refine compS_filter (fun a => decide ((s a).length < R.length)) (fun _ => nD 1) (fun a ha Φ1 Φ0 q1 q0 => ?_) ?_
      · and_intros
        refine len ?_
        and_intros
        rw [List.length_map]
        refine br_of (fun h => ?_) (fun h => ?_)
        · and_intros
          exact q1 (by have := of_decide_eq_true h; exact decide_eq_true (by omega))
        · and_intros
          exact q0 (by have := of_decide_eq_false h; exact decide_eq_false (by omega))
      and_intros
      refine ⟨?_, shaped_ints [], ?_⟩
      · have := shaped_ints (((List.range R.length).filter fun a => decide ((s a).length < R.length)).map fun _ => 1)
        rw [intsD, List.map_map] at this
        exact this
      refine br_of (fun h => ?_) (fun h => ?_)
      · have hfull : Full R i := by
          intro a c ha hc
          have hnl : ¬ (s a).length < R.length := by
            intro hlt
            have hm : a ∈ (List.range R.length).filter fun a => decide ((s a).length < R.length) := List.mem_filter.mpr ⟨by simpa using ha, by simpa using hlt⟩
            revert h hm
            generalize (List.range R.length).filter (fun a => decide ((s a).length < R.length)) = L
            intro h hm
            cases L with
            | nil => simp at hm
            | cons y ys => simp [PyData.eqv, PyData.eqvAll] at h
          have := all_in (hs a ha).1 (fun x hx => (((hs a ha).2 x).mp hx).1) (by omega) hc
          exact (((hs a ha).2 c).mp this).2
        and_intros
        exact hkg ⟨⟨b0, hb0, by omega⟩, i, hi, hfull⟩ i
      and_intros
      refine forS_ind (fun j ρ => ∃ (o4 : Option PyData) (t : List (List Nat)), ρ = [some (.val dw), some (.val (.list ((List.range R.length).map fun a => tN (s a)))), some (.val (nD i)), some (.own (.list (t.map tN)) false), vS o4, none, none] ∧ t.length = j ∧ ∀ k b, t[k]? = some b → b.Nodup ∧ ∀ c, c ∈ b ↔ c < R.length ∧ 0 < Cn R (i + 1) k c) ?_ ?_ ?_
      · first | exact ⟨none, [], rfl, rfl, fun k b e => by simp at e⟩ | exact ⟨some d2, [], rfl, rfl, fun k b e => by simp at e⟩
      · rintro j d ρ Ψ hd2 ⟨o4, t, rfl, htl, ht⟩ hΨ
        obtain ⟨hj, rfl⟩ := rng_get (f := fun a => tN (s a)) hd2
        have hsj := hs j hj
        have hlt : ∀ x ∈ s j, x < R.length := fun x hx => ((hsj.2 x).mp hx).1
        have hlen := hs.len hj
        have hfl := flat_len hR hlt
        and_intros
        refine runS_of List.nodup_nil ⟨R, s j, dw, rfl, hdw, hR, hlt, by omega, ⟨rfl, ?_⟩⟩
        and_intros
        refine ⟨((s j).flatMap (ltr R)).map fun (x : Nat) => (x : Int), by simp [intsD], by rw [List.length_map]; omega, fun ms hp hmem => ?_⟩
        obtain ⟨ns, rfl⟩ := nat_list (ms := ms) fun x hx => by
          obtain ⟨y, _, rfl⟩ := List.mem_map.mp ((hmem x).mp hx)
          omega
        and_intros
        have hmem2 : ∀ c : Nat, c ∈ ns ↔ c ∈ (s j).flatMap (ltr R) := fun c => by
          have := hmem (c : Int)
          simp only [List.mem_map, Int.natCast_inj, exists_eq_right] at this
          exact this
        refine ⟨by rw [List.length_map]; omega, hΨ _ ⟨some (tN (s j)), t ++ [ns], ?_, by simp [htl], fun k b e => ?_⟩⟩
        · simp [vS, intsD]
        · by_cases hk : k < t.length
          · rw [List.getElem?_append_left hk] at e
            exact ht k b e
          · rw [List.getElem?_append_right (by omega)] at e
            have hk0 : k - t.length = 0 := by
              have := (List.getElem?_eq_some_iff.mp e).1
              simp at this
              omega
            rw [hk0] at e
            simp at e
            subst e
            have hkj : k = j := by omega
            subst hkj
            refine ⟨?_, fun c => ?_⟩
            · rw [List.nodup_iff_pairwise_ne]
              rw [List.pairwise_map] at hp
              exact hp.imp fun {x y} q => by omega
            · rw [hmem2 c, List.mem_flatMap, fwd hR hj]
              constructor
              · rintro ⟨x, hx, hc⟩
                exact ⟨(hR.bl _ (ltr_mem (hlt x hx))).2.2 c hc, x, ((hsj.2 x).mp hx).2, hc⟩
              · rintro ⟨hc0, x, hx, hc⟩
                have hxR : x < R.length := by
                  have := (mem_blk hR i hj).mpr hx
                  exact blk_mem hR hj i x this
                exact ⟨x, (hsj.2 x).mpr ⟨hxR, hx⟩, hc⟩
      · rintro ρ ⟨o4, t, rfl, htl, ht⟩
        have e2 : ((List.range R.length).map fun a => tN (s a)).length = R.length := by simp
        rw [e2] at htl
        and_intros
        refine hΦ _ ⟨some (nD i), o4, some (.list (t.map tN)), fun a => t.getD a [], ?_, fun a ha => ?_⟩
        · rw [← htl, map_ltr t tN]
          rfl
        · have : t[a]? = some (t.getD a []) := by
            have : a < t.length := by omega
            simp [List.getD, this]
          exact ht a _ this
  · rintro ρ ⟨o1, o2, o3, s, rfl, hs⟩
    cases o3 <;> (and_intros; exact hkn)
end K87

set_option maxHeartbeats 4000000
namespace K87
open PySem L2 Vs
abbrev st_law_source : Stmt := (PySem.Challenge.pw_ledalong_k87_whole_far_places.main.body.getD 49 (.Pass ⟨0, 0, 0, 0⟩))
abbrev st_law : Stmt := (PySem.Challenge.pw_ledalong_k87_whole_far_places.main.body.getD 68 (.Pass ⟨0, 0, 0, 0⟩))
/-- the feed is made of the script -/
def spSrc (K : PySem.W.Frag) : Sp := fun vs H Q _ => ∃ (a : Addr) (ns : List Int), vs = [.ref a] ∧ SqL K H a (ns.map V.int) ∧ ns.length ≤ 63 ∧
  ∀ p q, H p = none → upd H p (.lst (ns.map V.int)) q = none → Q (.ref q) (upd (upd H p (.lst (ns.map V.int))) q (.lst [.ref p, .int 0, .int 0, .int 0]))
def spLaw (K : PySem.W.Frag) : Sp := fun vs H Q _ => ∃ (a : Addr) (ns : List Int), vs = [.ref a] ∧ SqL K H a (ns.map V.int) ∧ ns.length ≤ 63 ∧ ∀ H', Q (.bl true) H'
section
variable {P : Program} {w : World} {K : PySem.W.Frag} {mg : Str → Option Value} {base : Heap} {k : Nat} {f : Addr} {fd : FuncData}
theorem ok_src (F : FunD K "_law_source" "_law_source" (defArgs st_law_source) (defBody st_law_source) (defScope st_law_source) [] [] f fd) : FnG P w K mg base CX0 (k + 1) f fd ["_law_script"] (spSrc K) := by
  obtain ⟨oc, od, dV, kV, doc, pm, an, cdv, ct, osl, rfl, lk, hcd, _⟩ := F.ex
  have S : FnScope ["_law_script"] ["_law_script"] (defScope st_law_source) := ⟨rfl, rfl, rfl, by decide +kernel, rfl, by decide +kernel, by decide +kernel⟩
  refine fnG_of lk hcd S (fun vs H Q E ⟨a, ns, e, _⟩ => by rw [e]; rfl) fun A outer s H vs Q E hr hgd ⟨a, ns, e, hS, hl, q⟩ => ?_
  subst e
  refine ⟨_, pss_one (ps_ret (pe_lst (pa_cons (pe_slice sl_list (pv 0) po_none (po_some pe_int)) (pa_cons pe_int (pa_cons pe_int (pa_cons pe_int pa_nil)))))), ?_⟩
  refine ⟨_, rfl, _, rfl, a, _, rfl, hS, fun p hp => ?_⟩
  have e : cutV (ns.map V.int) none (some 63) = ns.map V.int := by
    have e2 : HT.sIx (ns.map V.int).length (ns.map V.int).length (some 63) = (ns.map V.int).length := by
      rw [show (63 : Int) = ((63 : Nat) : Int) from rfl, HT.sIx_nat]
      have := List.length_map V.int (as := ns)
      omega
    unfold cutV
    rw [e2, HT.sIx_none]
    simp only [List.drop_zero, Nat.sub_zero, List.take_length]
  rw [e]
  exact ⟨by show (4 : Nat) ≤ sizeLine; decide, fun b hb => q p b hp hb⟩
theorem ok_law {f1 : Addr} {fd1 : FuncData} (F : FunD K "law" "law" (defArgs st_law) (defBody st_law) (defScope st_law) [] [] f fd) (F1 : FnG P w K mg base CX0 k f1 fd1 ["_law_script"] (spSrc K)) (m1 : mg "_law_source" = some (.ref f1)) (k1 : PySem.W.keepIn K (.ref f1) = true) (b1 : Binds K fd1 ["_law_script"] [])
    (h2 : CallOk P w K mg base k "_law_is_right" 1 f_law_is_right) : FnG P w K mg base CX0 (k + 1) f fd ["_law_script"] (spLaw K) := by
  obtain ⟨oc, od, dV, kV, doc, pm, an, cdv, ct, osl, rfl, lk, hcd, _⟩ := F.ex
  obtain ⟨⟨f2, fd2, ps2, dvs, ds, F2, m2, k2, b2, hd2, hv2⟩, _, _⟩ := h2
  have S : FnScope ["_law_script", "_law_feed"] ["_law_script"] (defScope st_law) := ⟨rfl, rfl, rfl, by decide +kernel, rfl, by decide +kernel, by decide +kernel⟩
  refine fnG_of lk hcd S (fun vs H Q E ⟨a, ns, e, _⟩ => by rw [e]; rfl) fun A outer s H vs Q E hr hgd ⟨a, ns, e, hS, hl, q⟩ => ?_
  subst e
  refine ⟨_, pss_cons (ps_set (i := 1) S.nd rfl (.inl rfl) (pe_callG F1 hr hgd rfl m1 k1 b1 .nil pass0 (pa_cons (pv 0) pa_nil) (by decide) rfl rfl)) (pss_one (ps_try_thru0 (pss_one (ps_ret (pe_callG F2 hr hgd rfl m2 k2 b2 hd2 pass0 (pa_cons (pv 1) pa_nil) (by decide) rfl rfl))))), ?_⟩
  have e : dvs = [] := by
    have := hv2 fun _ => none
    cases this
    rfl
  subst e
  refine ⟨_, rfl, a, ns, rfl, hS, hl, fun p b hp hb => ?_⟩
  refine ⟨_, rfl, ?_⟩
  have hpb : b ≠ p := fun z => by rw [z] at hb; exact absurd hb (by simp [upd])
  have r : RpAll K (upd (fun _ => none) p (.lst (ns.map V.int))) [.ref p, .int 0, .int 0, .int 0] [.list (intsD ns), .int 0, .int 0, .int 0] := by
    refine .cons (.lst (if_pos rfl) (RpAll.of_ints ns) (by rw [List.length_map]; exact Nat.le_trans hl (by decide))) (.cons (.int 0) (.cons (.int 0) (.cons (.int 0) .nil)))
  refine ⟨upd (fun _ => none) p (.lst (ns.map V.int)), [.list [.list (intsD ns), .int 0, .int 0, .int 0]], [b], fun d os => d = .bool true, fun c o hc => ?_, .lend ?_ ⟨_, ?_, r, ?l4⟩ .nil, by simp, ?_, fun d os v H' F' hk _ _ _ _ _ hr' => ?_⟩
  case l4 => show (4 : Nat) ≤ sizeLine; decide
  · by_cases z : c = p
    · subst z
      rw [upd_same] at hc
      cases hc
      rw [upd_ne (fun w => hpb w.symm), upd_same]
    · rw [upd_ne z] at hc
      cases hc
  · exact upd_ne hpb
  · exact upd_same
  · exact ⟨_, rfl, ⟨ns, 0, 0, 0, rfl, Nat.le_refl _, Nat.le_refl _, hl⟩, fun _ => rfl⟩
  · subst hk
    have hr' : Rp K F' v (.bool true) := hr'
    cases hr'
    exact q _
end
end K87

set_option maxHeartbeats 4000000
/-! the defs behind the top -/
namespace K87
open PySem L2 Vs
def fns : List He.DefD := [dd "is_integer" st_is_integer [],
  dd "is_number" st_is_number [],
  dd "is_index" st_is_index [],
  dd "is_full_tuple" st_is_full_tuple [],
  dd "are_indexes" st_are_indexes [],
  dd "is_rule" st_is_rule [],
  dd "units_by" st_units_by [],
  dd "added_rows" st_added_rows [],
  dd "counts_to" st_counts_to [],
  dd "counts_by" st_counts_by [],
  dd "lengths_to" st_lengths_to [],
  dd "lengths_by" st_lengths_by [],
  dd "part_with" st_part_with [],
  dd "way_down" st_way_down [],
  dd "word_in" st_word_in [],
  dd "ahead_in" st_ahead_in [],
  dd "place_in" st_place_in [],
  dd "want" st_want [.int (-1)],
  dd "want_rule" st_want_rule [.str "rule"],
  dd "want_index" st_want_index [],
  dd "word_after" st_word_after [],
  dd "want_block" st_want_block [],
  dd "block_of" st_block_of [],
  dd "length_of" st_length_of [],
  dd "lengths_of" st_lengths_of [],
  dd "counts_in" st_counts_in [],
  dd "growth_by" st_growth_by [],
  dd "want_growing" st_want_growing [.str "rule"],
  dd "letter_at" st_letter_at [],
  dd "word_at" st_word_at [],
  dd "count_before" st_count_before [],
  dd "place_of" st_place_of [],
  dd "path_to" st_path_to [],
  dd "place_by" st_place_by [],
  dd "first_again" st_first_again [],
  dd "seeds" st_seeds [],
  dd "level_holding" st_level_holding [],
  dd "_law_draw" st_law_draw [],
  dd "_law_pick" st_law_pick [],
  dd "_law_same" st_law_same [],
  dd "_law_becomes" st_law_becomes [],
  dd "_law_does_grow" st_law_does_grow [],
  dd "_law_grown" st_law_grown [],
  dd "_law_any_rule" st_law_any_rule [],
  dd "_law_far" st_law_far [],
  dd "_law_sums" st_law_sums [],
  dd "_law_down" st_law_down [],
  dd "_law_found" st_law_found [],
  dd "_law_halves_right" st_law_halves_right [],
  dd "_law_place_right" st_law_place_right [],
  dd "_law_index_right" st_law_index_right [],
  dd "_law_small_right" st_law_small_right [],
  dd "_law_seeds" st_law_seeds [],
  dd "_law_holding_right" st_law_holding_right [],
  dd "_law_is_right" st_law_is_right [],
  dd "_law_source" st_law_source [],
  dd "law" st_law []]
theorem in_is_integer : dd "is_integer" st_is_integer [] ∈ fns := List.mem_of_getElem? (i := 0) rfl
theorem in_is_number : dd "is_number" st_is_number [] ∈ fns := List.mem_of_getElem? (i := 1) rfl
theorem in_is_index : dd "is_index" st_is_index [] ∈ fns := List.mem_of_getElem? (i := 2) rfl
theorem in_is_full_tuple : dd "is_full_tuple" st_is_full_tuple [] ∈ fns := List.mem_of_getElem? (i := 3) rfl
theorem in_are_indexes : dd "are_indexes" st_are_indexes [] ∈ fns := List.mem_of_getElem? (i := 4) rfl
theorem in_is_rule : dd "is_rule" st_is_rule [] ∈ fns := List.mem_of_getElem? (i := 5) rfl
theorem in_units_by : dd "units_by" st_units_by [] ∈ fns := List.mem_of_getElem? (i := 6) rfl
theorem in_added_rows : dd "added_rows" st_added_rows [] ∈ fns := List.mem_of_getElem? (i := 7) rfl
theorem in_counts_to : dd "counts_to" st_counts_to [] ∈ fns := List.mem_of_getElem? (i := 8) rfl
theorem in_counts_by : dd "counts_by" st_counts_by [] ∈ fns := List.mem_of_getElem? (i := 9) rfl
theorem in_lengths_to : dd "lengths_to" st_lengths_to [] ∈ fns := List.mem_of_getElem? (i := 10) rfl
theorem in_lengths_by : dd "lengths_by" st_lengths_by [] ∈ fns := List.mem_of_getElem? (i := 11) rfl
theorem in_part_with : dd "part_with" st_part_with [] ∈ fns := List.mem_of_getElem? (i := 12) rfl
theorem in_way_down : dd "way_down" st_way_down [] ∈ fns := List.mem_of_getElem? (i := 13) rfl
theorem in_word_in : dd "word_in" st_word_in [] ∈ fns := List.mem_of_getElem? (i := 14) rfl
theorem in_ahead_in : dd "ahead_in" st_ahead_in [] ∈ fns := List.mem_of_getElem? (i := 15) rfl
theorem in_place_in : dd "place_in" st_place_in [] ∈ fns := List.mem_of_getElem? (i := 16) rfl
theorem in_want : dd "want" st_want [.int (-1)] ∈ fns := List.mem_of_getElem? (i := 17) rfl
theorem in_want_rule : dd "want_rule" st_want_rule [.str "rule"] ∈ fns := List.mem_of_getElem? (i := 18) rfl
theorem in_want_index : dd "want_index" st_want_index [] ∈ fns := List.mem_of_getElem? (i := 19) rfl
theorem in_word_after : dd "word_after" st_word_after [] ∈ fns := List.mem_of_getElem? (i := 20) rfl
theorem in_want_block : dd "want_block" st_want_block [] ∈ fns := List.mem_of_getElem? (i := 21) rfl
theorem in_block_of : dd "block_of" st_block_of [] ∈ fns := List.mem_of_getElem? (i := 22) rfl
theorem in_length_of : dd "length_of" st_length_of [] ∈ fns := List.mem_of_getElem? (i := 23) rfl
theorem in_lengths_of : dd "lengths_of" st_lengths_of [] ∈ fns := List.mem_of_getElem? (i := 24) rfl
theorem in_counts_in : dd "counts_in" st_counts_in [] ∈ fns := List.mem_of_getElem? (i := 25) rfl
theorem in_growth_by : dd "growth_by" st_growth_by [] ∈ fns := List.mem_of_getElem? (i := 26) rfl
theorem in_want_growing : dd "want_growing" st_want_growing [.str "rule"] ∈ fns := List.mem_of_getElem? (i := 27) rfl
theorem in_letter_at : dd "letter_at" st_letter_at [] ∈ fns := List.mem_of_getElem? (i := 28) rfl
theorem in_word_at : dd "word_at" st_word_at [] ∈ fns := List.mem_of_getElem? (i := 29) rfl
theorem in_count_before : dd "count_before" st_count_before [] ∈ fns := List.mem_of_getElem? (i := 30) rfl
theorem in_place_of : dd "place_of" st_place_of [] ∈ fns := List.mem_of_getElem? (i := 31) rfl
theorem in_path_to : dd "path_to" st_path_to [] ∈ fns := List.mem_of_getElem? (i := 32) rfl
theorem in_place_by : dd "place_by" st_place_by [] ∈ fns := List.mem_of_getElem? (i := 33) rfl
theorem in_first_again : dd "first_again" st_first_again [] ∈ fns := List.mem_of_getElem? (i := 34) rfl
theorem in_seeds : dd "seeds" st_seeds [] ∈ fns := List.mem_of_getElem? (i := 35) rfl
theorem in_level_holding : dd "level_holding" st_level_holding [] ∈ fns := List.mem_of_getElem? (i := 36) rfl
theorem in_law_draw : dd "_law_draw" st_law_draw [] ∈ fns := List.mem_of_getElem? (i := 37) rfl
theorem in_law_pick : dd "_law_pick" st_law_pick [] ∈ fns := List.mem_of_getElem? (i := 38) rfl
theorem in_law_same : dd "_law_same" st_law_same [] ∈ fns := List.mem_of_getElem? (i := 39) rfl
theorem in_law_becomes : dd "_law_becomes" st_law_becomes [] ∈ fns := List.mem_of_getElem? (i := 40) rfl
theorem in_law_does_grow : dd "_law_does_grow" st_law_does_grow [] ∈ fns := List.mem_of_getElem? (i := 41) rfl
theorem in_law_grown : dd "_law_grown" st_law_grown [] ∈ fns := List.mem_of_getElem? (i := 42) rfl
theorem in_law_any_rule : dd "_law_any_rule" st_law_any_rule [] ∈ fns := List.mem_of_getElem? (i := 43) rfl
theorem in_law_far : dd "_law_far" st_law_far [] ∈ fns := List.mem_of_getElem? (i := 44) rfl
theorem in_law_sums : dd "_law_sums" st_law_sums [] ∈ fns := List.mem_of_getElem? (i := 45) rfl
theorem in_law_down : dd "_law_down" st_law_down [] ∈ fns := List.mem_of_getElem? (i := 46) rfl
theorem in_law_found : dd "_law_found" st_law_found [] ∈ fns := List.mem_of_getElem? (i := 47) rfl
theorem in_law_halves_right : dd "_law_halves_right" st_law_halves_right [] ∈ fns := List.mem_of_getElem? (i := 48) rfl
theorem in_law_place_right : dd "_law_place_right" st_law_place_right [] ∈ fns := List.mem_of_getElem? (i := 49) rfl
theorem in_law_index_right : dd "_law_index_right" st_law_index_right [] ∈ fns := List.mem_of_getElem? (i := 50) rfl
theorem in_law_small_right : dd "_law_small_right" st_law_small_right [] ∈ fns := List.mem_of_getElem? (i := 51) rfl
theorem in_law_seeds : dd "_law_seeds" st_law_seeds [] ∈ fns := List.mem_of_getElem? (i := 52) rfl
theorem in_law_holding_right : dd "_law_holding_right" st_law_holding_right [] ∈ fns := List.mem_of_getElem? (i := 53) rfl
theorem in_law_is_right : dd "_law_is_right" st_law_is_right [] ∈ fns := List.mem_of_getElem? (i := 54) rfl
theorem in_law_source : dd "_law_source" st_law_source [] ∈ fns := List.mem_of_getElem? (i := 55) rfl
theorem in_law : dd "law" st_law [] ∈ fns := List.mem_of_getElem? (i := 56) rfl
section
variable {P : Program} {w : World} {K : PySem.W.Frag} {mg : Str → Option Value} {base : Heap}
theorem ok_is_integer (t : Top K mg fns) : CallOk P w K mg base 1 "is_integer" 1 f_is_integer :=
  def_callD (T := ⟨ft_is_integer, N_is_integer⟩) (ps := ["thing"]) t in_is_integer (fun _ _ _ _ _ _ us hl => match us, hl with | [_], _ => rfl) sc_is_integer rfl rfl rfl den_is_integer tr_is_integer (fns_nil)
theorem ok_is_number (t : Top K mg fns) : CallOk P w K mg base 2 "is_number" 1 f_is_number :=
  def_callD (T := ⟨ft_is_number, N_is_number⟩) (ps := ["thing"]) t in_is_number (fun _ _ _ _ _ _ us hl => match us, hl with | [_], _ => rfl) sc_is_number rfl rfl rfl den_is_number tr_is_number (fns_cons (ok_is_integer t) (by decide) (fns_nil))
theorem ok_is_index (t : Top K mg fns) : CallOk P w K mg base 3 "is_index" 2 f_is_index :=
  def_callD (T := ⟨ft_is_index, N_is_index⟩) (ps := ["thing", "many"]) t in_is_index (fun _ _ _ _ _ _ us hl => match us, hl with | [_, _], _ => rfl) sc_is_index rfl rfl rfl den_is_index tr_is_index (fns_cons (ok_is_number t) (by decide) (fns_nil))
theorem ok_is_full_tuple (t : Top K mg fns) : CallOk P w K mg base 1 "is_full_tuple" 1 f_is_full_tuple :=
  def_callD (T := ⟨ft_is_full_tuple, N_is_full_tuple⟩) (ps := ["thing"]) t in_is_full_tuple (fun _ _ _ _ _ _ us hl => match us, hl with | [_], _ => rfl) sc_is_full_tuple rfl rfl rfl den_is_full_tuple tr_is_full_tuple (fns_nil)
theorem ok_are_indexes (t : Top K mg fns) : CallOk P w K mg base 4 "are_indexes" 2 f_are_indexes :=
  def_callD (T := ⟨ft_are_indexes, N_are_indexes⟩) (ps := ["thing", "many"]) t in_are_indexes (fun _ _ _ _ _ _ us hl => match us, hl with | [_, _], _ => rfl) sc_are_indexes rfl rfl rfl den_are_indexes tr_are_indexes (fns_cons (ok_is_index t) (by decide) (fns_nil))
theorem ok_is_rule (t : Top K mg fns) : CallOk P w K mg base 5 "is_rule" 1 f_is_rule :=
  def_callD (T := ⟨ft_is_rule, N_is_rule⟩) (ps := ["thing"]) t in_is_rule (fun _ _ _ _ _ _ us hl => match us, hl with | [_], _ => rfl) sc_is_rule rfl rfl rfl den_is_rule tr_is_rule (fns_cons (ok_are_indexes t) (by decide) (fns_cons (ok_is_full_tuple t) (by decide) (fns_nil)))
theorem ok_units_by (t : Top K mg fns) : CallOk P w K mg base 1 "units_by" 1 f_units_by :=
  def_callD (T := ⟨ft_units_by, N_units_by⟩) (ps := ["many"]) t in_units_by (fun _ _ _ _ _ _ us hl => match us, hl with | [_], _ => rfl) sc_units_by rfl rfl rfl den_units_by tr_units_by (fns_nil)
theorem ok_added_rows (t : Top K mg fns) : CallOk P w K mg base 1 "added_rows" 1 f_added_rows :=
  def_callD (T := ⟨ft_added_rows, N_added_rows⟩) (ps := ["rows"]) t in_added_rows (fun _ _ _ _ _ _ us hl => match us, hl with | [_], _ => rfl) sc_added_rows rfl rfl rfl den_added_rows tr_added_rows (fns_nil)
theorem ok_counts_to (t : Top K mg fns) : CallOk P w K mg base 2 "counts_to" 2 f_counts_to :=
  def_callD (T := ⟨ft_counts_to, N_counts_to⟩) (ps := ["rule", "level"]) t in_counts_to (fun _ _ _ _ _ _ us hl => match us, hl with | [_, _], _ => rfl) sc_counts_to rfl rfl rfl den_counts_to tr_counts_to (fns_cons (ok_added_rows t) (by decide) (fns_cons (ok_units_by t) (by decide) (fns_nil)))
theorem ok_counts_by (t : Top K mg fns) : CallOk P w K mg base 3 "counts_by" 2 f_counts_by :=
  def_callD (T := ⟨ft_counts_by, N_counts_by⟩) (ps := ["rule", "level"]) t in_counts_by (fun _ _ _ _ _ _ us hl => match us, hl with | [_, _], _ => rfl) sc_counts_by rfl rfl rfl den_counts_by tr_counts_by (fns_cons (ok_counts_to t) (by decide) (fns_nil))
theorem ok_lengths_to (t : Top K mg fns) : CallOk P w K mg base 1 "lengths_to" 2 f_lengths_to :=
  def_callD (T := ⟨ft_lengths_to, N_lengths_to⟩) (ps := ["rule", "level"]) t in_lengths_to (fun _ _ _ _ _ _ us hl => match us, hl with | [_, _], _ => rfl) sc_lengths_to rfl rfl rfl den_lengths_to tr_lengths_to (fns_nil)
theorem ok_lengths_by (t : Top K mg fns) : CallOk P w K mg base 2 "lengths_by" 2 f_lengths_by :=
  def_callD (T := ⟨ft_lengths_by, N_lengths_by⟩) (ps := ["rule", "level"]) t in_lengths_by (fun _ _ _ _ _ _ us hl => match us, hl with | [_, _], _ => rfl) sc_lengths_by rfl rfl rfl den_lengths_by tr_lengths_by (fns_cons (ok_lengths_to t) (by decide) (fns_nil))
theorem ok_part_with (t : Top K mg fns) : CallOk P w K mg base 1 "part_with" 2 f_part_with :=
  def_callD (T := ⟨ft_part_with, N_part_with⟩) (ps := ["sizes", "place"]) t in_part_with (fun _ _ _ _ _ _ us hl => match us, hl with | [_, _], _ => rfl) sc_part_with rfl rfl rfl den_part_with tr_part_with (fns_nil)
theorem ok_way_down (t : Top K mg fns) : CallOk P w K mg base 2 "way_down" 4 f_way_down :=
  def_callD (T := ⟨ft_way_down, N_way_down⟩) (ps := ["rule", "lengths", "letter", "place"]) t in_way_down (fun _ _ _ _ _ _ us hl => match us, hl with | [_, _, _, _], _ => rfl) sc_way_down rfl rfl rfl den_way_down tr_way_down (fns_cons (ok_part_with t) (by decide) (fns_nil))
theorem ok_word_in (t : Top K mg fns) : CallOk P w K mg base 3 "word_in" 5 f_word_in :=
  def_callD (T := ⟨ft_word_in, N_word_in⟩) (ps := ["rule", "letter", "level", "place", "length"]) t in_word_in (fun _ _ _ _ _ _ us hl => match us, hl with | [_, _, _, _, _], _ => rfl) sc_word_in rfl rfl rfl den_word_in tr_word_in (fns_cons (ok_lengths_to t) (by decide) (fns_cons (ok_way_down t) (by decide) (fns_nil)))
theorem ok_ahead_in (t : Top K mg fns) : CallOk P w K mg base 3 "ahead_in" 5 f_ahead_in :=
  def_callD (T := ⟨ft_ahead_in, N_ahead_in⟩) (ps := ["rule", "letter", "level", "place", "other"]) t in_ahead_in (fun _ _ _ _ _ _ us hl => match us, hl with | [_, _, _, _, _], _ => rfl) sc_ahead_in rfl rfl rfl den_ahead_in tr_ahead_in (fns_cons (ok_counts_to t) (by decide) (fns_cons (ok_lengths_to t) (by decide) (fns_cons (ok_way_down t) (by decide) (fns_nil))))
theorem ok_place_in (t : Top K mg fns) : CallOk P w K mg base 3 "place_in" 5 f_place_in :=
  def_callD (T := ⟨ft_place_in, N_place_in⟩) (ps := ["rule", "letter", "level", "other", "number"]) t in_place_in (fun _ _ _ _ _ _ us hl => match us, hl with | [_, _, _, _, _], _ => rfl) sc_place_in rfl rfl rfl den_place_in tr_place_in (fns_cons (ok_counts_to t) (by decide) (fns_cons (ok_lengths_to t) (by decide) (fns_cons (ok_part_with t) (by decide) (fns_nil))))
theorem ok_want_2 (t : Top K mg fns) : CallOk P w K mg base 1 "want" 2 f_want_2 :=
  def_callV (T := ⟨ft_want, N_want⟩) (ps := ["holds", "word", "at"]) 0 t in_want (by simp) rfl (fun _ _ _ _ _ _ _ us its h1 h2 => match us, its, h1, h2 with | [_, _], [_], _, _ => ⟨_, rfl, rfl⟩) sc_want rfl (fun F => .cons (.int (-1)) (.nil)) rfl den_want tr_want (fns_nil)
theorem ok_want_rule_1 (t : Top K mg fns) : CallOk P w K mg base 6 "want_rule" 1 f_want_rule_1 :=
  def_callV (T := ⟨ft_want_rule, N_want_rule⟩) (ps := ["thing", "name"]) 0 t in_want_rule (by simp) rfl (fun _ _ _ _ _ _ _ us its h1 h2 => match us, its, h1, h2 with | [_], [_], _, _ => ⟨_, rfl, rfl⟩) sc_want_rule rfl (fun F => .cons (.str "rule") (.nil)) rfl den_want_rule tr_want_rule (fns_cons (ok_is_rule t) (by decide) (fns_cons (ok_want_2 t) (by decide) (fns_nil)))
theorem ok_want_index (t : Top K mg fns) : CallOk P w K mg base 4 "want_index" 3 f_want_index :=
  def_callD (T := ⟨ft_want_index, N_want_index⟩) (ps := ["many", "thing", "name"]) t in_want_index (fun _ _ _ _ _ _ us hl => match us, hl with | [_, _, _], _ => rfl) sc_want_index rfl rfl rfl den_want_index tr_want_index (fns_cons (ok_is_index t) (by decide) (fns_cons (ok_want_2 t) (by decide) (fns_nil)))
theorem ok_word_after (t : Top K mg fns) : CallOk P w K mg base 1 "word_after" 2 f_word_after :=
  def_callD (T := ⟨ft_word_after, N_word_after⟩) (ps := ["rule", "word"]) t in_word_after (fun _ _ _ _ _ _ us hl => match us, hl with | [_, _], _ => rfl) sc_word_after rfl rfl rfl den_word_after tr_word_after (fns_nil)
theorem ok_want_block (t : Top K mg fns) : CallOk P w K mg base 7 "want_block" 3 f_want_block :=
  def_callD (T := ⟨ft_want_block, N_want_block⟩) (ps := ["rule", "letter", "level"]) t in_want_block (fun _ _ _ _ _ _ us hl => match us, hl with | [_, _, _], _ => rfl) sc_want_block rfl rfl rfl den_want_block tr_want_block (fns_cons (ok_is_number t) (by decide) (fns_cons (ok_want_2 t) (by decide) (fns_cons (ok_want_index t) (by decide) (fns_cons (ok_want_rule_1 t) (by decide) (fns_nil)))))
theorem ok_block_of (t : Top K mg fns) : CallOk P w K mg base 8 "block_of" 3 f_block_of :=
  def_callD (T := ⟨ft_block_of, N_block_of⟩) (ps := ["rule", "letter", "level"]) t in_block_of (fun _ _ _ _ _ _ us hl => match us, hl with | [_, _, _], _ => rfl) sc_block_of rfl rfl rfl den_block_of tr_block_of (fns_cons (ok_want_block t) (by decide) (fns_cons (ok_word_after t) (by decide) (fns_nil)))
theorem ok_length_of (t : Top K mg fns) : CallOk P w K mg base 8 "length_of" 3 f_length_of :=
  def_callD (T := ⟨ft_length_of, N_length_of⟩) (ps := ["rule", "letter", "level"]) t in_length_of (fun _ _ _ _ _ _ us hl => match us, hl with | [_, _, _], _ => rfl) sc_length_of rfl rfl rfl den_length_of tr_length_of (fns_cons (ok_lengths_by t) (by decide) (fns_cons (ok_want_block t) (by decide) (fns_nil)))
theorem ok_lengths_of (t : Top K mg fns) : CallOk P w K mg base 8 "lengths_of" 3 f_lengths_of :=
  def_callD (T := ⟨ft_lengths_of, N_lengths_of⟩) (ps := ["rule", "letter", "level"]) t in_lengths_of (fun _ _ _ _ _ _ us hl => match us, hl with | [_, _, _], _ => rfl) sc_lengths_of rfl rfl rfl den_lengths_of tr_lengths_of (fns_cons (ok_lengths_to t) (by decide) (fns_cons (ok_want_block t) (by decide) (fns_nil)))
theorem ok_counts_in (t : Top K mg fns) : CallOk P w K mg base 8 "counts_in" 3 f_counts_in :=
  def_callD (T := ⟨ft_counts_in, N_counts_in⟩) (ps := ["rule", "letter", "level"]) t in_counts_in (fun _ _ _ _ _ _ us hl => match us, hl with | [_, _, _], _ => rfl) sc_counts_in rfl rfl rfl den_counts_in tr_counts_in (fns_cons (ok_counts_by t) (by decide) (fns_cons (ok_want_block t) (by decide) (fns_nil)))
theorem ok_growth_by (t : Top K mg fns) : CallOk P w K mg base 1 "growth_by" 1 f_growth_by :=
  def_callD (T := ⟨ft_growth_by, N_growth_by⟩) (ps := ["rule"]) t in_growth_by (fun _ _ _ _ _ _ us hl => match us, hl with | [_], _ => rfl) sc_growth_by rfl rfl rfl den_growth_by tr_growth_by (fns_nil)
theorem ok_want_growing_1 (t : Top K mg fns) : CallOk P w K mg base 6 "want_growing" 1 f_want_growing_1 :=
  def_callV (T := ⟨ft_want_growing, N_want_growing⟩) (ps := ["thing", "name"]) 0 t in_want_growing (by simp) rfl (fun _ _ _ _ _ _ _ us its h1 h2 => match us, its, h1, h2 with | [_], [_], _, _ => ⟨_, rfl, rfl⟩) sc_want_growing rfl (fun F => .cons (.str "rule") (.nil)) rfl den_want_growing tr_want_growing (fns_cons (ok_growth_by t) (by decide) (fns_cons (ok_is_rule t) (by decide) (fns_cons (ok_want_2 t) (by decide) (fns_nil))))
theorem ok_letter_at (t : Top K mg fns) : CallOk P w K mg base 8 "letter_at" 4 f_letter_at :=
  def_callD (T := ⟨ft_letter_at, N_letter_at⟩) (ps := ["rule", "letter", "level", "place"]) t in_letter_at (fun _ _ _ _ _ _ us hl => match us, hl with | [_, _, _, _], _ => rfl) sc_letter_at rfl rfl rfl den_letter_at tr_letter_at (fns_cons (ok_is_index t) (by decide) (fns_cons (ok_lengths_by t) (by decide) (fns_cons (ok_lengths_to t) (by decide) (fns_cons (ok_want_2 t) (by decide) (fns_cons (ok_want_block t) (by decide) (fns_cons (ok_way_down t) (by decide) (fns_nil)))))))
theorem ok_word_at (t : Top K mg fns) : CallOk P w K mg base 8 "word_at" 5 f_word_at :=
  def_callD (T := ⟨ft_word_at, N_word_at⟩) (ps := ["rule", "letter", "level", "place", "length"]) t in_word_at (fun _ _ _ _ _ _ us hl => match us, hl with | [_, _, _, _, _], _ => rfl) sc_word_at rfl rfl rfl den_word_at tr_word_at (fns_cons (ok_is_number t) (by decide) (fns_cons (ok_lengths_by t) (by decide) (fns_cons (ok_want_2 t) (by decide) (fns_cons (ok_want_block t) (by decide) (fns_cons (ok_word_in t) (by decide) (fns_nil))))))
theorem ok_count_before (t : Top K mg fns) : CallOk P w K mg base 8 "count_before" 5 f_count_before :=
  def_callD (T := ⟨ft_count_before, N_count_before⟩) (ps := ["rule", "letter", "level", "place", "other"]) t in_count_before (fun _ _ _ _ _ _ us hl => match us, hl with | [_, _, _, _, _], _ => rfl) sc_count_before rfl rfl rfl den_count_before tr_count_before (fns_cons (ok_ahead_in t) (by decide) (fns_cons (ok_is_number t) (by decide) (fns_cons (ok_lengths_by t) (by decide) (fns_cons (ok_want_2 t) (by decide) (fns_cons (ok_want_block t) (by decide) (fns_cons (ok_want_index t) (by decide) (fns_nil)))))))
theorem ok_place_of (t : Top K mg fns) : CallOk P w K mg base 8 "place_of" 5 f_place_of :=
  def_callD (T := ⟨ft_place_of, N_place_of⟩) (ps := ["rule", "letter", "level", "other", "index"]) t in_place_of (fun _ _ _ _ _ _ us hl => match us, hl with | [_, _, _, _, _], _ => rfl) sc_place_of rfl rfl rfl den_place_of tr_place_of (fns_cons (ok_is_number t) (by decide) (fns_cons (ok_place_in t) (by decide) (fns_cons (ok_want_2 t) (by decide) (fns_cons (ok_want_block t) (by decide) (fns_cons (ok_want_index t) (by decide) (fns_nil))))))
theorem ok_path_to (t : Top K mg fns) : CallOk P w K mg base 8 "path_to" 4 f_path_to :=
  def_callD (T := ⟨ft_path_to, N_path_to⟩) (ps := ["rule", "letter", "level", "place"]) t in_path_to (fun _ _ _ _ _ _ us hl => match us, hl with | [_, _, _, _], _ => rfl) sc_path_to rfl rfl rfl den_path_to tr_path_to (fns_cons (ok_is_index t) (by decide) (fns_cons (ok_lengths_by t) (by decide) (fns_cons (ok_lengths_to t) (by decide) (fns_cons (ok_want_2 t) (by decide) (fns_cons (ok_want_block t) (by decide) (fns_cons (ok_way_down t) (by decide) (fns_nil)))))))
theorem ok_place_by (t : Top K mg fns) : CallOk P w K mg base 7 "place_by" 3 f_place_by :=
  def_callD (T := ⟨ft_place_by, N_place_by⟩) (ps := ["rule", "letter", "path"]) t in_place_by (fun _ _ _ _ _ _ us hl => match us, hl with | [_, _, _], _ => rfl) sc_place_by rfl rfl rfl den_place_by tr_place_by (fns_cons (ok_is_index t) (by decide) (fns_cons (ok_lengths_to t) (by decide) (fns_cons (ok_want_2 t) (by decide) (fns_cons (ok_want_index t) (by decide) (fns_cons (ok_want_rule_1 t) (by decide) (fns_nil))))))
theorem ok_first_again (t : Top K mg fns) : CallOk P w K mg base 1 "first_again" 2 f_first_again :=
  def_callD (T := ⟨ft_first_again, N_first_again⟩) (ps := ["rule", "letter"]) t in_first_again (fun _ _ _ _ _ _ us hl => match us, hl with | [_, _], _ => rfl) sc_first_again rfl rfl rfl den_first_again tr_first_again (fns_nil)
theorem ok_seeds (t : Top K mg fns) : CallOk P w K mg base 7 "seeds" 1 f_seeds :=
  def_callD (T := ⟨ft_seeds, N_seeds⟩) (ps := ["rule"]) t in_seeds (fun _ _ _ _ _ _ us hl => match us, hl with | [_], _ => rfl) sc_seeds rfl rfl rfl den_seeds tr_seeds (fns_cons (ok_first_again t) (by decide) (fns_cons (ok_want_rule_1 t) (by decide) (fns_nil)))
theorem ok_level_holding (t : Top K mg fns) : CallOk P w K mg base 7 "level_holding" 3 f_level_holding :=
  def_callD (T := ⟨ft_level_holding, N_level_holding⟩) (ps := ["rule", "letter", "place"]) t in_level_holding (fun _ _ _ _ _ _ us hl => match us, hl with | [_, _, _], _ => rfl) sc_level_holding rfl rfl rfl den_level_holding tr_level_holding (fns_cons (ok_is_number t) (by decide) (fns_cons (ok_want_2 t) (by decide) (fns_cons (ok_want_growing_1 t) (by decide) (fns_cons (ok_want_index t) (by decide) (fns_nil)))))
theorem ok_law_draw (t : Top K mg fns) : CallOk P w K mg base 1 "_law_draw" 2 f_law_draw :=
  def_callD (T := ⟨ft_law_draw, N_law_draw⟩) (ps := ["_law_feed", "_law_size"]) t in_law_draw (fun _ _ _ _ _ _ us hl => match us, hl with | [_, _], _ => rfl) sc_law_draw rfl rfl rfl den_law_draw tr_law_draw (fns_nil)
theorem ok_law_pick (t : Top K mg fns) : CallOk P w K mg base 2 "_law_pick" 2 f_law_pick :=
  def_callD (T := ⟨ft_law_pick, N_law_pick⟩) (ps := ["_law_feed", "_law_some"]) t in_law_pick (fun _ _ _ _ _ _ us hl => match us, hl with | [_, _], _ => rfl) sc_law_pick rfl rfl rfl den_law_pick tr_law_pick (fns_cons (ok_law_draw t) (by decide) (fns_nil))
theorem ok_law_same (t : Top K mg fns) : CallOk P w K mg base 1 "_law_same" 2 f_law_same :=
  def_callD (T := ⟨ft_law_same, N_law_same⟩) (ps := ["_law_told", "_law_due"]) t in_law_same (fun _ _ _ _ _ _ us hl => match us, hl with | [_, _], _ => rfl) sc_law_same rfl rfl rfl den_law_same tr_law_same (fns_nil)
theorem ok_law_becomes (t : Top K mg fns) : CallOk P w K mg base 1 "_law_becomes" 2 f_law_becomes :=
  def_callD (T := ⟨ft_law_becomes, N_law_becomes⟩) (ps := ["_law_world", "_law_word"]) t in_law_becomes (fun _ _ _ _ _ _ us hl => match us, hl with | [_, _], _ => rfl) sc_law_becomes rfl rfl rfl den_law_becomes tr_law_becomes (fns_nil)
theorem ok_law_does_grow (t : Top K mg fns) : CallOk P w K mg base 2 "_law_does_grow" 1 f_law_does_grow :=
  def_callD (T := ⟨ft_law_does_grow, N_law_does_grow⟩) (ps := ["_law_world"]) t in_law_does_grow (fun _ _ _ _ _ _ us hl => match us, hl with | [_], _ => rfl) sc_law_does_grow rfl rfl rfl den_law_does_grow tr_law_does_grow (fns_cons (ok_law_becomes t) (by decide) (fns_nil))
theorem ok_law_grown (t : Top K mg fns) : CallOk P w K mg base 3 "_law_grown" 1 f_law_grown :=
  def_callD (T := ⟨ft_law_grown, N_law_grown⟩) (ps := ["_law_feed"]) t in_law_grown (fun _ _ _ _ _ _ us hl => match us, hl with | [_], _ => rfl) sc_law_grown rfl rfl rfl den_law_grown tr_law_grown (fns_cons (ok_law_does_grow t) (by decide) (fns_cons (ok_law_draw t) (by decide) (fns_cons (ok_law_pick t) (by decide) (fns_nil))))
theorem ok_law_any_rule (t : Top K mg fns) : CallOk P w K mg base 4 "_law_any_rule" 1 f_law_any_rule :=
  def_callD (T := ⟨ft_law_any_rule, N_law_any_rule⟩) (ps := ["_law_feed"]) t in_law_any_rule (fun _ _ _ _ _ _ us hl => match us, hl with | [_], _ => rfl) sc_law_any_rule rfl rfl rfl den_law_any_rule tr_law_any_rule (fns_cons (ok_law_draw t) (by decide) (fns_cons (ok_law_grown t) (by decide) (fns_nil)))
theorem ok_law_far (t : Top K mg fns) : CallOk P w K mg base 2 "_law_far" 2 f_law_far :=
  def_callD (T := ⟨ft_law_far, N_law_far⟩) (ps := ["_law_feed", "_law_most"]) t in_law_far (fun _ _ _ _ _ _ us hl => match us, hl with | [_, _], _ => rfl) sc_law_far rfl rfl rfl den_law_far tr_law_far (fns_cons (ok_law_draw t) (by decide) (fns_nil))
theorem ok_law_sums (t : Top K mg fns) : CallOk P w K mg base 1 "_law_sums" 2 f_law_sums :=
  def_callD (T := ⟨ft_law_sums, N_law_sums⟩) (ps := ["_law_world", "_law_level"]) t in_law_sums (fun _ _ _ _ _ _ us hl => match us, hl with | [_, _], _ => rfl) sc_law_sums rfl rfl rfl den_law_sums tr_law_sums (fns_nil)
theorem ok_law_down (t : Top K mg fns) : CallOk P w K mg base 1 "_law_down" 5 f_law_down :=
  def_callD (T := ⟨ft_law_down, N_law_down⟩) (ps := ["_law_world", "_law_rows", "_law_letter", "_law_level", "_law_place"]) t in_law_down (fun _ _ _ _ _ _ us hl => match us, hl with | [_, _, _, _, _], _ => rfl) sc_law_down rfl rfl rfl den_law_down tr_law_down (fns_nil)
theorem ok_law_found (t : Top K mg fns) : CallOk P w K mg base 1 "_law_found" 6 f_law_found :=
  def_callD (T := ⟨ft_law_found, N_law_found⟩) (ps := ["_law_world", "_law_rows", "_law_letter", "_law_level", "_law_goal", "_law_index"]) t in_law_found (fun _ _ _ _ _ _ us hl => match us, hl with | [_, _, _, _, _, _], _ => rfl) sc_law_found rfl rfl rfl den_law_found tr_law_found (fns_nil)
theorem ok_law_halves_right (t : Top K mg fns) : CallOk P w K mg base 9 "_law_halves_right" 6 f_law_halves_right :=
  def_callD (T := ⟨ft_law_halves_right, N_law_halves_right⟩) (ps := ["_law_world", "_law_rows", "_law_letter", "_law_level", "_law_place", "_law_here"]) t in_law_halves_right (fun _ _ _ _ _ _ us hl => match us, hl with | [_, _, _, _, _, _], _ => rfl) sc_law_halves_right rfl rfl rfl den_law_halves_right tr_law_halves_right (fns_cons (ok_letter_at t) (by decide) (fns_cons (ok_path_to t) (by decide) (fns_cons (ok_place_by t) (by decide) (fns_nil))))
theorem ok_law_place_right (t : Top K mg fns) : CallOk P w K mg base 10 "_law_place_right" 5 f_law_place_right :=
  def_callD (T := ⟨ft_law_place_right, N_law_place_right⟩) (ps := ["_law_feed", "_law_world", "_law_rows", "_law_letter", "_law_level"]) t in_law_place_right (fun _ _ _ _ _ _ us hl => match us, hl with | [_, _, _, _, _], _ => rfl) sc_law_place_right rfl rfl rfl den_law_place_right tr_law_place_right (fns_cons (ok_law_down t) (by decide) (fns_cons (ok_law_draw t) (by decide) (fns_cons (ok_law_far t) (by decide) (fns_cons (ok_law_halves_right t) (by decide) (fns_cons (ok_law_same t) (by decide) (fns_cons (ok_count_before t) (by decide) (fns_cons (ok_letter_at t) (by decide) (fns_cons (ok_path_to t) (by decide) (fns_cons (ok_place_by t) (by decide) (fns_cons (ok_place_of t) (by decide) (fns_cons (ok_word_at t) (by decide) (fns_nil))))))))))))
theorem ok_law_index_right (t : Top K mg fns) : CallOk P w K mg base 9 "_law_index_right" 5 f_law_index_right :=
  def_callD (T := ⟨ft_law_index_right, N_law_index_right⟩) (ps := ["_law_feed", "_law_world", "_law_rows", "_law_letter", "_law_level"]) t in_law_index_right (fun _ _ _ _ _ _ us hl => match us, hl with | [_, _, _, _, _], _ => rfl) sc_law_index_right rfl rfl rfl den_law_index_right tr_law_index_right (fns_cons (ok_law_draw t) (by decide) (fns_cons (ok_law_far t) (by decide) (fns_cons (ok_law_found t) (by decide) (fns_cons (ok_law_same t) (by decide) (fns_cons (ok_count_before t) (by decide) (fns_cons (ok_place_of t) (by decide) (fns_cons (ok_word_at t) (by decide) (fns_nil))))))))
theorem ok_law_small_right (t : Top K mg fns) : CallOk P w K mg base 9 "_law_small_right" 3 f_law_small_right :=
  def_callD (T := ⟨ft_law_small_right, N_law_small_right⟩) (ps := ["_law_world", "_law_letter", "_law_level"]) t in_law_small_right (fun _ _ _ _ _ _ us hl => match us, hl with | [_, _, _], _ => rfl) sc_law_small_right rfl rfl rfl den_law_small_right tr_law_small_right (fns_cons (ok_law_becomes t) (by decide) (fns_cons (ok_law_same t) (by decide) (fns_cons (ok_block_of t) (by decide) (fns_cons (ok_letter_at t) (by decide) (fns_cons (ok_word_at t) (by decide) (fns_nil))))))
theorem ok_law_seeds (t : Top K mg fns) : CallOk P w K mg base 1 "_law_seeds" 1 f_law_seeds :=
  def_callD (T := ⟨ft_law_seeds, N_law_seeds⟩) (ps := ["_law_world"]) t in_law_seeds (fun _ _ _ _ _ _ us hl => match us, hl with | [_], _ => rfl) sc_law_seeds rfl rfl rfl den_law_seeds tr_law_seeds (fns_nil)
theorem ok_law_holding_right (t : Top K mg fns) : CallOk P w K mg base 8 "_law_holding_right" 4 f_law_holding_right :=
  def_callD (T := ⟨ft_law_holding_right, N_law_holding_right⟩) (ps := ["_law_feed", "_law_world", "_law_rows", "_law_letter"]) t in_law_holding_right (fun _ _ _ _ _ _ us hl => match us, hl with | [_, _, _, _], _ => rfl) sc_law_holding_right rfl rfl rfl den_law_holding_right tr_law_holding_right (fns_cons (ok_law_does_grow t) (by decide) (fns_cons (ok_law_far t) (by decide) (fns_cons (ok_law_pick t) (by decide) (fns_cons (ok_law_same t) (by decide) (fns_cons (ok_level_holding t) (by decide) (fns_nil))))))
theorem ok_law_is_right (t : Top K mg fns) : CallOk P w K mg base 11 "_law_is_right" 1 f_law_is_right :=
  def_callD (T := ⟨ft_law_is_right, N_law_is_right⟩) (ps := ["_law_feed"]) t in_law_is_right (fun _ _ _ _ _ _ us hl => match us, hl with | [_], _ => rfl) sc_law_is_right rfl rfl rfl den_law_is_right tr_law_is_right (fns_cons (ok_law_any_rule t) (by decide) (fns_cons (ok_law_draw t) (by decide) (fns_cons (ok_law_holding_right t) (by decide) (fns_cons (ok_law_index_right t) (by decide) (fns_cons (ok_law_pick t) (by decide) (fns_cons (ok_law_place_right t) (by decide) (fns_cons (ok_law_same t) (by decide) (fns_cons (ok_law_seeds t) (by decide) (fns_cons (ok_law_small_right t) (by decide) (fns_cons (ok_law_sums t) (by decide) (fns_cons (ok_counts_in t) (by decide) (fns_cons (ok_length_of t) (by decide) (fns_cons (ok_lengths_of t) (by decide) (fns_cons (ok_seeds t) (by decide) (fns_nil)))))))))))))))
end
end K87

set_option maxHeartbeats 0
namespace K87
open PySem PySem.Spec PyProof.Rows L2 Vs
abbrev R : PySem.W.OpenRow := PySem.W.OpenLaw.row PySem.Challenge.rw_ledalong_k87_whole_far_places
abbrev hk : PySem.W.Hook := He.hookD 4 (faOf fns) fns
def ob (s : PySem.W.SharedT) : He.AlD := He.obsDG 4 (faOf fns) fns (HandSHeadRun.getT s)
theorem ob_eq (s : PySem.W.SharedT) : ob s = hk.obs s.abs := He.obsDG_eq (HandSHeadRun.getT_eq s)
def names0 : List PySem.Str := ["__name__", "is_integer", "is_number", "is_index", "is_full_tuple", "are_indexes", "is_rule", "units_by", "added_rows", "counts_to", "counts_by", "lengths_to", "lengths_by", "part_with", "way_down", "word_in", "ahead_in", "place_in", "LedError", "WorldError", "NotUsable", "want", "want_rule", "want_index", "word_after", "want_block", "block_of", "length_of", "lengths_of", "counts_in"]
def names1 : List PySem.Str := ["growth_by", "want_growing", "letter_at", "word_at", "count_before", "place_of", "path_to", "place_by", "first_again", "seeds", "level_holding", "_law_source", "_law_draw", "_law_pick", "_law_same", "_law_becomes", "_law_does_grow", "_law_grown", "_law_any_rule", "_law_far", "_law_sums", "_law_down", "_law_found", "_law_halves_right", "_law_place_right", "_law_index_right", "_law_small_right", "_law_seeds", "_law_holding_right", "_law_is_right"]
def names : List PySem.Str := names0 ++ names1
theorem run (w : World) : HandSHeadRun.RunEq R (PySem.W.view R.prog [68]) hk ob 3000 names w := by
  intro os
  kernel_rfl
theorem facts {w : World} {K : PySem.W.Frag} {h : Heap} {mg : Str → Option Value} {fa : Addr} (X : K.In h) (G : h.Ns mainGlobals mg) (hfa : mg ("law" : Str) = some (.ref fa)) (c : He.SaysD (faOf fns) fns K) :
    ∃ fd : FuncData, (∀ (s : Shared) (v : Value), BindsTo s fd ⟨[v], []⟩ [("_law_script", v)]) ∧ ∀ base : Heap, K.In base → base.Ns mainGlobals mg → FnG (PySem.Challenge.rw_ledalong_k87_whole_far_places).prog w K mg base CX0 12 fa fd ["_law_script"] (spLaw K) := by
  have t := top_of X G c
  obtain ⟨fd1, F1⟩ := t.fd _ in_law_source rfl
  obtain ⟨fd, F⟩ := t.fd _ in_law rfl
  have e := hfa.symm.trans (t.gl _ in_law)
  cases e
  have b := FunD.bindsA (ps := ["_law_script"]) F fun _ _ _ _ _ _ us hl => match us, hl with | [_], _ => rfl
  have b1 := FunD.bindsN (ps := ["_law_script"]) F1 fun _ _ _ _ _ _ us hl => match us, hl with | [_], _ => rfl
  exact ⟨fd, fun s v => b s [v] rfl, fun base _ _ => ok_law F ((ok_src F1 (k := 0)).mono (by decide)) (t.gl _ in_law_source) F1.kp b1 (ok_law_is_right t)⟩
end K87
open PySem PySem.W PySem.Calls PyProof.Rows
theorem PySem.Challenge.cw_ledalong_k87_whole_far_places_holds : PySem.Challenge.rw_ledalong_k87_whole_far_places.Holds := by
  w_on; o_law
  refine HandSHeadRun.head_any (r := OpenLaw.row PySem.Challenge.rw_ledalong_k87_whole_far_places) (q := view (OpenLaw.row PySem.Challenge.rw_ledalong_k87_whole_far_places).prog [68]) (H := K87.hk) (ob := K87.ob) (M := 3000) (loose := K87.names) (d := HandSHeadRun.topDef (OpenLaw.row PySem.Challenge.rw_ledalong_k87_whole_far_places).prog 68) (kwd := []) K87.ob_eq
    (by kernel_rfl) (fun s => by kernel_rfl) K87.run (by kernel_rfl) (by kernel_rfl) (by kernel_rfl) (by rfl) (by first | assumption | decide +kernel) (by decide +kernel) ⟨rfl, rfl, rfl, rfl, rfl, by decide +kernel⟩ ?hw ?hc
  case hw => w_witness2
  case hc =>
    refine Vs.walkGE (l := PySem.Challenge.rw_ledalong_k87_whole_far_places) (n := 63) (k := 12) (x := "_law_script") (sp := K87.spLaw) rfl (by decide) (by kernel_rfl) ⟨rfl, by decide, by decide⟩ ?F (fun K H a ns hl hS => ⟨a, ns, rfl, hS, hl, fun _ => rfl⟩)
    intro w mg fa h Y G hmg0
    obtain ⟨K, KX, c⟩ := Y
    have hmg : mg ("law" : PySem.Str) = some (.ref fa) := by
      have e : (HandSHeadRun.topDef (OpenLaw.row PySem.Challenge.rw_ledalong_k87_whole_far_places).prog 68).name = ("law" : PySem.Str) := by kernel_rfl
      rw [← e]
      exact hmg0
    obtain ⟨fd, hb, hF⟩ := K87.facts (w := w) KX G hmg c
    exact ⟨K, fd, KX, hb, hF⟩
