import PyProof.Rows.All
import Wide.All
import OpenK.AllK
import Wide.FinOn
import PyProof.P3Statements
import PyProof.SliceMore
import PyProof.StrBlockL
import KE.IntText
import PyProof.Cells
import PyProof.RaisesMany
import PyProof.ForAny
import PyProof.CompFree
import PyProof.ListOps
import PyProof.TupleOps
import PyProof.ListIndexNeg
import PyProof.SliceList
import PyProof.EqAt
import PyProof.Rules3
import PyProof.PureInt
import PyProof.Rows.IntRules
import PyProof.Rows.RuleB_pow
import PyProof.Rows.RuleB_mod
import PyProof.Rows.RuleB_mul
import PyProof.Rows.RuleB_floordiv
import PyProof.Rows.RuleB_small
import PyProof.StrBlock
import PyProof.StrOps2
import PyProof.EqKinds
import PyProof.P3Eq
import PyProof.FactsAll.tuple_2
import PyProof.EqLayable
import PyProof.NeData
import PyProof.Rows.StrRules
import PyProof.P3In
import PyProof.Rows.TupSub
import PyProof.Rows.StrTemp
import PyProof.StrBlockI
import PyProof.WalkInts
import PyProof.SeqI3
import PyProof.Rows.SumAny
import PyProof.ListCopy
import PyProof.Conv_int_bool
import PyProof.CallType
import PyProof.PvWalk
import PyProof.CallStr
import KE.KIntText
import PyProof.StrOps
import PyProof.Dict
import PyProof.ForRange
import PyProof.Rows.Range3
import PyProof.Rows.TupIter
import PyProof.StrLoop
import PyProof.CompMap
import PyProof.WalksMore
import PyProof.StrWalks
import PyProof.Rows.SeqMore
import PyProof.Rows.CountFlat
import OpenK.KWalk
import OpenK.KLine
import PyProof.AssignAttr
import PyProof.CallRoads
import PyProof.Rows.PlainObj
import PyProof.Rows.PlainEq
import PyProof.IsiPairs
import PyProof.IsiSeqPairs
import PyProof.IsiHeapPairs
import PyProof.IsiNone
import PyProof.Rows.OwnQ
import PyProof.ExcBaseAll.ValueError
import PyProof.ExcClass2
import PyProof.RulesTry
import PyProof.RulesAs
import PyProof.NsDelKeeps
import PyProof.Rows.Top
import KE.KIsNot
import PyProof.ExcAttrAll.ValueError
import Open.Row
import PySem.Challenge.RW_uf060014_08
set_option Elab.async false
set_option linter.unusedVariables false
set_option maxRecDepth 100000
set_option maxHeartbeats 8000000

namespace Mine
open PySem

/-- pure values; `ref i` is place i of the pure heap -/
inductive PV where
  | none | bool (b : Bool) | int (i : Int) | str (s : Str) | ref (i : Nat)
  deriving DecidableEq, Inhabited

/-- pure objects -/
inductive PO where
  | list (vs : List PV) | tup (vs : List PV) | exc (c : Str)
  | inst (d : Nat) | ns (v : Option PV)
  deriving DecidableEq, Inhabited

abbrev M := Nat → Option PV
abbrev HP := List PO
/-- what an expression does: locals are not changed -/
abbrev RD (α : Type) := M → HP → Option (Except Str α × HP)
abbrev ED := RD PV
abbrev TD := RD Bool
inductive Fl where
  | next | ret (v : PV)
abbrev SD := M → HP → Option (Except Str Fl × M × HP)

structure FnI where
  params : List Str
  scope : Scope
  body : List Stmt

structure PG where
  fns : List (Str × FnI)
  consts : List (Str × PV)
  clss : List (Str × List Str)
  jd : List (Str × Addr × FnI)

noncomputable def upd (m : M) (i : Nat) (v : PV) : M := fun j => if j = i then some v else m j
noncomputable def del (m : M) (i : Nat) : M := fun j => if j = i then none else m j
noncomputable def argM : List Nat → List PV → M
  | s :: ss, v :: vs => fun i => if i = s then some v else argM ss vs i
  | _, _ => fun _ => none

noncomputable def stuckD {α : Type} : RD α := fun _ _ => none
noncomputable def pureD {α : Type} (a : α) : RD α := fun _ H => some (.ok a, H)
noncomputable def bindD {α β : Type} (d : RD α) (k : α → RD β) : RD β := fun m H =>
  match d m H with
  | some (.ok a, H') => k a m H'
  | some (.error c, H') => some (.error c, H')
  | none => none
noncomputable def varD (i : Nat) : ED := fun m H => (m i).map fun v => (.ok v, H)
/-- lift a function on values and the heap that may be stuck -/
noncomputable def liftD {α : Type} (f : HP → Option (α × HP)) : RD α := fun _ H => (f H).map fun p => (.ok p.1, p.2)

/-- bounds of the model on ints -/
noncomputable def smallDiv (b : Int) : Bool := decide (b.natAbs < 2 ^ 2000)
noncomputable def smallMul (a b : Int) : Bool := (decide (a.natAbs < 2 ^ 64) || decide (b.natAbs < 2 ^ 64)) || (decide (a.natAbs < 2 ^ 2000000) && decide (b.natAbs < 2 ^ 2000000))
noncomputable def roomy (n : Nat) : Bool := decide (n ≤ 1000000)

/-- the one thing of a list -/
noncomputable def one? {α : Type} (l : List α) : Option α := match l with
  | a :: r => (match r with | [] => some a | _ :: _ => none)
  | [] => none
theorem one_inv {α : Type} {l : List α} {a : α} (h : one? l = some a) : l = [a] := by
  cases l with
  | nil => cases h
  | cons b r =>
    cases r with
    | nil => cases h; rfl
    | cons _ _ => cases h
noncomputable def two? {α : Type} (l : List α) : Option (α × α) := match l with
  | a :: r => (match one? r with | some b => some (a, b) | none => none)
  | [] => none
theorem two_inv {α : Type} {l : List α} {a b : α} (h : two? l = some (a, b)) : l = [a, b] := by
  cases l with
  | nil => cases h
  | cons c r =>
    unfold two? at h
    simp only at h
    cases ho : one? r with
    | none => rw [ho] at h; cases h
    | some d => rw [ho] at h; cases h; rw [one_inv ho]
/-- on two ints -/
noncomputable def int2 {α : Type} (x y : PV) (k : Int → Int → Option α) : Option α :=
  match x with
  | .int a => (match y with | .int b => k a b | _ => none)
  | _ => none
theorem int2_inv {α : Type} {x y : PV} {k : Int → Int → Option α} {z : α} (h : int2 x y k = some z) : ∃ a b, x = .int a ∧ y = .int b ∧ k a b = some z := by
  cases x with
  | int a =>
    cases y with
    | int b => exact ⟨a, b, rfl, rfl, h⟩
    | _ => cases h
  | _ => cases h
noncomputable def listAt (H : HP) (x : PV) : Option (Nat × List PV) :=
  match x with
  | .ref i => (match H[i]? with
    | some o => (match o with | .list vs => some (i, vs) | _ => none)
    | none => none)
  | _ => none
theorem listAt_inv {H : HP} {x : PV} {i : Nat} {vs : List PV} (h : listAt H x = some (i, vs)) : x = .ref i ∧ H[i]? = some (.list vs) := by
  cases x with
  | ref j =>
    unfold listAt at h
    simp only at h
    cases ho : H[j]? with
    | none => rw [ho] at h; cases h
    | some o =>
      rw [ho] at h
      cases o with
      | list ws => cases h; exact ⟨rfl, ho⟩
      | _ => cases h
  | _ => cases h
theorem listAt_of {H : HP} {i : Nat} {vs : List PV} (h : H[i]? = some (.list vs)) : listAt H (.ref i) = some (i, vs) := by
  unfold listAt; simp only [h]
noncomputable def addL (H : HP) (x y : PV) : Option (PV × HP) :=
  match listAt H x with
  | some a => (match listAt H y with
    | some b => if roomy (a.2.length + b.2.length) then some (.ref H.length, H ++ [.list (a.2 ++ b.2)]) else none
    | none => none)
  | none => none
noncomputable def addV (x y : PV) (H : HP) : Option (PV × HP) :=
  match x with
  | .int a => (match y with | .int b => some (.int (a + b), H) | _ => none)
  | .ref i => addL H (.ref i) y
  | _ => none
noncomputable def opV (op : Operator) (x y : PV) (H : HP) : Option (PV × HP) :=
  match op with
  | .Add => addV x y H
  | .Sub => int2 x y fun a b => some (.int (a - b), H)
  | .Mult => int2 x y fun a b => if smallMul a b then some (.int (a * b), H) else none
  | .FloorDiv => int2 x y fun a b => if b ≠ 0 ∧ smallDiv b = true then some (.int (a.fdiv b), H) else none
  | .Mod => int2 x y fun a b => if b ≠ 0 then some (.int (a.fmod b), H) else none
  | .Pow => int2 x y fun a b => if 0 ≤ b ∧ b ≤ 100 ∧ a.natAbs < 2 ^ 64 then some (.int (a ^ b.toNat), H) else none
  | _ => none
noncomputable def binD (op : Operator) (a b : ED) : ED := bindD a fun x => bindD b fun y => liftD (opV op x y)

noncomputable def datasOf (f : PV → Option PyData) : List PV → Option (List PyData)
  | [] => some []
  | v :: vs => (match f v, datasOf f vs with
    | some d, some ds => some (d :: ds)
    | _, _ => none)
/-- a value as data, as deep as k -/
noncomputable def dataOf (H : HP) : Nat → PV → Option PyData
  | _, .none => some .none
  | _, .bool b => some (.bool b)
  | _, .int i => some (.int i)
  | _, .str _ => none
  | 0, .ref _ => none
  | k + 1, .ref i => (match H[i]? with
    | some (.list vs) => (datasOf (dataOf H k) vs).map .list
    | some (.tup vs) => (datasOf (dataOf H k) vs).map .tuple
    | _ => none)
noncomputable def eqV (H : HP) (x y : PV) : Option Bool := match x, y with
  | .str a, .str b => some (a == b)
  | x, y => (match dataOf H 3 x, dataOf H 3 y with
    | some a, some b => some (PyData.eqv a b)
    | _, _ => none)

/-- a pair -/
noncomputable def tup2At (H : HP) (x : PV) : Option (PV × PV) :=
  match x with
  | .ref i => (match H[i]? with
    | some o => (match o with | .tup vs => two? vs | _ => none)
    | none => none)
  | _ => none
theorem tup2At_inv {H : HP} {x : PV} {q : PV × PV} (h : tup2At H x = some q) : ∃ i, x = .ref i ∧ H[i]? = some (.tup [q.1, q.2]) := by
  cases x with
  | ref j =>
    unfold tup2At at h
    simp only at h
    cases ho : H[j]? with
    | none => rw [ho] at h; cases h
    | some o =>
      rw [ho] at h
      cases o with
      | tup ws => exact ⟨j, rfl, by rw [ho, two_inv h]⟩
      | _ => cases h
  | _ => cases h
theorem tup2At_of {H : HP} {i : Nat} {a b : PV} (h : H[i]? = some (.tup [a, b])) : tup2At H (.ref i) = some (a, b) := by
  unfold tup2At; simp only [h]; rfl
/-- a pair of ints -/
noncomputable def pairAt (H : HP) (x : PV) : Option (Int × Int) := match tup2At H x with
  | some q => int2 q.1 q.2 fun a b => some (a, b)
  | none => none
theorem pairAt_inv {H : HP} {x : PV} {a b : Int} (h : pairAt H x = some (a, b)) : ∃ i, x = .ref i ∧ H[i]? = some (.tup [.int a, .int b]) := by
  unfold pairAt at h
  cases hq : tup2At H x with
  | none => rw [hq] at h; cases h
  | some q =>
    rw [hq] at h
    obtain ⟨i, rfl, hi⟩ := tup2At_inv hq
    obtain ⟨c, d, e1, e2, h⟩ := int2_inv h
    cases h
    exact ⟨i, rfl, by rw [hi, e1, e2]⟩
theorem pairAt_of {H : HP} {i : Nat} {a b : Int} (h : H[i]? = some (.tup [.int a, .int b])) : pairAt H (.ref i) = some (a, b) := by
  unfold pairAt; rw [tup2At_of h]; rfl
noncomputable def ltV (x y : PV) (H : HP) : Option Bool :=
  match x with
  | .int a => (match y with | .int b => some (decide (a < b)) | _ => none)
  | .ref i => (match pairAt H (.ref i) with
    | some p => (match pairAt H y with
      | some q => some (if p.1 = q.1 then decide (p.2 < q.2) else decide (p.1 < q.1))
      | none => none)
    | none => none)
  | _ => none
noncomputable def inV (x y : PV) (H : HP) : Option Bool := match y with
  | .ref i => (match dataOf H 2 (.ref i) with
    | some d => (match d with
      | .tuple xs => (match dataOf H 2 x with | some e => some (xs.any fun y => PyData.eqv y e) | none => none)
      | _ => none)
    | none => none)
  | _ => none
noncomputable def cmpV (op : CmpOp) (x y : PV) (H : HP) : Option Bool :=
  match op with
  | .Lt => ltV x y H
  | .LtE => int2 x y fun a b => some (decide (a ≤ b))
  | .Gt => int2 x y fun a b => some (decide (a > b))
  | .GtE => int2 x y fun a b => some (decide (a ≥ b))
  | .Eq => eqV H x y
  | .NotEq => (eqV H x y).map (!·)
  | .Is => (match y with | .none => some (decide (x = .none)) | _ => none)
  | .IsNot => (match y with | .none => some (decide (x ≠ .none)) | _ => none)
  | .In => inV x y H
  | .NotIn => (inV x y H).map (!·)
noncomputable def cmpD (op : CmpOp) (a b : ED) : TD := bindD a fun x => bindD b fun y => liftD fun H => (cmpV op x y H).map fun t => (t, H)
noncomputable def boolE (t : TD) : ED := bindD t fun b => pureD (.bool b)
/-- truth: of bools alone -/
noncomputable def truthV : PV → TD
  | .bool b => pureD b
  | _ => stuckD
noncomputable def truthD (d : ED) : TD := bindD d truthV
noncomputable def notT (t : TD) : TD := bindD t fun b => pureD (!b)
/-- a chain of and | or, over bools -/
noncomputable def boolD (isAnd : Bool) : List ED → ED
  | [] => stuckD
  | [d] => d
  | d :: r => bindD d fun v => bindD (truthV v) fun b => if b = isAnd then boolD isAnd r else pureD v
noncomputable def allT (isAnd : Bool) : List TD → TD
  | [] => pureD isAnd
  | t :: r => bindD t fun b => if b = isAnd then allT isAnd r else pureD b
noncomputable def unV (op : UnaryOp) (x : PV) : Option PV :=
  match op, x with
  | .USub, .int a => some (.int (-a))
  | .Not, .bool b => some (.bool (!b))
  | _, _ => none
noncomputable def unD (op : UnaryOp) (a : ED) : ED := bindD a fun x => liftD fun H => (unV op x).map fun v => (v, H)

noncomputable def listD : List ED → RD (List PV)
  | [] => pureD []
  | d :: r => bindD d fun v => bindD (listD r) fun vs => pureD (v :: vs)
noncomputable def mkListD (ds : List ED) : ED := bindD (listD ds) fun vs => liftD fun H => if roomy vs.length then some (.ref H.length, H ++ [.list vs]) else none
noncomputable def mkTupD (ds : List ED) : ED := bindD (listD ds) fun vs => liftD fun H => if roomy vs.length then some (.ref H.length, H ++ [.tup vs]) else none

/-- place of an index, from behind where negative -/
noncomputable def idxOf? (k : Int) (n : Nat) : Option Nat := if 0 ≤ k then (if k < n then some k.toNat else none) else (if 0 ≤ k + n then some (k + n).toNat else none)
noncomputable def itemV (x y : PV) (H : HP) : Option PV :=
  match x, y with
  | .ref i, .int k => (match H[i]? with
    | some (.list vs) => (idxOf? k vs.length).bind fun j => vs[j]?
    | some (.tup vs) => (idxOf? k vs.length).bind fun j => vs[j]?
    | _ => none)
  | _, _ => none
noncomputable def itemD (a b : ED) : ED := bindD a fun x => bindD b fun y => liftD fun H => (itemV x y H).map fun v => (v, H)
/-- a slice's bound, clipped -/
noncomputable def partOf? (x : PV) : Option (Option Int) := match x with | .none => some none | .int k => some (some k) | _ => none
noncomputable def sliceV (x l u : PV) (H : HP) : Option (PV × HP) :=
  match x with
  | .ref i => (match H[i]? with
    | some (.list vs) => (match partOf? l, partOf? u with
      | some a, some b => some (.ref H.length, H ++ [.list ((vs.drop (a.elim 0 (clipAt vs.length))).take (b.elim vs.length (clipAt vs.length) - a.elim 0 (clipAt vs.length)))])
      | _, _ => none)
    | _ => none)
  | _ => none
noncomputable def optD : Option ED → ED
  | none => pureD .none
  | some d => d
noncomputable def sliceD (a : ED) (l u : Option ED) : ED := bindD a fun x => bindD (optD l) fun p => bindD (optD u) fun q => liftD (sliceV x p q)

/-- built-in functions -/
inductive BI where
  | len | list | sum | min | max | int
noncomputable def BI.str : BI → String
  | .len => "len" | .list => "list" | .sum => "sum" | .min => "min" | .max => "max" | .int => "int"
noncomputable def bi (f : Str) : Option BI :=
  if f = "len" then some .len else if f = "list" then some .list else if f = "sum" then some .sum
  else if f = "min" then some .min else if f = "max" then some .max else if f = "int" then some .int else
  none
theorem bi_inv {f : Str} {b : BI} (h : bi f = some b) : f = Str.ofString b.str := by
  unfold bi at h
  by_cases h1 : f = "len"
  · rw [if_pos h1] at h; cases h; exact h1
  rw [if_neg h1] at h
  by_cases h2 : f = "list"
  · rw [if_pos h2] at h; cases h; exact h2
  rw [if_neg h2] at h
  by_cases h3 : f = "sum"
  · rw [if_pos h3] at h; cases h; exact h3
  rw [if_neg h3] at h
  by_cases h4 : f = "min"
  · rw [if_pos h4] at h; cases h; exact h4
  rw [if_neg h4] at h
  by_cases h5 : f = "max"
  · rw [if_pos h5] at h; cases h; exact h5
  rw [if_neg h5] at h
  by_cases h6 : f = "int"
  · rw [if_pos h6] at h; cases h; exact h6
  rw [if_neg h6] at h
  cases h
noncomputable def intsOf? : List PV → Option (List Int)
  | [] => some []
  | .int i :: r => (intsOf? r).map (i :: ·)
  | _ => none
noncomputable def minOf (a : Int) : List Int → Int
  | [] => a
  | b :: r => minOf (if b < a then b else a) r
noncomputable def lenV (H : HP) (x : PV) : Option (PV × HP) := match x with
  | .ref i => (match H[i]? with
    | some o => (match o with
      | .list a => some (.int a.length, H)
      | .tup a => some (.int a.length, H)
      | .exc _ => none
      | .inst _ => none
      | .ns _ => none
      )
    | none => none)
  | _ => none
noncomputable def listV (H : HP) (x : PV) : Option (PV × HP) := match listAt H x with
  | some a => some (.ref H.length, H ++ [.list a.2])
  | none => none
noncomputable def sumV (H : HP) (x : PV) : Option (PV × HP) := match listAt H x with
  | some a => (intsOf? a.2).map fun xs => (.int xs.sum, H)
  | none => none
noncomputable def minL (H : HP) (x : PV) : Option (PV × HP) := match listAt H x with
  | some a => (match intsOf? a.2 with
    | some xs => (match xs with | x :: xs => some (.int (minOf x xs), H) | [] => none)
    | none => none)
  | none => none
noncomputable def intV (H : HP) (x : PV) : Option (PV × HP) := match x with
  | .bool b => some (.int (if b then 1 else 0), H)
  | _ => none
noncomputable def biV (b : BI) (vs : List PV) (H : HP) : Option (PV × HP) :=
  match b with
  | .len => (match one? vs with | some x => lenV H x | none => none)
  | .list => (match one? vs with | some x => listV H x | none => none)
  | .sum => (match one? vs with | some x => sumV H x | none => none)
  | .min => (match one? vs with
    | some x => minL H x
    | none => (match two? vs with | some p => int2 p.1 p.2 fun a b => some (.int (if b < a then b else a), H) | none => none))
  | .max => (match two? vs with | some p => int2 p.1 p.2 fun a b => some (.int (if a < b then b else a), H) | none => none)
  | .int => (match one? vs with | some x => intV H x | none => none)
noncomputable def callBiD (b : BI) (ds : List ED) : ED := bindD (listD ds) fun vs => liftD (biV b vs)

/-- isinstance against a class's name -/
inductive TyN where
  | int | bool | list | tup | str
noncomputable def TyN.name : TyN → String
  | .int => "int" | .bool => "bool" | .list => "list" | .tup => "tuple" | .str => "str"
noncomputable def tyOf (T : Str) : Option TyN :=
  if T = "int" then some .int else if T = "bool" then some .bool else if T = "list" then some .list else if T = "tuple" then some .tup else if T = "str" then some .str else none
theorem tyOf_inv {T : Str} {t : TyN} (h : tyOf T = some t) : T = Str.ofString t.name := by
  unfold tyOf at h
  by_cases h1 : T = "int"
  · rw [if_pos h1] at h; cases h; exact h1
  rw [if_neg h1] at h
  by_cases h2 : T = "bool"
  · rw [if_pos h2] at h; cases h; exact h2
  rw [if_neg h2] at h
  by_cases h3 : T = "list"
  · rw [if_pos h3] at h; cases h; exact h3
  rw [if_neg h3] at h
  by_cases h4 : T = "tuple"
  · rw [if_pos h4] at h; cases h; exact h4
  rw [if_neg h4] at h
  by_cases h5 : T = "str"
  · rw [if_pos h5] at h; cases h; exact h5
  rw [if_neg h5] at h; cases h
noncomputable def isTy (t : TyN) (x : PV) (H : HP) : Option Bool := match x with
  | .none => some false
  | .bool _ => some (match t with | .int => true | .bool => true | .list => false | .tup => false | .str => false)
  | .int _ => some (match t with | .int => true | .bool => false | .list => false | .tup => false | .str => false)
  | .str _ => some (match t with | .int => false | .bool => false | .list => false | .tup => false | .str => true)
  | .ref i => (match H[i]? with
    | some o => (match o with
      | .list _ => some (match t with | .int => false | .bool => false | .list => true | .tup => false | .str => false)
      | .tup _ => some (match t with | .int => false | .bool => false | .list => false | .tup => true | .str => false)
      | .exc _ => none
      | .inst _ => none
      | .ns _ => none
      )
    | none => none)
noncomputable def isExc (G : PG) (T : Str) (x : PV) (H : HP) : Option Bool := match x with
  | .ref i => (match H[i]? with
    | some o => (match o with
      | .exc c => (match G.clss.lookup c with
        | some as => if T = "ValueError" ∨ (G.clss.lookup T).isSome = true then some (as.contains T) else none
        | none => none)
      | _ => none)
    | none => none)
  | _ => none
theorem isExc_inv {G : PG} {T : Str} {x : PV} {H : HP} {b : Bool} (h : isExc G T x H = some b) : ∃ i c as, x = .ref i ∧ H[i]? = some (.exc c) ∧ G.clss.lookup c = some as ∧ (T = "ValueError" ∨ (G.clss.lookup T).isSome = true) ∧ b = as.contains T := by
  cases x <;> try cases h
  rename_i i
  unfold isExc at h
  simp only at h
  cases ho : H[i]? with
  | none => rw [ho] at h; cases h
  | some o =>
    rw [ho] at h
    cases o <;> try cases h
    rename_i c
    simp only at h
    cases hl : G.clss.lookup c with
    | none => rw [hl] at h; cases h
    | some as =>
      rw [hl] at h
      simp only at h
      by_cases hq : T = "ValueError" ∨ (G.clss.lookup T).isSome = true
      · rw [if_pos hq] at h; cases h; exact ⟨i, c, as, rfl, ho, hl, hq, rfl⟩
      · rw [if_neg hq] at h; cases h
noncomputable def isIn (G : PG) (T : Str) (x : PV) (H : HP) : Option Bool := match tyOf T with
  | some t => isTy t x H
  | none => isExc G T x H
noncomputable def isInD (G : PG) (T : Str) (d : ED) : ED := bindD d fun x => liftD fun H => (isIn G T x H).map fun b => (.bool b, H)

/-- methods -/
inductive MI where
  | append | reverse | pop | count
noncomputable def mi (f : Str) : Option MI :=
  if f = "append" then some .append else if f = "reverse" then some .reverse else if f = "pop" then some .pop else if f = "count" then some .count else none
/-- the first place of the heap is the script: it is read alone -/
noncomputable def isBoolV : PV → Bool
  | .bool _ => true
  | _ => false
noncomputable def methV (b : MI) (x : PV) (vs : List PV) (H : HP) : Option (PV × HP) :=
  match listAt H x with
  | some q => (match b with
    | .append => (match one? vs with
      | some v => if roomy (q.2.length + 1) = true ∧ q.1 ≠ 0 then some (.none, H.set q.1 (.list (q.2 ++ [v]))) else none
      | none => none)
    | .pop => (match vs with | [] => if q.1 ≠ 0 then q.2.getLast?.map fun v => (v, H.set q.1 (.list q.2.dropLast)) else none | _ :: _ => none)
    | .count => (match one? vs with
      | some v => if v = .bool true ∧ q.2.all isBoolV = true then some (.int (q.2.count (.bool true)), H) else none
      | none => none)
    | .reverse => none
    )
  | none => none
noncomputable def needList (x : PV) : RD Unit := liftD fun H => match listAt H x with
  | some _ => some ((), H)
  | none => none
theorem need_inv {α : Type} {x : PV} {k : Unit → RD α} {m : M} {H : HP} {p : Except Str α × HP} (h : bindD (needList x) k m H = some p) : ∃ q, listAt H x = some q ∧ k () m H = some p := by
  cases hl : listAt H x with
  | none => simp only [bindD, needList, liftD, hl] at h; cases h
  | some q =>
    simp only [bindD, needList, liftD, hl] at h
    exact ⟨q, rfl, h⟩
noncomputable def methD (b : MI) (o : ED) (ds : List ED) : ED := bindD o fun x => bindD (needList x) fun _ => bindD (listD ds) fun vs => liftD (methV b x vs)
/-- the text's own class with objects, and their one attribute -/
noncomputable def jdName : Str := "Judge"
noncomputable def jdAttr : Str := "coins"
noncomputable def instAt (H : HP) (x : PV) : Option Nat := match x with
  | .ref i => (match H[i]? with
    | some o => (match o with | .inst d => some d | _ => none)
    | none => none)
  | _ => none
theorem instAt_inv {H : HP} {x : PV} {d : Nat} (h : instAt H x = some d) : ∃ i, x = .ref i ∧ H[i]? = some (.inst d) := by
  cases x with
  | ref i =>
    unfold instAt at h
    simp only at h
    cases ho : H[i]? with
    | none => rw [ho] at h; cases h
    | some o =>
      rw [ho] at h
      cases o with
      | inst e => cases h; exact ⟨i, rfl, ho⟩
      | _ => cases h
  | _ => cases h
theorem instAt_of {H : HP} {i d : Nat} (h : H[i]? = some (.inst d)) : instAt H (.ref i) = some d := by
  unfold instAt; simp only [h]
noncomputable def attrV (x : PV) (H : HP) : Option PV := match instAt H x with
  | some d => (match H[d]? with
    | some o => (match o with | .ns v => v | _ => none)
    | none => none)
  | none => none
theorem attrV_inv {H : HP} {x v : PV} (h : attrV x H = some v) : ∃ i d, x = .ref i ∧ H[i]? = some (.inst d) ∧ H[d]? = some (.ns (some v)) := by
  unfold attrV at h
  cases hi : instAt H x with
  | none => rw [hi] at h; cases h
  | some d =>
    rw [hi] at h
    simp only at h
    cases ho : H[d]? with
    | none => rw [ho] at h; cases h
    | some o =>
      rw [ho] at h
      cases o with
      | ns w =>
        obtain ⟨i, e1, e2⟩ := instAt_inv hi
        replace h : w = some v := h
        subst h
        exact ⟨i, d, e1, e2, ho⟩
      | _ => cases h
noncomputable def attrD (o : ED) : ED := bindD o fun x => liftD fun H => (attrV x H).map fun v => (v, H)
noncomputable def setAttrV (x v : PV) (H : HP) : Option HP := match instAt H x with
  | some d => (match H[d]? with
    | some o => (match o with | .ns _ => if d ≠ 0 then some (H.set d (.ns (some v))) else none | _ => none)
    | none => none)
  | none => none
theorem setAttrV_inv {H H' : HP} {x v : PV} (h : setAttrV x v H = some H') : ∃ i d w, x = .ref i ∧ H[i]? = some (.inst d) ∧ H[d]? = some (.ns w) ∧ d ≠ 0 ∧ H' = H.set d (.ns (some v)) := by
  unfold setAttrV at h
  cases hi : instAt H x with
  | none => rw [hi] at h; cases h
  | some d =>
    rw [hi] at h
    simp only at h
    cases ho : H[d]? with
    | none => rw [ho] at h; cases h
    | some o =>
      rw [ho] at h
      cases o with
      | ns w =>
        obtain ⟨i, e1, e2⟩ := instAt_inv hi
        simp only at h
        by_cases hd : d ≠ 0
        · rw [if_pos hd] at h; cases h; exact ⟨i, d, w, e1, e2, ho, hd, rfl⟩
        · rw [if_neg hd] at h; cases h
      | _ => cases h
noncomputable def nsOf (x : PV) (H : HP) : Option (Nat × Option PV) := match instAt H x with
  | some d => (match H[d]? with
    | some o => (match o with | .ns v => some (d, v) | _ => none)
    | none => none)
  | none => none
theorem nsOf_inv {H : HP} {x : PV} {d : Nat} {v : Option PV} (h : nsOf x H = some (d, v)) : ∃ i, x = .ref i ∧ H[i]? = some (.inst d) ∧ H[d]? = some (.ns v) := by
  unfold nsOf at h
  cases hi : instAt H x with
  | none => rw [hi] at h; cases h
  | some e =>
    rw [hi] at h
    simp only at h
    cases ho : H[e]? with
    | none => rw [ho] at h; cases h
    | some o =>
      rw [ho] at h
      cases o with
      | ns w =>
        cases h
        obtain ⟨i, e1, e2⟩ := instAt_inv hi
        exact ⟨i, e1, e2, ho⟩
      | _ => cases h
noncomputable def needInst (x : PV) : RD Unit := liftD fun H => (nsOf x H).map fun _ => ((), H)
theorem needInst_inv {α : Type} {x : PV} {k : Unit → RD α} {m : M} {H : HP} {p : Except Str α × HP} (h : bindD (needInst x) k m H = some p) : ∃ q, nsOf x H = some q ∧ k () m H = some p := by
  cases hl : nsOf x H with
  | none => simp only [bindD, needInst, liftD, hl] at h; cases h
  | some q =>
    simp only [bindD, needInst, liftD, hl] at h
    exact ⟨q, rfl, h⟩
abbrev FnT := List PV → HP → Option (Except Str PV × HP)
/-- a method of the class -/
noncomputable def methJ (f : FnT) (o : ED) (ds : List ED) : ED := bindD o fun x => bindD (needInst x) fun _ => bindD (listD ds) fun vs => fun _ H => f (x :: vs) H
/-- a new object -/
noncomputable def newJ (f : FnT) : ED := fun _ H => match f [.ref (H.length + 1)] (H ++ [.ns none, .inst H.length]) with
  | some p => (match p.1 with
    | .ok v => if v = .none then some (.ok (.ref (H.length + 1)), p.2) else none
    | .error _ => none)
  | none => none
theorem newJ_inv {f : FnT} {m : M} {H : HP} {p : Except Str PV × HP} (h : newJ f m H = some p) : ∃ H', f [.ref (H.length + 1)] (H ++ [.ns none, .inst H.length]) = some (.ok .none, H') ∧ p = (.ok (.ref (H.length + 1)), H') := by
  unfold newJ at h
  cases hf : f [.ref (H.length + 1)] (H ++ [.ns none, .inst H.length]) with
  | none => rw [hf] at h; cases h
  | some q =>
    obtain ⟨e, H'⟩ := q
    rw [hf] at h
    cases e with
    | error c => cases h
    | ok v =>
      simp only at h
      by_cases hv : v = .none
      · rw [if_pos hv] at h; cases h; subst hv; exact ⟨H', rfl, rfl⟩
      · rw [if_neg hv] at h; cases h
-- shapes of trees
inductive EV where
  | name (x : Str) | attr (o : Expr) (f : Str) (p : Pos) | slice (l u s : Option Expr) | sub (o i : Expr) | call (f : Expr) (as : List Expr) (ks : List Keyword) | comp | tuple (es : List Expr) | const (c : Const) | star | other
noncomputable def ev : Expr → EV
  | .Name x _ => .name x
  | .Attribute o f p => .attr o f p
  | .Slice l u s _ => .slice l u s
  | .Subscript o i _ => .sub o i
  | .Call f as ks _ => .call f as ks
  | .ListComp .. => .comp
  | .Tuple es _ _ => .tuple es
  | .Constant c _ _ => .const c
  | .Starred .. => .star
  | _ => .other
noncomputable def EV.Says (v : EV) (e : Expr) : Prop := match v with
  | .name x => ∃ p, e = .Name x p
  | .attr o f p => e = .Attribute o f p
  | .slice l u s => ∃ p, e = .Slice l u s p
  | .sub o i => ∃ p, e = .Subscript o i p
  | .call f as ks => ∃ p, e = .Call f as ks p
  | .comp => True
  | .tuple es => ∃ c d, e = .Tuple es c d
  | .const c => ∃ k p, e = .Constant c k p
  | .star => True
  | .other => True
theorem ev_says (e : Expr) : (ev e).Says e := by
  cases e <;> first | exact trivial | exact ⟨_, rfl⟩ | exact ⟨_, _, rfl⟩ | rfl
noncomputable def okO {α : Type} (o : Option α) (P : α → Prop) : Prop := match o with | some a => P a | none => True
theorem okO_inv {α : Type} {o : Option α} {P : α → Prop} (h : okO o P) {a : α} (e : o = some a) : P a := by subst e; exact h
noncomputable def notStar (e : Expr) : Bool := match ev e with | .star => false | _ => true
noncomputable def plainArgs (es : List Expr) : Bool := es.all notStar
noncomputable def notCall0 (o : Expr) : Bool := match ev o with
  | .call _ as _ => (match as with | [] => false | _ :: _ => true)
  | _ => true
noncomputable def isComp (e : Expr) : Bool := match ev e with | .comp => true | _ => false
noncomputable def isSliceE (e : Expr) : Bool := match ev e with | .slice .. => true | _ => false
noncomputable def EV.asName : EV → Option Str
  | .name x => some x
  | _ => none
noncomputable def asName (e : Expr) : Option Str := (ev e).asName
theorem asName_inv {e : Expr} {x : Str} (h : asName e = some x) : ∃ p, e = .Name x p :=
  okO_inv (o := (ev e).asName) (P := fun x => ∃ p, e = .Name x p) (by have := ev_says e; cases hv : ev e <;> rw [hv] at this <;> first | exact trivial | exact this) h
noncomputable def EV.asAttr : EV → Option (Expr × Str × Pos)
  | .attr o f p => some (o, f, p)
  | _ => none
noncomputable def asAttr (e : Expr) : Option (Expr × Str × Pos) := (ev e).asAttr
theorem asAttr_inv {e o : Expr} {f : Str} {p : Pos} (h : asAttr e = some (o, f, p)) : e = .Attribute o f p :=
  okO_inv (o := (ev e).asAttr) (P := fun q => e = .Attribute q.1 q.2.1 q.2.2) (by have := ev_says e; cases hv : ev e <;> rw [hv] at this <;> first | exact trivial | exact this) h
noncomputable def EV.asSlice : EV → Option (Option Expr × Option Expr)
  | .slice l u s => (match s with | none => some (l, u) | some _ => none)
  | _ => none
noncomputable def asSlice (e : Expr) : Option (Option Expr × Option Expr) := (ev e).asSlice
theorem asSlice_inv {e : Expr} {l u : Option Expr} (h : asSlice e = some (l, u)) : ∃ p, e = .Slice l u none p :=
  okO_inv (o := (ev e).asSlice) (P := fun q => ∃ p, e = .Slice q.1 q.2 none p) (by
    have := ev_says e
    cases hv : ev e <;> rw [hv] at this <;> try exact trivial
    rename_i l u s
    cases s <;> first | exact trivial | exact this) h
noncomputable def EV.asSub : EV → Option (Expr × Expr)
  | .sub o i => some (o, i)
  | _ => none
noncomputable def asSub (e : Expr) : Option (Expr × Expr) := (ev e).asSub
theorem asSub_inv {e o i : Expr} (h : asSub e = some (o, i)) : ∃ p, e = .Subscript o i p :=
  okO_inv (o := (ev e).asSub) (P := fun q => ∃ p, e = .Subscript q.1 q.2 p) (by have := ev_says e; cases hv : ev e <;> rw [hv] at this <;> first | exact trivial | exact this) h
noncomputable def EV.asCall : EV → Option (Expr × List Expr × List Keyword)
  | .call f as ks => some (f, as, ks)
  | _ => none
noncomputable def asCall (e : Expr) : Option (Expr × List Expr × List Keyword) := (ev e).asCall
theorem asCall_inv {e : Expr} {q : Expr × List Expr × List Keyword} (h : asCall e = some q) : ∃ p, e = .Call q.1 q.2.1 q.2.2 p :=
  okO_inv (o := (ev e).asCall) (P := fun q => ∃ p, e = .Call q.1 q.2.1 q.2.2 p) (by have := ev_says e; cases hv : ev e <;> rw [hv] at this <;> first | exact trivial | exact this) h
noncomputable def EV.asTup : EV → Option (List Expr)
  | .tuple es => some es
  | _ => none
noncomputable def asPair (e : Expr) : Option (Str × Str) := match (ev e).asTup with
  | some es => (match two? es with
    | some p => (match asName p.1 with
      | some x => (match asName p.2 with | some y => some (x, y) | none => none)
      | none => none)
    | none => none)
  | none => none
theorem asPair_inv {e : Expr} {x y : Str} (h : asPair e = some (x, y)) : ∃ p q c d, e = .Tuple [.Name x p, .Name y q] c d := by
  unfold asPair at h
  cases ht : (ev e).asTup with
  | none => rw [ht] at h; cases h
  | some es =>
    obtain ⟨c, d, rfl⟩ := okO_inv (o := (ev e).asTup) (P := fun es => ∃ c d, e = .Tuple es c d) (by have := ev_says e; cases hv : ev e <;> rw [hv] at this <;> first | exact trivial | exact this) ht
    rw [ht] at h
    simp only at h
    cases h2 : two? es with
    | none => rw [h2] at h; cases h
    | some q =>
      obtain ⟨a, b⟩ := q
      rw [h2] at h
      simp only at h
      cases ha : asName a with
      | none => rw [ha] at h; cases h
      | some x' =>
        rw [ha] at h
        simp only at h
        cases hb : asName b with
        | none => rw [hb] at h; cases h
        | some y' =>
          rw [hb] at h
          cases h
          obtain ⟨p, rfl⟩ := asName_inv ha
          obtain ⟨q, rfl⟩ := asName_inv hb
          exact ⟨p, q, c, d, by rw [two_inv h2]⟩
noncomputable def EV.asStr : EV → Option Str
  | .const c => (match c with | .str s => some s | _ => none)
  | _ => none
noncomputable def asStr (e : Expr) : Option Str := (ev e).asStr
theorem asStr_inv {e : Expr} {s : Str} (h : asStr e = some s) : ∃ k p, e = .Constant (.str s) k p :=
  okO_inv (o := (ev e).asStr) (P := fun s => ∃ k p, e = .Constant (.str s) k p) (by
    have := ev_says e
    cases hv : ev e <;> rw [hv] at this <;> try exact trivial
    rename_i c
    cases c <;> first | exact trivial | exact this) h
/-- the class of a raise with a text -/
noncomputable def asRaise (v c : Option Expr) : Option Str := match c with
  | some _ => none
  | none => (match v with
    | none => none
    | some v => (match asCall v with
      | some q => (match q.2.2 with
        | _ :: _ => none
        | [] => (match one? q.2.1 with
          | some a => (match asStr a with | some _ => asName q.1 | none => none)
          | none => none))
      | none => none))
theorem asRaise_inv {v c : Option Expr} {x : Str} (h : asRaise v c = some x) : ∃ p s k q r, v = some (.Call (.Name x p) [.Constant (.str s) k q] [] r) ∧ c = none := by
  unfold asRaise at h
  cases c with
  | some _ => cases h
  | none =>
    cases v with
    | none => cases h
    | some v =>
      simp only at h
      cases hc : asCall v with
      | none => rw [hc] at h; cases h
      | some q =>
        obtain ⟨r, rfl⟩ := asCall_inv hc
        obtain ⟨f, as, ks⟩ := q
        rw [hc] at h
        simp only at h
        cases ks with
        | cons _ _ => cases h
        | nil =>
          simp only at h
          cases ho : one? as with
          | none => rw [ho] at h; cases h
          | some a =>
            rw [ho] at h
            simp only at h
            cases hs : asStr a with
            | none => rw [hs] at h; cases h
            | some s =>
              rw [hs] at h
              obtain ⟨p, rfl⟩ := asName_inv h
              obtain ⟨k, q, rfl⟩ := asStr_inv hs
              exact ⟨p, s, k, q, r, by rw [one_inv ho], rfl⟩
noncomputable def asGen (gs : List Comprehension) : Option (Str × Expr × List Expr) := match one? gs with
  | some g => (match asName g.target with
    | some x => if g.is_async = 0 then some (x, g.iter, g.ifs) else none
    | none => none)
  | none => none
theorem asGen_inv {gs : List Comprehension} {x : Str} {it : Expr} {ifs : List Expr} (h : asGen gs = some (x, it, ifs)) : ∃ p, gs = [⟨.Name x p, it, ifs, 0⟩] := by
  unfold asGen at h
  cases ho : one? gs with
  | none => rw [ho] at h; cases h
  | some g =>
    rw [ho] at h
    simp only at h
    cases hn : asName g.target with
    | none => rw [hn] at h; cases h
    | some y =>
      rw [hn] at h
      simp only at h
      by_cases ha : g.is_async = 0
      · rw [if_pos ha] at h
        cases h
        obtain ⟨p, hp⟩ := asName_inv hn
        refine ⟨p, ?_⟩
        rw [one_inv ho]
        obtain ⟨t, i, f, a⟩ := g
        cases hp; cases ha; rfl
      · rw [if_neg ha] at h; cases h
noncomputable def asHand (h : ExceptHandler) : Option (Str × Option Str × List Stmt) := match h with
  | .ExceptHandler t nm body _ => (match t with
    | some t => (match body with
      | s :: b => (match asName t with | some c => some (c, nm, s :: b) | none => none)
      | [] => none)
    | none => none)
theorem asHand_inv {h : ExceptHandler} {c : Str} {nm : Option Str} {body : List Stmt} (e : asHand h = some (c, nm, body)) : ∃ p s b q, body = s :: b ∧ h = .ExceptHandler (some (.Name c p)) nm (s :: b) q := by
  obtain ⟨t, nm', body', q⟩ := h
  unfold asHand at e
  simp only at e
  cases t with
  | none => cases e
  | some t =>
    cases body' with
    | nil => cases e
    | cons s b =>
      simp only at e
      cases ht : asName t with
      | none => rw [ht] at e; cases e
      | some c' =>
        rw [ht] at e
        cases e
        obtain ⟨p, rfl⟩ := asName_inv ht
        exact ⟨p, s, b, q, rfl, rfl⟩

/-- a call of the text's own def -/
noncomputable def fnD (k : Nat) (slots : List Nat) (body : SD) (vs : List PV) (H : HP) : Option (Except Str PV × HP) :=
  if vs.length = k then
    match body (argM slots vs) H with
    | some (.ok (.ret v), _, H') => some (.ok v, H')
    | some (.ok .next, _, H') => some (.ok .none, H')
    | some (.error c, _, H') => some (.error c, H')
    | none => none
  else none
noncomputable def callD (f : List PV → HP → Option (Except Str PV × HP)) (ds : List ED) : ED := bindD (listD ds) fun vs => fun _ H => f vs H

/-- what a for goes through: the items; the place of the list, if it is one -/
structure Src where
  items : List PV
  at? : Option Nat
noncomputable def Src.ok (x : Src) (H : HP) : Bool := match x.at? with
  | none => true
  | some i => decide (H[i]? = some (.list x.items))
noncomputable def rangeL (a : Int) (n : Nat) (c : Int) : List PV := (List.range n).map fun (i : Nat) => PV.int (a + (i : Int) * c)
noncomputable def range1 (a : PV) (H : HP) : Option (Src × HP) := match a with
  | .int b => if decide (b.natAbs < 2 ^ 62) then some (⟨rangeL 0 b.toNat 1, none⟩, H) else none
  | _ => none
noncomputable def range2 (a b : PV) (H : HP) : Option (Src × HP) := int2 a b fun a b => if decide (a.natAbs < 2 ^ 61) && decide (b.natAbs < 2 ^ 61) then some (⟨rangeL a (b - a).toNat 1, none⟩, H) else none
noncomputable def range3 (a b c : PV) (H : HP) : Option (Src × HP) := if c = .int (-1) then int2 a b fun a b => if decide (a.natAbs < 2 ^ 61) && decide (b.natAbs < 2 ^ 61) then some (⟨rangeL a (a - b).toNat (-1), none⟩, H) else none else none
noncomputable def rangeV (vs : List PV) (H : HP) : Option (Src × HP) :=
  match vs with
  | a :: r => (match r with
    | [] => range1 a H
    | b :: r => (match r with
      | [] => range2 a b H
      | c :: r => (match r with
        | [] => range3 a b c H
        | _ :: _ => none)))
  | [] => none
noncomputable def rangeD (ds : List ED) : RD Src := bindD (listD ds) fun vs => liftD (rangeV vs)
noncomputable def srcV (x : PV) (H : HP) : Option (Src × HP) := match listAt H x with
  | some q => some (⟨q.2, some q.1⟩, H)
  | none => none
noncomputable def seqSrcD (d : ED) : RD Src := bindD d fun x => liftD (srcV x)

/-- the targets of a for | comprehension -/
inductive Tgt where
  | one (i : Nat) | two (i j : Nat)
noncomputable def Tgt.put (t : Tgt) (v : PV) (m : M) (H : HP) : Option M :=
  match t with
  | .one i => some (upd m i v)
  | .two i j => (match tup2At H v with
    | some q => some (upd (upd m i q.1) j q.2)
    | none => none)

/-- a comprehension's own name beside the frame's -/
noncomputable def updC (m : M) (i : Nat) (v : PV) : M := fun j => if j = i then some v else if j < 1000 then m j else none
noncomputable def noErr {α : Type} (d : RD α) : RD α := fun m H => match d m H with
  | some (.ok a, H') => some (.ok a, H')
  | _ => none
noncomputable def compStep (test : TD) (elt : ED) (acc : List PV) : RD (List PV) := bindD (noErr test) fun b => if b then bindD elt fun x => pureD (acc ++ [x]) else pureD acc
noncomputable def compGo (i : Nat) (src : Src) (test : TD) (elt : ED) : List PV → List PV → RD (List PV)
  | [], acc => pureD acc
  | v :: vs, acc => fun m H => if src.ok H = true then
      (match compStep test elt acc (updC m i v) H with
      | some (.ok acc', H') => compGo i src test elt vs acc' m H'
      | some (.error c, H') => if roomy acc.length then some (.error c, H') else none
      | none => none)
    else none
noncomputable def compD (i : Nat) (src : RD Src) (test : TD) (elt : ED) : ED := bindD src fun x => bindD (compGo i x test elt x.items []) fun vs =>
  liftD fun H => if roomy vs.length = true ∧ x.ok H = true then some (.ref H.length, H ++ [.list vs]) else none

-- statements
noncomputable def nextS : SD := fun m H => some (.ok .next, m, H)
noncomputable def stuckS : SD := fun _ _ => none
noncomputable def runS {α : Type} (d : RD α) (k : α → SD) : SD := fun m H =>
  match d m H with
  | some (.ok a, H') => k a m H'
  | some (.error c, H') => some (.error c, m, H')
  | none => none
noncomputable def seqS (a b : SD) : SD := fun m H =>
  match a m H with
  | some (.ok .next, m', H') => b m' H'
  | x => x
noncomputable def ifS (t : TD) (a b : SD) : SD := runS t fun x => if x then a else b
noncomputable def retS (d : ED) : SD := runS d fun v => fun m H => some (.ok (.ret v), m, H)
noncomputable def setS (i : Nat) (d : ED) : SD := runS d fun v => fun m H => some (.ok .next, upd m i v, H)
noncomputable def setItemV (x y v : PV) (H : HP) : Option HP :=
  match x, y with
  | .ref i, .int k => (match H[i]? with
    | some (.list vs) => if i ≠ 0 ∧ 0 ≤ k ∧ k < vs.length then some (H.set i (.list (vs.set k.toNat v))) else none
    | _ => none)
  | _, _ => none
noncomputable def setItemS (o i d : ED) : SD := runS d fun v => runS o fun x => runS i fun y => fun m H => (setItemV x y v H).map fun H' => (.ok .next, m, H')
noncomputable def setAttrS (o d : ED) : SD := runS d fun v => runS o fun x => fun m H => (setAttrV x v H).map fun H' => (.ok .next, m, H')
noncomputable def dropS (d : ED) : SD := runS d fun _ => nextS
noncomputable def raiseS (c : Str) : SD := fun m H => some (.error c, m, H)
noncomputable def forGo (t : Tgt) (src : Src) (body : SD) : List PV → SD
  | [] => nextS
  | v :: vs => fun m H => if src.ok H then
      match t.put v m H with
      | some m1 => seqS body (forGo t src body vs) m1 H
      | none => none
    else none
noncomputable def forS (t : Tgt) (src : RD Src) (body : SD) : SD := runS src fun x => seqS (forGo t x body x.items) fun m H => if x.ok H then some (.ok .next, m, H) else none
structure Hd where
  cls : Str
  name : Option Nat
  body : SD
/-- whether an exception of class c is one of class d -/
noncomputable def hitV (G : PG) (c d : Str) : Option Bool := match G.clss.lookup c with
  | some as => (match G.clss.lookup d with | some _ => some (as.contains d) | none => none)
  | none => none
theorem hitV_inv {G : PG} {c d : Str} {b : Bool} (h : hitV G c d = some b) : ∃ as as', G.clss.lookup c = some as ∧ G.clss.lookup d = some as' ∧ as.contains d = b := by
  unfold hitV at h
  cases hc : G.clss.lookup c with
  | none => rw [hc] at h; cases h
  | some as =>
    rw [hc] at h
    simp only at h
    cases hd : G.clss.lookup d with
    | none => rw [hd] at h; cases h
    | some as' => rw [hd] at h; cases h; exact ⟨as, as', rfl, rfl, rfl⟩
noncomputable def okS (o : Option (Except Str Fl × M × HP)) (f : M → M) : Option (Except Str Fl × M × HP) := match o with
  | some q => (match q.1 with | .ok x => some (.ok x, f q.2.1, q.2.2) | .error _ => none)
  | none => none
theorem okS_inv {o : Option (Except Str Fl × M × HP)} {f : M → M} {p : Except Str Fl × M × HP} (h : okS o f = some p) : ∃ x m H, o = some (.ok x, m, H) ∧ p = (.ok x, f m, H) := by
  unfold okS at h
  cases o with
  | none => cases h
  | some q =>
    obtain ⟨e, m, H⟩ := q
    cases e with
    | error c => cases h
    | ok x => cases h; exact ⟨x, m, H, rfl, rfl⟩
noncomputable def runHd (c : Str) (h : Hd) : SD := fun m H => match h.name with
  | none => okS (h.body m H) id
  | some i => okS (h.body (upd m i (.ref H.length)) (H ++ [.exc c])) fun m => del m i
noncomputable def handS (G : PG) (c : Str) : List Hd → SD
  | [] => stuckS
  | h :: r => fun m H => match hitV G c h.cls with
    | some b => if b then runHd c h m H else handS G c r m H
    | none => none
noncomputable def tryS (G : PG) (body : SD) (hs : List Hd) : SD := fun m H =>
  match body m H with
  | some (.error c, m', H') => handS G c hs m' H'
  | x => x

-- names
inductive VR where
  | slot (i : Nat) (cell : Bool) | glob
/-- what a tree is read under: its names; whether an exception is being handled -/
structure Cx where
  res : Str → Option VR
  hd : Bool
  ic : Bool
noncomputable def slotIn (x : Str) : List (Str × NameKind) → Nat → Option VR
  | [], _ => none
  | (y, k) :: r, i => if x = y then (match k with | .local => some (.slot i false) | .cell => some (.slot i true) | .globalImplicit => some .glob | _ => none) else slotIn x r (i + 1)
noncomputable def resOf (sc : Scope) : Str → Option VR := fun x => slotIn x sc.names 0
noncomputable def slotInC (o : Str → Option VR) (x : Str) : List (Str × NameKind) → Nat → Option VR
  | [], _ => none
  | (y, k) :: r, i => if x = y then (match k with | .local => some (.slot i false) | .free => (match o x with | some (.slot j true) => some (.slot j true) | _ => none) | .globalImplicit => some .glob | _ => none) else slotInC o x r (i + 1)
noncomputable def resC (o : Str → Option VR) (sc : Scope) : Str → Option VR := fun x => slotInC o x sc.names 1000
noncomputable def slotsOf (sc : Scope) (ps : List Str) : List Nat := ps.filterMap fun x => match resOf sc x with | some (.slot i _) => some i | _ => none
noncomputable def Cx.comp (r : Cx) (sc : Scope) : Cx := ⟨resC r.res sc, r.hd, true⟩
noncomputable def Cx.held (r : Cx) : Cx := ⟨r.res, true, r.ic⟩
noncomputable def compOk (r : Cx) (sc : Scope) : Bool :=
  sc.kind == .function && decide (sc.names.map (·.1)).Nodup && sc.names.all (fun p => !(p.1 == ("__debug__" : Str))) &&
  sc.names.all (fun p => match p.2 with
    | .local => true
    | .globalImplicit => true
    | .free => (match r.res p.1 with | some (.slot _ true) => true | _ => false)
    | _ => false)
noncomputable def whenFree {α : Type} (r : Cx) (d : α) (stuck : α) : α := if r.hd then stuck else d

noncomputable def constD (c : Const) : ED := match c with
  | .int i => pureD (.int i)
  | .bool b => pureD (.bool b)
  | .str s => pureD (.str s)
  | .none => pureD .none
  | _ => stuckD
noncomputable def nameD (G : PG) (r : Cx) (x : Str) : ED := match r.res x with
  | some v => (match v with
    | .slot i _ => varD i
    | .glob => (match G.consts.lookup x with | some v => pureD v | none => stuckD))
  | none => stuckD
/-- the slot of a name -/
noncomputable def slotOf (r : Cx) (x : Str) : Option Nat := match r.res x with
  | some v => (match v with | .slot i _ => some i | .glob => none)
  | none => none
theorem slotOf_inv {r : Cx} {x : Str} {i : Nat} (h : slotOf r x = some i) : ∃ b, r.res x = some (.slot i b) := by
  unfold slotOf at h
  cases hx : r.res x with
  | none => rw [hx] at h; cases h
  | some v =>
    rw [hx] at h
    cases v with
    | slot j b => cases h; exact ⟨b, rfl⟩
    | glob => cases h
noncomputable def plainSlot (r : Cx) (x : Str) : Option Nat := match r.res x with
  | some v => (match v with | .slot i c => if c then none else some i | .glob => none)
  | none => none
theorem plainSlot_inv {r : Cx} {x : Str} {i : Nat} (h : plainSlot r x = some i) : r.res x = some (.slot i false) := by
  unfold plainSlot at h
  cases hx : r.res x with
  | none => rw [hx] at h; cases h
  | some v =>
    rw [hx] at h
    cases v with
    | slot j b =>
      cases b with
      | false => cases h; rfl
      | true => cases h
    | glob => cases h
noncomputable def isGlob (r : Cx) (x : Str) : Bool := match r.res x with
  | some v => (match v with | .slot _ _ => false | .glob => true)
  | none => false
theorem isGlob_inv {r : Cx} {x : Str} (h : isGlob r x = true) : r.res x = some .glob := by
  unfold isGlob at h
  cases hx : r.res x with
  | none => rw [hx] at h; cases h
  | some v =>
    rw [hx] at h
    cases v with
    | slot j b => cases h
    | glob => rfl

noncomputable def setE (e : Expr) (i : Nat) (d : ED) : SD :=
  setS i d

mutual
noncomputable def evalD (G : PG) : Nat → Cx → Expr → ED
  | 0, _, _ => stuckD
  | n + 1, r, e => match e with
    | .Constant c _ _ => constD c
    | .Name x _ => nameD G r x
    | .BoolOp op vs _ => boolD (op == .And) (evalsD G n r vs)
    | .BinOp a op b _ => binD op (evalD G n r a) (evalD G n r b)
    | .UnaryOp op a _ => unD op (evalD G n r a)
    | .Compare a ops bs _ => (match one? ops with
      | some op => (match one? bs with
        | some b => boolE (cmpD op (evalD G n r a) (evalD G n r b))
        | none => stuckD)
      | none => stuckD)
    | .Call f args kw cp => (match kw with
      | _ :: _ => stuckD
      | [] => if plainArgs args = true then (match asName f with
        | some f => if isGlob r f = true then
          if f = jdName then (if args = [] then (match G.jd.lookup ("__init__" : Str) with | some q => newJ (fnDen G n r.hd q.2) | none => stuckD) else stuckD) else
          (match G.fns.lookup f with
          | some fi => if args ≠ [] then callD (fnDen G n r.hd fi) (evalsD G n r args) else stuckD
          | none => (match bi f with
            | some b => if args ≠ [] then whenFree r (callBiD b (evalsD G n r args)) stuckD else stuckD
            | none => if f = "isinstance" then
                (match two? args with
                | some q => (match asName q.2 with
                  | some T => if isGlob r T = true then isInD G T (evalD G n r q.1) else stuckD
                  | none => stuckD)
                | none => stuckD) else stuckD)) else stuckD
        | none => (match asAttr f with
          | some q => (match mi q.2.1 with
            | some b => if notCall0 q.1 = true ∧ q.2.2.endLine = cp.line ∧ args.length < 2 then methD b (evalD G n r q.1) (evalsD G n r args) else stuckD
            | none =>
              (match G.jd.lookup q.2.1 with
              | some w => if notCall0 q.1 = true ∧ q.2.2.endLine = cp.line ∧ args.length < 2 then methJ (fnDen G n r.hd w.2) (evalD G n r q.1) (evalsD G n r args) else stuckD
              | none => stuckD)
            )
          | none => stuckD)) else stuckD)
    | .Subscript a b _ => (match asSlice b with
      | some q => sliceD (evalD G n r a) (evalO G n r q.1) (evalO G n r q.2)
      | none => itemD (evalD G n r a) (evalD G n r b))
    | .Attribute o f _ => if f = jdAttr ∧ (asName o).isSome = true then attrD (evalD G n r o) else stuckD
    | .List es _ => mkListD (evalsD G n r es)
    | .Tuple es _ _ => mkTupD (evalsD G n r es)
    | .ListComp elt gs sc _ => (match asGen gs with
      | some g => (match plainSlot (r.comp sc) g.1 with
        | some i => if r.ic = true ∨ compOk r sc = false then stuckD else whenFree r (compD i (iterD G n r g.2.1) (match g.2.2 with | [] => pureD true | c :: cs => (match cs with | [] => testD G n (r.comp sc) c | _ :: _ => stuckD)) (evalD G n (r.comp sc) elt)) stuckD
        | none => stuckD)
      | none => stuckD)
    | _ => stuckD
noncomputable def testD (G : PG) : Nat → Cx → Expr → TD
  | 0, _, _ => stuckD
  | n + 1, r, e => match e with
    | .UnaryOp op a _ => (match op with
      | .Not => notT (testD G n r a)
      | _ => truthD (evalD G n r e))
    | .BoolOp op vs _ => allT (op == .And) (testsD G n r vs)
    | .IfExp .. => stuckD
    | .Compare a ops bs _ => (match one? ops with
      | some op => (match one? bs with
        | some b => cmpD op (evalD G n r a) (evalD G n r b)
        | none => stuckD)
      | none => stuckD)
    | _ => truthD (evalD G n r e)
noncomputable def evalsD (G : PG) : Nat → Cx → List Expr → List ED
  | 0, _, es => es.map fun _ => stuckD
  | n + 1, r, es => match es with
    | [] => []
    | e :: es => (if notStar e = true then evalD G n r e else stuckD) :: evalsD G n r es
noncomputable def testsD (G : PG) : Nat → Cx → List Expr → List TD
  | 0, _, es => es.map fun _ => stuckD
  | n + 1, r, es => match es with
    | [] => []
    | e :: es => testD G n r e :: testsD G n r es
noncomputable def evalO (G : PG) : Nat → Cx → Option Expr → Option ED
  | 0, _, _ => some stuckD
  | n + 1, r, e => match e with
    | none => none
    | some e => some (evalD G n r e)
noncomputable def iterD (G : PG) : Nat → Cx → Expr → RD Src
  | 0, _, _ => stuckD
  | n + 1, r, e => match e with
    | .Call f args kw _ => (match asName f with
      | some f => if f = "range" then (match kw with
        | [] => if isGlob r f = true ∧ args ≠ [] ∧ plainArgs args = true then rangeD (evalsD G n r args) else stuckD
        | _ :: _ => stuckD) else seqSrcD (evalD G n r e)
      | none => seqSrcD (evalD G n r e))
    | .Set .. => stuckD
    | _ => seqSrcD (evalD G n r e)
noncomputable def fnDen (G : PG) : Nat → Bool → FnI → List PV → HP → Option (Except Str PV × HP)
  | 0, _, _ => fun _ _ => none
  | n + 1, hd, fi => fnD fi.params.length (slotsOf fi.scope fi.params) (execsD G n ⟨resOf fi.scope, hd, false⟩ fi.body)
noncomputable def execD (G : PG) : Nat → Cx → Stmt → SD
  | 0, _, _ => stuckS
  | n + 1, r, s => match s with
    | .Expr e _ => (match asCall e with
      | some _ => dropS (evalD G n r e)
      | none => stuckS)
    | .Pass _ => nextS
    | .Return v _ => (match v with
      | some e => retS (evalD G n r e)
      | none => stuckS)
    | .Assign ts e _ => (match one? ts with
      | some t => (match asName t with
        | some x => (match slotOf r x with
          | some i => setE e i (evalD G n r e)
          | none => stuckS)
        | none => (match asSub t with
          | some q => if isComp e = true ∨ isSliceE q.2 = true then stuckS else setItemS (evalD G n r q.1) (evalD G n r q.2) (evalD G n r e)
          | none => (match asAttr t with
            | some q => if isComp e = true ∨ q.2.1 ≠ jdAttr then stuckS else setAttrS (evalD G n r q.1) (evalD G n r e)
            | none => stuckS)
          ))
      | none => stuckS)
    | .If t a b _ => ifS (testD G n r t) (execsD G n r a) (execsD G n r b)
    | .For t it body els _ => (match els with
      | _ :: _ => stuckS
      | [] => (match asName t with
        | some x => (match slotOf r x with
          | some i => whenFree r (forS (.one i) (iterD G n r it) (execsD G n r body)) stuckS
          | none => stuckS)
        | none => (match asPair t with
          | some q => (match slotOf r q.1 with
            | some i => (match slotOf r q.2 with
              | some j => whenFree r (forS (.two i j) (iterD G n r it) (execsD G n r body)) stuckS
              | none => stuckS)
            | none => stuckS)
          | none => stuckS)
        ))
    | .Raise v c _ => (match asRaise v c with
      | some c => if isGlob r c = true ∧ (G.clss.lookup c).isSome = true then whenFree r (raiseS c) stuckS else stuckS
      | none => stuckS)
    | .Try body hs els fin _ => (match els with
      | _ :: _ => stuckS
      | [] => (match fin with
        | _ :: _ => stuckS
        | [] => (match hs with
          | [] => stuckS
          | h :: hs => whenFree r (tryS G (execsD G n r body) (handsD G n r (h :: hs))) stuckS)))
    | _ => stuckS
noncomputable def execsD (G : PG) : Nat → Cx → List Stmt → SD
  | 0, _, _ => stuckS
  | n + 1, r, ss => match ss with
    | [] => nextS
    | s :: ss => seqS (execD G n r s) (execsD G n r ss)
noncomputable def handsD (G : PG) : Nat → Cx → List ExceptHandler → List Hd
  | 0, _, _ => []
  | n + 1, r, hs => match hs with
    | [] => []
    | h :: hs => (match asHand h with
      | some q => if isGlob r q.1 = true then (match q.2.1 with
        | none => ⟨q.1, none, execsD G n r.held q.2.2⟩ :: handsD G n r hs
        | some x => (match plainSlot r x with
          | some i => ⟨q.1, some i, execsD G n r.held q.2.2⟩ :: handsD G n r hs
          | none => [])) else []
      | none => [])
end
end Mine
namespace Mine
open PySem

/-- what is known of the text's top -/
structure Stat where
  prog : Program
  w : World
  base : Heap
  mg : Str → Option Value
  mb : Str → Option Value
  cls : Str → Option Addr

noncomputable def VRel (ρ : List Addr) : PV → Value → Prop
  | .none, v => v = .none
  | .bool b, v => v = .bool b
  | .int i, v => ∃ t, v = .int i t
  | .str x, v => ∃ t, v = .str x t
  | .ref i, v => ∃ a, ρ[i]? = some a ∧ v = .ref a

noncomputable def VRels (ρ : List Addr) : List PV → List Value → Prop
  | [], [] => True
  | p :: ps, v :: vs => VRel ρ p v ∧ VRels ρ ps vs
  | _, _ => False

/-- what an object's own dict holds -/
noncomputable def NsRel (ρ : List Addr) (v : Option PV) (es : Array DictEntry) : Prop := match v with
  | none => es = #[]
  | some p => ∃ e t, es = #[e] ∧ e.key = .str jdAttr t ∧ VRel ρ p e.val
noncomputable def ORel (X : Stat) (ρ : List Addr) : PO → Obj → Prop
  | .list vs, o => ∃ items n, o = ⟨.type "list", none, .seq items n, #[]⟩ ∧ VRels ρ vs items.toList ∧ roomy vs.length = true
  | .tup vs, o => ∃ items n, o = ⟨.type "tuple", none, .seq items n, #[]⟩ ∧ VRels ρ vs items.toList ∧ roomy vs.length = true
  | .exc c, o => ∃ C, X.cls c = some C ∧ o.cls = .ref C ∧ o.dict = none ∧ ∃ vs, o.data = .fields vs
  | .inst d, o => ∃ C dx, X.mg jdName = some (.ref C) ∧ ρ[d]? = some dx ∧ o = ⟨.ref C, some dx, .plain, #[]⟩
  | .ns v, o => ∃ es n, o = ⟨.type "dict", none, .dict es n, #[]⟩ ∧ NsRel ρ v es

theorem getElem?_prefix {α : Type} {l l' : List α} (h : l <+: l') {i : Nat} {a : α} (e : l[i]? = some a) : l'[i]? = some a := by
  obtain ⟨t, rfl⟩ := h
  have hi : i < l.length := (List.getElem?_eq_some_iff.mp e).1
  rw [List.getElem?_append_left hi]; exact e

theorem VRel.mono {ρ ρ' : List Addr} (h : ρ <+: ρ') : ∀ {p : PV} {v : Value}, VRel ρ p v → VRel ρ' p v
  | .none, _, e => e
  | .bool _, _, e => e
  | .int _, _, e => e
  | .str _, _, e => e
  | .ref _, _, ⟨a, e, q⟩ => ⟨a, getElem?_prefix h e, q⟩
theorem VRels.mono {ρ ρ' : List Addr} (h : ρ <+: ρ') : ∀ {p : List PV} {v : List Value}, VRels ρ p v → VRels ρ' p v
  | [], [], _ => trivial
  | _ :: _, _ :: _, ⟨a, b⟩ => ⟨a.mono h, b.mono h⟩
  | [], _ :: _, e => e.elim
  | _ :: _, [], e => e.elim
theorem VRels.length {ρ : List Addr} : ∀ {p : List PV} {v : List Value}, VRels ρ p v → p.length = v.length
  | [], [], _ => rfl
  | _ :: _, _ :: _, ⟨_, b⟩ => by simp [b.length]
  | [], _ :: _, e => e.elim
  | _ :: _, [], e => e.elim
theorem VRels.get {ρ : List Addr} : ∀ {p : List PV} {v : List Value}, VRels ρ p v → ∀ {i : Nat} {x : PV}, p[i]? = some x → ∃ y, v[i]? = some y ∧ VRel ρ x y
  | [], [], _, i, x, e => by simp at e
  | a :: p, b :: v, ⟨h, r⟩, 0, x, e => by simp at e; subst e; exact ⟨b, by simp, h⟩
  | a :: p, b :: v, ⟨h, r⟩, i + 1, x, e => by
    simp only [List.getElem?_cons_succ] at e ⊢
    exact r.get e
  | [], _ :: _, e, _, _, _ => e.elim
  | _ :: _, [], e, _, _, _ => e.elim
theorem VRels.append {ρ : List Addr} : ∀ {p p' : List PV} {v v' : List Value}, VRels ρ p v → VRels ρ p' v' → VRels ρ (p ++ p') (v ++ v')
  | [], _, [], _, _, h => h
  | _ :: _, _, _ :: _, _, ⟨a, b⟩, h => ⟨a, b.append h⟩
  | [], _, _ :: _, _, e, _ => e.elim
  | _ :: _, _, [], _, e, _ => e.elim
theorem VRels.take {ρ : List Addr} : ∀ {p : List PV} {v : List Value} (n : Nat), VRels ρ p v → VRels ρ (p.take n) (v.take n)
  | _, _, 0, _ => trivial
  | [], [], _ + 1, _ => trivial
  | _ :: _, _ :: _, n + 1, ⟨a, b⟩ => ⟨a, b.take n⟩
  | [], _ :: _, _ + 1, e => e.elim
  | _ :: _, [], _ + 1, e => e.elim
theorem VRels.drop {ρ : List Addr} : ∀ {p : List PV} {v : List Value} (n : Nat), VRels ρ p v → VRels ρ (p.drop n) (v.drop n)
  | _, _, 0, h => h
  | [], [], _ + 1, _ => trivial
  | _ :: _, _ :: _, n + 1, ⟨_, b⟩ => b.drop n
  | [], _ :: _, _ + 1, e => e.elim
  | _ :: _, [], _ + 1, e => e.elim
theorem VRels.set {ρ : List Addr} : ∀ {p : List PV} {v : List Value} (n : Nat) {x : PV} {y : Value}, VRels ρ p v → VRel ρ x y → VRels ρ (p.set n x) (v.set n y)
  | [], [], _, _, _, _, _ => trivial
  | _ :: _, _ :: _, 0, _, _, ⟨_, b⟩, h => ⟨h, b⟩
  | _ :: _, _ :: _, n + 1, _, _, ⟨a, b⟩, h => ⟨a, b.set n h⟩
  | [], _ :: _, _, _, _, e, _ => e.elim
  | _ :: _, [], _, _, _, e, _ => e.elim
theorem VRels.reverse {ρ : List Addr} : ∀ {p : List PV} {v : List Value}, VRels ρ p v → VRels ρ p.reverse v.reverse
  | [], [], _ => trivial
  | _ :: _, _ :: _, ⟨a, b⟩ => by
    rw [List.reverse_cons, List.reverse_cons]
    exact b.reverse.append ⟨a, trivial⟩
  | [], _ :: _, e => e.elim
  | _ :: _, [], e => e.elim
theorem ORel.mono {X : Stat} {ρ ρ' : List Addr} (h : ρ <+: ρ') : ∀ {p : PO} {o : Obj}, ORel X ρ p o → ORel X ρ' p o
  | .list _, _, ⟨items, n, e, r, q⟩ => ⟨items, n, e, r.mono h, q⟩
  | .tup _, _, ⟨items, n, e, r, q⟩ => ⟨items, n, e, r.mono h, q⟩
  | .exc _, _, e => e
  | .inst _, _, ⟨C, dx, e1, e2, e3⟩ => ⟨C, dx, e1, getElem?_prefix h e2, e3⟩
  | .ns none, _, e => e
  | .ns (some _), _, ⟨es, n, e1, e, t, e2, e3, e4⟩ => ⟨es, n, e1, e, t, e2, e3, e4.mono h⟩

/-- a frozen part of the heap -/
abbrev Fz := Addr → Option Obj
noncomputable def Keeps (fs : List Addr) (F : Fz) (h : Heap) : Prop := ∀ b o, F b = some o → h.get? b = some o ∨ (b ∈ fs ∧ ∃ sl, h.get? b = some { o with slots := sl })
noncomputable def frs (envs : List Env) : List Addr := envs.filterMap (·.frame)
/-- all of the heap but the objects at the given places -/
noncomputable def but (h : Heap) (l : List Addr) : Fz := fun b => if b ∈ l then none else h.get? b

theorem but_some {h : Heap} {l : List Addr} {b : Addr} {o : Obj} : but h l b = some o ↔ b ∉ l ∧ h.get? b = some o := by
  unfold but
  by_cases hb : b ∈ l
  · simp [hb]
  · simp [hb]

theorem Keeps.refl (fs : List Addr) (h : Heap) (l : List Addr) : Keeps fs (but h l) h := fun b o e => .inl (but_some.mp e).2

noncomputable def VarAt (h : Heap) (env : Env) (x : Str) : Bool → Value → Prop
  | false, v => ∃ mr, h.Ns env.locals mr ∧ mr x = some v
  | true, v => ∃ c, env.cells.lookup x = some c ∧ h.IsCell c (some v)

theorem Ns.unique {h : Heap} {a : Addr} {m m' : Str → Option Value} (x : h.Ns a m) (y : h.Ns a m') : m = m' := by
  obtain ⟨o, es, ep, ho, hd, _, hm⟩ := x
  obtain ⟨o', es', ep', ho', hd', _, hm'⟩ := y
  rw [ho] at ho'; cases ho'
  rw [hd] at hd'; cases hd'
  funext n
  rw [← hm, ← hm']

structure Same (s s' : Shared) : Prop where
  gens : s'.gens = s.gens
  os : s'.os = s.os
  drawn : s'.drawn = s.drawn
theorem Same.refl (s : Shared) : Same s s := ⟨rfl, rfl, rfl⟩
theorem Same.trans {a b c : Shared} (x : Same a b) (y : Same b c) : Same a c := ⟨y.gens.trans x.gens, y.os.trans x.os, y.drawn.trans x.drawn⟩

structure Inv (X : Stat) (envs : List Env) (F : Fz) (own : List Addr) (env : Env) (r : Str → Option VR) (s₀ : Shared) (m : M) (H : HP) (ρ : List Addr) (s : Shared) : Prop where
  keep : Keeps (frs envs) F s.heap
  base : X.base.StaysIn s.heap
  frames : s.heap.FunFrames X.base envs
  ownNone : ∀ a ∈ own, F a = none
  ownNew : ∀ a ∈ own, X.base.get? a = none
  loc : ∃ mr, s.heap.Ns env.locals mr
  locOwn : env.locals ∈ own
  ownIn : ∀ a ∈ own, ∃ o, s.heap.get? a = some o ∧ ∀ vs, o.data ≠ .fields vs
  cells : ∀ p ∈ env.cells, ∃ v, s.heap.IsCell p.2 v
  vars : ∀ x i b, r x = some (.slot i b) → ∀ v, m i = some v → ∃ v', VarAt s.heap env x b v' ∧ VRel ρ v v'
  len : ρ.length = H.length
  objs : ∀ (i : Nat) (o : PO), H[i]? = some o → ∃ a ob, ρ[i]? = some a ∧ s.heap.get? a = some ob ∧ ORel X ρ o ob
  nodup : ρ.Nodup
  apart : ∀ (i : Nat) (a : Addr), ρ[i]? = some a → a ∉ own ∧ a ∉ frs envs ∧ a ∉ env.cells.map (·.2) ∧ (i ≠ 0 → F a = none ∧ X.base.get? a = none)
  same : Same s₀ s
  ne : 0 < ρ.length

/-- an exception in flight: fresh, its traceback too -/
structure Exc (X : Stat) (F : Fz) (ρ : List Addr) (fl : Value → Prop) (c : Str) (e : Addr) (h : Heap) : Prop where
  cls : ∃ C oe vs, X.cls c = some C ∧ h.get? e = some oe ∧ oe.cls = .ref C ∧ oe.data = .fields vs ∧
    ((vs[1]? = some .none ∧ fl .ellipsis) ∨ ∃ T oT ts x, vs[1]? = some (.ref T) ∧ T ≠ e ∧ X.base.get? T = none ∧ F T = none ∧ T ∉ ρ ∧ h.get? T = some oT ∧ oT.data = .fields ts ∧ ts[3]? = some x ∧ fl x)
  new : X.base.get? e = none
  frozen : F e = none
  rho : e ∉ ρ
  dict : ∀ oe, h.get? e = some oe → oe.dict = none

structure Cok (X : Stat) (A : Around) (envs : List Env) (own : List Addr) (env : Env) (r : Cx) (n : Nat) : Prop where
  frames : A.frames = some envs
  depth : A.depth + n < recursionLimit
  units : A.units + 20 * n < 9000
  kind : env.scope.kind = .function
  globals : env.globals = mainGlobals
  builtins : env.builtins = builtinsNs
  glob : ∀ x, r.res x = some .glob → env.kindOf x = some .globalImplicit
  locl : ∀ x i, r.res x = some (.slot i false) → env.kindOf x = some .local
  cell : ∀ x i, r.res x = some (.slot i true) → env.kindOf x = some .cell ∧ ∃ c, env.cells.lookup x = some c
  inj : ∀ x y i b b', r.res x = some (.slot i b) → r.res y = some (.slot i b') → x = y
  debug : ∀ x v, r.res x = some v → (x == ("__debug__" : Str)) = false
  hd : r.hd = false → A.handled = none
  bound : r.ic = false → ∀ x i b, r.res x = some (.slot i b) → i < 1000
  cellsApart : env.cells.Pairwise fun x y => x.2 ≠ y.2
  cellsLoc : ∀ p ∈ env.cells, p.2 ≠ env.locals
  frame : ∃ L e₀ rest, env.frame = some L ∧ envs = e₀ :: rest ∧ e₀.frame = some L

theorem Cok.less {X : Stat} {A : Around} {envs : List Env} {own : List Addr} {env : Env} {r : Cx} {n k : Nat} (c : Cok X A envs own env r n) (h : k ≤ n) : Cok X A envs own env r k :=
  { c with depth := by have := c.depth; omega, units := by have := c.units; omega }

/-- how an exception flies in a frame (.ellipsis: it bears no traceback yet) -/
noncomputable def flOk (env : Env) (x : Value) : Prop := (x = .none ∨ x = .ellipsis) ∨ ∃ L, env.frame = some L ∧ x = rawInt L

/-- a tree does what its denotation says -/
noncomputable def Sim {α β : Type} (X : Stat) (A : Around) (envs : List Env) (own : List Addr) (env : Env) (r : Cx) (ρ₀ : List Addr) (V : List Addr → α → β → Prop) (t : Sem β) (d : RD α) : Prop :=
  ∀ F s₀ m H ρ s, ρ₀ <+: ρ → Inv X envs F own env r.res s₀ m H ρ s → ∀ res H', d m H = some (res, H') → ∀ Q E,
    (∀ a, res = .ok a → ∀ b ρ' s', ρ <+: ρ' → Inv X envs F own env r.res s₀ m H' ρ' s' → V ρ' a b → Q b s') →
    (∀ c, res = .error c → ∀ e ρ' s', ρ <+: ρ' → Inv X envs F own env r.res s₀ m H' ρ' s' → Exc X F ρ' (flOk env) c e s'.heap → E (.ref e) s') →
    wpAny (model X.prog X.w) A t Q E s

section
variable {α β γ δ : Type} {X : Stat} {A : Around} {envs : List Env} {own : List Addr} {env : Env} {r : Cx} {ρ₀ : List Addr} {V : List Addr → α → β → Prop} {W : List Addr → γ → δ → Prop}

theorem Sim.stuck {t : Sem β} : Sim X A envs own env r ρ₀ V t stuckD := by
  intro F s₀ m H ρ s _ _ res H' h; cases h
theorem Sim.pure {a : α} {b : β} (h : ∀ ρ, ρ₀ <+: ρ → V ρ a b) : Sim X A envs own env r ρ₀ V (Pure.pure b) (pureD a) := by
  intro F s₀ m H ρ s hp I res H' hd Q E hQ _
  cases hd
  exact wpAny_pure (hQ a rfl b ρ s (List.prefix_refl _) I (h ρ hp))
theorem Sim.bind {t : Sem β} {d : RD α} {k : β → Sem δ} {kd : α → RD γ} (h : Sim X A envs own env r ρ₀ V t d)
    (hk : ∀ a b ρ₁, ρ₀ <+: ρ₁ → V ρ₁ a b → Sim X A envs own env r ρ₁ W (k b) (kd a)) : Sim X A envs own env r ρ₀ W (t >>= k) (bindD d kd) := by
  intro F s₀ m H ρ s hp I res H' hd Q E hQ hE
  unfold bindD at hd
  cases hdm : d m H with
  | none => rw [hdm] at hd; cases hd
  | some x =>
    obtain ⟨rs, H₁⟩ := x
    rw [hdm] at hd
    cases rs with
    | error c =>
      cases hd
      exact wpAny_bind (h F s₀ m H ρ s hp I _ _ hdm _ _ (fun a e => nomatch e) fun c' e => hE c' (by cases e; rfl))
    | ok a =>
      refine wpAny_bind (h F s₀ m H ρ s hp I _ _ hdm _ _ (fun a' e b ρ' s' hp' I' hV => ?_) fun c' e => nomatch e)
      cases e
      exact hk a b ρ' (hp.trans hp') hV F s₀ m H₁ ρ' s' (List.prefix_refl _) I' res H' hd Q E
        (fun a'' e'' b'' ρ'' s'' hp'' => hQ a'' e'' b'' ρ'' s'' (hp'.trans hp''))
        (fun c e'' ee ρ'' s'' hp'' => hE c e'' ee ρ'' s'' (hp'.trans hp''))
theorem Sim.use {t : Sem β} {d : RD α} {kd : α → RD γ} (h : Sim X A envs own env r ρ₀ V t d) {F : Fz} {s₀ : Shared} {m : M} {H : HP} {ρ : List Addr} {s : Shared} {res : Except Str γ} {H' : HP} {Q : β → Shared → Prop} {E : Value → Shared → Prop} (hp : ρ₀ <+: ρ) (I : Inv X envs F own env r.res s₀ m H ρ s) (hd : bindD d kd m H = some (res, H'))
    (hE : ∀ c, res = .error c → ∀ e ρ' s', ρ <+: ρ' → Inv X envs F own env r.res s₀ m H' ρ' s' → Exc X F ρ' (flOk env) c e s'.heap → E (.ref e) s')
    (hQ : ∀ a b H₁ ρ₁ s₁, ρ <+: ρ₁ → Inv X envs F own env r.res s₀ m H₁ ρ₁ s₁ → V ρ₁ a b → kd a m H₁ = some (res, H') → Q b s₁) : wpAny (model X.prog X.w) A t Q E s := by
  unfold bindD at hd
  cases hdm : d m H with
  | none => rw [hdm] at hd; cases hd
  | some x =>
    obtain ⟨rs, H₁⟩ := x
    rw [hdm] at hd
    cases rs with
    | error c =>
      cases hd
      exact h F s₀ m H ρ s hp I _ _ hdm _ _ (fun a e => nomatch e) fun c' e => hE c' (by cases e; rfl)
    | ok a =>
      refine h F s₀ m H ρ s hp I _ _ hdm _ _ (fun a' e b ρ' s' hp' I' hV => ?_) fun c' e => nomatch e
      cases e
      exact hQ a b H₁ ρ' s' hp' I' hV hd
theorem Sim.mono {t : Sem β} {d : RD α} (h : Sim X A envs own env r ρ₀ V t d) {ρ₁ : List Addr} (hp : ρ₀ <+: ρ₁) : Sim X A envs own env r ρ₁ V t d :=
  fun F s₀ m H ρ s hp' => h F s₀ m H ρ s (hp.trans hp')
theorem Sim.hold {t : Sem β} {d : RD α} {vs : List Value} (h : Sim X A envs own env r ρ₀ V t d) : Sim X A envs own env r ρ₀ V (holding vs t) d :=
  fun F s₀ m H ρ s hp I res H' hd Q E hQ hE => wpAny_holding (h F s₀ m H ρ s hp I res H' hd Q E hQ hE)
theorem Sim.stand {t : Sem β} {d : RD α} {pos : Pos} (h : Sim X A envs own env r ρ₀ V t d) : Sim X A envs own env r ρ₀ V (do standAt pos; t) d :=
  fun F s₀ m H ρ s hp I res H' hd Q E hQ hE => wpAny_bind (wpAny_standAt (h F s₀ m H ρ s hp I res H' hd Q E hQ hE))
theorem wpAny_op {M : Model} {E : Value → Shared → Prop} {s : Shared} {vs : List Value} {m : Sem Value} {Q : Value → Shared → Prop} (h : wpAny M A m Q E s) : wpAny M A (operate vs m) Q E s := fun Γ p hΓ => by
  rw [Sem.wp_operate]; exact h Γ p hΓ
theorem Sim.oper {W : List Addr → α → Value → Prop} {t : Sem Value} {d : RD α} {vs : List Value} (h : Sim X A envs own env r ρ₀ W t d) : Sim X A envs own env r ρ₀ W (operate vs t) d :=
  fun F s₀ m H ρ s hp I res H' hd Q E hQ hE => wpAny_op (h F s₀ m H ρ s hp I res H' hd Q E hQ hE)
/-- a step that asks the heap, and cannot raise -/
theorem Sim.lift {t : Sem β} {f : HP → Option (α × HP)}
    (h : ∀ F s₀ m H ρ s, ρ₀ <+: ρ → Inv X envs F own env r.res s₀ m H ρ s → ∀ a H', f H = some (a, H') → ∀ Q E,
      (∀ b ρ' s', ρ <+: ρ' → Inv X envs F own env r.res s₀ m H' ρ' s' → V ρ' a b → Q b s') → wpAny (model X.prog X.w) A t Q E s) :
    Sim X A envs own env r ρ₀ V t (liftD f) := by
  intro F s₀ m H ρ s hp I res H' hd Q E hQ _
  unfold liftD at hd
  cases hf : f H with
  | none => rw [hf] at hd; cases hd
  | some x =>
    obtain ⟨a, H₁⟩ := x
    rw [hf] at hd
    cases hd
    exact h F s₀ m H ρ s hp I a H₁ hf Q E (hQ a rfl)
theorem Sim.conv {t t' : Sem β} {d : RD α} (e : t' = t) (h : Sim X A envs own env r ρ₀ V t d) : Sim X A envs own env r ρ₀ V t' d := e ▸ h
end

section
variable {X : Stat} {envs : List Env} {F : Fz} {own : List Addr} {env : Env} {r : Str → Option VR} {s₀ : Shared} {m : M} {H : HP} {ρ : List Addr} {s : Shared}

theorem Inv.tok (I : Inv X envs F own env r s₀ m H ρ s) (t : Nat) : Inv X envs F own env r s₀ m H ρ { s with toks := t } :=
  { I with same := ⟨I.same.gens, I.same.os, I.same.drawn⟩ }

theorem VarAt.keeps {h h' : Heap} {env : Env} {x : Str} {b : Bool} {v : Value} (k : ∀ a o, h.get? a = some o → (a = env.locals ∨ a ∈ env.cells.map (·.2)) → ∃ o', h'.get? a = some o' ∧ o'.data = o.data) (e : VarAt h env x b v) : VarAt h' env x b v := by
  cases b with
  | false =>
    obtain ⟨mr, ⟨o, es, ep, ho, hd, r⟩, hx⟩ := e
    obtain ⟨o', ho', hd'⟩ := k _ _ ho (.inl rfl)
    exact ⟨mr, ⟨o', es, ep, ho', hd'.trans hd, r⟩, hx⟩
  | true =>
    obtain ⟨c, hc, o, ho, hd⟩ := e
    obtain ⟨o', ho', hd'⟩ := k _ _ ho (.inr (List.mem_map.mpr ⟨(x, c), mem_of_lookup hc, rfl⟩))
    exact ⟨c, hc, o', ho', hd'.trans hd⟩

theorem Keeps.trans {fs : List Addr} {F : Fz} {h h' : Heap} {l : List Addr} (k : Keeps fs F h) (k' : Keeps fs (but h l) h') (hl : ∀ b o, F b = some o → b ∉ l) : Keeps fs F h' := by
  intro b o e
  rcases k b o e with q | ⟨hb, sl, q⟩
  · exact k' b o (but_some.mpr ⟨hl b o e, q⟩)
  · rcases k' b _ (but_some.mpr ⟨hl b o e, q⟩) with q' | ⟨_, sl', q'⟩
    · exact .inr ⟨hb, sl, q'⟩
    · exact .inr ⟨hb, sl', q'⟩

theorem Keeps.data {fs : List Addr} {F : Fz} {h : Heap} (k : Keeps fs F h) {b : Addr} {o : Obj} (e : F b = some o) : ∃ o', h.get? b = some o' ∧ o'.data = o.data := by
  rcases k b o e with q | ⟨_, sl, q⟩
  · exact ⟨o, q, rfl⟩
  · exact ⟨_, q, rfl⟩

/-- the heap has changed at none of the frame's places, at the objects' alone and at places that nobody names -/
theorem Inv.moveOff {s' : Shared} {ρ' : List Addr} {H' : HP} {off : List Addr} (I : Inv X envs F own env r s₀ m H ρ s) (k : Keeps (frs envs) (but s.heap (ρ.drop 1 ++ off)) s'.heap) (hoff : ∀ a ∈ off, a ∉ own ∧ a ∉ frs envs ∧ a ∉ env.cells.map (·.2) ∧ F a = none ∧ X.base.get? a = none) (hp : ρ <+: ρ')
    (hlen : ρ'.length = H'.length) (hn : ρ'.Nodup) (hob : ∀ (i : Nat) (o : PO), H'[i]? = some o → ∃ a ob, ρ'[i]? = some a ∧ s'.heap.get? a = some ob ∧ ORel X ρ' o ob)
    (hnew : ∀ (i : Nat) (a : Addr), ρ'[i]? = some a → ρ.length ≤ i → s.heap.get? a = none ∨ a ∈ off) (hb : X.base.StaysIn s'.heap) (hs : Same s s') : Inv X envs F own env r s₀ m H' ρ' s' := by
  have notIn : ∀ a, (a ∈ own ∨ a ∈ frs envs ∨ a ∈ env.cells.map (·.2)) → a ∉ ρ := fun a ha hm => by
    obtain ⟨i, hi⟩ := List.getElem?_of_mem hm
    have := I.apart i a hi
    rcases ha with q | q | q
    · exact this.1 q
    · exact this.2.1 q
    · exact this.2.2.1 q
  have notOff : ∀ a, (a ∈ own ∨ a ∈ frs envs ∨ a ∈ env.cells.map (·.2)) → a ∉ off := fun a ha hm => by
    have := hoff a hm
    rcases ha with q | q | q
    · exact this.1 q
    · exact this.2.1 q
    · exact this.2.2.1 q
  have dr : ∀ a, a ∉ ρ → a ∉ off → a ∉ ρ.drop 1 ++ off := fun a ha ho hm => by
    rcases List.mem_append.mp hm with q | q
    · exact ha (List.mem_of_mem_drop q)
    · exact ho q
  have hF : ∀ b o, F b = some o → b ∉ ρ.drop 1 ++ off := fun b o e hm => by
    rcases List.mem_append.mp hm with q | q
    · obtain ⟨i, hi⟩ := List.getElem?_of_mem q
      rw [List.getElem?_drop] at hi
      have := (I.apart (1 + i) b hi).2.2.2 (by omega)
      rw [this.1] at e; cases e
    · rw [(hoff b q).2.2.2.1] at e; cases e
  have kd : ∀ a o, s.heap.get? a = some o → (a ∈ own ∨ a ∈ frs envs ∨ a ∈ env.cells.map (·.2)) → ∃ o', s'.heap.get? a = some o' ∧ o'.data = o.data := fun a o e ha => k.data (but_some.mpr ⟨dr a (notIn a ha) (notOff a ha), e⟩)
  have kv : ∀ a o, s.heap.get? a = some o → (a = env.locals ∨ a ∈ env.cells.map (·.2)) → ∃ o', s'.heap.get? a = some o' ∧ o'.data = o.data := fun a o e ha => by
    refine kd a o e ?_
    rcases ha with q | q
    · exact .inl (q ▸ I.locOwn)
    · exact .inr (.inr q)
  refine ⟨I.keep.trans k hF, hb, ?_, I.ownNone, I.ownNew, ?_, I.locOwn, fun a ha => ?_, fun p hp' => ?_, fun x i b e v hv => ?_, hlen, hob, hn, fun i a e => ?_, I.same.trans hs, Nat.lt_of_lt_of_le I.ne hp.length_le⟩
  · have key : ∀ l : List Env, (∀ a ∈ frs l, a ∈ frs envs) → s.heap.FunFrames X.base l → s'.heap.FunFrames X.base l := by
      intro l
      induction l with
      | nil => intro _ _; trivial
      | cons e rest ih =>
        intro hl ⟨h1, ⟨L, o, h2, h3, h4, h5⟩, h6⟩
        have hL : L ∈ frs (e :: rest) := List.mem_filterMap.mpr ⟨e, List.mem_cons_self, h2⟩
        obtain ⟨o', ho', hd'⟩ := kd L o h4 (.inr (.inl (hl L hL)))
        exact ⟨h1, ⟨L, o', h2, h3, ho', fun vs => hd' ▸ h5 vs⟩, ih (fun a ha => hl a (by
          obtain ⟨e', he', hf'⟩ := List.mem_filterMap.mp ha
          exact List.mem_filterMap.mpr ⟨e', List.mem_cons_of_mem _ he', hf'⟩)) h6⟩
    exact key envs (fun a ha => ha) I.frames
  · obtain ⟨mr, o, es, ep, ho, hd, rr⟩ := I.loc
    obtain ⟨o', ho', hd'⟩ := kv _ _ ho (.inl rfl)
    exact ⟨mr, o', es, ep, ho', hd'.trans hd, rr⟩
  · obtain ⟨o, ho, hf⟩ := I.ownIn a ha
    obtain ⟨o', ho', hd'⟩ := kd a o ho (.inl ha)
    exact ⟨o', ho', fun vs => hd' ▸ hf vs⟩
  · obtain ⟨v, o, ho, hd⟩ := I.cells p hp'
    obtain ⟨o', ho', hd'⟩ := kv _ _ ho (.inr (List.mem_map.mpr ⟨p, hp', rfl⟩))
    exact ⟨v, o', ho', hd'.trans hd⟩
  · obtain ⟨v', h1, h2⟩ := I.vars x i b e v hv
    exact ⟨v', h1.keeps kv, h2.mono hp⟩
  · by_cases hi : i < ρ.length
    · have : ρ[i]? = some a := by
        obtain ⟨t, rfl⟩ := hp
        rw [List.getElem?_append_left hi] at e; exact e
      exact I.apart i a this
    · rcases hnew i a e (by omega) with hna | hao
      · refine ⟨fun q => ?_, fun q => ?_, fun q => ?_, fun _ => ⟨?_, ?_⟩⟩
        · obtain ⟨o, ho, _⟩ := I.ownIn a q; rw [hna] at ho; cases ho
        · obtain ⟨_, o, ho, _⟩ := I.frames.mem q; rw [hna] at ho; cases ho
        · obtain ⟨p, hp', rfl⟩ := List.mem_map.mp q
          obtain ⟨v, o, ho, _⟩ := I.cells p hp'; rw [hna] at ho; cases ho
        · cases hq : F a with
          | none => rfl
          | some o =>
            rcases I.keep a o hq with q | ⟨_, sl, q⟩ <;> (rw [hna] at q; cases q)
        · cases hq : X.base.get? a with
          | none => rfl
          | some o => have q := I.base a o hq; rw [hna] at q; cases q
      · have ho := hoff a hao
        exact ⟨ho.1, ho.2.1, ho.2.2.1, fun _ => ⟨ho.2.2.2.1, ho.2.2.2.2⟩⟩

/-- the heap has changed at none of the frame's places and none of the objects' -/
theorem Inv.move {s' : Shared} {ρ' : List Addr} {H' : HP} (I : Inv X envs F own env r s₀ m H ρ s) (k : Keeps (frs envs) (but s.heap (ρ.drop 1)) s'.heap) (hp : ρ <+: ρ')
    (hlen : ρ'.length = H'.length) (hn : ρ'.Nodup) (hob : ∀ (i : Nat) (o : PO), H'[i]? = some o → ∃ a ob, ρ'[i]? = some a ∧ s'.heap.get? a = some ob ∧ ORel X ρ' o ob)
    (hnew : ∀ (i : Nat) (a : Addr), ρ'[i]? = some a → ρ.length ≤ i → s.heap.get? a = none) (hb : X.base.StaysIn s'.heap) (hs : Same s s') : Inv X envs F own env r s₀ m H' ρ' s' :=
  I.moveOff (off := []) (by rw [List.append_nil]; exact k) (fun a ha => nomatch ha) hp hlen hn hob (fun i a e hi => .inl (hnew i a e hi)) hb hs
end

end Mine
namespace Mine
open PySem

section
variable {X : Stat} {envs : List Env} {F : Fz} {own : List Addr} {env : Env} {r : Str → Option VR} {s₀ : Shared} {m : M} {H : HP} {ρ : List Addr} {s : Shared}

/-- more objects that nobody names -/
theorem Inv.grow {s' : Shared} (I : Inv X envs F own env r s₀ m H ρ s) (k : ∀ b o, s.heap.get? b = some o → s'.heap.get? b = some o) (hs : Same s s') : Inv X envs F own env r s₀ m H ρ s' := by
  refine I.move (fun b o e => .inl (k b o (but_some.mp e).2)) (List.prefix_refl _) I.len I.nodup (fun i o e => ?_) (fun i a e hi => ?_) (fun b o e => k b o (I.base b o e)) hs
  · obtain ⟨a, ob, h1, h2, h3⟩ := I.objs i o e
    exact ⟨a, ob, h1, k _ _ h2, h3⟩
  · have := (List.getElem?_eq_some_iff.mp e).1
    omega

/-- a new object, known by a new place -/
theorem Inv.new {s' : Shared} {a : Addr} {ob : Obj} {po : PO} (I : Inv X envs F own env r s₀ m H ρ s) (k : ∀ b o, s.heap.get? b = some o → s'.heap.get? b = some o) (hs : Same s s')
    (ha : s.heap.get? a = none) (hob : s'.heap.get? a = some ob) (ho : ORel X (ρ ++ [a]) po ob) : Inv X envs F own env r s₀ m (H ++ [po]) (ρ ++ [a]) s' := by
  have hp : ρ <+: ρ ++ [a] := ⟨[a], rfl⟩
  have hna : a ∉ ρ := fun q => by
    obtain ⟨i, hi⟩ := List.getElem?_of_mem q
    obtain ⟨o, ho⟩ : ∃ o, H[i]? = some o := by
      have := (List.getElem?_eq_some_iff.mp hi).1
      rw [I.len] at this
      exact ⟨_, List.getElem?_eq_getElem this⟩
    obtain ⟨a', ob', h1, h2, _⟩ := I.objs i o ho
    rw [hi] at h1; cases h1
    rw [ha] at h2; cases h2
  refine I.move (fun b o e => .inl (k b o (but_some.mp e).2)) hp (by simp [I.len]) ?_ (fun i o e => ?_) (fun i b e hi => ?_) (fun b o e => k b o (I.base b o e)) hs
  · exact List.nodup_append.mpr ⟨I.nodup, by simp, fun x hx y hy => by
      rw [List.mem_singleton] at hy
      subst hy
      intro q; subst q; exact hna hx⟩
  · by_cases hi : i < H.length
    · rw [List.getElem?_append_left hi] at e
      obtain ⟨b, ob', h1, h2, h3⟩ := I.objs i o e
      exact ⟨b, ob', getElem?_prefix hp h1, k _ _ h2, h3.mono hp⟩
    · rw [List.getElem?_append_right (by omega)] at e
      have h0 : i - H.length = 0 := by
        have := (List.getElem?_eq_some_iff.mp e).1
        simp at this; omega
      rw [h0] at e
      simp at e; subst e
      have hi' : i = ρ.length := by rw [I.len]; omega
      exact ⟨a, ob, by rw [hi']; simp, hob, ho⟩
  · have hlt := (List.getElem?_eq_some_iff.mp e).1
    simp at hlt
    have hi' : i = ρ.length := by omega
    rw [hi'] at e
    simp at e; subst e; exact ha

/-- an object of the call's own is changed -/
theorem Inv.put {s' : Shared} {i : Nat} {a : Addr} {ob : Obj} {po : PO} (I : Inv X envs F own env r s₀ m H ρ s) (hi : ρ[i]? = some a) (h0 : i ≠ 0) (k : ∀ b, b ≠ a → s'.heap.get? b = s.heap.get? b) (hs : Same s s')
    (hob : s'.heap.get? a = some ob) (ho : ORel X ρ po ob) : Inv X envs F own env r s₀ m (H.set i po) ρ s' := by
  have ap := I.apart i a hi
  have hmem : a ∈ ρ.drop 1 := by
    refine List.mem_of_getElem? (i := i - 1) ?_
    rw [List.getElem?_drop, show 1 + (i - 1) = i by omega]; exact hi
  refine I.move (fun b o e => .inl ?_) (List.prefix_refl _) (by simp [I.len]) I.nodup (fun j o e => ?_) (fun j b e hj => ?_) (fun b o e => ?_) hs
  · obtain ⟨h1, h2⟩ := but_some.mp e
    rw [k b (fun q => h1 (q ▸ hmem))]; exact h2
  · by_cases hj : j = i
    · subst hj
      rw [List.getElem?_set] at e
      split at e
      · split at e
        · cases e; exact ⟨a, ob, hi, hob, ho⟩
        · cases e
      · rename_i q; exact absurd rfl q
    · rw [List.getElem?_set_ne (Ne.symm hj)] at e
      obtain ⟨b, ob', h1, h2, h3⟩ := I.objs j o e
      refine ⟨b, ob', h1, ?_, h3⟩
      rw [k b (fun q => ?_)]; exact h2
      subst q
      exact hj ((List.getElem?_inj (List.getElem?_eq_some_iff.mp h1).1 I.nodup).mp (h1.trans hi.symm))
  · have := (List.getElem?_eq_some_iff.mp e).1
    omega
  · rw [k b (fun q => ?_)]; exact I.base b o e
    subst q
    rw [(ap.2.2.2 h0).2] at e; cases e

theorem Inv.ref (I : Inv X envs F own env r s₀ m H ρ s) {i : Nat} {v : Value} {o : PO} (hv : VRel ρ (.ref i) v) (ho : H[i]? = some o) : ∃ a ob, v = .ref a ∧ ρ[i]? = some a ∧ s.heap.get? a = some ob ∧ ORel X ρ o ob := by
  obtain ⟨a, e, rfl⟩ := hv
  obtain ⟨a', ob, h1, h2, h3⟩ := I.objs i o ho
  rw [e] at h1; cases h1
  exact ⟨a, ob, rfl, e, h2, h3⟩

theorem Inv.isList (I : Inv X envs F own env r s₀ m H ρ s) {i : Nat} {v : Value} {vs : List PV} (hv : VRel ρ (.ref i) v) (ho : H[i]? = some (.list vs)) :
    ∃ a items n, v = .ref a ∧ ρ[i]? = some a ∧ s.heap.get? a = some ⟨.type "list", none, .seq items n, #[]⟩ ∧ VRels ρ vs items.toList ∧ items.size ≤ 1000000 := by
  obtain ⟨a, ob, h1, h2, h3, items, n, rfl, h5, h6⟩ := I.ref hv ho
  refine ⟨a, items, n, h1, h2, h3, h5, ?_⟩
  have hl := h5.length
  simp only [Array.length_toList] at hl
  rw [← hl]; exact of_decide_eq_true h6
theorem Inv.isTup (I : Inv X envs F own env r s₀ m H ρ s) {i : Nat} {v : Value} {vs : List PV} (hv : VRel ρ (.ref i) v) (ho : H[i]? = some (.tup vs)) :
    ∃ a items n, v = .ref a ∧ ρ[i]? = some a ∧ s.heap.get? a = some ⟨.type "tuple", none, .seq items n, #[]⟩ ∧ VRels ρ vs items.toList ∧ items.size ≤ 1000000 := by
  obtain ⟨a, ob, h1, h2, h3, items, n, rfl, h5, h6⟩ := I.ref hv ho
  refine ⟨a, items, n, h1, h2, h3, h5, ?_⟩
  have hl := h5.length
  simp only [Array.length_toList] at hl
  rw [← hl]; exact of_decide_eq_true h6

@[elab_as_elim] theorem Inv.isListE (I : Inv X envs F own env r s₀ m H ρ s) {i : Nat} {v : Value} {vs : List PV} {P : Value → Prop} (hv : VRel ρ (.ref i) v) (ho : H[i]? = some (.list vs))
    (k : ∀ a items n, ρ[i]? = some a → s.heap.get? a = some ⟨.type "list", none, .seq items n, #[]⟩ → VRels ρ vs items.toList → items.size ≤ 1000000 → P (.ref a)) : P v := by
  obtain ⟨a, items, n, rfl, h1, h2, h3, h4⟩ := I.isList hv ho
  exact k a items n h1 h2 h3 h4
@[elab_as_elim] theorem Inv.isTupE (I : Inv X envs F own env r s₀ m H ρ s) {i : Nat} {v : Value} {vs : List PV} {P : Value → Prop} (hv : VRel ρ (.ref i) v) (ho : H[i]? = some (.tup vs))
    (k : ∀ a items n, ρ[i]? = some a → s.heap.get? a = some ⟨.type "tuple", none, .seq items n, #[]⟩ → VRels ρ vs items.toList → items.size ≤ 1000000 → P (.ref a)) : P v := by
  obtain ⟨a, items, n, rfl, h1, h2, h3, h4⟩ := I.isTup hv ho
  exact k a items n h1 h2 h3 h4
/-- the frame's own places are changed -/
theorem Inv.frame {s' : Shared} {m' : M} {c : Addr} (I : Inv X envs F own env r s₀ m H ρ s) (hc : c ∈ own) (k : Heap.SameBut c s.heap s'.heap) (hs : Same s s') (hin : ∃ o, s'.heap.get? c = some o ∧ ∀ vs, o.data ≠ .fields vs)
    (hl : ∃ mr, s'.heap.Ns env.locals mr) (hcells : ∀ p ∈ env.cells, ∃ v, s'.heap.IsCell p.2 v)
    (hvars : ∀ x i b, r x = some (.slot i b) → ∀ v, m' i = some v → ∃ v', VarAt s'.heap env x b v' ∧ VRel ρ v v') : Inv X envs F own env r s₀ m' H ρ s' := by
  refine ⟨fun b o e => ?_, fun b o e => ?_, ?_, I.ownNone, I.ownNew, hl, I.locOwn, fun a ha => ?_, hcells, hvars, I.len, fun i o e => ?_, I.nodup, I.apart, I.same.trans hs, I.ne⟩
  · have hb : b ≠ c := fun q => by rw [q, I.ownNone c hc] at e; cases e
    rw [k.2 b hb]; exact I.keep b o e
  · have hb : b ≠ c := fun q => by rw [q, I.ownNew c hc] at e; cases e
    rw [k.2 b hb]; exact I.base b o e
  · have key : ∀ l : List Env, s.heap.FunFrames X.base l → s'.heap.FunFrames X.base l := by
      intro l
      induction l with
      | nil => intro _; trivial
      | cons e rest ih =>
        intro ⟨h1, ⟨L, o, h2, h3, h4, h5⟩, h6⟩
        by_cases hL : L = c
        · subst hL
          obtain ⟨o', ho', hd'⟩ := hin
          exact ⟨h1, ⟨L, o', h2, h3, ho', hd'⟩, ih h6⟩
        · exact ⟨h1, ⟨L, o, h2, h3, (k.2 L hL).trans h4, h5⟩, ih h6⟩
    exact key envs I.frames
  · by_cases hac : a = c
    · subst hac; exact hin
    · obtain ⟨o, ho, hf⟩ := I.ownIn a ha
      exact ⟨o, (k.2 a hac).trans ho, hf⟩
  · obtain ⟨a, ob, h1, h2, h3⟩ := I.objs i o e
    refine ⟨a, ob, h1, ?_, h3⟩
    rw [k.2 a fun q => ?_]; exact h2
    subst q; exact (I.apart i a h1).1 hc
end

section
variable {X : Stat} {A : Around} {envs : List Env} {F : Fz} {own : List Addr} {env : Env} {r : Cx} {s₀ : Shared} {m : M} {H : HP} {ρ : List Addr} {s : Shared} {n : Nat} {E : Value → Shared → Prop}

theorem load_var (C : Cok X A envs own env r n) (I : Inv X envs F own env r.res s₀ m H ρ s) {x : Str} {i : Nat} {b : Bool} {v : PV} (hx : r.res x = some (.slot i b)) (hv : m i = some v) {Q : Value → Shared → Prop}
    (h : ∀ v', VRel ρ v v' → Q v' s) : wpAny (model X.prog X.w) A (loadName env x) Q E s := by
  obtain ⟨v', h1, h2⟩ := I.vars x i b hx v hv
  cases b with
  | false =>
    obtain ⟨mr, hn, hm⟩ := h1
    exact wpAny_loadName_local C.kind (C.locl x i hx) hn hm (h v' h2)
  | true =>
    obtain ⟨c, hc, hcell⟩ := h1
    exact wpAny_loadName_cell C.kind (C.cell x i hx).1 hc hcell (h v' h2)

theorem store_var (C : Cok X A envs own env r n) (I : Inv X envs F own env r.res s₀ m H ρ s) {x : Str} {i : Nat} {b : Bool} {v : PV} {v' : Value} (hx : r.res x = some (.slot i b)) (hv : VRel ρ v v')
    (hown : b = true → ∀ c, env.cells.lookup x = some c → c ∈ own) {Q : Unit → Shared → Prop}
    (h : ∀ s', Inv X envs F own env r.res s₀ (upd m i v) H ρ s' → Q () s') : wpAny (model X.prog X.w) A (storeName env x v') Q E s := by
  cases b with
  | false =>
    obtain ⟨mr, hn⟩ := I.loc
    refine wpAny_storeName_local (C.locl x i hx) hn (fun h' hn' hs' => h _ (I.frame I.locOwn hs' ⟨rfl, rfl, rfl⟩ ?_ ⟨_, hn'⟩ (fun p hp => ?_) (fun y j b hy w hw => ?_))) (by rw [C.kind]; rfl)
    · obtain ⟨o, es, ep, ho, hd, _⟩ := hn'
      exact ⟨o, ho, fun vs q => by rw [hd] at q; cases q⟩
    · obtain ⟨v, o, ho, hd⟩ := I.cells p hp
      exact ⟨v, o, (hs'.2 _ (C.cellsLoc p hp)).trans ho, hd⟩
    · unfold upd at hw
      by_cases hj : j = i
      · subst hj
        have hyx := C.inj y x j b false hy hx
        subst hyx
        rw [if_pos rfl] at hw; cases hw
        rw [hx] at hy; cases hy
        exact ⟨v', ⟨_, hn', by simp⟩, hv⟩
      · rw [if_neg hj] at hw
        obtain ⟨w', h1, h2⟩ := I.vars y j b hy w hw
        refine ⟨w', ?_, h2⟩
        have hyx : y ≠ x := fun q => by subst q; rw [hx] at hy; cases hy; exact hj rfl
        cases b with
        | false =>
          obtain ⟨mr', hn₁, hm₁⟩ := h1
          have := Ns.unique hn hn₁
          subst this
          exact ⟨_, hn', by rw [if_neg hyx]; exact hm₁⟩
        | true =>
          obtain ⟨c, hc, o, ho, hd⟩ := h1
          exact ⟨c, hc, o, (hs'.2 _ (C.cellsLoc _ (mem_of_lookup hc))).trans ho, hd⟩
  | true =>
    obtain ⟨hk, c, hc⟩ := C.cell x i hx
    obtain ⟨v₀, hcell⟩ := I.cells _ (mem_of_lookup hc)
    refine wpAny_storeName_cell C.kind hk hc hcell (fun h' hc' hs' => h _ (I.frame (hown rfl c hc) hs' ⟨rfl, rfl, rfl⟩ ?_ ?_ (fun p hp => ?_) (fun y j b hy w hw => ?_)))
    · obtain ⟨o, ho, hd⟩ := hc'
      exact ⟨o, ho, fun vs q => by rw [hd] at q; cases q⟩
    · obtain ⟨mr, hn⟩ := I.loc
      exact ⟨mr, hn.sameBut hs' (Ne.symm (C.cellsLoc _ (mem_of_lookup hc)))⟩
    · by_cases hpc : p.2 = c
      · rw [hpc]; exact ⟨_, hc'⟩
      · obtain ⟨v, hcl⟩ := I.cells p hp
        exact ⟨v, hcl.sameBut hs' hpc⟩
    · unfold upd at hw
      by_cases hj : j = i
      · subst hj
        have hyx := C.inj y x j b true hy hx
        subst hyx
        rw [if_pos rfl] at hw; cases hw
        rw [hx] at hy; cases hy
        exact ⟨v', ⟨c, hc, hc'⟩, hv⟩
      · rw [if_neg hj] at hw
        obtain ⟨w', h1, h2⟩ := I.vars y j b hy w hw
        refine ⟨w', ?_, h2⟩
        have hyx : y ≠ x := fun q => by subst q; rw [hx] at hy; cases hy; exact hj rfl
        cases b with
        | false =>
          obtain ⟨mr', hn₁, hm₁⟩ := h1
          exact ⟨mr', hn₁.sameBut hs' (Ne.symm (C.cellsLoc _ (mem_of_lookup hc))), hm₁⟩
        | true =>
          obtain ⟨c', hc₁, hcl⟩ := h1
          refine ⟨c', hc₁, hcl.sameBut hs' fun q => hyx ?_⟩
          subst q
          exact name_of_addr C.cellsApart (mem_of_lookup hc₁) (mem_of_lookup hc)
end

end Mine
namespace Mine
open PySem

theorem log2_lt_of {a k : Nat} (hk : 0 < k) (h : a < 2 ^ k) : a.log2 < k := by
  by_cases h0 : a = 0
  · subst h0
    have : Nat.log2 0 = 0 := by decide +kernel
    rw [this]; exact hk
  · exact (Nat.log2_lt h0).mpr h

theorem noPy_of {a b : Int} (h : smallDiv b = true) : Builtin.divisionGoesByPylong a b = false := by
  unfold smallDiv at h
  have h := of_decide_eq_true h
  exact PyProof.noPylong_of_log2 (Nat.lt_of_lt_of_le (log2_lt_of (by decide) h) (by decide))

theorem intBits_le {a : Int} {k : Nat} (hk : 0 < k) (h : a.natAbs < 2 ^ k) : Builtin.Int.intBits a ≤ k := by
  unfold Builtin.Int.intBits
  split
  · exact Nat.zero_le _
  · have := log2_lt_of hk h
    omega

theorem mulOk_of {a b : Int} (h : smallMul a b = true) : IntMulOk a b := by
  unfold smallMul at h
  simp only [Bool.or_eq_true, Bool.and_eq_true, decide_eq_true_eq] at h
  rcases h with (h | h) | ⟨h1, h2⟩
  · exact IntMulOk.of_left (intBits_le (by decide) h)
  · exact IntMulOk.of_right (intBits_le (by decide) h)
  · have b1 := intBits_le (k := 2000000) (by decide) h1
    have b2 := intBits_le (k := 2000000) (by decide) h2
    unfold IntMulOk
    intro hh
    simp only [Bool.and_eq_true] at hh
    have := hh.2
    unfold Builtin.Int.intTooBig at this
    have hb : bitsLine = 134217728 := by decide
    simp only [hb, decide_eq_true_eq, gt_iff_lt] at this
    omega

theorem sizeLine_ge : 1000000 ≤ sizeLine := by decide
theorem roomy_less {n k : Nat} (h : roomy n = true) (hk : k ≤ n) : roomy k = true := by
  have : n ≤ 1000000 := of_decide_eq_true h
  exact decide_eq_true (by omega)
theorem roomy_le {n : Nat} (h : roomy n = true) : n ≤ sizeLine := by
  have : n ≤ 1000000 := of_decide_eq_true h
  have hs : sizeLine = 16777216 := by decide
  omega

section
variable {X : Stat} {A : Around} {envs : List Env} {own : List Addr} {env : Env} {r : Cx} {ρ₀ : List Addr}

theorem push_keeps (h : Heap) (o : Obj) : ∀ b x, h.get? b = some x → (h.push o).get? b = some x := fun _ _ e => Heap.get?_push_of_some o e
theorem size_none (h : Heap) : h.get? h.objs.size = none := by
  cases e : h.get? h.objs.size with
  | none => rfl
  | some o => exact absurd (Heap.lt_size e) (Nat.lt_irrefl _)

/-- a new list -/
theorem Inv.newList {F : Fz} {s₀ : Shared} {m : M} {H : HP} {ρ : List Addr} {s : Shared} {r : Str → Option VR} (I : Inv X envs F own env r s₀ m H ρ s) {vs : List PV} {items : Array Value} (h : VRels ρ vs items.toList) (hr : roomy vs.length = true) (t : Nat) :
    Inv X envs F own env r s₀ m (H ++ [.list vs]) (ρ ++ [s.heap.objs.size]) { s with heap := s.heap.push { cls := .type "list", data := .seq items }, toks := t } :=
  I.new (push_keeps _ _) ⟨rfl, rfl, rfl⟩ (size_none _) (Heap.get?_push_size _ rfl) ⟨items, 0, rfl, h.mono ⟨[_], rfl⟩, hr⟩
theorem Inv.newTup {F : Fz} {s₀ : Shared} {m : M} {H : HP} {ρ : List Addr} {s : Shared} {r : Str → Option VR} (I : Inv X envs F own env r s₀ m H ρ s) {vs : List PV} {items : Array Value} (h : VRels ρ vs items.toList) (hr : roomy vs.length = true) (t : Nat) :
    Inv X envs F own env r s₀ m (H ++ [.tup vs]) (ρ ++ [s.heap.objs.size]) { s with heap := s.heap.push { cls := .type "tuple", data := .seq items }, toks := t } :=
  I.new (push_keeps _ _) ⟨rfl, rfl, rfl⟩ (size_none _) (Heap.get?_push_size _ rfl) ⟨items, 0, rfl, h.mono ⟨[_], rfl⟩, hr⟩
theorem Inv.newRef {F : Fz} {s₀ : Shared} {m : M} {H : HP} {ρ : List Addr} {s : Shared} {r : Str → Option VR} (I : Inv X envs F own env r s₀ m H ρ s) (a : Addr) : VRel (ρ ++ [a]) (.ref H.length) (.ref a) :=
  ⟨a, by rw [← I.len]; simp, rfl⟩

theorem sim_add {x y : PV} {a b : Value} {F : Fz} {s₀ : Shared} {m : M} {H H' : HP} {ρ : List Addr} {s : Shared} {v : PV} (I : Inv X envs F own env r.res s₀ m H ρ s) (hx : VRel ρ x a) (hy : VRel ρ y b) (hv : addV x y H = some (v, H')) {Q E : Value → Shared → Prop}
    (hQ : ∀ v' ρ' s', ρ <+: ρ' → Inv X envs F own env r.res s₀ m H' ρ' s' → VRel ρ' v v' → Q v' s') : wpAny (model X.prog X.w) A (binaryOp .Add a b) Q E s := by
  cases x <;> try cases hv
  · cases y <;> cases hv
    obtain ⟨t, rfl⟩ := hx; obtain ⟨u, rfl⟩ := hy
    exact PyProof.Rows.add_int (hQ _ ρ _ (List.prefix_refl _) (I.tok _) ⟨_, rfl⟩)
  · rename_i i
    unfold addV addL at hv
    simp only at hv
    cases h1 : listAt H (.ref i) with
    | none => rw [h1] at hv; cases hv
    | some p =>
      rw [h1] at hv
      simp only at hv
      cases h2 : listAt H y with
      | none => rw [h2] at hv; cases hv
      | some q =>
        rw [h2] at hv
        simp only at hv
        by_cases hr : roomy (p.2.length + q.2.length) = true
        · rw [if_pos hr] at hv
          cases hv
          obtain ⟨e1, hp1⟩ := listAt_inv h1
          obtain ⟨e2, hp2⟩ := listAt_inv h2
          rw [e1] at hx
          rw [e2] at hy
          refine I.isListE hx hp1 fun a1 it1 n1 _ g1 v1 _ => ?_
          refine I.isListE hy hp2 fun a2 it2 n2 _ g2 v2 _ => ?_
          have l1 := v1.length; have l2 := v2.length
          simp only [Array.length_toList] at l1 l2
          refine P.add_list g1 g2 (hQ _ (ρ ++ [s.heap.objs.size]) _ ⟨_, rfl⟩ (I.newList (vs := p.2 ++ q.2) ?_ (by rw [List.length_append]; exact hr) s.toks) (I.newRef _)) (by rw [← l1, ← l2]; exact roomy_le hr)
          rw [Array.toList_append]; exact v1.append v2
        · rw [if_neg hr] at hv; cases hv
theorem sim_op {op : Operator} {x y : PV} {a b : Value} (hx : VRel ρ₀ x a) (hy : VRel ρ₀ y b) : Sim X A envs own env r ρ₀ VRel (binaryOp op a b) (liftD (opV op x y)) := by
  refine Sim.lift fun F s₀ m H ρ s hp I v H' hv Q E hQ => ?_
  replace hx := hx.mono hp
  replace hy := hy.mono hp
  by_cases hop : op = .Add
  · subst hop; exact sim_add I hx hy hv hQ
  have key : ∀ {k : Int → Int → Option (PV × HP)}, int2 x y k = some (v, H') → (∀ c d t u, k c d = some (v, H') → wpAny (model X.prog X.w) A (binaryOp op (.int c t) (.int d u)) Q E s) → wpAny (model X.prog X.w) A (binaryOp op a b) Q E s := fun h f => by
    obtain ⟨c, d, rfl, rfl, h⟩ := int2_inv h
    obtain ⟨t, rfl⟩ := hx; obtain ⟨u, rfl⟩ := hy
    exact f c d t u h
  have fin : ∀ z : Int, v = .int z → H' = H → Q (.int z s.toks) { s with toks := s.toks + 1 } := fun z e1 e2 => by
    subst e1; subst e2
    exact hQ _ ρ _ (List.prefix_refl _) (I.tok _) ⟨_, rfl⟩
  cases op <;> first | exact absurd rfl hop | cases hv | refine key hv fun c d t u h => ?_
  · cases h; exact PyProof.Rows.sub_int (fin _ rfl rfl)
  · by_cases hm : smallMul c d = true
    · rw [if_pos hm] at h; cases h; exact PyProof.Rows.mul_int (fin _ rfl rfl) (mulOk_of hm)
    · rw [if_neg hm] at h; cases h
  · by_cases hm : d ≠ 0
    · rw [if_pos hm] at h; cases h; exact PyProof.Rows.mod_int' hm (fin _ rfl rfl)
    · rw [if_neg hm] at h; cases h
  · by_cases hm : 0 ≤ d ∧ d ≤ 100 ∧ c.natAbs < 2 ^ 64
    · rw [if_pos hm] at h; cases h; exact PyProof.Rows.pow_int_small hm.1 (by omega) hm.2.2 (fin _ rfl rfl)
    · rw [if_neg hm] at h; cases h
  · by_cases hm : d ≠ 0 ∧ smallDiv d = true
    · rw [if_pos hm] at h; cases h; exact PyProof.Rows.floordiv_int hm.1 (fin _ rfl rfl) (.inl (noPy_of hm.2))
    · rw [if_neg hm] at h; cases h

theorem sim_bin {ta tb : Sem Value} {da db : ED} {op : Operator} {pos : Pos} (ha : Sim X A envs own env r ρ₀ VRel ta da) (hb : Sim X A envs own env r ρ₀ VRel tb db) :
    Sim X A envs own env r ρ₀ VRel (do let a ← ta; let b ← holding [a] tb; standAt pos; operate [a, b] (binaryOp op a b)) (binD op da db) :=
  ha.bind fun x a ρ₁ hp hx => (hb.mono hp).hold.bind fun y b ρ₂ hp2 hy => (sim_op (hx.mono hp2) hy).oper.stand

end
end Mine
namespace Mine
open PySem PySem.SeqAt
open AutoSeq1 (wpAny_loadPart')
open MeetsSeq MeetsSeq2 MeetsSeq3 SeqRoads2

theorem tuple_ltI (l b : Addr) (x y p q : Int) (t u t' u' : Tok) (n n2 : Nat) :
    Meets (Builtin.«tuple.__lt__» ⟨[.ref l, .ref b], []⟩)
      (fun A R s => s.heap.get? l = some { cls := .type "tuple", dict := none, data := .seq #[.int x t, .int y u] n, slots := #[] } ∧ s.heap.get? b = some { cls := .type "tuple", dict := none, data := .seq #[.int p t', .int q u'] n2, slots := #[] } ∧
        R (.ok (.ret (.bool (if x = p then decide (y < q) else decide (x < p))))) s) :=
  .of_wp fun prog w A R s h => by
    obtain ⟨hp, g, d, tk, os⟩ := s; obtain ⟨hl, hb, h⟩ := h
    have f2 := AutoSeq1.sub_tuple_tuple
    have e1 : EqAt A.in1 ⟨hp, g, d, tk, os⟩ (.int x t) (.int p t') (x == p) := EqAt.int_int x t p t'
    have e2 : EqAt A.in1 ⟨hp, g, d, tk, os⟩ (.int y u) (.int q u') (y == q) := EqAt.int_int y u q u'
    wp_walk using wpAny_loadPart' hl, wpAny_loadPart' hb, wpAny_forIn_list _ (fun rest b s' => b.1 = none ∧ s' = ⟨hp, g, d, tk, os⟩ ∧ (rest = [(Value.int x t, Value.int p t'), (Value.int y u, Value.int q u')] ∨ (rest = [(Value.int y u, Value.int q u')] ∧ x = p) ∨ (rest = [] ∧ x = p ∧ y = q))) _
    case turn =>
      rintro ⟨v, v'⟩ rest b s' ⟨hb', rfl, hz⟩
      rcases hz with hz | ⟨hz, hxp⟩ | ⟨hz, _⟩
      · injection hz with h1 h2
        injection h1 with h1 h1'
        subst h1 h1' h2
        refine wpAny_bind (e1 prog w _ _ ?_)
        by_cases hx : x = p
        · have : (x == p) = true := by simpa using hx
          rw [this]
          exact wpAny_pure ⟨rfl, rfl, .inr (.inl ⟨rfl, hx⟩)⟩
        · have : (x == p) = false := by simpa using hx
          rw [this]
          rw [if_neg hx] at h
          refine wpAny_bind (wpAny_rule (wpAny_bind (P.lt_int ?_)))
          exact wpAny_bind (wpAny_pure (wpAny_pure (wpAny_pure ⟨_, rfl, h⟩)))
      · injection hz with h1 h2
        injection h1 with h1 h1'
        subst h1 h1' h2
        rw [if_pos hxp] at h
        refine wpAny_bind (e2 prog w _ _ ?_)
        by_cases hy : y = q
        · have : (y == q) = true := by simpa using hy
          rw [this]
          exact wpAny_pure ⟨rfl, rfl, .inr (.inr ⟨rfl, hxp, hy⟩)⟩
        · have : (y == q) = false := by simpa using hy
          rw [this]
          refine wpAny_bind (wpAny_rule (wpAny_bind (P.lt_int ?_)))
          exact wpAny_bind (wpAny_pure (wpAny_pure (wpAny_pure ⟨_, rfl, h⟩)))
      · cases hz
    case fin =>
      rintro ⟨b1, b2⟩ s' ⟨hb', rfl, hz⟩
      simp only at hb'
      subst hb'
      rcases hz with hz | ⟨hz, _⟩ | ⟨_, hxp, hyq⟩
      · cases hz
      · cases hz
      · rw [if_pos hxp, hyq] at h
        refine wpAny_pure ⟨_, rfl, ?_⟩
        simpa [Builtin.Tuple.tupleCompareSizes] using h
    all_goals first | exact ⟨rfl, rfl, .inl rfl⟩

theorem lt_tuple_ints (prog : Program) (w : World) (A : Around) (E : Value → Shared → Prop) (s : Shared) {l b : Addr} {x y p q : Int} {t u t' u' : Tok} {n n2 : Nat} {Q : Value → Shared → Prop}
    (hl : s.heap.get? l = some ⟨.type "tuple", none, .seq #[.int x t, .int y u] n, #[]⟩) (hb : s.heap.get? b = some ⟨.type "tuple", none, .seq #[.int p t', .int q u'] n2, #[]⟩) (hu : A.units < cLine)
    (h : Q (.bool (if x = p then decide (y < q) else decide (x < p))) s) : wpAny (model prog w) A (compareOp .Lt (.ref l) (.ref b)) Q E s :=
  richCompare_meets_room (op := .Lt) ⟨_, hl, rfl⟩ ⟨_, hb, rfl⟩ F.slot_tuple_lt F.entry_tuple_lt (F.args_tuple_lt_2 _ _) (tuple_ltI l b x y p q t u t' u' n n2)
    ⟨hl, hb, show Value.bool (if x = p then decide (y < q) else decide (x < p)) ≠ Value.notImplemented ∧ Q (.bool (if x = p then decide (y < q) else decide (x < p))) s from ⟨(fun x => nomatch x), h⟩⟩ hu
end Mine
namespace Mine
open PySem

section
variable {X : Stat} {envs : List Env} {F : Fz} {own : List Addr} {env : Env} {r : Str → Option VR} {s₀ : Shared} {m : M} {H : HP} {ρ : List Addr} {s : Shared}

theorem datasOf_reads {f : PV → Option PyData} {h : Heap} (hf : ∀ v v' d, VRel ρ v v' → f v = some d → ∃ as, Reads h v' d as) :
    ∀ {vs : List PV} {ws : List Value} {ds : List PyData}, VRels ρ vs ws → datasOf f vs = some ds → ∃ as, ReadsAll h ws ds as
  | [], [], ds, _, e => by cases e; exact ⟨_, .nil⟩
  | v :: vs, w :: ws, ds, ⟨h1, h2⟩, e => by
    unfold datasOf at e
    split at e
    · rename_i d ds' e1 e2
      cases e
      obtain ⟨as, ra⟩ := hf _ _ _ h1 e1
      obtain ⟨bs, rb⟩ := datasOf_reads hf h2 e2
      exact ⟨_, .cons ra rb⟩
    · cases e
  | [], _ :: _, _, e, _ => e.elim
  | _ :: _, [], _, e, _ => e.elim

theorem Inv.reads (I : Inv X envs F own env r s₀ m H ρ s) : ∀ (k : Nat) (v : PV) (v' : Value) (d : PyData), VRel ρ v v' → dataOf H k v = some d → ∃ as, Reads s.heap v' d as := by
  intro k
  induction k with
  | zero =>
    intro v v' d hv e
    cases v with
    | none => cases hv; cases e; exact ⟨_, .none⟩
    | bool b => cases hv; cases e; exact ⟨_, .bool b⟩
    | int i => obtain ⟨t, rfl⟩ := hv; cases e; exact ⟨_, .int i t⟩
    | str x => cases e
    | ref i => cases e
  | succ k ih =>
    intro v v' d hv e
    cases v with
    | none => cases hv; cases e; exact ⟨_, .none⟩
    | bool b => cases hv; cases e; exact ⟨_, .bool b⟩
    | int i => obtain ⟨t, rfl⟩ := hv; cases e; exact ⟨_, .int i t⟩
    | str x => cases e
    | ref i =>
      simp only [dataOf] at e
      split at e
      · rename_i vs ho
        refine I.isListE hv ho fun a items n _ g hr _ => ?_
        cases hd : datasOf (dataOf H k) vs with
        | none => rw [hd] at e; cases e
        | some ds =>
          rw [hd] at e; cases e
          obtain ⟨as, ra⟩ := datasOf_reads (fun v v' d h1 h2 => ih v v' d h1 h2) hr hd
          exact ⟨_, .list g rfl rfl ra⟩
      · rename_i vs ho
        refine I.isTupE hv ho fun a items n _ g hr _ => ?_
        cases hd : datasOf (dataOf H k) vs with
        | none => rw [hd] at e; cases e
        | some ds =>
          rw [hd] at e; cases e
          obtain ⟨as, ra⟩ := datasOf_reads (fun v v' d h1 h2 => ih v v' d h1 h2) hr hd
          exact ⟨_, .tuple g rfl rfl ra⟩
      · cases e

theorem datasOf_shape {f : PV → Option PyData} {k : Nat} (hf : ∀ v d, f v = some d → d.canLay0 = true ∧ d.depth ≤ k) :
    ∀ {vs : List PV} {ds : List PyData}, datasOf f vs = some ds → PyData.canLayAll0 ds = true ∧ PyData.depthAll ds ≤ k
  | [], ds, e => by cases e; exact ⟨rfl, Nat.zero_le _⟩
  | v :: vs, ds, e => by
    unfold datasOf at e
    split at e
    · rename_i d ds' e1 e2
      cases e
      have h1 := hf _ _ e1
      have h2 := datasOf_shape hf e2
      exact ⟨by simp only [PyData.canLayAll0, h1.1, h2.1, Bool.and_self], by simp only [PyData.depthAll]; omega⟩
    · cases e
theorem dataOf_shape : ∀ (k : Nat) (v : PV) (d : PyData), dataOf H k v = some d → d.canLay0 = true ∧ d.depth ≤ k := by
  intro k
  induction k with
  | zero =>
    intro v d e
    cases v with
    | _ => first | (cases e; done) | (cases e; exact ⟨rfl, Nat.zero_le _⟩)
  | succ k ih =>
    intro v d e
    cases v with
    | ref i =>
      simp only [dataOf] at e
      split at e
      · rename_i vs ho
        cases hd : datasOf (dataOf H k) vs with
        | none => rw [hd] at e; cases e
        | some ds =>
          rw [hd] at e; cases e
          have := datasOf_shape ih hd
          exact ⟨by simp only [PyData.canLay0]; exact this.1, by simp only [PyData.depth]; omega⟩
      · rename_i vs ho
        cases hd : datasOf (dataOf H k) vs with
        | none => rw [hd] at e; cases e
        | some ds =>
          rw [hd] at e; cases e
          have := datasOf_shape ih hd
          exact ⟨by simp only [PyData.canLay0]; exact this.1, by simp only [PyData.depth]; omega⟩
      · cases e
    | _ => first | (cases e; done) | (cases e; exact ⟨rfl, Nat.zero_le _⟩)
theorem cLine_eq : cLine = 9900 := by decide
end

section
variable {X : Stat} {A : Around} {envs : List Env} {own : List Addr} {env : Env} {r : Cx} {ρ₀ : List Addr} {n : Nat}

theorem isNone_rel {ρ : List Addr} {x : PV} {a : Value} (h : VRel ρ x a) : (a == Value.none) = decide (x = PV.none) := by
  cases x with
  | none => cases h; rfl
  | bool b => cases h; rfl
  | int i => obtain ⟨t, rfl⟩ := h; rfl
  | str i => obtain ⟨t, rfl⟩ := h; rfl
  | ref i => obtain ⟨t, _, rfl⟩ := h; rfl
noncomputable def BRel (_ : List Addr) (b : Bool) (v : Value) : Prop := v = .bool b

theorem sim_eq {op : CmpOp} {x y : PV} {a b : Value} {F : Fz} {s₀ : Shared} {m : M} {H : HP} {ρ : List Addr} {s : Shared} {t : Bool} {Q : Value → Shared → Prop} {E : Value → Shared → Prop}
    (hu : A.units + 64 < cLine) (I : Inv X envs F own env r.res s₀ m H ρ s) (hx : VRel ρ x a) (hy : VRel ρ y b) (h : eqV H x y = some t) :
    (Q (.bool t) s → wpAny (model X.prog X.w) A (compareOp .Eq a b) Q E s) ∧ (Q (.bool (!t)) s → wpAny (model X.prog X.w) A (compareOp .NotEq a b) Q E s) := by
  unfold eqV at h
  split at h
  · obtain ⟨t1, rfl⟩ := hx; obtain ⟨t2, rfl⟩ := hy; cases h
    exact ⟨fun q => PyProof.Rows.eq_str q, fun q => PyProof.Rows.ne_str q⟩
  · split at h
    · rename_i d1 d2 e1 e2
      cases h
      obtain ⟨as, ra⟩ := I.reads 3 _ _ _ hx e1
      obtain ⟨bs, rb⟩ := I.reads 3 _ _ _ hy e2
      have s1 := dataOf_shape 3 _ _ e1
      have s2 := dataOf_shape 3 _ _ e2
      have hu' : A.units + min d1.depth d2.depth < cLine := by omega
      exact ⟨fun q => SeqAt.compareEq_reads ra rb s1.1 s2.1 hu' q, fun q => SeqAt.compareNe_reads ra rb s1.1 s2.1 hu' q⟩
    · cases h

theorem two_ints {ρ : List Addr} {c d : Int} : ∀ {l : List Value}, VRels ρ [.int c, .int d] l → ∃ t u, l = [.int c t, .int d u]
  | [], h => h.elim
  | [_], h => h.2.elim
  | _ :: _ :: _ :: _, h => h.2.2.elim
  | [_, _], ⟨⟨t, e1⟩, ⟨u, e2⟩, _⟩ => ⟨t, u, by rw [e1, e2]⟩
theorem sim_ltOp {x y : PV} {a b : Value} {F : Fz} {s₀ : Shared} {m : M} {H : HP} {ρ : List Addr} {s : Shared} {t : Bool} (hu : A.units + 64 < cLine) (I : Inv X envs F own env r.res s₀ m H ρ s) (hx : VRel ρ x a) (hy : VRel ρ y b) (hc : ltV x y H = some t) {Q E : Value → Shared → Prop} (fin : Q (.bool t) s) :
    wpAny (model X.prog X.w) A (compareOp .Lt a b) Q E s := by
  cases x <;> try cases hc
  · cases y <;> cases hc
    obtain ⟨_, rfl⟩ := hx; obtain ⟨u, rfl⟩ := hy
    exact P.lt_int fin
  · rename_i i
    unfold ltV at hc
    simp only at hc
    cases h1 : pairAt H (.ref i) with
    | none => rw [h1] at hc; cases hc
    | some p =>
      rw [h1] at hc
      simp only at hc
      cases h2 : pairAt H y with
      | none => rw [h2] at hc; cases hc
      | some q =>
        rw [h2] at hc
        cases hc
        obtain ⟨_, e0, e1⟩ := pairAt_inv h1
        obtain ⟨_, rfl, e2⟩ := pairAt_inv h2
        rw [e0] at hx
        refine I.isTupE hx e1 fun a1 it1 n1 _ g1 v1 _ => ?_
        refine I.isTupE hy e2 fun a2 it2 n2 _ g2 v2 _ => ?_
        obtain ⟨l1⟩ := it1
        obtain ⟨l2⟩ := it2
        obtain ⟨t1, t2, rfl⟩ := two_ints v1
        obtain ⟨t3, t4, rfl⟩ := two_ints v2
        exact lt_tuple_ints _ _ _ _ _ g1 g2 (by omega) fin
theorem sim_in {x y : PV} {a b : Value} {F : Fz} {s₀ : Shared} {m : M} {H : HP} {ρ : List Addr} {s : Shared} {t : Bool} {Q : Value → Shared → Prop} {E : Value → Shared → Prop} (hu : A.units + 64 < cLine) (I : Inv X envs F own env r.res s₀ m H ρ s) (hx : VRel ρ x a) (hy : VRel ρ y b) (h : inV x y H = some t) :
    (Q (.bool t) s → wpAny (model X.prog X.w) A (compareOp .In a b) Q E s) ∧ (Q (.bool (!t)) s → wpAny (model X.prog X.w) A (compareOp .NotIn a b) Q E s) := by
  cases y with
  | ref i =>
    unfold inV at h
    simp only at h
    cases h1 : dataOf H 2 (.ref i) with
    | none => rw [h1] at h; cases h
    | some d1 =>
      rw [h1] at h
      cases d1 with
      | tuple xs =>
        simp only at h
        cases h2 : dataOf H 2 x with
        | none => rw [h2] at h; cases h
        | some d2 =>
          rw [h2] at h; cases h
          obtain ⟨as, ra⟩ := I.reads 2 _ _ _ hy h1
          obtain ⟨bs, rb⟩ := I.reads 2 _ _ _ hx h2
          have s1 := dataOf_shape 2 _ _ h1
          have s2 := dataOf_shape 2 _ _ h2
          have hu' : A.units + 1 + min (PyData.depthAll xs) d2.depth < cLine := by omega
          exact ⟨fun q => SeqAt.in_tuple_reads ra rb (by simpa only [PyData.canLay0] using s1.1) s2.1 hu' q, fun q => SeqAt.notIn_tuple_reads ra rb (by simpa only [PyData.canLay0] using s1.1) s2.1 hu' q⟩
      | _ => cases h
  | _ => cases h
theorem sim_cmpOp (C : Cok X A envs own env r n) {op : CmpOp} {x y : PV} {a b : Value} (hx : VRel ρ₀ x a) (hy : VRel ρ₀ y b) :
    Sim X A envs own env r ρ₀ BRel (compareOp op a b) (liftD fun H => (cmpV op x y H).map fun t => (t, H)) := by
  refine Sim.lift fun F s₀ m H ρ s hp I v H' hv Q E hQ => ?_
  replace hx := hx.mono hp
  replace hy := hy.mono hp
  have hu : A.units + 64 < cLine := by have := C.units; rw [cLine_eq]; omega
  cases hc : cmpV op x y H with
  | none => rw [hc] at hv; cases hv
  | some t =>
    rw [hc] at hv; cases hv
    have fin : Q (.bool v) s := hQ _ ρ s (List.prefix_refl _) I rfl
    clear hQ
    have key : ∀ {k : Int → Int → Option Bool}, int2 x y k = some v → (∀ c d t' u, k c d = some v → wpAny (model X.prog X.w) A (compareOp op (.int c t') (.int d u)) Q E s) → wpAny (model X.prog X.w) A (compareOp op a b) Q E s := fun h f => by
      obtain ⟨c, d, rfl, rfl, h⟩ := int2_inv h
      obtain ⟨t', rfl⟩ := hx; obtain ⟨u, rfl⟩ := hy
      exact f c d t' u h
    by_cases h1 : op = .Lt
    · subst h1; exact sim_ltOp hu I hx hy hc fin
    by_cases h2 : op = .Eq
    · subst h2; exact (sim_eq (op := .Eq) hu I hx hy hc).1 fin
    by_cases h3 : op = .NotEq
    · subst h3
      unfold cmpV at hc
      simp only at hc
      cases he : eqV H x y with
      | none => rw [he] at hc; cases hc
      | some t' =>
        rw [he] at hc; cases hc
        exact (sim_eq (op := .Eq) hu I hx hy he).2 fin
    by_cases h4 : op = .In
    · subst h4; exact (sim_in hu I hx hy hc).1 fin
    by_cases h5 : op = .NotIn
    · subst h5
      unfold cmpV at hc
      simp only at hc
      cases he : inV x y H with
      | none => rw [he] at hc; cases hc
      | some t' =>
        rw [he] at hc; cases hc
        exact (sim_in hu I hx hy he).2 fin
    cases op <;> first | exact absurd rfl h1 | exact absurd rfl h2 | exact absurd rfl h3 | exact absurd rfl h4 | exact absurd rfl h5 | (refine key hc fun c d t' u h => ?_; cases h) | skip
    · exact P.le_int fin
    · exact P.gt_int fin
    · exact P.ge_int fin
    · cases y <;> cases hc
      cases hy
      refine is_none ?_
      rw [isNone_rel hx]; exact fin
    · cases y <;> cases hc
      cases hy
      refine isNot_none ?_
      rw [isNone_rel hx]
      simpa using fin

theorem sim_cmp (C : Cok X A envs own env r n) {ta tb : Sem Value} {da db : ED} {op : CmpOp} {pos : Pos} (ha : Sim X A envs own env r ρ₀ VRel ta da) (hb : Sim X A envs own env r ρ₀ VRel tb db) :
    Sim X A envs own env r ρ₀ BRel (do let a ← ta; let b ← holding [a] tb; standAt pos; operate [a, b] (compareOp op a b)) (cmpD op da db) :=
  ha.bind fun x a ρ₁ hp hx => (hb.mono hp).hold.bind fun y b ρ₂ hp2 hy => (sim_cmpOp C (hx.mono hp2) hy).oper.stand
end
end Mine
namespace Mine
open PySem

section
variable {X : Stat} {A : Around} {envs : List Env} {own : List Addr} {env : Env} {r : Cx} {ρ₀ : List Addr} {n : Nat}

theorem sim_int {i : Int} {k : Nat} {pos : Pos} : Sim X A envs own env r ρ₀ VRel (eval (.Constant (.int i) k pos) env) (pureD (.int i)) := by
  intro F s₀ m H ρ s hp I res H' hd Q E hQ _
  cases hd
  exact wpAny_Constant_int (hQ _ rfl _ ρ _ (List.prefix_refl _) (I.tok _) ⟨_, rfl⟩)
theorem sim_str {x : Str} {k : Nat} {pos : Pos} : Sim X A envs own env r ρ₀ VRel (eval (.Constant (.str x) k pos) env) (pureD (.str x)) := by
  intro F s₀ m H ρ s hp I res H' hd Q E hQ _
  cases hd
  exact wpAny_Constant_str (hQ _ rfl _ ρ _ (List.prefix_refl _) (I.tok _) ⟨_, rfl⟩)
theorem sim_bool {b : Bool} {k : Nat} {pos : Pos} : Sim X A envs own env r ρ₀ VRel (eval (.Constant (.bool b) k pos) env) (pureD (.bool b)) :=
  Sim.pure fun _ _ => rfl
theorem sim_none {k : Nat} {pos : Pos} : Sim X A envs own env r ρ₀ VRel (eval (.Constant .none k pos) env) (pureD .none) :=
  Sim.pure fun _ _ => rfl

theorem sim_var (C : Cok X A envs own env r n) {x : Str} {i : Nat} {b : Bool} {pos : Pos} (hx : r.res x = some (.slot i b)) : Sim X A envs own env r ρ₀ VRel (eval (.Name x pos) env) (varD i) := by
  intro F s₀ m H ρ s hp I res H' hd Q E hQ _
  unfold varD at hd
  cases hm : m i with
  | none => rw [hm] at hd; cases hd
  | some v =>
    rw [hm] at hd; cases hd
    exact wpAny_Name (load_var C I hx hm fun v' hv => hQ _ rfl _ ρ _ (List.prefix_refl _) I hv) (C.debug x _ hx)

/-- the top's own names, and the built-in ones -/
structure Top0 (X : Stat) : Prop where
  g : X.base.Ns mainGlobals X.mg
  b : X.base.Ns builtinsNs X.mb
  builtins : ∀ x : Str, x ≠ "__name__" → X.mb x = bootBuiltins x
  nolimit : X.base.NoLimit

theorem load_glob (T : Top0 X) (C : Cok X A envs own env r n) {F : Fz} {s₀ : Shared} {m : M} {H : HP} {ρ : List Addr} {s : Shared} (I : Inv X envs F own env r.res s₀ m H ρ s) {x : Str} {v : Value} {pos : Pos} (hx : r.res x = some .glob)
    (hv : X.mg x = some v) {Q : Value → Shared → Prop} {E : Value → Shared → Prop} (h : Q v s) : wpAny (model X.prog X.w) A (eval (.Name x pos) env) Q E s :=
  Calls.Name_function_global C.kind (C.glob x hx) (Calls.loadGlobal_global (mg := X.mg) (by rw [C.globals]; exact T.g.keeps I.base) hv h) (C.debug x _ hx)
theorem load_builtin (T : Top0 X) (C : Cok X A envs own env r n) {F : Fz} {s₀ : Shared} {m : M} {H : HP} {ρ : List Addr} {s : Shared} (I : Inv X envs F own env r.res s₀ m H ρ s) {x : Str} {v : Value} {pos : Pos} (hx : r.res x = some .glob)
    (hm : X.mg x = none) (hn : x ≠ "__name__") (hv : bootBuiltins x = some v) {Q : Value → Shared → Prop} {E : Value → Shared → Prop} (h : Q v s) : wpAny (model X.prog X.w) A (eval (.Name x pos) env) Q E s :=
  Calls.Name_function_global C.kind (C.glob x hx) (Calls.loadGlobal_builtin (mg := X.mg) (mb := X.mb) (by rw [C.globals]; exact T.g.keeps I.base) hm (by rw [C.builtins]; exact T.b.keeps I.base) ((T.builtins x hn).trans hv) h) (C.debug x _ hx)

theorem sim_const (T : Top0 X) (C : Cok X A envs own env r n) {x : Str} {v : PV} {v' : Value} {pos : Pos} (hx : r.res x = some .glob) (hg : X.mg x = some v') (hv : VRel [] v v') : Sim X A envs own env r ρ₀ VRel (eval (.Name x pos) env) (pureD v) := by
  intro F s₀ m H ρ s hp I res H' hd Q E hQ _
  cases hd
  exact load_glob T C I hx hg (hQ _ rfl _ ρ _ (List.prefix_refl _) I (hv.mono ⟨ρ, rfl⟩))

theorem sim_unOp {op : UnaryOp} {x : PV} {a : Value} (hx : VRel ρ₀ x a) : Sim X A envs own env r ρ₀ VRel (unaryOp op a) (liftD fun H => (unV op x).map fun v => (v, H)) := by
  refine Sim.lift fun F s₀ m H ρ s hp I v H' hv Q E hQ => ?_
  have hx := hx.mono hp
  unfold unV at hv
  split at hv
  · obtain ⟨t, rfl⟩ := hx; cases hv
    exact P.neg_int (hQ _ ρ _ (List.prefix_refl _) (I.tok _) ⟨_, rfl⟩)
  · cases hx; cases hv
    exact not_value (wpAny_truthy_bool (hQ _ ρ _ (List.prefix_refl _) I rfl))
  · cases hv
theorem sim_un {t : Sem Value} {d : ED} {op : UnaryOp} {pos : Pos} (h : Sim X A envs own env r ρ₀ VRel t d) :
    Sim X A envs own env r ρ₀ VRel (do let v ← t; standAt pos; holding [v] (unaryOp op v)) (unD op d) :=
  h.bind fun x a ρ₁ hp hx => (sim_unOp hx).hold.stand

/-- truth of a bool -/
noncomputable def TRel (_ : List Addr) (a b : Bool) : Prop := a = b
theorem sim_truthV {x : PV} {a : Value} (hx : VRel ρ₀ x a) : Sim X A envs own env r ρ₀ TRel (truthy a) (truthV x) := by
  cases x with
  | bool b =>
    cases hx
    intro F s₀ m H ρ s hp I res H' hd Q E hQ _
    cases hd
    exact wpAny_truthy_bool (hQ _ rfl _ ρ _ (List.prefix_refl _) I rfl)
  | _ => exact Sim.stuck
theorem sim_truth {t : Sem Value} {d : ED} {pos : Pos} (h : Sim X A envs own env r ρ₀ VRel t d) :
    Sim X A envs own env r ρ₀ TRel (do let v ← t; standAt pos; holding [v] (truthy v)) (truthD d) :=
  h.bind fun x a ρ₁ hp hx => (sim_truthV hx).hold.stand

/-- a list of trees, one by one -/
inductive Sims {α β : Type} (X : Stat) (A : Around) (envs : List Env) (own : List Addr) (env : Env) (r : Cx) (ρ₀ : List Addr) (V : List Addr → α → β → Prop) : List (Sem β) → List (RD α) → Prop where
  | nil : Sims X A envs own env r ρ₀ V [] []
  | cons {t : Sem β} {d : RD α} {ts : List (Sem β)} {ds : List (RD α)} : Sim X A envs own env r ρ₀ V t d → Sims X A envs own env r ρ₀ V ts ds → Sims X A envs own env r ρ₀ V (t :: ts) (d :: ds)
theorem Sims.mono {α β : Type} {V : List Addr → α → β → Prop} {ts : List (Sem β)} {ds : List (RD α)} {ρ₁ : List Addr} (h : Sims X A envs own env r ρ₀ V ts ds) (hp : ρ₀ <+: ρ₁) : Sims X A envs own env r ρ₁ V ts ds := by
  induction h with
  | nil => exact .nil
  | cons h _ ih => exact .cons (h.mono hp) ih

theorem sim_boolOp {op : BoolOp} {pos : Pos} : ∀ {ts : List (Sem Value)} {ds : List ED} {ρ₀ : List Addr}, Sims X A envs own env r ρ₀ VRel ts ds → Sim X A envs own env r ρ₀ VRel (boolOp pos op ts) (boolD (op == .And) ds)
  | _, _, _, .nil => Sim.stuck
  | _, _, _, .cons h .nil => h
  | _, _, _, .cons h (.cons h' hr) => by
    refine h.bind fun x a ρ₁ hp hx => Sim.stand ?_
    refine (sim_truthV hx).hold.bind fun b b' ρ₂ hp2 hb => ?_
    cases hb
    have ih := sim_boolOp (op := op) (pos := pos) ((Sims.cons h' hr).mono (hp.trans hp2))
    cases op <;> cases b
    · exact Sim.pure fun ρ hρ => hx.mono (hp2.trans hρ)
    · exact ih
    · exact ih
    · exact Sim.pure fun ρ hρ => hx.mono (hp2.trans hρ)

theorem sim_allTrue {op : BoolOp} : ∀ {es : List Expr} {ds : List TD} {ρ₀ : List Addr}, Sims X A envs own env r ρ₀ TRel (es.map fun e => isTrue e env (eval e env)) ds → Sim X A envs own env r ρ₀ TRel (allTrue op es env) (allT (op == .And) ds)
  | [], _, _, .nil => by
    cases op <;> exact Sim.pure fun _ _ => rfl
  | e :: es, _, _, .cons (d := d) (ds := ds) h hr => by
    have ih : ∀ ρ₁, _ <+: ρ₁ → _ := fun ρ₁ hp => sim_allTrue (op := op) (hr.mono hp)
    cases op
    · refine Sim.conv (t := (do let b ← isTrue e env (eval e env); if b = true then allTrue .And es env else pure false)) ?_ ?_
      · show (do match BoolOp.And, ← isTrue e env (eval e env) with | .And, false => pure false | .Or, true => pure true | _, _ => allTrue BoolOp.And es env) = _
        congr 1; funext b; cases b <;> rfl
      · refine h.bind fun x a ρ₁ hp hx => ?_
        cases hx
        cases x
        · exact Sim.pure fun _ _ => rfl
        · exact ih ρ₁ hp
    · refine Sim.conv (t := (do let b ← isTrue e env (eval e env); if b = true then pure true else allTrue .Or es env)) ?_ ?_
      · show (do match BoolOp.Or, ← isTrue e env (eval e env) with | .And, false => pure false | .Or, true => pure true | _, _ => allTrue BoolOp.Or es env) = _
        congr 1; funext b; cases b <;> rfl
      · refine h.bind fun x a ρ₁ hp hx => ?_
        cases hx
        cases x
        · exact ih ρ₁ hp
        · exact Sim.pure fun _ _ => rfl

/-- a list of trees, as a display or a call's arguments take it -/
inductive SimsB (X : Stat) (A : Around) (envs : List Env) (own : List Addr) (env : Env) (r : Cx) (ρ₀ : List Addr) : List (Bool × Sem Value) → List ED → Prop where
  | nil : SimsB X A envs own env r ρ₀ [] []
  | star {t : Bool × Sem Value} {ts : List (Bool × Sem Value)} {ds : List ED} : SimsB X A envs own env r ρ₀ (t :: ts) (stuckD :: ds)
  | cons {t : Sem Value} {d : ED} {ts : List (Bool × Sem Value)} {ds : List ED} : Sim X A envs own env r ρ₀ VRel t d → SimsB X A envs own env r ρ₀ ts ds → SimsB X A envs own env r ρ₀ ((false, t) :: ts) (d :: ds)
theorem SimsB.mono {ts : List (Bool × Sem Value)} {ds : List ED} {ρ₁ : List Addr} (h : SimsB X A envs own env r ρ₀ ts ds) (hp : ρ₀ <+: ρ₁) : SimsB X A envs own env r ρ₁ ts ds := by
  induction h with
  | nil => exact .nil
  | star => exact .star
  | cons h _ ih => exact .cons (h.mono hp) ih
theorem sim_spliced : ∀ {ts : List (Bool × Sem Value)} {ds : List ED} {ρ₀ : List Addr}, SimsB X A envs own env r ρ₀ ts ds → Sim X A envs own env r ρ₀ VRels (spliced ts) (listD ds)
  | _, _, _, .nil => Sim.pure fun _ _ => trivial
  | _, _, _, .star => Sim.stuck
  | _, _, _, .cons (t := t) (ts := ts) h hr => by
    refine Sim.conv (t := (do let v ← t; let vs ← holding [v] (spliced ts); pure ([v] ++ vs))) rfl ?_
    exact h.bind fun x a ρ₁ hp hx => ((sim_spliced (hr.mono hp))).hold.bind fun xs as ρ₂ hp2 hxs => Sim.pure fun ρ hρ => ⟨hx.mono (hp2.trans hρ), hxs.mono hρ⟩

theorem sim_newList {xs : List PV} {vs : List Value} (h : VRels ρ₀ xs vs) : Sim X A envs own env r ρ₀ VRel (newList vs) (liftD fun H => if roomy xs.length then some (.ref H.length, H ++ [.list xs]) else none) := by
  refine Sim.lift fun F s₀ m H ρ s hp I v H' hv Q E hQ => ?_
  split at hv
  · rename_i hr; cases hv
    refine wpAny_newObj_type (hQ _ (ρ ++ [s.heap.objs.size]) _ ⟨_, rfl⟩ (I.newList (vs := xs) (items := vs.toArray) (by simpa using h.mono hp) hr s.toks) (I.newRef _)) ?_
    show vs.toArray.size ≤ sizeLine
    rw [List.size_toArray, ← h.length]; exact roomy_le hr
  · cases hv
theorem sim_newTup {xs : List PV} {vs : List Value} (h : VRels ρ₀ xs vs) : Sim X A envs own env r ρ₀ VRel (newTuple vs) (liftD fun H => if roomy xs.length then some (.ref H.length, H ++ [.tup xs]) else none) := by
  refine Sim.lift fun F s₀ m H ρ s hp I v H' hv Q E hQ => ?_
  split at hv
  · rename_i hr; cases hv
    refine wpAny_newObj_type (hQ _ (ρ ++ [s.heap.objs.size]) _ ⟨_, rfl⟩ (I.newTup (vs := xs) (items := vs.toArray) (by simpa using h.mono hp) hr s.toks) (I.newRef _)) ?_
    show vs.toArray.size ≤ sizeLine
    rw [List.size_toArray, ← h.length]; exact roomy_le hr
  · cases hv
theorem sim_list {ts : List (Bool × Sem Value)} {ds : List ED} {pos : Pos} (h : SimsB X A envs own env r ρ₀ ts ds) : Sim X A envs own env r ρ₀ VRel (do standAt pos; newList (← spliced ts)) (mkListD ds) :=
  Sim.stand ((sim_spliced h).bind fun xs vs ρ₁ hp hx => sim_newList hx)
theorem sim_tuple {ts : List (Bool × Sem Value)} {ds : List ED} {pos : Pos} (h : SimsB X A envs own env r ρ₀ ts ds) : Sim X A envs own env r ρ₀ VRel (do standAt pos; newTuple (← spliced ts)) (mkTupD ds) :=
  Sim.stand ((sim_spliced h).bind fun xs vs ρ₁ hp hx => sim_newTup hx)

theorem idxOf_lt {k : Int} {n j : Nat} (h : idxOf? k n = some j) : j < n ∧ ((0 ≤ k ∧ j = k.toNat ∧ k < n) ∨ (k < 0 ∧ -(n : Int) ≤ k ∧ j = (k + n).toNat)) := by
  unfold idxOf? at h
  by_cases h0 : 0 ≤ k
  · rw [if_pos h0] at h
    by_cases h1 : k < n
    · rw [if_pos h1] at h; cases h
      exact ⟨(Int.toNat_lt h0).mpr h1, .inl ⟨h0, rfl, h1⟩⟩
    · rw [if_neg h1] at h; cases h
  · rw [if_neg h0] at h
    by_cases h1 : 0 ≤ k + n
    · rw [if_pos h1] at h; cases h
      exact ⟨(Int.toNat_lt h1).mpr (by omega), .inr ⟨Int.not_le.mp h0, by omega, rfl⟩⟩
    · rw [if_neg h1] at h; cases h

theorem sim_sub {value slice : Expr} {x y : PV} {a b : Value} (hx : VRel ρ₀ x a) (hy : VRel ρ₀ y b) (hs : subscripted slice false a b = operate [a, b] (getItem a b)) :
    Sim X A envs own env r ρ₀ VRel (PyProof.Rows.subscriptTail value slice a b) (liftD fun H => (itemV x y H).map fun v => (v, H)) := by
  refine Sim.lift fun F s₀ m H ρ s hp I v H' hv Q E hQ => ?_
  replace hx := hx.mono hp
  replace hy := hy.mono hp
  cases hi : itemV x y H with
  | none => rw [hi] at hv; cases hv
  | some w =>
    rw [hi] at hv; cases hv
    unfold itemV at hi
    split at hi
    · rename_i i k
      obtain ⟨t, rfl⟩ := hy
      split at hi
      · rename_i vs ho
        revert hs
        refine I.isListE hx ho fun a items n _ g hr hz hs => ?_
        cases hj : idxOf? k vs.length with
        | none => rw [hj] at hi; cases hi
        | some j =>
          rw [hj] at hi
          obtain ⟨y, e1, e2⟩ := hr.get (show vs[j]? = some v from hi)
          have hlen := hr.length
          simp only [Array.length_toList] at hlen
          have e1' : items[j]? = some y := by rw [← Array.getElem?_toList]; exact e1
          have hL : s.heap.IsList a items := ⟨_, g, rfl, n, rfl⟩
          obtain ⟨hlt, hk⟩ := idxOf_lt hj
          refine PyProof.Rows.tail_any hL.typeIs slot_list_getitem.lookup ?_ hs
          rcases hk with ⟨h0, rfl, h1⟩ | ⟨h0, h1, rfl⟩
          · exact wpAny_getItem_list hL h0 (by omega) e1' (hQ _ ρ _ (List.prefix_refl _) I e2)
          · exact wpAny_getItem_list_neg hL h0 (by omega) (by omega) (by rw [← hlen]; exact e1') (hQ _ ρ _ (List.prefix_refl _) I e2)
      · rename_i vs ho
        revert hs
        refine I.isTupE hx ho fun a items n _ g hr hz hs => ?_
        cases hj : idxOf? k vs.length with
        | none => rw [hj] at hi; cases hi
        | some j =>
          rw [hj] at hi
          obtain ⟨y, e1, e2⟩ := hr.get (show vs[j]? = some v from hi)
          have hlen := hr.length
          simp only [Array.length_toList] at hlen
          have e1' : items[j]? = some y := by rw [← Array.getElem?_toList]; exact e1
          obtain ⟨hlt, hk⟩ := idxOf_lt hj
          have hT : s.TypeIs (.ref a) "tuple" := ⟨_, g, rfl⟩
          refine PyProof.Rows.tail_any hT PyProof.Rows.slot_tuple_getitem.lookup (P.getItem_tuple g (by omega) (by omega) ?_ e1' (hQ _ ρ _ (List.prefix_refl _) I e2)) hs
          unfold seqIndex?
          rw [← hlen]
          rcases hk with ⟨h0, rfl, h1⟩ | ⟨h0, h1, rfl⟩
          · have e : ¬ k < 0 := by omega
            simp only [e, if_false]
            rw [if_pos (by simp only [Bool.and_eq_true, decide_eq_true_eq]; omega)]
          · simp only [h0, if_true]
            rw [if_pos (by simp only [Bool.and_eq_true, decide_eq_true_eq]; omega)]
      · cases hi
    · cases hi

theorem subscripted_plain (slice : Expr) (h : ∀ l u p, slice ≠ .Slice l u none p) (o i : Value) : subscripted slice false o i = operate [o, i] (getItem o i) := by
  cases slice <;> try rfl
  rename_i l u st p
  cases st with
  | none => exact absurd rfl (h l u p)
  | some e => rfl

theorem sim_subscript {value slice : Expr} {pos : Pos} {dv ds : ED} (h1 : Sim X A envs own env r ρ₀ VRel (eval value env) dv) (h2 : Sim X A envs own env r ρ₀ VRel (eval slice env) ds) (h : ∀ l u p, slice ≠ .Slice l u none p) :
    Sim X A envs own env r ρ₀ VRel (eval (.Subscript value slice pos) env) (itemD dv ds) := by
  refine Sim.conv (t := (do let o ← eval value env; let i ← holding [o] (eval slice env); standAt pos; PyProof.Rows.subscriptTail value slice o i)) ?_ ?_
  · rw [eval_Subscript]; rfl
  · exact h1.bind fun x a ρ₁ hp hx => (h2.mono hp).hold.bind fun y b ρ₂ hp2 hy => (sim_sub (hx.mono hp2) hy (subscripted_plain slice h a b)).stand

theorem partOf_isPart {x : PV} {v : Value} {o : Option Int} {ρ : List Addr} (h : partOf? x = some o) (hv : VRel ρ x v) : IsPart v o := by
  unfold partOf? at h
  split at h
  · cases h; cases hv; exact .none
  · cases h; obtain ⟨t, rfl⟩ := hv; exact .int _ t
  · cases h

theorem wp_slice {value : Expr} {lo up : Option Expr} {p : Pos} {x l u : PV} {a b c : Value} {F : Fz} {s₀ : Shared} {m : M} {H : HP} {ρ : List Addr} {s : Shared} (I : Inv X envs F own env r.res s₀ m H ρ s)
    (hx : VRel ρ x a) (hl : VRel ρ l b) (hu : VRel ρ u c) {v : PV} {H' : HP} (hv : sliceV x l u H = some (v, H')) {Q : Value → Shared → Prop} {E : Value → Shared → Prop}
    (hQ : ∀ b ρ' s', ρ <+: ρ' → Inv X envs F own env r.res s₀ m H' ρ' s' → VRel ρ' v b → Q b s') :
    wpAny (model X.prog X.w) A (newFields "slice" [b, c, .none]) (fun i s' => wpAny (model X.prog X.w) A (PyProof.Rows.subscriptTail value (.Slice lo up none p) a i) Q E s') E s := by
  unfold sliceV at hv
  split at hv
  · rename_i i
    split at hv
    · rename_i vs ho
      split at hv
      · rename_i lo hi e1 e2
        cases hv
        refine I.isListE hx ho fun a items n _ g hr hz => ?_
        have hL : s.heap.IsList a items := ⟨_, g, rfl, n, rfl⟩
        refine wpAny_newObj_type ?_
        refine PyProof.Rows.tail_any (ops := [.ref s.heap.objs.size, .ref a]) (Heap.IsList.typeIs (s := { s with heap := s.heap.push { cls := .type "slice", data := .fields #[b, c, .none] } }) (hL.push _)) slot_list_getitem.lookup ?_ rfl
        refine wpAny_getItem_list_slice (hL.push _) (Heap.IsSliceOf.new ..) (partOf_isPart e1 hl) (partOf_isPart e2 hu) .none (by simp) ?_ (Nat.le_trans hz sizeLine_ge)
        have I1 : Inv X envs F own env r.res s₀ m H ρ { s with heap := s.heap.push { cls := .type "slice", data := .fields #[b, c, .none] } } := I.grow (push_keeps _ _) ⟨rfl, rfl, rfl⟩
        refine hQ _ (ρ ++ [(s.heap.push _).objs.size]) _ ⟨_, rfl⟩ (I1.newList (t := s.toks) ?_ ?_) (I1.newRef _)
        · rw [slicePick_plain]
          have hlen := hr.length
          simp only [Array.length_toList] at hlen
          rw [← hlen]
          simp only
          exact (hr.drop _).take _
        · refine roomy_less (n := vs.length) ?_ ?_
          · have hlen := hr.length
            simp only [Array.length_toList] at hlen
            exact decide_eq_true (by omega)
          · rw [List.length_take, List.length_drop]; omega
      · cases hv
    · cases hv
  · cases hv

theorem sim_opt {e : Option Expr} {d : Option ED} (h : match e, d with | none, none => True | some e, some d => Sim X A envs own env r ρ₀ VRel (eval e env) d | none, some d => d = stuckD | _, _ => False) :
    Sim X A envs own env r ρ₀ VRel (valueOrNone (evalOpt e env)) (optD d) := by
  cases e with
  | none =>
    cases d with
    | none => exact Sim.pure fun _ _ => rfl
    | some d =>
      have h' : d = stuckD := h
      subst h'
      exact Sim.stuck
  | some e =>
    cases d with
    | none => exact h.elim
    | some d => exact h

theorem sim_slice {value : Expr} {lo up : Option Expr} {p pos : Pos} {dv : ED} {dl du : Option ED} (h1 : Sim X A envs own env r ρ₀ VRel (eval value env) dv)
    (h2 : Sim X A envs own env r ρ₀ VRel (valueOrNone (evalOpt lo env)) (optD dl)) (h3 : Sim X A envs own env r ρ₀ VRel (valueOrNone (evalOpt up env)) (optD du)) :
    Sim X A envs own env r ρ₀ VRel (eval (.Subscript value (.Slice lo up none p) pos) env) (sliceD dv dl du) := by
  intro F s₀ m H ρ s hp I res H' hd Q E hQ hE
  rw [eval_Subscript]
  refine wpAny_bind (h1.use hp I hd hE fun x a H₁ ρ₁ s₁ hp1 I1 hx hd1 => wpAny_bind (wpAny_holding ?_))
  show wpAny _ _ (do let l ← valueOrNone (evalOpt lo env); let u ← holding [l] (valueOrNone (evalOpt up env)); let s ← holding [l, u] (pure Value.none); newFields "slice" [l, u, s]) _ _ _
  refine wpAny_bind (h2.use (hp.trans hp1) I1 hd1 (fun c e ee ρ' s' h' => hE c e ee ρ' s' (hp1.trans h')) fun l b H₂ ρ₂ s₂ hp2 I2 hl hd2 => wpAny_bind (wpAny_holding ?_))
  refine h3.use ((hp.trans hp1).trans hp2) I2 hd2 (fun c e ee ρ' s' h' => hE c e ee ρ' s' ((hp1.trans hp2).trans h')) fun u c H₃ ρ₃ s₃ hp3 I3 hu hd3 => ?_
  refine wpAny_bind (wpAny_holding (wpAny_pure ?_))
  unfold liftD at hd3
  cases hs : sliceV x l u H₃ with
  | none => rw [hs] at hd3; cases hd3
  | some w =>
    obtain ⟨v, H₄⟩ := w
    rw [hs] at hd3; cases hd3
    exact wpAny_mono (wp_slice (lo := lo) (up := up) (p := p) I3 (hx.mono (hp2.trans hp3)) (hl.mono hp3) hu hs (fun b ρ' s' h' => hQ _ rfl b ρ' s' (((hp1.trans hp2).trans hp3).trans h'))) (fun i s' h => wpAny_bind (wpAny_standAt h)) fun _ _ h => h
end
end Mine
namespace Mine
open PySem

theorem ints_items {ρ : List Addr} : ∀ {vs : List PV} {ws : List Value} {ns : List Int}, VRels ρ vs ws → intsOf? vs = some ns → ∃ ps : List (Int × Tok), ws = ps.map (fun p => Value.int p.1 p.2) ∧ ps.map (·.1) = ns
  | [], [], ns, _, e => by cases e; exact ⟨[], rfl, rfl⟩
  | .int i :: vs, w :: ws, ns, ⟨⟨t, h1⟩, h2⟩, e => by
    unfold intsOf? at e
    cases hr : intsOf? vs with
    | none => rw [hr] at e; cases e
    | some r =>
      rw [hr] at e; cases e
      obtain ⟨ps, h3, h4⟩ := ints_items h2 hr
      subst h1
      exact ⟨(i, t) :: ps, by rw [h3]; rfl, by simp [h4]⟩
  | .none :: _, _ :: _, _, _, e => by cases e
  | .bool _ :: _, _ :: _, _, _, e => by cases e
  | .str _ :: _, _ :: _, _, _, e => by cases e
  | .ref _ :: _, _ :: _, _, _, e => by cases e
  | [], _ :: _, _, e, _ => e.elim
  | _ :: _, [], _, e, _ => e.elim

theorem minOf_le : ∀ (a : Int) (l : List Int), minOf a l ≤ a ∧ ∀ b ∈ l, minOf a l ≤ b
  | a, [] => ⟨Int.le_refl _, fun b hb => by cases hb⟩
  | a, c :: l => by
    unfold minOf
    have h := minOf_le (if c < a then c else a) l
    split at h <;> rename_i hc
    · rw [if_pos hc]
      exact ⟨by omega, fun b hb => by
        rcases List.mem_cons.mp hb with rfl | hb
        · exact h.1
        · exact h.2 b hb⟩
    · rw [if_neg hc]
      exact ⟨h.1, fun b hb => by
        rcases List.mem_cons.mp hb with rfl | hb
        · omega
        · exact h.2 b hb⟩
theorem minOf_mem : ∀ (a : Int) (l : List Int), minOf a l ∈ a :: l
  | a, [] => by simp [minOf]
  | a, c :: l => by
    unfold minOf
    have h := minOf_mem (if c < a then c else a) l
    split at h <;> rename_i hc
    · rw [if_pos hc]; exact List.mem_cons_of_mem _ h
    · rw [if_neg hc]
      rcases List.mem_cons.mp h with h | h
      · rw [h]; exact List.mem_cons_self
      · exact List.mem_cons_of_mem _ (List.mem_cons_of_mem _ h)

section
variable {X : Stat} {A : Around} {envs : List Env} {own : List Addr} {env : Env} {r : Cx} {ρ₀ : List Addr} {n : Nat}

/-- what a built-in function is called by -/
noncomputable def biName : BI → Value
  | .len => .builtin "len" | .list => .type "list" | .sum => .builtin "sum" | .min => .builtin "min" | .max => .builtin "max" | .int => .type "int"

theorem vrels_one {ρ : List Addr} {x : PV} : ∀ {vs : List Value}, VRels ρ [x] vs → ∃ w, vs = [w] ∧ VRel ρ x w
  | [], h => h.elim
  | [w], h => ⟨w, rfl, h.1⟩
  | _ :: _ :: _, h => h.2.elim
theorem vrels_two {ρ : List Addr} {x y : PV} : ∀ {vs : List Value}, VRels ρ [x, y] vs → ∃ w u, vs = [w, u] ∧ VRel ρ x w ∧ VRel ρ y u
  | [], h => h.elim
  | [_], h => h.2.elim
  | [w, u], h => ⟨w, u, rfl, h.1, h.2.1⟩
  | _ :: _ :: _ :: _, h => h.2.2.elim
section
variable {F : Fz} {s₀ : Shared} {m : M} {H H' : HP} {ρ : List Addr} {s : Shared} {v x : PV} {w : Value} {Q E : Value → Shared → Prop}
theorem bi_len (I : Inv X envs F own env r.res s₀ m H ρ s) (h1 : VRel ρ x w) (hv : lenV H x = some (v, H')) (hQ : ∀ v' ρ' s', ρ <+: ρ' → Inv X envs F own env r.res s₀ m H' ρ' s' → VRel ρ' v v' → Q v' s') : wpAny (model X.prog X.w) A (call (biName .len) [w] []) Q E s := by
  cases x with
  | ref i =>
    unfold lenV at hv
    simp only at hv
    cases ho : H[i]? with
    | none => rw [ho] at hv; cases hv
    | some o =>
      rw [ho] at hv
      cases o <;> cases hv
      · refine I.isListE h1 ho fun l items n _ g hr hz => ?_
        have hlen := hr.length
        simp only [Array.length_toList] at hlen
        refine Calls.call_len_list ⟨_, g, rfl, n, rfl⟩ (by omega) ?_
        rw [← hlen]
        exact hQ _ ρ _ (List.prefix_refl _) (I.tok _) ⟨_, rfl⟩
      · refine I.isTupE h1 ho fun l items n _ g hr hz => ?_
        have hlen := hr.length
        simp only [Array.length_toList] at hlen
        refine P.len_tuple g (by omega) ?_
        rw [← hlen]
        exact hQ _ ρ _ (List.prefix_refl _) (I.tok _) ⟨_, rfl⟩
  | _ => cases hv
theorem bi_list (I : Inv X envs F own env r.res s₀ m H ρ s) (h1 : VRel ρ x w) (hv : listV H x = some (v, H')) (hQ : ∀ v' ρ' s', ρ <+: ρ' → Inv X envs F own env r.res s₀ m H' ρ' s' → VRel ρ' v v' → Q v' s') : wpAny (model X.prog X.w) A (call (biName .list) [w] []) Q E s := by
  unfold listV at hv
  cases hq : listAt H x with
  | none => rw [hq] at hv; cases hv
  | some q =>
    rw [hq] at hv; cases hv
    obtain ⟨rfl, ho⟩ := listAt_inv hq
    refine I.isListE h1 ho fun l items n _ g hr hz => ?_
    have hlen := hr.length
    simp only [Array.length_toList] at hlen
    refine call_list_seq l (.inl rfl) g rfl rfl (fun h' c' hk hD => ?_) (Nat.le_trans hz sizeLine_ge)
    refine hQ _ (ρ ++ [s.heap.objs.size]) _ ⟨_, rfl⟩ (I.new hk ⟨rfl, rfl, rfl⟩ (size_none _) hD ⟨items, c', rfl, hr.mono ⟨_, rfl⟩, decide_eq_true (by omega)⟩) (I.newRef _)
theorem items_eq {ρ : List Addr} {items : Array Value} {ps : List (Int × Tok)} (e1 : items.toList = ps.map fun p => Value.int p.1 p.2) : items = intItems ps.toArray := by
  apply Array.toList_inj.mp
  rw [e1]; simp [intItems]
theorem bi_sum (hh : A.handled = none) (I : Inv X envs F own env r.res s₀ m H ρ s) (h1 : VRel ρ x w) (hv : sumV H x = some (v, H')) (hQ : ∀ v' ρ' s', ρ <+: ρ' → Inv X envs F own env r.res s₀ m H' ρ' s' → VRel ρ' v v' → Q v' s') : wpAny (model X.prog X.w) A (call (biName .sum) [w] []) Q E s := by
  unfold sumV at hv
  cases hq : listAt H x with
  | none => rw [hq] at hv; cases hv
  | some q =>
    rw [hq] at hv
    simp only at hv
    obtain ⟨rfl, ho⟩ := listAt_inv hq
    cases hn : intsOf? q.2 with
    | none => rw [hn] at hv; cases hv
    | some ns =>
      rw [hn] at hv; cases hv
      refine I.isListE h1 ho fun l items n _ g hr hz => ?_
      obtain ⟨ps, e1, e2⟩ := ints_items hr hn
      have hi := items_eq (ρ := ρ) e1
      refine sum_intListG hh (xs := ps.toArray) ⟨_, g, rfl, n, by rw [hi]⟩ fun h' tk t' hk => ?_
      rw [preSum_eq]
      refine hQ _ ρ _ (List.prefix_refl _) (I.grow hk ⟨rfl, rfl, rfl⟩) ⟨t', ?_⟩
      simp only [List.size_toArray]
      rw [e2, List.take_of_length_le (by rw [← e2]; simp)]
theorem num_mem {ps : List (Int × Tok)} {l : List Int} (e2 : ps.map (·.1) = l) {j : Nat} (hj : j < ps.length) : numAt ps.toArray j ∈ l := by
  rw [← e2]
  simp only [numAt, List.getElem?_toArray, List.getElem?_eq_getElem hj]
  exact List.mem_map.mpr ⟨_, List.getElem_mem hj, rfl⟩
theorem num_all {ps : List (Int × Tok)} {l : List Int} (e2 : ps.map (·.1) = l) {y : Int} (hy : y ∈ l) : ∃ j, j < ps.length ∧ numAt ps.toArray j = y := by
  rw [← e2] at hy
  obtain ⟨p, hp, rfl⟩ := List.mem_map.mp hy
  obtain ⟨j, hj, rfl⟩ := List.getElem_of_mem hp
  exact ⟨j, hj, by simp [numAt, List.getElem?_toArray, List.getElem?_eq_getElem hj]⟩
theorem bi_min (hh : A.handled = none) (I : Inv X envs F own env r.res s₀ m H ρ s) (h1 : VRel ρ x w) (hv : minL H x = some (v, H')) (hQ : ∀ v' ρ' s', ρ <+: ρ' → Inv X envs F own env r.res s₀ m H' ρ' s' → VRel ρ' v v' → Q v' s') : wpAny (model X.prog X.w) A (call (biName .min) [w] []) Q E s := by
  unfold minL at hv
  cases hq : listAt H x with
  | none => rw [hq] at hv; cases hv
  | some q =>
    rw [hq] at hv
    simp only at hv
    obtain ⟨rfl, ho⟩ := listAt_inv hq
    cases hn : intsOf? q.2 with
    | none => rw [hn] at hv; cases hv
    | some ns =>
      rw [hn] at hv
      cases ns with
      | nil => cases hv
      | cons x xs' =>
        cases hv
        refine I.isListE h1 ho fun l items n _ g hr hz => ?_
        obtain ⟨ps, e1, e2⟩ := ints_items hr hn
        have hi := items_eq (ρ := ρ) e1
        have hpl : ps.length = xs'.length + 1 := by rw [← List.length_map (·.1), e2]; rfl
        refine min_intList hh (xs := ps.toArray) ⟨_, g, rfl, n, by rw [hi]⟩ (by simp [hpl]) fun v h' tk hb hk => ?_
        obtain ⟨t, rfl⟩ := intItems_at hb
        refine hQ _ ρ _ (List.prefix_refl _) (I.grow hk ⟨rfl, rfl, rfl⟩) ⟨t, congrArg (fun z => Value.int z t) ?_⟩
        obtain ⟨b1, b2⟩ := argBest_lt (numAt ps.toArray) (ps.toArray.size - 1)
        have hsz : ps.toArray.size - 1 < ps.length := by simp [hpl]
        have k1 := num_mem e2 (Nat.lt_of_le_of_lt b1 hsz)
        have k2 : minOf x xs' ≤ numAt ps.toArray (argBest (fun i j => decide (numAt ps.toArray i < numAt ps.toArray j)) (ps.toArray.size - 1)) := by
          rcases List.mem_cons.mp k1 with q | q
          · rw [q]; exact (minOf_le x xs').1
          · exact (minOf_le x xs').2 _ q
        obtain ⟨j, hj, hjm⟩ := num_all e2 (minOf_mem x xs')
        have k3 := b2 j (by simp only [List.size_toArray]; omega)
        rw [hjm] at k3
        omega
end
theorem sim_biV (hh : A.handled = none) {b : BI} {xs : List PV} {vs : List Value} (h : VRels ρ₀ xs vs) : Sim X A envs own env r ρ₀ VRel (call (biName b) vs []) (liftD (biV b xs)) := by
  refine Sim.lift fun F s₀ m H ρ s hp I v H' hv Q E hQ => ?_
  replace h := h.mono hp
  have one : ∀ {k : PV → Option (PV × HP)}, (match one? xs with | some x => k x | none => none) = some (v, H') → (∀ x w, VRel ρ x w → k x = some (v, H') → wpAny (model X.prog X.w) A (call (biName b) [w] []) Q E s) → wpAny (model X.prog X.w) A (call (biName b) vs []) Q E s := fun hk f => by
    cases ho : one? xs with
    | none => rw [ho] at hk; cases hk
    | some x =>
      rw [ho] at hk
      rw [one_inv ho] at h
      obtain ⟨w, rfl, hw⟩ := vrels_one h
      exact f x w hw hk
  have two : ∀ {k : Int → Int → Option (PV × HP)}, (match two? xs with | some p => int2 p.1 p.2 k | none => none) = some (v, H') → (∀ c d t u, k c d = some (v, H') → wpAny (model X.prog X.w) A (call (biName b) [.int c t, .int d u] []) Q E s) → wpAny (model X.prog X.w) A (call (biName b) vs []) Q E s := fun hk f => by
    cases ho : two? xs with
    | none => rw [ho] at hk; cases hk
    | some p =>
      rw [ho] at hk
      rw [two_inv ho] at h
      obtain ⟨w, u, rfl, hw, hu⟩ := vrels_two h
      obtain ⟨c, d, e1, e2, hk⟩ := int2_inv hk
      rw [e1] at hw; rw [e2] at hu
      obtain ⟨t, rfl⟩ := hw
      obtain ⟨u, rfl⟩ := hu
      exact f c d t u hk
  cases b
  · exact one hv fun x w hw hk => bi_len I hw hk hQ
  · exact one hv fun x w hw hk => bi_list I hw hk hQ
  · exact one hv fun x w hw hk => bi_sum hh I hw hk hQ
  · by_cases h1 : ∃ x, one? xs = some x
    · obtain ⟨x, h1⟩ := h1
      unfold biV at hv
      simp only [h1] at hv
      rw [one_inv h1] at h
      obtain ⟨w, rfl, hw⟩ := vrels_one h
      exact bi_min hh I hw hv hQ
    · unfold biV at hv
      cases ho : one? xs with
      | some x => exact absurd ⟨x, ho⟩ h1
      | none =>
        rw [ho] at hv
        refine two hv fun c d t u hk => ?_
        cases hk
        refine min_two_ints hh fun h' tk hk => hQ _ ρ _ (List.prefix_refl _) (I.grow hk ⟨rfl, rfl, rfl⟩) ?_
        split
        · exact ⟨_, rfl⟩
        · exact ⟨_, rfl⟩
  · refine two hv fun c d t u hk => ?_
    cases hk
    refine max_two_ints hh fun h' tk hk => hQ _ ρ _ (List.prefix_refl _) (I.grow hk ⟨rfl, rfl, rfl⟩) ?_
    by_cases hab : c < d
    · rw [if_pos hab, if_pos hab]; exact ⟨_, rfl⟩
    · rw [if_neg hab, if_neg hab]; exact ⟨_, rfl⟩
  · refine one hv fun x w hw hk => ?_
    cases x with
    | bool b =>
      cases hk
      cases hw
      exact call_int_bool (hQ _ ρ _ (List.prefix_refl _) (I.tok _) ⟨_, rfl⟩)
    | _ => cases hk

noncomputable def ARel (ρ : List Addr) (xs : List PV) (a : Args) : Prop := a.kw = [] ∧ VRels ρ xs a.pos

theorem sim_args {f : Value} {ts : List (Bool × Sem Value)} {ds : List ED} (h : SimsB X A envs own env r ρ₀ ts ds) (hne : ts ≠ []) : Sim X A envs own env r ρ₀ ARel (evalArgs f true ts []) (listD ds) := by
  cases h with
  | nil => exact absurd rfl hne
  | star => exact Sim.stuck
  | cons h1 h2 =>
    intro F s₀ m H ρ s hp I res H' hd Q E hQ hE
    exact Calls.evalArgs_plain (sim_spliced (.cons h1 h2) F s₀ m H ρ s hp I res H' hd _ _ (fun a e b ρ' s' h' I' hv => hQ a e _ ρ' s' h' I' ⟨rfl, hv⟩) hE)

end
end Mine
namespace Mine
open PySem

noncomputable def FRel (ρ : List Addr) : Fl → Flow → Prop
  | .next, f => f = .next
  | .ret v, f => ∃ v', f = .ret v' ∧ VRel ρ v v'

/-- a statement does what its denotation says -/
noncomputable def SimS (X : Stat) (A : Around) (envs : List Env) (own : List Addr) (env : Env) (r : Cx) (ρ₀ : List Addr) (t : Sem Flow) (d : SD) : Prop :=
  ∀ F s₀ m H ρ s, ρ₀ <+: ρ → Inv X envs F own env r.res s₀ m H ρ s → ∀ res m' H', d m H = some (res, m', H') → ∀ Q E,
    (∀ f, res = .ok f → ∀ f' ρ' s', ρ <+: ρ' → Inv X envs F own env r.res s₀ m' H' ρ' s' → FRel ρ' f f' → Q f' s') →
    (∀ c, res = .error c → ∀ e ρ' s', ρ <+: ρ' → Inv X envs F own env r.res s₀ m' H' ρ' s' → Exc X F ρ' (flOk env) c e s'.heap → E (.ref e) s') →
    wpAny (model X.prog X.w) A t Q E s

section
variable {X : Stat} {A : Around} {envs : List Env} {own : List Addr} {env : Env} {r : Cx} {ρ₀ : List Addr} {n : Nat}

theorem SimS.stuck {t : Sem Flow} : SimS X A envs own env r ρ₀ t stuckS := by
  intro F s₀ m H ρ s _ _ res m' H' h; cases h
theorem SimS.mono {t : Sem Flow} {d : SD} (h : SimS X A envs own env r ρ₀ t d) {ρ₁ : List Addr} (hp : ρ₀ <+: ρ₁) : SimS X A envs own env r ρ₁ t d :=
  fun F s₀ m H ρ s hp' => h F s₀ m H ρ s (hp.trans hp')
theorem SimS.stand {t : Sem Flow} {d : SD} {pos : Pos} (h : SimS X A envs own env r ρ₀ t d) : SimS X A envs own env r ρ₀ (do standAt pos; t) d :=
  fun F s₀ m H ρ s hp I res m' H' hd Q E hQ hE => wpAny_bind (wpAny_standAt (h F s₀ m H ρ s hp I res m' H' hd Q E hQ hE))
theorem SimS.next : SimS X A envs own env r ρ₀ (pure .next) nextS := by
  intro F s₀ m H ρ s hp I res m' H' hd Q E hQ _
  cases hd
  exact wpAny_pure (hQ _ rfl _ ρ s (List.prefix_refl _) I rfl)
/-- an expression is run, then a statement -/
theorem SimS.run {α β : Type} {V : List Addr → α → β → Prop} {t : Sem β} {d : RD α} {k : β → Sem Flow} {kd : α → SD} (h : Sim X A envs own env r ρ₀ V t d)
    (hk : ∀ a b ρ₁, ρ₀ <+: ρ₁ → V ρ₁ a b → SimS X A envs own env r ρ₁ (k b) (kd a)) : SimS X A envs own env r ρ₀ (t >>= k) (runS d kd) := by
  intro F s₀ m H ρ s hp I res m' H' hd Q E hQ hE
  unfold runS at hd
  cases hdm : d m H with
  | none => rw [hdm] at hd; cases hd
  | some x =>
    obtain ⟨rs, H₁⟩ := x
    rw [hdm] at hd
    cases rs with
    | error c =>
      cases hd
      exact wpAny_bind (h F s₀ m H ρ s hp I _ _ hdm _ _ (fun a e => nomatch e) fun c' e => hE c' (by cases e; rfl))
    | ok a =>
      refine wpAny_bind (h F s₀ m H ρ s hp I _ _ hdm _ _ (fun a' e b ρ' s' hp' I' hV => ?_) fun c' e => nomatch e)
      cases e
      exact hk a b ρ' (hp.trans hp') hV F s₀ m H₁ ρ' s' (List.prefix_refl _) I' res m' H' hd Q E
        (fun a'' e'' b'' ρ'' s'' hp'' => hQ a'' e'' b'' ρ'' s'' (hp'.trans hp''))
        (fun c e'' ee ρ'' s'' hp'' => hE c e'' ee ρ'' s'' (hp'.trans hp''))
theorem Sim.useS {α β : Type} {V : List Addr → α → β → Prop} {t : Sem β} {d : RD α} {kd : α → SD} (h : Sim X A envs own env r ρ₀ V t d) {F : Fz} {s₀ : Shared} {m m' : M} {H : HP} {ρ : List Addr} {s : Shared} {res : Except Str Fl} {H' : HP} {Q : β → Shared → Prop} {E : Value → Shared → Prop} (hp : ρ₀ <+: ρ) (I : Inv X envs F own env r.res s₀ m H ρ s) (hd : runS d kd m H = some (res, m', H'))
    (hE : ∀ c, res = .error c → ∀ e ρ' s', ρ <+: ρ' → Inv X envs F own env r.res s₀ m' H' ρ' s' → Exc X F ρ' (flOk env) c e s'.heap → E (.ref e) s')
    (hQ : ∀ a b H₁ ρ₁ s₁, ρ <+: ρ₁ → Inv X envs F own env r.res s₀ m H₁ ρ₁ s₁ → V ρ₁ a b → kd a m H₁ = some (res, m', H') → Q b s₁) : wpAny (model X.prog X.w) A t Q E s := by
  unfold runS at hd
  cases hdm : d m H with
  | none => rw [hdm] at hd; cases hd
  | some x =>
    obtain ⟨rs, H₁⟩ := x
    rw [hdm] at hd
    cases rs with
    | error c =>
      cases hd
      exact h F s₀ m H ρ s hp I _ _ hdm _ _ (fun a e => nomatch e) fun c' e => hE c' (by cases e; rfl)
    | ok a =>
      refine h F s₀ m H ρ s hp I _ _ hdm _ _ (fun a' e b ρ' s' hp' I' hV => ?_) fun c' e => nomatch e
      cases e
      exact hQ a b H₁ ρ' s' hp' I' hV hd
theorem simS_nil : SimS X A envs own env r ρ₀ (execs [] env) nextS := SimS.next
theorem simS_cons {st : Stmt} {rest : List Stmt} {a b : SD} (h1 : SimS X A envs own env r ρ₀ (exec st env) a) (h2 : SimS X A envs own env r ρ₀ (execs rest env) b) : SimS X A envs own env r ρ₀ (execs (st :: rest) env) (seqS a b) := by
  intro F s₀ m H ρ s hp I res m' H' hd Q E hQ hE
  unfold seqS at hd
  cases hdm : a m H with
  | none => rw [hdm] at hd; cases hd
  | some x =>
    obtain ⟨rs, m₁, H₁⟩ := x
    rw [hdm] at hd
    refine wpAny_execs_cons (h1 F s₀ m H ρ s hp I _ _ _ hdm _ _ (fun f e f' ρ' s' hp' I' hf => ?_) fun c e => ?_)
    · subst e
      cases f with
      | next =>
        cases hf
        exact h2 F s₀ m₁ H₁ ρ' s' (hp.trans hp') I' res m' H' hd Q E (fun a'' e'' b'' ρ'' s'' hp'' => hQ a'' e'' b'' ρ'' s'' (hp'.trans hp'')) (fun c e'' ee ρ'' s'' hp'' => hE c e'' ee ρ'' s'' (hp'.trans hp''))
      | ret v =>
        cases hd
        obtain ⟨v', rfl, hv⟩ := hf
        exact hQ _ rfl _ ρ' s' hp' I' ⟨v', rfl, hv⟩
    · subst e
      cases hd
      exact hE c rfl
theorem simS_if {test : Expr} {body orelse : List Stmt} {pos : Pos} {t : TD} {a b : SD} (h : Sim X A envs own env r ρ₀ TRel (isTrue test env (eval test env)) t)
    (h1 : SimS X A envs own env r ρ₀ (execs body env) a) (h2 : SimS X A envs own env r ρ₀ (execs orelse env) b) : SimS X A envs own env r ρ₀ (exec (.If test body orelse pos) env) (ifS t a b) := by
  refine SimS.stand (SimS.run h fun x y ρ₁ hp hx => ?_)
  cases hx
  cases x
  · exact h2.mono hp
  · exact h1.mono hp
theorem simS_ret {e : Expr} {pos : Pos} {d : ED} (h : Sim X A envs own env r ρ₀ VRel (eval e env) d) : SimS X A envs own env r ρ₀ (exec (.Return (some e) pos) env) (retS d) := by
  refine SimS.stand (SimS.run h fun x v ρ₁ hp hx => ?_)
  intro F s₀ m H ρ s hp I res m' H' hd Q E hQ _
  cases hd
  exact wpAny_pure (hQ _ rfl _ ρ s (List.prefix_refl _) I ⟨v, rfl, hx.mono hp⟩)

theorem simS_drop {e : Expr} {pos : Pos} {d : ED} (C : Cok X A envs own env r n) (h : Sim X A envs own env r ρ₀ VRel (eval e env) d) (hs : swapsWith e none pos.line env = pure false) : SimS X A envs own env r ρ₀ (exec (.Expr e pos) env) (dropS d) := by
  have hi : interactive env = false := by unfold interactive; rw [C.kind]; rfl
  rw [exec_Expr env e pos hi hs]
  refine SimS.stand (SimS.run h fun x v ρ₁ hp hx => ?_)
  intro F s₀ m H ρ s hp I res m' H' hd Q E hQ _
  cases hd
  exact wpAny_dropValue (hQ _ rfl _ ρ s (List.prefix_refl _) I rfl)

theorem simS_set {e : Expr} {x : Str} {i : Nat} {b : Bool} {pos pos' : Pos} {d : ED} (C : Cok X A envs own env r n) (hown : ∀ p ∈ env.cells, p.2 ∈ own) (hx : r.res x = some (.slot i b)) (h : Sim X A envs own env r ρ₀ VRel (eval e env) d)
    (hs : swapsWith e (some (.Name x pos')) pos.line env = pure false) : SimS X A envs own env r ρ₀ (exec (.Assign [.Name x pos'] e pos) env) (setS i d) := by
  rw [exec_Assign_Name env x pos' e pos hs]
  refine SimS.stand (SimS.run h fun y v ρ₁ hp hy => ?_)
  intro F s₀ m H ρ s hp I res m' H' hd Q E hQ _
  cases hd
  refine wpAny_bind (wpAny_standAt (wpAny_bind (wpAny_bindName (store_var C I hx (hy.mono hp) (fun _ c hc => hown _ (mem_of_lookup hc)) fun s' I' => wpAny_pure (hQ _ rfl _ ρ s' (List.prefix_refl _) I' rfl)))))

/-- an item of a list is put: the very object behind it -/
theorem setItem_exact {prog : Program} {w : World} {E : Value → Shared → Prop} {s : Shared} {l : Addr} {items : Array Value} {ne : Nat} {k : Int} {t : Tok} {v : Value} {Q : Unit → Shared → Prop}
    (ho : s.heap.get? l = some ⟨.type "list", none, .seq items ne, #[]⟩) (h0 : 0 ≤ k) (hk : k < items.size) (hfit : k < 2 ^ 63)
    (hQ : Q () { s with heap := s.heap.update l (Obj.mapSeq (·.setIfInBounds k.toNat v)) }) : wpAny (model prog w) A (setItem (.ref l) (.int k t) v) Q E s := by
  have hT : s.TypeIs (.ref l) "list" := ⟨_, ho, rfl⟩
  unfold setItem
  try with_reducible refine wpAny_holding ?_
  first | refine wpAny_bind (wpAny_pure ?_) | skip
  refine wpAny_bind (wpAny_sequenceKey hT (by decide) ?_)
  refine wpAny_bind (wpAny_callSpecial?_slot (name := Str.ofString "__setitem__") hT slot_list_setitem (wpAny_call_entry slot_list_setitem hT entry_list_setitem ?_ (args_list_setitem _ _ _)))
  show wpAny _ _ (Builtin.List.listSubscript? (.int k t) >>= _) _ _ s
  refine wpAny_bind (wpAny_listSubscript_int (fitsIndex_of h0 hfit) ?_)
  clear hfit
  obtain ⟨j, rfl⟩ := Int.eq_ofNat_of_zero_le h0
  have hj : j < items.size := by omega
  show wpAny _ _ ((seqItemAt l j >>= fun r => pure (r.map (j, ·))) >>= _) _ _ s
  refine wpAny_bind (wpAny_bind (wpAny_seqItemAt ho rfl (wpAny_pure ?_)))
  rw [Array.getElem?_eq_getElem hj]
  show wpAny _ _ (setSeqItemAt l j v >>= _) _ _ s
  refine wpAny_bind (wpAny_setSeqItemAt ho rfl ?_)
  first
    | exact wpAny_bind (wpAny_pure (wpAny_pure ⟨.none, rfl, wpAny_pure hQ⟩))
    | exact wpAny_pure ⟨.none, rfl, wpAny_pure hQ⟩

theorem wp_setItem {x y v : PV} {a b c : Value} {F : Fz} {s₀ : Shared} {m : M} {H H' : HP} {ρ : List Addr} {s : Shared} (I : Inv X envs F own env r.res s₀ m H ρ s) (hx : VRel ρ x a) (hy : VRel ρ y b) (hv : VRel ρ v c) (h : setItemV x y v H = some H')
    {Q : Unit → Shared → Prop} {E : Value → Shared → Prop} (hQ : ∀ s', Inv X envs F own env r.res s₀ m H' ρ s' → Q () s') : wpAny (model X.prog X.w) A (setItem a b c) Q E s := by
  unfold setItemV at h
  split at h
  · rename_i i k
    obtain ⟨t, rfl⟩ := hy
    split at h
    · rename_i vs ho
      split at h
      · rename_i h0
        cases h
        refine I.isListE hx ho fun a items n hi g hr hz => ?_
        obtain ⟨hi0, hk0, hk1⟩ := h0
        have hlen := hr.length
        simp only [Array.length_toList] at hlen
        refine setItem_exact g hk0 (by omega) (by omega) (hQ _ (I.put hi hi0 (fun b hb => Heap.get?_update_other _ _ (Ne.symm hb)) ⟨rfl, rfl, rfl⟩ (Heap.get?_update_self _ g rfl) ?_))
        refine ⟨_, _, rfl, ?_, ?_⟩
        · rw [Array.toList_setIfInBounds]
          exact hr.set _ hv
        · rw [List.length_set]; exact decide_eq_true (by omega)
      · cases h
    · cases h
  · cases h

theorem simS_setItem {o i e : Expr} {pos pos' : Pos} {dv dO di : ED} (h1 : Sim X A envs own env r ρ₀ VRel (eval e env) dv) (h2 : Sim X A envs own env r ρ₀ VRel (eval o env) dO) (h3 : Sim X A envs own env r ρ₀ VRel (eval i env) di)
    (hs : swapsWith e (some (.Subscript o i pos')) pos.line env = pure false) : SimS X A envs own env r ρ₀ (exec (.Assign [.Subscript o i pos'] e pos) env) (setItemS dO di dv) := by
  intro F s₀ m H ρ s hp I res m' H' hd Q E hQ hE
  refine wpAny_Assign_Subscript (h1.useS hp I hd hE fun v c H₁ ρ₁ s₁ hp1 I1 hv hd1 => ?_) hs
  refine h2.useS (hp.trans hp1) I1 hd1 (fun c e ee ρ' s' h' => hE c e ee ρ' s' (hp1.trans h')) fun x a H₂ ρ₂ s₂ hp2 I2 hx hd2 => ?_
  refine h3.useS ((hp.trans hp1).trans hp2) I2 hd2 (fun c e ee ρ' s' h' => hE c e ee ρ' s' ((hp1.trans hp2).trans h')) fun y b H₃ ρ₃ s₃ hp3 I3 hy hd3 => ?_
  replace hd3 : (setItemV x y v H₃).map (fun H' => (Except.ok Fl.next, m, H')) = some (res, m', H') := hd3
  cases hset : setItemV x y v H₃ with
  | none => rw [hset] at hd3; cases hd3
  | some H₄ =>
    rw [hset] at hd3; cases hd3
    exact wp_setItem I3 (hx.mono hp3) hy (hv.mono (hp2.trans hp3)) hset fun s' I' => hQ _ rfl _ ρ₃ s' ((hp1.trans hp2).trans hp3) I' rfl
end
end Mine
namespace Mine
open PySem

section
variable {X : Stat} {A : Around} {envs : List Env} {F : Fz} {own : List Addr} {env : Env} {r : Str → Option VR} {s₀ : Shared} {m : M} {H : HP} {ρ : List Addr} {s : Shared}

/-- nothing is changed but records outside of all that is known, and the slots of frames -/
theorem Inv.exc {s' : Shared} {ex : List Addr} (I : Inv X envs F own env r s₀ m H ρ s) (hs : Same s s')
    (k : ∀ b o, s.heap.get? b = some o → b ∉ ex → s'.heap.get? b = some o ∨ (b ∈ frs envs ∧ ∃ sl, s'.heap.get? b = some { o with slots := sl }))
    (hex : ∀ a ∈ ex, (s.heap.get? a = none ∨ ∃ o vs, s.heap.get? a = some o ∧ o.data = .fields vs) ∧ X.base.get? a = none ∧ F a = none ∧ a ∉ ρ) : Inv X envs F own env r s₀ m H ρ s' := by
  have nf : ∀ a o, s.heap.get? a = some o → (∀ vs, o.data ≠ .fields vs) → a ∉ ex := fun a o ho hf ha => by
    rcases (hex a ha).1 with q | ⟨o', vs, q, hd⟩
    · rw [ho] at q; cases q
    · rw [ho] at q; cases q; exact hf vs hd
  have kd : ∀ a o, s.heap.get? a = some o → (∀ vs, o.data ≠ .fields vs) → ∃ o', s'.heap.get? a = some o' ∧ o'.data = o.data := fun a o ho hf => by
    rcases k a o ho (nf a o ho hf) with q | ⟨_, sl, q⟩
    · exact ⟨o, q, rfl⟩
    · exact ⟨_, q, rfl⟩
  have notFr : ∀ b o, s.heap.get? b = some o → b ∉ frs envs → b ∉ ex → s'.heap.get? b = some o := fun b o ho hb hx => by
    rcases k b o ho hx with q | ⟨q, _⟩
    · exact q
    · exact absurd q hb
  refine ⟨fun b o e => ?_, fun b o e => ?_, ?_, I.ownNone, I.ownNew, ?_, I.locOwn, fun a ha => ?_, fun p hp' => ?_, fun x i b e v hv => ?_, I.len, fun i o e => ?_, I.nodup, I.apart, I.same.trans hs, I.ne⟩
  · have hx : b ∉ ex := fun q => by rw [(hex b q).2.2.1] at e; cases e
    rcases I.keep b o e with q | ⟨hb, sl, q⟩
    · exact k b o q hx
    · rcases k b _ q hx with q' | ⟨_, sl', q'⟩
      · exact .inr ⟨hb, sl, q'⟩
      · exact .inr ⟨hb, sl', q'⟩
  · have hx : b ∉ ex := fun q => by rw [(hex b q).2.1] at e; cases e
    exact notFr b o (I.base b o e) (fun q => by rw [(I.frames.mem q).1] at e; cases e) hx
  · have key : ∀ l : List Env, s.heap.FunFrames X.base l → s'.heap.FunFrames X.base l := by
      intro l
      induction l with
      | nil => intro _; trivial
      | cons e rest ih =>
        intro ⟨h1, ⟨L, o, h2, h3, h4, h5⟩, h6⟩
        obtain ⟨o', ho', hd'⟩ := kd L o h4 h5
        exact ⟨h1, ⟨L, o', h2, h3, ho', fun vs => hd' ▸ h5 vs⟩, ih h6⟩
    exact key envs I.frames
  · obtain ⟨mr, o, es, ep, ho, hd, rr⟩ := I.loc
    obtain ⟨o', ho', hd'⟩ := kd _ _ ho (fun vs q => by rw [hd] at q; cases q)
    exact ⟨mr, o', es, ep, ho', hd'.trans hd, rr⟩
  · obtain ⟨o, ho, hf⟩ := I.ownIn a ha
    obtain ⟨o', ho', hd'⟩ := kd a o ho hf
    exact ⟨o', ho', fun vs => hd' ▸ hf vs⟩
  · obtain ⟨v, o, ho, hd⟩ := I.cells p hp'
    obtain ⟨o', ho', hd'⟩ := kd _ _ ho (fun vs q => by rw [hd] at q; cases q)
    exact ⟨v, o', ho', hd'.trans hd⟩
  · obtain ⟨v', h1, h2⟩ := I.vars x i b e v hv
    refine ⟨v', ?_, h2⟩
    cases b with
    | false =>
      obtain ⟨mr, ⟨o, es, ep, ho, hd, rr⟩, hx⟩ := h1
      obtain ⟨o', ho', hd'⟩ := kd _ _ ho (fun vs q => by rw [hd] at q; cases q)
      exact ⟨mr, ⟨o', es, ep, ho', hd'.trans hd, rr⟩, hx⟩
    | true =>
      obtain ⟨c, hc, o, ho, hd⟩ := h1
      obtain ⟨o', ho', hd'⟩ := kd _ _ ho (fun vs q => by rw [hd] at q; cases q)
      exact ⟨c, hc, o', ho', hd'.trans hd⟩
  · obtain ⟨a, ob, h1, h2, h3⟩ := I.objs i o e
    refine ⟨a, ob, h1, notFr a ob h2 (I.apart i a h1).2.1 (fun q => (hex a q).2.2.2 (List.mem_of_getElem? h1)), h3⟩

theorem frameOf_head {M : Model} {E : Value → Shared → Prop} {base : Heap} {e₀ : Env} {outer : List Env} {L : Addr} {Q : Value → Shared → Prop} (hfr : A.frames = some (e₀ :: outer)) (hl : s.heap.FunFrames base (e₀ :: outer))
    (hf : env.frame = some L) (hf₀ : e₀.frame = some L) (h : ∀ h', Heap.SlotsOnly ((e₀ :: outer).filterMap (·.frame)) s.heap h' → Q (.ref L) { s with heap := h' }) : wpAny M A (frameOf env) Q E s := by
  unfold frameOf
  refine wpAny_bind (wpAny_frameEnvs hfr ?_)
  have hdw : ((e₀ :: outer).dropWhile fun x => x.frame != env.frame) = e₀ :: outer := by simp [List.dropWhile, hf, hf₀]
  rw [hdw]
  unfold frameObject
  refine wpAny_bind (wpAny_bind (wpAny_readyFrames_fun hl fun h₁ hs₁ => wpAny_pure ?_))
  rw [hf₀]
  exact wpAny_pure (h h₁ hs₁)

/-- a new entry of the traceback, laid on -/
theorem dict_mapFields (f : Array Value → Array Value) (o : Obj) : (Obj.mapFields f o).dict = o.dict := by
  unfold Obj.mapFields
  split <;> rfl

theorem wp_entry {E : Value → Shared → Prop} {e₀ : Env} {outer : List Env} {L e : Addr} {oe : Obj} {vs : Array Value} {head : Value} {had : Bool} {Q : Unit → Shared → Prop}
    (hfr : A.frames = some (e₀ :: outer)) (hl : s.heap.FunFrames X.base (e₀ :: outer)) (hf : env.frame = some L) (hf₀ : e₀.frame = some L)
    (he : s.heap.get? e = some oe) (hd : oe.data = .fields vs) (hsz : 1 < vs.size)
    (h : ∀ s' T oe' oT ts, Same s s' → (∀ b o, s.heap.get? b = some o → b ≠ e → s'.heap.get? b = some o ∨ (b ∈ frs (e₀ :: outer) ∧ ∃ sl, s'.heap.get? b = some { o with slots := sl })) →
      s.heap.get? T = none → s'.heap.get? e = some oe' → (oe'.cls = oe.cls ∧ oe'.dict = oe.dict) → oe'.data = .fields (vs.setIfInBounds 1 (.ref T)) → s'.heap.get? T = some oT → oT.data = .fields ts → ts[3]? = some (rawInt L) → Q () s') :
    wpAny (model X.prog X.w) A (do let a ← frameOf env; let pl ← entryPlaceOf L had; let b ← EntryCells.newEntry head a .none (rawInt L) .none pl; setField (.ref e) 1 b) Q E s := by
  have hene : e ∉ (e₀ :: outer).filterMap (·.frame) := fun hm => by
    obtain ⟨_, o, ho, hnf⟩ := hl.mem hm
    rw [he] at ho; injection ho with ho; subst ho; exact hnf vs hd
  refine wpAny_bind (frameOf_head hfr hl hf hf₀ fun h₁ hs₁ => ?_)
  refine wpAny_bind (wpAny_entryPlaceOf fun pl hpl => ?_)
  unfold EntryCells.newEntry newFields
  refine wpAny_bind (wpAny_newObj_type ?_ (hpl.sizeOk5 _ _ _ _ _))
  have he₁ : h₁.get? e = some oe := (hs₁.2.1 e hene).trans he
  have he₂ := Heap.get?_push_of_some (h := h₁) { cls := .type "traceback", dict := none, data := .fields ([head, .ref L, .none, rawInt L, .none] ++ (if pl.isEmpty then List.replicate 6 Value.none else pl)).toArray } he₁
  refine wpAny_setField he₂ hd hsz ?_
  have hTe : h₁.objs.size ≠ e := Nat.ne_of_gt (Heap.lt_size he₁)
  have hd₃ := Obj.data_mapFields hd (·.setIfInBounds 1 (Value.ref h₁.objs.size))
  have he₃ := Heap.get?_update_self (Obj.mapFields (·.setIfInBounds 1 (Value.ref h₁.objs.size))) he₂ (Obj.isFreed_of_fields hd₃)
  have hT₃ := (Heap.get?_update_other (h₁.push { cls := .type "traceback", dict := none, data := .fields ([head, .ref L, .none, rawInt L, .none] ++ (if pl.isEmpty then List.replicate 6 Value.none else pl)).toArray })
    (Obj.mapFields (·.setIfInBounds 1 (Value.ref h₁.objs.size))) (Ne.symm hTe)).trans (Heap.get?_push_size h₁ rfl)
  have hsz1 : h₁.objs.size = s.heap.objs.size := hs₁.1
  refine h _ h₁.objs.size _ _ _ ⟨rfl, rfl, rfl⟩ (fun b o hb hbe => ?_) ?_ he₃ ⟨Obj.cls_mapFields _ _, dict_mapFields _ _⟩ hd₃ hT₃ rfl ?_
  · have other : ∀ o', h₁.get? b = some o' → ((h₁.push { cls := .type "traceback", dict := none, data := .fields ([head, .ref L, .none, rawInt L, .none] ++ (if pl.isEmpty then List.replicate 6 Value.none else pl)).toArray }).update e (Obj.mapFields (·.setIfInBounds 1 (Value.ref h₁.objs.size)))).get? b = some o' := fun o' ho' => by
      rw [Heap.get?_update_other _ _ (Ne.symm hbe)]
      exact Heap.get?_push_of_some _ ho'
    by_cases hm : b ∈ (e₀ :: outer).filterMap (·.frame)
    · obtain ⟨sl, hsl⟩ := hs₁.2.2 b o hb
      exact .inr ⟨hm, sl, other _ hsl⟩
    · exact .inl (other _ ((hs₁.2.1 b hm).trans hb))
  · rw [hsz1]; exact size_none _
  · simp

noncomputable def flAt (env : Env) (x : Value) : Prop := ∃ L, env.frame = some L ∧ x = rawInt L

theorem Inv.unborn (I : Inv X envs F own env r s₀ m H ρ s) {T : Addr} (h : s.heap.get? T = none) : F T = none ∧ X.base.get? T = none ∧ T ∉ ρ := by
  refine ⟨?_, ?_, fun q => ?_⟩
  · cases hq : F T with
    | none => rfl
    | some o => rcases I.keep _ o hq with q | ⟨_, sl, q⟩ <;> (rw [h] at q; cases q)
  · cases hq : X.base.get? T with
    | none => rfl
    | some o => have q := I.base _ o hq; rw [h] at q; cases q
  · obtain ⟨i, hi⟩ := List.getElem?_of_mem q
    have hl := (List.getElem?_eq_some_iff.mp hi).1
    rw [I.len] at hl
    obtain ⟨a', ob', q1, q2, _⟩ := I.objs i _ (List.getElem?_eq_getElem hl)
    rw [hi] at q1; cases q1
    rw [h] at q2; cases q2
theorem note_done {c : Str} {e L T Cl : Addr} {oe oe' oT : Obj} {vs ts : Array Value} {s' : Shared} (I : Inv X envs F own env r s₀ m H ρ s) (hf : env.frame = some L) (hC : X.cls c = some Cl) (he : s.heap.get? e = some oe) (hcls : oe.cls = .ref Cl) (hd : oe.data = .fields vs) (h1 : 1 < vs.size) (hnew : X.base.get? e = none) (hfz : F e = none) (hρ : e ∉ ρ) (hdt : oe.dict = none)
    (hs : Same s s') (k : ∀ b o, s.heap.get? b = some o → b ≠ e → s'.heap.get? b = some o ∨ (b ∈ frs envs ∧ ∃ sl, s'.heap.get? b = some { o with slots := sl })) (hTn : s.heap.get? T = none) (he' : s'.heap.get? e = some oe') (hc' : oe'.cls = oe.cls ∧ oe'.dict = oe.dict) (hd' : oe'.data = .fields (vs.setIfInBounds 1 (.ref T))) (hT' : s'.heap.get? T = some oT) (hdT' : oT.data = .fields ts) (h3' : ts[3]? = some (rawInt L)) :
    Inv X envs F own env r s₀ m H ρ s' ∧ Exc X F ρ (flAt env) c e s'.heap := by
  obtain ⟨hTF, hTb, hTρ⟩ := I.unborn hTn
  refine ⟨I.exc (ex := [e]) hs (fun b o hb hbx => k b o hb (fun q => hbx (by rw [q]; exact List.mem_singleton_self _))) (fun a ha => ?_), ⟨⟨Cl, oe', _, hC, he', hc'.1.trans hcls, hd', .inr ⟨T, oT, ts, rawInt L, ?_, fun q => ?_, hTb, hTF, hTρ, hT', hdT', h3', ⟨L, hf, rfl⟩⟩⟩, hnew, hfz, hρ, fun o q => ?_⟩⟩
  · rw [List.mem_singleton] at ha; subst ha
    exact ⟨.inr ⟨oe, vs, he, hd⟩, hnew, hfz, hρ⟩
  · simp [h1]
  · rw [q, he] at hTn; cases hTn
  · rw [he'] at q; cases q; exact hc'.2.trans hdt
theorem wp_note {n : Nat} {E : Value → Shared → Prop} {rc : Cx} {c : Str} {e : Addr} {Q : Unit → Shared → Prop} (C : Cok X A envs own env rc n) (I : Inv X envs F own env r s₀ m H ρ s) (x : Exc X F ρ (flOk env) c e s.heap)
    (h : ∀ s', Inv X envs F own env r s₀ m H ρ s' → Exc X F ρ (flAt env) c e s'.heap → Q () s') : wpAny (model X.prog X.w) A (noteFrame (.ref e) env) Q E s := by
  obtain ⟨L, e₀, rest, hf, rfl, hf₀⟩ := C.frame
  have x' := x
  obtain ⟨⟨Cl, oe, vs, hC, he, hcls, hd, hcase⟩, hnew, hfz, hρ, hdt⟩ := x'
  unfold noteFrame
  simp only [hf]
  rcases hcase with ⟨h1, _⟩ | ⟨T, oT, ts, y, h1, hTe, hTb, hTF, hTρ, hT, hdT, h3, hfl⟩
  · refine wpAny_bind (wpAny_field he hd h1 ?_)
    rw [if_neg (by decide)]
    have hsz := (Array.getElem?_eq_some_iff.mp h1).1
    refine wp_entry (X := X) C.frames I.frames hf hf₀ he hd hsz fun s' T' oe' oT' ts' hs k hTn he' hc' hd' hT' hdT' h3' => ?_
    obtain ⟨I', x'⟩ := note_done I hf hC he hcls hd hsz hnew hfz hρ (hdt _ he) hs k hTn he' hc' hd' hT' hdT' h3'
    exact h s' I' x'
  · refine wpAny_bind (wpAny_field he hd h1 ?_)
    rw [if_pos (show (Value.ref T != Value.none) = true from by simp)]
    refine wpAny_bind (wpAny_field hT hdT h3 ?_)
    rcases hfl with hy | ⟨L', hf', rfl⟩
    · rw [if_neg (show ¬ ((y == rawInt L) = true) from by rcases hy with rfl | rfl <;> simp [rawInt])]
      refine wpAny_bind (wpAny_setField hT hdT (Array.getElem?_eq_some_iff.mp h3).1 ?_)
      have other : ∀ b, b ≠ T → (s.heap.update T (Obj.mapFields (·.setIfInBounds 3 Value.none))).get? b = s.heap.get? b := fun b hb => Heap.get?_update_other _ _ (Ne.symm hb)
      have I1 : Inv X (e₀ :: rest) F own env r s₀ m H ρ { s with heap := s.heap.update T (Obj.mapFields (·.setIfInBounds 3 Value.none)) } :=
        I.exc (ex := [T]) ⟨rfl, rfl, rfl⟩ (fun b o hb hbx => .inl ((other b (fun q => hbx (by rw [q]; exact List.mem_singleton_self _))).trans hb)) (fun a ha => by
          rw [List.mem_singleton] at ha; subst ha
          exact ⟨.inr ⟨oT, ts, hT, hdT⟩, hTb, hTF, hTρ⟩)
      have he1 := (other e (Ne.symm hTe)).trans he
      clear other
      generalize s.heap.update T (Obj.mapFields (·.setIfInBounds 3 Value.none)) = hp at I1 he1 ⊢
      have hsz := (Array.getElem?_eq_some_iff.mp h1).1
      refine wp_entry (X := X) (s := { s with heap := hp }) C.frames I1.frames hf hf₀ he1 hd hsz fun s' T' oe' oT' ts' hs k hTn he' hc' hd' hT' hdT' h3' => ?_
      obtain ⟨I', x'⟩ := note_done I1 hf hC he1 hcls hd hsz hnew hfz hρ (hdt _ he) hs k hTn he' hc' hd' hT' hdT' h3'
      exact h s' I' x'
    · have : L' = L := by rw [hf] at hf'; cases hf'; rfl
      subst this
      rw [if_pos (by simp)]
      exact wpAny_pure (h s I ⟨⟨Cl, oe, vs, hC, he, hcls, hd, .inr ⟨T, oT, ts, rawInt L', h1, hTe, hTb, hTF, hTρ, hT, hdT, h3, ⟨L', hf, rfl⟩⟩⟩, hnew, hfz, hρ, hdt⟩)

theorem wp_flight {E : Value → Shared → Prop} {c : Str} {e : Addr} {fr : Option Addr} {Q : Unit → Shared → Prop} (I : Inv X envs F own env r s₀ m H ρ s) (x : Exc X F ρ (fun v => flAt env v ∨ v = .none) c e s.heap)
    (h : ∀ s', Inv X envs F own env r s₀ m H ρ s' → Exc X F ρ (fun v => v = fr.elim .none fun f => rawInt f) c e s'.heap → Q () s') : wpAny (model X.prog X.w) A (setFlight (.ref e) fr) Q E s := by
  obtain ⟨⟨Cl, oe, vs, hC, he, hcls, hd, hcase⟩, hnew, hfz, hρ, hdt⟩ := x
  unfold setFlight
  rcases hcase with ⟨h1, hfl⟩ | ⟨T, oT, ts, y, h1, hTe, hTb, hTF, hTρ, hT, hdT, h3, hfl⟩
  · rcases hfl with ⟨L, _, q⟩ | q
    · cases q
    · cases q
  · refine wpAny_bind (wpAny_field he hd h1 ?_)
    rw [if_pos (show (Value.ref T != Value.none) = true from by simp)]
    refine wpAny_setField hT hdT (Array.getElem?_eq_some_iff.mp h3).1 (h _ ?_ ?_)
    · refine I.exc (ex := [T]) ⟨rfl, rfl, rfl⟩ (fun b o hb hbx => .inl ((Heap.get?_update_other _ _ (fun q => hbx (by rw [← q]; exact List.mem_singleton_self _))).trans hb)) (fun a ha => ?_)
      rw [List.mem_singleton] at ha; subst ha
      exact ⟨.inr ⟨oT, ts, hT, hdT⟩, hTb, hTF, hTρ⟩
    · have hd3 := Obj.data_mapFields hdT (·.setIfInBounds 3 (fr.elim Value.none fun f => rawInt f))
      refine ⟨⟨Cl, oe, vs, hC, (Heap.get?_update_other _ _ hTe).trans he, hcls, hd, .inr ⟨T, _, _, _, h1, hTe, hTb, hTF, hTρ, Heap.get?_update_self _ hT (Obj.isFreed_of_fields hd3), hd3, ?_, rfl⟩⟩, hnew, hfz, hρ, fun o q => by rw [Heap.get?_update_other _ _ hTe] at q; exact hdt _ q⟩
      have := (Array.getElem?_eq_some_iff.mp h3).1
      simp [this]

theorem Exc.imp {fl fl' : Value → Prop} {c : Str} {e : Addr} {h : Heap} (x : Exc X F ρ fl c e h) (hi : ∀ v, fl v → fl' v) : Exc X F ρ fl' c e h := by
  obtain ⟨⟨Cl, oe, vs, hC, he, hcls, hd, hcase⟩, hnew, hfz, hρ, hdt⟩ := x
  refine ⟨⟨Cl, oe, vs, hC, he, hcls, hd, ?_⟩, hnew, hfz, hρ, hdt⟩
  rcases hcase with ⟨h1, hfl⟩ | ⟨T, oT, ts, y, h1, hTe, hTb, hTF, hTρ, hT, hdT, h3, hfl⟩
  · exact .inl ⟨h1, hi _ hfl⟩
  · exact .inr ⟨T, oT, ts, y, h1, hTe, hTb, hTF, hTρ, hT, hdT, h3, hi y hfl⟩

theorem wp_leave {n : Nat} {E : Value → Shared → Prop} {rc : Cx} {c : Str} {e : Addr} {Q : Unit → Shared → Prop} (C : Cok X A envs own env rc n) (I : Inv X envs F own env r s₀ m H ρ s) (x : Exc X F ρ (flOk env) c e s.heap)
    (h : ∀ s', Inv X envs F own env r s₀ m H ρ s' → Exc X F ρ (fun v => v = .none) c e s'.heap → Q () s') : wpAny (model X.prog X.w) A (leaving env (.ref e)) Q E s := by
  unfold leaving
  refine wpAny_bind (wp_note C I x fun s' I' x' => ?_)
  exact wp_flight I' (x'.imp fun v hv => .inl hv) fun s'' I'' x'' => h s'' I'' x''

theorem wp_came {E : Value → Shared → Prop} {c : Str} {e : Addr} (I : Inv X envs F own env r s₀ m H ρ s) (x : Exc X F ρ (flAt env) c e s.heap) (hf : ∃ L, env.frame = some L)
    (h : ∀ s', Inv X envs F own env r s₀ m H ρ s' → Exc X F ρ (flOk env) c e s'.heap → E (.ref e) s') : cameBackBy (model X.prog X.w) A env E (.ref e) s := by
  have x' := x
  obtain ⟨⟨Cl, oe, vs, hC, he, hcls, hd, hcase⟩, hnew, hfz, hρ, hdt⟩ := x
  obtain ⟨L, hf⟩ := hf
  unfold cameBackBy
  rcases hcase with ⟨h1, L', _, q⟩ | ⟨T, oT, ts, y, h1, _⟩
  · cases q
  · refine wpAny_bind (wpAny_field he hd h1 ?_)
    rw [if_neg (show ¬ ((Value.ref T == Value.none) = true) from by simp)]
    refine wp_flight I (x'.imp fun v hv => .inl hv) fun s' I' x'' => h s' I' (x''.imp fun v hv => ?_)
    subst hv
    rw [hf]
    exact .inr ⟨L, hf, rfl⟩

/-- a loop of the frame's own raises -/
theorem wp_noted {n : Nat} {E : Value → Shared → Prop} {rc : Cx} {c : Str} {e : Addr} (C : Cok X A envs own env rc n) (I : Inv X envs F own env r s₀ m H ρ s) (x : Exc X F ρ (flOk env) c e s.heap)
    (h : ∀ s', Inv X envs F own env r s₀ m H ρ s' → Exc X F ρ (flAt env) c e s'.heap → E (.ref e) s') : notedBy (model X.prog X.w) A env E (.ref e) s := by
  unfold notedBy
  exact wp_note C I x h
end
end Mine
namespace Mine
open PySem

theorem slotIn_slot {x : Str} : ∀ {l : List (Str × NameKind)} {i k : Nat} {b : Bool}, slotIn x l i = some (.slot k b) → i ≤ k ∧ k < i + l.length ∧ l.lookup x = some (if b then .cell else .local) ∧ ∃ kd, l[k - i]? = some (x, kd)
  | [], i, k, b, h => by cases h
  | (y, kd) :: l, i, k, b, h => by
    unfold slotIn at h
    split at h
    · rename_i hxy
      subst hxy
      have hl : ((x, kd) :: l).lookup x = some kd := by rw [List.lookup_cons]; simp
      rw [hl]
      cases kd <;> simp only [Option.some.injEq, VR.slot.injEq, reduceCtorEq] at h
      · obtain ⟨rfl, rfl⟩ := h
        exact ⟨Nat.le_refl _, by simp, rfl, .local, by simp⟩
      · obtain ⟨rfl, rfl⟩ := h
        exact ⟨Nat.le_refl _, by simp, rfl, .cell, by simp⟩
    · rename_i hxy
      obtain ⟨h1, h2, h3, kd', h4⟩ := slotIn_slot h
      refine ⟨by omega, by simp; omega, ?_, kd', ?_⟩
      · rw [List.lookup_cons]
        have : (x == y) = false := by simpa using hxy
        rw [this]; exact h3
      · have : k - i = (k - (i + 1)) + 1 := by omega
        rw [this, List.getElem?_cons_succ]; exact h4
theorem slotIn_glob {x : Str} : ∀ {l : List (Str × NameKind)} {i : Nat}, slotIn x l i = some .glob → l.lookup x = some .globalImplicit
  | [], i, h => by cases h
  | (y, kd) :: l, i, h => by
    unfold slotIn at h
    split at h
    · rename_i hxy
      subst hxy
      rw [List.lookup_cons]; simp only [beq_self_eq_true]
      cases kd <;> simp at h ⊢
    · rename_i hxy
      rw [List.lookup_cons]
      have : (x == y) = false := by simpa using hxy
      rw [this]; exact slotIn_glob h
theorem slotIn_mem {x : Str} : ∀ {l : List (Str × NameKind)} {i : Nat} {v : VR}, slotIn x l i = some v → ∃ kd, (x, kd) ∈ l
  | [], i, v, h => by cases h
  | (y, kd) :: l, i, v, h => by
    unfold slotIn at h
    split at h
    · rename_i hxy; subst hxy; exact ⟨kd, List.mem_cons_self⟩
    · obtain ⟨kd', hm⟩ := slotIn_mem h; exact ⟨kd', List.mem_cons_of_mem _ hm⟩
theorem slotIn_inj {x y : Str} {l : List (Str × NameKind)} {i k : Nat} {b b' : Bool} (h : slotIn x l i = some (.slot k b)) (h' : slotIn y l i = some (.slot k b')) : x = y := by
  obtain ⟨_, _, _, kd, h1⟩ := slotIn_slot h
  obtain ⟨_, _, _, kd', h2⟩ := slotIn_slot h'
  rw [h1] at h2; cases h2; rfl

noncomputable def scopeOk (fi : FnI) : Bool :=
  fi.scope.kind == .function && !fi.scope.isCoroutine && !fi.scope.isGenerator && decide (fi.scope.names.length < 1000) && fi.scope.names.all (fun p => !(p.1 == ("__debug__" : Str))) && decide fi.params.Nodup &&
  fi.params.all (fun x => match resOf fi.scope x with | some (.slot _ _) => true | _ => false)

structure FnAt (X : Stat) (a : Addr) (fi : FnI) : Prop where
  scope : scopeOk fi = true
  obj : ∃ o fd, X.base.get? a = some o ∧ o.data = .func fd ∧ fd.scope = fi.scope ∧ fd.body = .stmts fi.body ∧ fd.closure = [] ∧ fd.globals = mainGlobals ∧ fd.builtins = builtinsNs ∧
    X.base.CodeRec fd.code fd.qualname ∧ ∀ vs : List Value, vs.length = fi.params.length → bindArgs fd ⟨vs, []⟩ = pure (fi.params.zip vs)
noncomputable def FnOk (X : Stat) (f : Str) (fi : FnI) : Prop := ∃ a, X.mg f = some (.ref a) ∧ FnAt X a fi

theorem cells_some {x : Str} : ∀ (names : List (Str × NameKind)) (n : Nat) (acc : List (Str × Addr)), names.lookup x = some .cell ∨ (acc.lookup x).isSome = true → ((cellsFrom n names acc).lookup x).isSome = true
  | [], _, _, h => h.elim (fun e => by cases e) id
  | (y, k) :: r, n, acc, h => by
    unfold cellsFrom
    cases hb : (x == y) with
    | true =>
      have hxy : x = y := beq_iff_eq.mp hb
      subst hxy
      split
      · refine cells_some r _ _ (.inr ?_)
        rw [List.lookup_cons]; simp
      · rename_i hk
        refine cells_some r _ _ (h.imp (fun e => ?_) id)
        rw [List.lookup_cons] at e
        simp only [beq_self_eq_true, Option.some.injEq] at e
        exact absurd (by rw [e]; rfl) hk
    | false =>
      have e1 : ((y, k) :: r).lookup x = r.lookup x := by rw [List.lookup_cons, hb]
      rw [e1] at h
      split
      · refine cells_some r _ _ (h.imp id fun e => ?_)
        rw [List.lookup_cons, hb]; exact e
      · exact cells_some r _ _ h
/-- the parameters, bound -/
theorem argM_some : ∀ {ss : List Nat} {vs : List PV} {i : Nat} {v : PV}, argM ss vs i = some v → ∃ j : Nat, ss[j]? = some i ∧ vs[j]? = some v
  | [], vs, i, v, h => by cases vs <;> cases h
  | s :: ss, [], i, v, h => by cases h
  | s :: ss, w :: vs, i, v, h => by
    simp only [argM] at h
    split at h
    · rename_i hi; cases h; subst hi; exact ⟨0, by simp, by simp⟩
    · obtain ⟨j, h1, h2⟩ := argM_some h
      exact ⟨j + 1, by simpa using h1, by simpa using h2⟩

theorem slotsOf_get {sc : Scope} : ∀ {ps : List Str} (_ : ps.all (fun x => match resOf sc x with | some (.slot _ _) => true | _ => false) = true) {j i : Nat}, (slotsOf sc ps)[j]? = some i → ∃ x b, ps[j]? = some x ∧ resOf sc x = some (.slot i b)
  | [], _, j, i, h => by simp [slotsOf] at h
  | p :: ps, ha, j, i, h => by
    simp only [List.all_cons, Bool.and_eq_true] at ha
    obtain ⟨h1, h2⟩ := ha
    cases hr : resOf sc p with
    | none => rw [hr] at h1; cases h1
    | some v =>
      cases v with
      | glob => rw [hr] at h1; cases h1
      | slot k b =>
        have e : slotsOf sc (p :: ps) = k :: slotsOf sc ps := by simp [slotsOf, hr]
        rw [e] at h
        cases j with
        | zero => simp at h; subst h; exact ⟨p, b, by simp, hr⟩
        | succ j =>
          simp only [List.getElem?_cons_succ] at h ⊢
          exact slotsOf_get h2 h

theorem bindL_other {kd : Str → Option NameKind} {x : Str} : ∀ (binds : List (Str × Value)) (m : Str → Option Value), x ∉ binds.map (·.1) → bindL kd binds m x = m x
  | [], _, _ => rfl
  | (y, v) :: r, m, h => by
    simp only [List.map_cons, List.mem_cons, not_or] at h
    unfold bindL
    rw [bindL_other r _ h.2]
    split
    · simp [h.1]
    · rfl
theorem bindC_other {kd : Str → Option NameKind} {x : Str} : ∀ (binds : List (Str × Value)) (m : Str → Option Value), x ∉ binds.map (·.1) → bindC kd binds m x = m x
  | [], _, _ => rfl
  | (y, v) :: r, m, h => by
    simp only [List.map_cons, List.mem_cons, not_or] at h
    unfold bindC
    rw [bindC_other r _ h.2]
    split
    · rfl
    · simp [h.1]
theorem bind_get {kd : Str → Option NameKind} {x : Str} : ∀ {ps : List Str} {ws : List Value} (hn : ps.Nodup) {j : Nat} {w : Value} (m m' : Str → Option Value), ps[j]? = some x → ws[j]? = some w →
    (kd x = some .local → bindL kd (ps.zip ws) m x = some w) ∧ (kd x ≠ some .local → bindC kd (ps.zip ws) m' x = some w)
  | [], _, _, j, w, m, m', h, _ => by simp at h
  | p :: ps, [], _, j, w, m, m', _, h => by simp at h
  | p :: ps, v :: ws, hn, 0, w, m, m', h1, h2 => by
    simp at h1 h2; subst h1 h2
    obtain ⟨hp, _⟩ := List.nodup_cons.mp hn
    have hnot : p ∉ (ps.zip ws).map (·.1) := fun q => by
      obtain ⟨⟨a, b⟩, hab, rfl⟩ := List.mem_map.mp q
      exact hp (List.of_mem_zip hab).1
    constructor
    · intro hk
      simp only [List.zip_cons_cons, bindL]
      rw [bindL_other _ _ hnot, if_pos hk]; simp
    · intro hk
      simp only [List.zip_cons_cons, bindC]
      rw [bindC_other _ _ hnot, if_neg hk]; simp
  | p :: ps, v :: ws, hn, j + 1, w, m, m', h1, h2 => by
    simp only [List.getElem?_cons_succ] at h1 h2
    obtain ⟨_, hn'⟩ := List.nodup_cons.mp hn
    simp only [List.zip_cons_cons, bindL, bindC]
    exact bind_get hn' _ _ h1 h2

end Mine
namespace Mine
open PySem

theorem cells_names : ∀ (names : List (Str × NameKind)) (n : Nat) (acc : List (Str × Addr)), (names.map (·.1)).Nodup → (acc.map (·.1)).Nodup → (∀ x ∈ names.map (·.1), x ∉ acc.map (·.1)) → ((cellsFrom n names acc).map (·.1)).Nodup
  | [], _, _, _, h, _ => h
  | (y, k) :: r, n, acc, h1, h2, h3 => by
    simp only [List.map_cons, List.nodup_cons] at h1
    unfold cellsFrom
    split
    · refine cells_names r _ _ h1.2 ?_ fun x hx => ?_
      · simp only [List.map_cons, List.nodup_cons]
        exact ⟨h3 y (by simp), h2⟩
      · simp only [List.map_cons, List.mem_cons, not_or]
        exact ⟨fun q => h1.1 (q ▸ hx), h3 x (by simp only [List.map_cons, List.mem_cons]; exact .inr hx)⟩
    · exact cells_names r _ _ h1.2 h2 fun x hx => h3 x (by simp only [List.map_cons, List.mem_cons]; exact .inr hx)
theorem lookup_of_mem : ∀ {l : List (Str × Addr)} {p : Str × Addr}, (l.map (·.1)).Nodup → p ∈ l → l.lookup p.1 = some p.2
  | (x, a) :: r, p, hn, hm => by
    simp only [List.map_cons, List.nodup_cons] at hn
    rw [List.lookup_cons]
    rcases List.mem_cons.mp hm with rfl | hm
    · simp
    · have : (p.1 == x) = false := by
        cases hb : p.1 == x with
        | false => rfl
        | true => exact absurd (List.mem_map.mpr ⟨p, hm, beq_iff_eq.mp hb⟩) hn.1
      rw [this]; exact lookup_of_mem hn.2 hm

section
variable {X : Stat} {A : Around} {envs : List Env} {own : List Addr} {env : Env} {r : Cx} {ρ₀ : List Addr} {n : Nat}

theorem get_ge {h : Heap} {a : Addr} (ha : h.objs.size ≤ a) : h.get? a = none := by
  cases e : h.get? a with
  | none => rfl
  | some o => exact absurd (Heap.lt_size e) (Nat.not_lt.mpr ha)

theorem Inv.rho_in {envs : List Env} {F : Fz} {own : List Addr} {env : Env} {r : Str → Option VR} {s₀ : Shared} {m : M} {H : HP} {ρ : List Addr} {s : Shared} (I : Inv X envs F own env r s₀ m H ρ s) {a : Addr} (ha : a ∈ ρ) : ∃ o, s.heap.get? a = some o := by
  obtain ⟨i, hi⟩ := List.getElem?_of_mem ha
  obtain ⟨o, ho⟩ : ∃ o, H[i]? = some o := by
    have := (List.getElem?_eq_some_iff.mp hi).1
    rw [I.len] at this
    exact ⟨_, List.getElem?_eq_getElem this⟩
  obtain ⟨a', ob', q1, q2, _⟩ := I.objs i o ho
  rw [hi] at q1; cases q1
  exact ⟨ob', q2⟩

/-- back from a called def: what its frame kept, the caller's frame has -/
theorem Inv.back {envs : List Env} {F : Fz} {own own' : List Addr} {env env' : Env} {r r' : Str → Option VR} {s₀ : Shared} {m m' : M} {H H' : HP} {ρ ρ' : List Addr} {s s' : Shared} (I : Inv X envs F own env r s₀ m H ρ s)
    (I' : Inv X (env' :: envs) (but s.heap (ρ.drop 1)) own' env' r' s m' H' ρ' s') (hp : ρ <+: ρ') (hL : ∀ L, env'.frame = some L → s.heap.get? L = none) : Inv X envs F own env r s₀ m H' ρ' s' := by
  refine I.move (fun b o e => ?_) hp I'.len I'.nodup I'.objs (fun i a e hi => ?_) I'.base I'.same
  · rcases I'.keep b o e with q | ⟨hb, sl, q⟩
    · exact .inl q
    · refine .inr ⟨?_, sl, q⟩
      unfold frs at hb
      rw [List.filterMap_cons] at hb
      split at hb
      · exact hb
      · rename_i L hf
        rcases List.mem_cons.mp hb with rfl | hb
        · have := (but_some.mp e).2
          rw [hL _ hf] at this; cases this
        · exact hb
  · have h0 : i ≠ 0 := by have := I.ne; omega
    have := ((I'.apart i a e).2.2.2 h0).1
    unfold but at this
    split at this
    · rename_i hm
      exfalso
      have hm' : a ∈ ρ := List.mem_of_mem_drop hm
      obtain ⟨j, hj⟩ := List.getElem?_of_mem hm'
      have hj' := getElem?_prefix hp hj
      have := (List.getElem?_inj (List.getElem?_eq_some_iff.mp hj').1 I'.nodup).mp (hj'.trans e.symm)
      have := (List.getElem?_eq_some_iff.mp hj).1
      omega
    · exact this

theorem Exc.back {envs : List Env} {F : Fz} {own : List Addr} {env : Env} {r : Str → Option VR} {s₀ : Shared} {m : M} {H : HP} {ρ ρ' : List Addr} {s : Shared} {fl : Value → Prop} {c : Str} {e : Addr} {h' : Heap} (I : Inv X envs F own env r s₀ m H ρ s) (hp : ρ <+: ρ')
    (x : Exc X (but s.heap (ρ.drop 1)) ρ' fl c e h') : Exc X F ρ' fl c e h' := by
  have key : ∀ a, but s.heap (ρ.drop 1) a = none → a ∉ ρ' → F a = none := fun a h1 h2 => by
    have hn : s.heap.get? a = none := by
      unfold but at h1
      split at h1
      · rename_i hm
        exact absurd (hp.subset (List.mem_of_mem_drop hm)) h2
      · exact h1
    cases hq : F a with
    | none => rfl
    | some o => rcases I.keep a o hq with q | ⟨_, sl, q⟩ <;> (rw [hn] at q; cases q)
  obtain ⟨⟨Cl, oe, vs, hC, he, hcls, hd, hcase⟩, hnew, hfz, hρ, hdt⟩ := x
  refine ⟨⟨Cl, oe, vs, hC, he, hcls, hd, ?_⟩, hnew, key e hfz hρ, hρ, hdt⟩
  rcases hcase with h1 | ⟨T, oT, ts, y, h1, hTe, hTb, hTF, hTρ, hT, hdT, h3, hfl⟩
  · exact .inl h1
  · exact .inr ⟨T, oT, ts, y, h1, hTe, hTb, key T hTF hTρ, hTρ, hT, hdT, h3, hfl⟩

noncomputable def namesOk (fi : FnI) : Bool := decide (fi.scope.names.map (·.1)).Nodup

/-- what a def's body does, wherever it is run -/
noncomputable def BodyOk (X : Stat) (fi : FnI) (hd : Bool) (n : Nat) (body : SD) : Prop :=
  ∀ A envs own env ρ₀, Cok X A envs own env ⟨resOf fi.scope, hd, false⟩ n → (∀ p ∈ env.cells, p.2 ∈ own) → SimS X A envs own env ⟨resOf fi.scope, hd, false⟩ ρ₀ (execs fi.body env) body

/-- what is known ahead of the first call -/
structure Inv0 (X : Stat) (envs : List Env) (H : HP) (ρ : List Addr) (s : Shared) : Prop where
  base : X.base.StaysIn s.heap
  frames : s.heap.FunFrames X.base envs
  len : ρ.length = H.length
  objs : ∀ (i : Nat) (o : PO), H[i]? = some o → ∃ a ob, ρ[i]? = some a ∧ s.heap.get? a = some ob ∧ ORel X ρ o ob
  nodup : ρ.Nodup
  apart : ∀ (i : Nat) (a : Addr), ρ[i]? = some a → a ∉ frs envs ∧ (i ≠ 0 → X.base.get? a = none)
  ne : 0 < ρ.length

theorem Inv0.rho_in {X : Stat} {envs : List Env} {H : HP} {ρ : List Addr} {s : Shared} (I : Inv0 X envs H ρ s) {a : Addr} (h : a ∈ ρ) : ∃ o, s.heap.get? a = some o := by
  obtain ⟨i, hi⟩ := List.getElem?_of_mem h
  obtain ⟨o, ho⟩ : ∃ o, H[i]? = some o := by
    have := (List.getElem?_eq_some_iff.mp hi).1
    rw [I.len] at this
    exact ⟨_, List.getElem?_eq_getElem this⟩
  obtain ⟨a', ob, h1, h2, _⟩ := I.objs i o ho
  rw [hi] at h1; cases h1
  exact ⟨ob, h2⟩

theorem Inv.to0 {X : Stat} {envs : List Env} {F : Fz} {own : List Addr} {env : Env} {s₀ : Shared} {m : M} {H : HP} {ρ : List Addr} {s : Shared} {rs : Str → Option VR} (I : Inv X envs F own env rs s₀ m H ρ s) : Inv0 X envs H ρ s :=
  ⟨I.base, I.frames, I.len, I.objs, I.nodup, fun i a e => ⟨(I.apart i a e).2.1, fun h => ((I.apart i a e).2.2.2 h).2⟩, I.ne⟩
theorem code_enter (T : Top0 X) {a : Addr} {fi : FnI} (hf : FnAt X a fi) (hno : namesOk fi = true) {hd : Bool} {body : SD} (hb : BodyOk X fi hd n body) (hh : hd = false → A.handled = none) (hA : A.frames = some envs) (hdep : A.depth + (n + 1) < recursionLimit) (hun : A.units + 20 * (n + 1) < 9000)
    {H H' : HP} {ρ : List Addr} {s : Shared} (I : Inv0 X envs H ρ s) {xs : List PV} {vs : List Value} (hv : VRels ρ xs vs) {res : Except Str PV}
    (hd1 : fnD fi.params.length (slotsOf fi.scope fi.params) body xs H = some (res, H')) {R : Result → Shared → Prop}
    (hQ : ∀ v, res = .ok v → ∀ v' ρ' s' own' env' rs' m', ρ <+: ρ' → env'.frame = some s.heap.objs.size → Inv X (env' :: envs) (but s.heap (ρ.drop 1)) own' env' rs' s m' H' ρ' s' → VRel ρ' v v' → R (.ok (.ret v')) s')
    (hE : ∀ c, res = .error c → ∀ e ρ' s' own' env' rs' m', ρ <+: ρ' → env'.frame = some s.heap.objs.size → Inv X (env' :: envs) (but s.heap (ρ.drop 1)) own' env' rs' s m' H' ρ' s' → Exc X (but s.heap (ρ.drop 1)) ρ' (fun v => v = .none) c e s'.heap → R (.error (.ref e)) s') :
    codeAny (model X.prog X.w) A (.call (.ref a) ⟨vs, []⟩) R s := by
  obtain ⟨hsc, o, fd, ho, hdata, hscope, hbody, hclo, hglob, hbi, hcode, hbind⟩ := hf
  unfold scopeOk at hsc
  simp only [Bool.and_eq_true, beq_iff_eq, Bool.not_eq_true', decide_eq_true_eq] at hsc
  obtain ⟨⟨⟨⟨⟨⟨hk, hco⟩, hgen⟩, hlen⟩, hdbg⟩, hpn⟩, hps⟩ := hsc
  have hno : (fi.scope.names.map (·.1)).Nodup := of_decide_eq_true hno
  unfold fnD at hd1
  split at hd1
  · rename_i hlenx
    have hlv : vs.length = fi.params.length := by rw [← hv.length]; exact hlenx
    cases hbd : body (argM (slotsOf fi.scope fi.params) xs) H with
    | none => rw [hbd] at hd1; cases hd1
    | some q =>
      obtain ⟨rb, mb, Hb⟩ := q
      rw [hbd] at hd1
      have hkind : ∀ x ∈ fi.params.zip vs, fd.scope.names.lookup x.1 = some .local ∨ (fd.scope.names.lookup x.1 = some .cell ∧ ((cellsFrom (s.heap.objs.size + 1) fd.scope.names []).lookup x.1).isSome = true) := fun x hx => by
        have hxp : x.1 ∈ fi.params := (List.of_mem_zip hx).1
        have := List.all_eq_true.mp hps x.1 hxp
        rw [hscope]
        cases hr : resOf fi.scope x.1 with
        | none => rw [hr] at this; cases this
        | some v =>
          cases v with
          | glob => rw [hr] at this; cases this
          | slot k b =>
            have hl := (slotIn_slot hr).2.2.1
            cases b with
            | false => exact .inl hl
            | true => exact .inr ⟨hl, cells_some _ _ _ (.inl hl)⟩
      refine (codeAny_call_cells (fd := fd) (body := fi.body) (binds := fi.params.zip vs) (by omega) (I.base _ _ ho) hdata (T.nolimit.keeps I.base) (hcode.keeps I.base) hbody (hbind vs hlv) hclo hkind (fun s₁ hc => ?_)
        (by rw [hscope]; exact hco) (by rw [hscope]; exact hgen) (by rw [hscope]; exact hk))
      have hL : s.heap.get? s.heap.objs.size = none := size_none _
      obtain ⟨h₁, tk₁, hsame⟩ := hc.toInCall.same
      have hcl : ∀ p ∈ (callEnvC fd s.heap.objs.size a).cells, s.heap.objs.size < p.2 := fun p hp => hc.above p.1 p.2 hp
      have hnames : ((callEnvC fd s.heap.objs.size a).cells.map (·.1)).Nodup := by
        show ((cellsFrom (s.heap.objs.size + 1) fd.scope.names []).map (·.1)).Nodup
        rw [hscope]
        exact cells_names _ _ _ hno (by simp) (by simp)
      have hcell : ∀ p ∈ (callEnvC fd s.heap.objs.size a).cells, ∃ v, s₁.heap.IsCell p.2 v := fun p hp => ⟨_, hc.cell p.1 p.2 (lookup_of_mem hnames hp)⟩
      have hkindOf : ∀ x, (callEnvC fd s.heap.objs.size a).kindOf x = fi.scope.names.lookup x := fun x => by
        show fd.scope.names.lookup x = _
        rw [hscope]
      have C' : Cok X (A.deeper (callEnvC fd s.heap.objs.size a)) (callEnvC fd s.heap.objs.size a :: envs) (s.heap.objs.size :: (callEnvC fd s.heap.objs.size a).cells.map (·.2)) (callEnvC fd s.heap.objs.size a) ⟨resOf fi.scope, hd, false⟩ n := by
        refine ⟨Around.frames_deeper hA, ?_, ?_, ?_, hglob, hbi, fun x hx => ?_, fun x i hx => ?_, fun x i hx => ?_, fun x y i b b' hx hy => slotIn_inj hx hy, fun x v hx => ?_, fun h => hh h, fun _ x i b hx => ?_, hc.apart, fun p hp => ?_, ⟨s.heap.objs.size, _, _, rfl, rfl, rfl⟩⟩
        · show A.depth + 1 + n < recursionLimit; omega
        · show A.units + 3 + 20 * n < 9000; omega
        · show fd.scope.kind = .function; rw [hscope]; exact hk
        · rw [hkindOf]; exact slotIn_glob hx
        · rw [hkindOf]; exact (slotIn_slot hx).2.2.1
        · have hl := (slotIn_slot hx).2.2.1
          refine ⟨by rw [hkindOf]; exact hl, Option.isSome_iff_exists.mp ?_⟩
          show ((cellsFrom (s.heap.objs.size + 1) fd.scope.names []).lookup x).isSome = true
          rw [hscope]
          exact cells_some _ _ _ (.inl hl)
        · obtain ⟨kd, hm⟩ := slotIn_mem hx
          simpa using List.all_eq_true.mp hdbg (x, kd) hm
        · have := slotIn_slot hx; omega
        · exact Nat.ne_of_gt (hcl p hp)
      have I' : Inv X (callEnvC fd s.heap.objs.size a :: envs) (but s.heap (ρ.drop 1)) (s.heap.objs.size :: (callEnvC fd s.heap.objs.size a).cells.map (·.2)) (callEnvC fd s.heap.objs.size a) (resOf fi.scope) s (argM (slotsOf fi.scope fi.params) xs) H ρ s₁ := by
        have kp := hc.toInCall.keep
        have old : ∀ b ∈ s.heap.objs.size :: (callEnvC fd s.heap.objs.size a).cells.map (·.2), s.heap.objs.size ≤ b := fun b hb => by
          rcases List.mem_cons.mp hb with rfl | hb
          · exact Nat.le_refl _
          · obtain ⟨p, hp, rfl⟩ := List.mem_map.mp hb
            exact Nat.le_of_lt (hcl p hp)
        refine ⟨fun b o e => .inl (kp b o (but_some.mp e).2), fun b o e => kp b o (I.base b o e), ?_, fun b hb => ?_, fun b hb => ?_, ⟨_, hc.toInCall.ns⟩, List.mem_cons_self, fun b hb => ?_, hcell, fun x i b hx v hv' => ?_, I.len, fun i o e => ?_, I.nodup, fun i b e => ?_, ?_, I.ne⟩
        · refine Heap.FunFrames.cons ?_ rfl hc.toInCall.ns ?_ (I.frames.of_keeps fun b o e _ => ⟨o, kp b o e, rfl⟩)
          · show fd.scope.kind ≠ .module; rw [hscope, hk]; decide
          · cases hq : X.base.get? s.heap.objs.size with
            | none => rfl
            | some o => have := I.base _ o hq; rw [hL] at this; cases this
        · cases hq : but s.heap (ρ.drop 1) b with
          | none => rfl
          | some o => have := (but_some.mp hq).2; rw [get_ge (old b hb)] at this; cases this
        · cases hq : X.base.get? b with
          | none => rfl
          | some o => have := I.base _ o hq; rw [get_ge (old b hb)] at this; cases this
        · rcases List.mem_cons.mp hb with rfl | hb
          · obtain ⟨o, es, ep, ho, hd, _⟩ := hc.toInCall.ns
            exact ⟨o, ho, fun vs q => by rw [hd] at q; cases q⟩
          · obtain ⟨p, hp, rfl⟩ := List.mem_map.mp hb
            obtain ⟨v, o, ho, hd⟩ := hcell p hp
            exact ⟨o, ho, fun vs q => by rw [hd] at q; cases q⟩
        · obtain ⟨j, h1, h2⟩ := argM_some hv'
          obtain ⟨y, b', h3, h4⟩ := slotsOf_get hps h1
          have hyx : y = x := slotIn_inj h4 hx
          subst hyx
          rw [hx] at h4; cases h4
          obtain ⟨w, h5, h6⟩ := hv.get h2
          have hg := bind_get (kd := (callEnvC fd s.heap.objs.size a).kindOf) hpn (fun _ => none) (fun _ => none) h3 h5
          have hkx := (slotIn_slot hx).2.2.1
          refine ⟨w, ?_, h6⟩
          cases b with
          | false => exact ⟨_, hc.toInCall.ns, hg.1 (by rw [hkindOf]; exact hkx)⟩
          | true =>
            have hcx : ((callEnvC fd s.heap.objs.size a).cells.lookup y).isSome = true := by
              show ((cellsFrom (s.heap.objs.size + 1) fd.scope.names []).lookup y).isSome = true
              rw [hscope]
              exact cells_some _ _ _ (.inl hkx)
            obtain ⟨c, hcc⟩ := Option.isSome_iff_exists.mp hcx
            have hic := hc.cell y c hcc
            rw [hg.2 (by rw [hkindOf, hkx]; decide)] at hic
            exact ⟨c, hcc, hic⟩
        · obtain ⟨b, ob, h1, h2, h3⟩ := I.objs i o e
          exact ⟨b, ob, h1, kp _ _ h2, h3⟩
        · have ap := I.apart i b e
          obtain ⟨ob, hob⟩ := I.rho_in (List.mem_of_getElem? e)
          have hlt := Heap.lt_size hob
          have hno' : b ∉ s.heap.objs.size :: (callEnvC fd s.heap.objs.size a).cells.map (·.2) := fun q => by
            exact Nat.lt_irrefl _ (Nat.lt_of_lt_of_le hlt (old b q))
          refine ⟨hno', fun q => ?_, fun q => hno' (List.mem_cons_of_mem _ q), fun h0 => ⟨?_, ap.2 h0⟩⟩
          · unfold frs at q
            rw [List.filterMap_cons] at q
            have : (callEnvC fd s.heap.objs.size a).frame = some s.heap.objs.size := rfl
            rw [this] at q
            rcases List.mem_cons.mp q with q | q
            · rw [q] at hlt; exact Nat.lt_irrefl _ hlt
            · exact ap.1 q
          · unfold but
            rw [if_pos]
            refine List.mem_of_getElem? (i := i - 1) ?_
            rw [List.getElem?_drop, show 1 + (i - 1) = i by omega]; exact e
        · rw [hsame]; exact ⟨rfl, rfl, rfl⟩
      refine hb _ _ _ _ ρ C' (fun p hp => List.mem_cons_of_mem _ (List.mem_map_of_mem hp)) (but s.heap (ρ.drop 1)) s _ H ρ s₁ (List.prefix_refl _) I' _ _ _ hbd _ _ (fun fl e fl' ρ' s' hp' I'' hfl => ?_) fun c e ee ρ' s' hp' I'' hx => ?_
      · subst e
        cases fl with
        | next =>
          cases hfl; cases hd1
          exact hQ _ rfl _ ρ' s' _ _ _ _ hp' rfl I'' rfl
        | ret v =>
          obtain ⟨v', rfl, hv'⟩ := hfl
          cases hd1
          exact hQ _ rfl _ ρ' s' _ _ _ _ hp' rfl I'' hv'
      · subst e
        cases hd1
        exact wp_leave C' I'' hx fun s'' I3 x3 => hE _ rfl _ ρ' s'' _ _ _ _ hp' rfl I3 x3
  · cases hd1
theorem wp_enter (T : Top0 X) {a : Addr} {fi : FnI} (hf : FnAt X a fi) (hno : namesOk fi = true) {hd : Bool} {body : SD} (hb : BodyOk X fi hd n body) (hh : hd = false → A.handled = none) (hA : A.frames = some envs) (hdep : A.depth + (n + 1) < recursionLimit) (hun : A.units + 20 * (n + 1) < 9000)
    {H H' : HP} {ρ : List Addr} {s : Shared} (I : Inv0 X envs H ρ s) {xs : List PV} {vs : List Value} (hv : VRels ρ xs vs) {res : Except Str PV}
    (hd1 : fnD fi.params.length (slotsOf fi.scope fi.params) body xs H = some (res, H')) {Q E : Value → Shared → Prop}
    (hQ : ∀ v, res = .ok v → ∀ v' ρ' s' own' env' rs' m', ρ <+: ρ' → env'.frame = some s.heap.objs.size → Inv X (env' :: envs) (but s.heap (ρ.drop 1)) own' env' rs' s m' H' ρ' s' → VRel ρ' v v' → Q v' s')
    (hE : ∀ c, res = .error c → ∀ e ρ' s' own' env' rs' m', ρ <+: ρ' → env'.frame = some s.heap.objs.size → Inv X (env' :: envs) (but s.heap (ρ.drop 1)) own' env' rs' s m' H' ρ' s' → Exc X (but s.heap (ρ.drop 1)) ρ' (fun v => v = .none) c e s'.heap → E (.ref e) s') :
    wpAny (model X.prog X.w) A (call (.ref a) vs []) Q E s :=
  wpAny_call (code_enter T hf hno hb hh hA hdep hun I hv hd1 (fun v e v' ρ' s' own' env' rs' m' h1 h2 h3 h4 => hQ v e v' ρ' s' own' env' rs' m' h1 h2 h3 h4) fun c e ee ρ' s' own' env' rs' m' h1 h2 h3 h4 => hE c e ee ρ' s' own' env' rs' m' h1 h2 h3 h4)
theorem wp_call (T : Top0 X) {a : Addr} {fi : FnI} (hf : FnAt X a fi) (hno : namesOk fi = true) {hd : Bool} {body : SD} (hb : BodyOk X fi hd n body) (hh : hd = false → A.handled = none) (hA : A.frames = some envs) (hdep : A.depth + (n + 1) < recursionLimit) (hun : A.units + 20 * (n + 1) < 9000)
    {F : Fz} {s₀ : Shared} {m : M} {H H' : HP} {ρ : List Addr} {s : Shared} {rs : Str → Option VR} (I : Inv X envs F own env rs s₀ m H ρ s) {xs : List PV} {vs : List Value} (hv : VRels ρ xs vs) {res : Except Str PV}
    (hd1 : fnD fi.params.length (slotsOf fi.scope fi.params) body xs H = some (res, H')) {Q E : Value → Shared → Prop}
    (hQ : ∀ v, res = .ok v → ∀ v' ρ' s', ρ <+: ρ' → Inv X envs F own env rs s₀ m H' ρ' s' → VRel ρ' v v' → Q v' s')
    (hE : ∀ c, res = .error c → ∀ e ρ' s', ρ <+: ρ' → Inv X envs F own env rs s₀ m H' ρ' s' → Exc X F ρ' (fun v => v = .none) c e s'.heap → E (.ref e) s') :
    wpAny (model X.prog X.w) A (call (.ref a) vs []) Q E s := by
  have hL : ∀ (env' : Env), env'.frame = some s.heap.objs.size → ∀ L, env'.frame = some L → s.heap.get? L = none := fun env' h L e => by
    rw [h] at e; cases e; exact size_none _
  exact wp_enter T hf hno hb hh hA hdep hun I.to0 hv hd1 (fun v e v' ρ' s' own' env' rs' m' hp' hfr I'' hv' => hQ v e v' ρ' s' hp' (I.back I'' hp' (hL env' hfr)) hv')
    fun c e ee ρ' s' own' env' rs' m' hp' hfr I'' x => hE c e ee ρ' s' hp' (I.back I'' hp' (hL env' hfr)) (x.back I hp')

theorem sim_call (T : Top0 X) (C : Cok X A envs own env r (n + 1)) {f : Str} {fi : FnI} {p pos : Pos} {args : List Expr} {ds : List ED} {body : SD} (hf : FnOk X f fi) (hno : namesOk fi = true) (hx : r.res f = some .glob)
    (hb : BodyOk X fi r.hd n body) (ha : SimsB X A envs own env r ρ₀ (backTo pos (starEach args env)) ds) (hne : args ≠ []) :
    Sim X A envs own env r ρ₀ VRel (eval (.Call (.Name f p) args [] pos) env) (callD (fnD fi.params.length (slotsOf fi.scope fi.params) body) ds) := by
  intro F s₀ m H ρ s hp I res H' hd Q E hQ hE
  obtain ⟨a, hmg, hf⟩ := hf
  obtain ⟨o, fd, ho, hdata, _⟩ := hf.obj
  refine wpAny_Call_NameR (load_glob T C I hx hmg ?_)
  refine Calls.callWith_function (o := o) (fd := fd) ?_
  have hne' : backTo pos (starEach args env) ≠ [] := by
    cases args with
    | nil => exact absurd rfl hne
    | cons e es => cases e <;> simp [starEach, backTo]
  refine (sim_args ha hne').use hp I hd hE fun xs as H₁ ρ₁ s₁ hp1 I1 hv hd1 => ⟨⟨I1.base _ _ ho, hdata⟩, ?_⟩
  rw [hv.1]
  refine wp_call T hf hno hb C.hd C.frames C.depth C.units I1 hv.2 hd1 (fun v e v' ρ' s' h' => hQ v e v' ρ' s' (hp1.trans h')) fun c e ee ρ' s' h' I' x => hE c e ee ρ' s' (hp1.trans h') I' (x.imp fun v q => .inl (.inl q))
end
end Mine
namespace Mine
open PySem

section
variable {X : Stat} {A : Around} {envs : List Env} {F : Fz} {own : List Addr} {env : Env} {r : Str → Option VR} {s₀ : Shared} {m m' : M} {H H' : HP} {ρ ρ' : List Addr} {s s' : Shared}

/-- all is frozen but the objects known and the frame's own places -/
noncomputable def frz (s : Shared) (ρ own : List Addr) : Fz := but s.heap (ρ.drop 1 ++ own)

theorem Inv.freeze (I : Inv X envs F own env r s₀ m H ρ s) : Inv X envs (frz s ρ own) own env r s m H ρ s := by
  refine { I with keep := fun b o e => .inl (but_some.mp e).2, ownNone := fun a ha => ?_, apart := fun i a e => ?_, same := Same.refl s }
  · unfold frz but; rw [if_pos (List.mem_append_right _ ha)]
  · have ap := I.apart i a e
    refine ⟨ap.1, ap.2.1, ap.2.2.1, fun h0 => ⟨?_, (ap.2.2.2 h0).2⟩⟩
    unfold frz but
    rw [if_pos]
    refine List.mem_append_left _ (List.mem_of_getElem? (i := i - 1) ?_)
    rw [List.getElem?_drop, show 1 + (i - 1) = i by omega]; exact e

theorem frz_none (I : Inv X envs F own env r s₀ m H ρ s) (hp : ρ <+: ρ') {a : Addr} (h : frz s ρ own a = none) (h1 : a ∉ ρ') (h2 : a ∉ own) : s.heap.get? a = none := by
  unfold frz but at h
  split at h
  · rename_i hm
    rcases List.mem_append.mp hm with q | q
    · exact absurd (hp.subset (List.mem_of_mem_drop q)) h1
    · exact absurd q h2
  · exact h

theorem Inv.thaw (I : Inv X envs F own env r s₀ m H ρ s) (I' : Inv X envs (frz s ρ own) own env r s m' H' ρ' s') (hp : ρ <+: ρ') : Inv X envs F own env r s₀ m' H' ρ' s' := by
  have hF : ∀ b o, F b = some o → b ∉ ρ.drop 1 ++ own := fun b o e hm => by
    rcases List.mem_append.mp hm with q | q
    · obtain ⟨i, hi⟩ := List.getElem?_of_mem q
      rw [List.getElem?_drop] at hi
      have := (I.apart (1 + i) b hi).2.2.2 (by omega)
      rw [this.1] at e; cases e
    · rw [I.ownNone b q] at e; cases e
  refine { I' with keep := I.keep.trans I'.keep hF, ownNone := I.ownNone, apart := fun i a e => ?_, same := I.same.trans I'.same }
  have ap := I'.apart i a e
  refine ⟨ap.1, ap.2.1, ap.2.2.1, fun h0 => ⟨?_, (ap.2.2.2 h0).2⟩⟩
  by_cases hi : i < ρ.length
  · have : ρ[i]? = some a := by
      obtain ⟨t, rfl⟩ := hp
      rw [List.getElem?_append_left hi] at e; exact e
    exact ((I.apart i a this).2.2.2 h0).1
  · have hfz := (ap.2.2.2 h0).1
    have hn : s.heap.get? a = none := by
      unfold frz but at hfz
      split at hfz
      · rename_i hm
        exfalso
        rcases List.mem_append.mp hm with q | q
        · obtain ⟨j, hj⟩ := List.getElem?_of_mem (List.mem_of_mem_drop q)
          have hj' := getElem?_prefix hp hj
          have := (List.getElem?_inj (List.getElem?_eq_some_iff.mp hj').1 I'.nodup).mp (hj'.trans e.symm)
          have := (List.getElem?_eq_some_iff.mp hj).1
          omega
        · exact ap.1 q
      · exact hfz
    cases hq : F a with
    | none => rfl
    | some o => rcases I.keep a o hq with q | ⟨_, sl, q⟩ <;> (rw [hn] at q; cases q)

theorem Exc.thaw {fl : Value → Prop} {c : Str} {e : Addr} (I : Inv X envs F own env r s₀ m H ρ s) (I' : Inv X envs (frz s ρ own) own env r s m' H' ρ' s') (hp : ρ <+: ρ') (x : Exc X (frz s ρ own) ρ' fl c e s'.heap) : Exc X F ρ' fl c e s'.heap := by
  have key : ∀ a o vs, s'.heap.get? a = some o → o.data = .fields vs → frz s ρ own a = none → a ∉ ρ' → F a = none := fun a o vs ho hd h1 h2 => by
    have hown : a ∉ own := fun q => by
      obtain ⟨o', ho', hf'⟩ := I'.ownIn a q
      rw [ho] at ho'; cases ho'; exact hf' vs hd
    have hn := frz_none I hp h1 h2 hown
    cases hq : F a with
    | none => rfl
    | some o => rcases I.keep a o hq with q | ⟨_, sl, q⟩ <;> (rw [hn] at q; cases q)
  obtain ⟨⟨Cl, oe, vs, hC, he, hcls, hd, hcase⟩, hnew, hfz, hρ, hdt⟩ := x
  refine ⟨⟨Cl, oe, vs, hC, he, hcls, hd, ?_⟩, hnew, key e oe vs he hd hfz hρ, hρ, hdt⟩
  rcases hcase with h1 | ⟨T, oT, ts, y, h1, hTe, hTb, hTF, hTρ, hT, hdT, h3, hfl⟩
  · exact .inl h1
  · exact .inr ⟨T, oT, ts, y, h1, hTe, hTb, key T oT ts hT hdT hTF hTρ, hTρ, hT, hdT, h3, hfl⟩

/-- an iterator that stands at the k-th item -/
noncomputable def RgAt (src : Src) (I : Addr) (k : Nat) (h : Heap) : Prop := ∃ a c : Int, src.items = rangeL a src.items.length c ∧ IsRangeIter h I (a + (k : Int) * c) ((src.items.length : Int) - (k : Int)) c
noncomputable def TxAt (src : Src) (I : Addr) (k : Nat) (h : Heap) : Prop :=
  False
noncomputable def ItCls (o : Obj) : Prop := o.cls = .type "range_iterator" ∨ o.cls = .type "list_iterator"
noncomputable def ItAt (src : Src) (ρ : List Addr) (I : Addr) (k : Nat) (h : Heap) : Prop :=
  match src.at? with
  | none => RgAt src I k h ∨ TxAt src I k h
  | some i => ∃ l, ρ[i]? = some l ∧ h.IsListIter I l k

theorem ItAt.obj {src : Src} {I : Addr} {k : Nat} {h : Heap} (x : ItAt src ρ I k h) : ∃ o vs, h.get? I = some o ∧ o.data = .fields vs ∧ ItCls o := by
  unfold ItAt at x
  split at x
  · rcases x with ⟨a, c, _, hit⟩ | x
    · exact ⟨_, _, hit, rfl, .inl rfl⟩
    · exact x.elim
  · obtain ⟨l, _, o, ho, hc, hd⟩ := x
    exact ⟨o, _, ho, hd, .inr hc⟩
theorem ItAt.same {src : Src} {I : Addr} {k : Nat} {h h' : Heap} (x : ItAt src ρ I k h) (hp : ρ <+: ρ') (e : ∀ o, h.get? I = some o → h'.get? I = some o) : ItAt src ρ' I k h' := by
  unfold ItAt at x ⊢
  split at x
  · rcases x with ⟨a, c, h1, hit⟩ | x
    · exact .inl ⟨a, c, h1, e _ hit⟩
    · exact x.elim
  · obtain ⟨l, h1, o, ho, hc, hd⟩ := x
    exact ⟨l, getElem?_prefix hp h1, o, e _ ho, hc, hd⟩

/-- the iterator stands outside of all that is known -/
structure ItOut (X : Stat) (F : Fz) (own ρ : List Addr) (fs : List Addr) (I : Addr) : Prop where
  base : X.base.get? I = none
  frozen : F I = none
  own : I ∉ own
  rho : I ∉ ρ
  fs : I ∉ fs

theorem step_inv {I : Addr} {h' : Heap} {t : Nat} (Iv : Inv X envs F own env r s₀ m H ρ s) (hi : ∃ o vs, s.heap.get? I = some o ∧ o.data = .fields vs) (ho : ItOut X F own ρ (frs envs) I) (hs : ∀ b o, b ≠ I → s.heap.get? b = some o → h'.get? b = some o) :
    Inv X envs F own env r s₀ m H ρ { s with heap := h', toks := t } := by
  obtain ⟨o, vs, ho', hd⟩ := hi
  refine Iv.exc (ex := [I]) ⟨rfl, rfl, rfl⟩ (fun b o hb hbx => .inl (hs b o (fun q => hbx (by rw [q]; exact List.mem_singleton_self _)) hb)) (fun a ha => ?_)
  rw [List.mem_singleton] at ha; subst ha
  exact ⟨.inr ⟨o, vs, ho', hd⟩, ho.base, ho.frozen, ho.rho⟩

theorem rangeL_get {a c : Int} {n k : Nat} (h : k < n) : (rangeL a n c)[k]? = some (.int (a + (k : Int) * c)) := by
  unfold rangeL
  rw [List.getElem?_map, List.getElem?_range h]; rfl
theorem rangeL_length (a : Int) (n : Nat) (c : Int) : (rangeL a n c).length = n := by simp [rangeL]

/-- the next item -/
theorem wp_next {E : Value → Shared → Prop} {src : Src} {I : Addr} {k : Nat} {v : PV} {Q : Option Value → Shared → Prop} (Iv : Inv X envs F own env r s₀ m H ρ s) (x : ItAt src ρ I k s.heap) (hok : src.ok H = true) (ho : ItOut X F own ρ (frs envs) I) (hk : src.items[k]? = some v)
    (hQ : ∀ v' s', Inv X envs F own env r s₀ m H ρ s' → ItAt src ρ I (k + 1) s'.heap → VRel ρ v v' → (∀ b o, b ≠ I → s.heap.get? b = some o → s'.heap.get? b = some o) → Same s s' → Q (some v') s') : wpAny (model X.prog X.w) A (pyNext (.ref I)) Q E s := by
  obtain ⟨oI, vsI, hoI, hdI, _⟩ := x.obj
  have hklt := (List.getElem?_eq_some_iff.mp hk).1
  unfold ItAt at x
  unfold Src.ok at hok
  split at x
  · rename_i hat
    rcases x with ⟨a, c, h1, hit⟩ | x
    · refine wpAny_pyNext_range_item hit (by omega) fun h' hit' hs' => ?_
      refine hQ _ _ (step_inv Iv ⟨oI, vsI, hoI, hdI⟩ ho fun b o hb e => (hs'.2 b hb).trans e) ?_ ?_ (fun b o hb e => (hs'.2 b hb).trans e) ⟨rfl, rfl, rfl⟩
      · unfold ItAt; rw [hat]
        refine .inl ⟨a, c, h1, ?_⟩
        have e1 : a + (k : Int) * c + c = a + ((k + 1 : Nat) : Int) * c := by rw [Int.natCast_add, Int.add_mul]; simp; omega
        have e2 : ((src.items.length : Int) - (k : Int)) - 1 = (src.items.length : Int) - ((k + 1 : Nat) : Int) := by omega
        rw [← e1, ← e2]; exact hit'
      · rw [h1, rangeL_get (by rw [h1] at hklt; rw [rangeL_length] at hklt; exact hklt)] at hk
        cases hk
        exact ⟨_, rfl⟩
    · exact x.elim
  · rename_i i hat
    rw [hat] at hok
    obtain ⟨l, h1, hit⟩ := x
    have hH : H[i]? = some (.list src.items) := of_decide_eq_true hok
    obtain ⟨a, items, n, hv, _, g, hr, hz⟩ := Iv.isList (v := .ref l) ⟨l, h1, rfl⟩ hH
    cases hv
    obtain ⟨y, e1, e2⟩ := hr.get hk
    have e1' : items[k]? = some y := by rw [← Array.getElem?_toList]; exact e1
    refine wpAny_pyNext_list_item hit ⟨_, g, rfl, n, rfl⟩ e1' fun h' hit' hs' => ?_
    refine hQ _ _ (step_inv Iv ⟨oI, vsI, hoI, hdI⟩ ho (t := s.toks) fun b o hb e => (hs'.2 b hb).trans e) ?_ e2 (fun b o hb e => (hs'.2 b hb).trans e) ⟨rfl, rfl, rfl⟩
    unfold ItAt; rw [hat]
    exact ⟨l, h1, hit'⟩

/-- no item is left -/
theorem wp_nextEnd {E : Value → Shared → Prop} {src : Src} {I : Addr} {k : Nat} {Q : Option Value → Shared → Prop} (hh : A.handled = none) (Iv : Inv X envs F own env r s₀ m H ρ s) (x : ItAt src ρ I k s.heap) (hok : src.ok H = true) (ho : ItOut X F own ρ (frs envs) I) (hk : k = src.items.length)
    (hQ : ∀ s', Inv X envs F own env r s₀ m H ρ s' → (∀ b o, b ≠ I → s.heap.get? b = some o → s'.heap.get? b = some o) → Same s s' → Q none s') : wpAny (model X.prog X.w) A (pyNext (.ref I)) Q E s := by
  obtain ⟨oI, vsI, hoI, hdI, _⟩ := x.obj
  unfold ItAt at x
  unfold Src.ok at hok
  split at x
  · rename_i hat
    rcases x with ⟨a, c, h1, hit⟩ | x
    · refine wpAny_pyNext_range_end hh hit (by omega) fun h' hs' => ?_
      exact hQ _ (step_inv Iv ⟨oI, vsI, hoI, hdI⟩ ho (t := s.toks) fun b o hb e => hs' b o hb e) (fun b o hb e => hs' b o hb e) ⟨rfl, rfl, rfl⟩
    · exact x.elim
  · rename_i i hat
    rw [hat] at hok
    obtain ⟨l, h1, hit⟩ := x
    have hH : H[i]? = some (.list src.items) := of_decide_eq_true hok
    obtain ⟨a, items, n, hv, _, g, hr, hz⟩ := Iv.isList (v := .ref l) ⟨l, h1, rfl⟩ hH
    cases hv
    have hlen := hr.length
    simp only [Array.length_toList] at hlen
    refine wpAny_pyNext_list_end hh hit ⟨_, g, rfl, n, rfl⟩ (by rw [Array.getElem?_eq_none_iff]; omega) fun h' hs' => ?_
    exact hQ _ (step_inv Iv ⟨oI, vsI, hoI, hdI⟩ ho (t := s.toks) fun b o hb e => hs' b o hb e) (fun b o hb e => hs' b o hb e) ⟨rfl, rfl, rfl⟩
end
end Mine
namespace Mine
open PySem

section
variable {X : Stat} {A : Around} {envs : List Env} {own : List Addr} {env : Env} {r : Cx} {ρ₀ : List Addr} {n : Nat}

/-- an iterable is made, and its iterator -/
noncomputable def SimI (X : Stat) (A : Around) (envs : List Env) (own : List Addr) (env : Env) (r : Cx) (ρ₀ : List Addr) (iter : Expr) (d : RD Src) : Prop :=
  ∀ F s₀ m H ρ s, ρ₀ <+: ρ → Inv X envs F own env r.res s₀ m H ρ s → ∀ res H', d m H = some (res, H') → ∀ Q E,
    (∀ src, res = .ok src → ∀ I ρ' s', ρ <+: ρ' → Inv X envs F own env r.res s₀ m H' ρ' s' → ItAt src ρ' I 0 s'.heap → ItOut X F own ρ' (frs envs) I → Q (.ref I) s') →
    (∀ c, res = .error c → ∀ e ρ' s', ρ <+: ρ' → Inv X envs F own env r.res s₀ m H' ρ' s' → Exc X F ρ' (flOk env) c e s'.heap → E (.ref e) s') →
    wpAny (model X.prog X.w) A (eval iter env) (fun x s₁ => wpAny (model X.prog X.w) A (pyIter x) Q E s₁) E s

theorem fresh_out {F : Fz} {s₀ : Shared} {m : M} {H : HP} {ρ : List Addr} {s : Shared} {rs : Str → Option VR} (I : Inv X envs F own env rs s₀ m H ρ s) {a : Addr} (ha : s.heap.get? a = none) : ItOut X F own ρ (frs envs) a := by
  refine ⟨?_, ?_, fun q => ?_, fun q => ?_, fun q => ?_⟩
  · cases hq : X.base.get? a with
    | none => rfl
    | some o => have := I.base _ o hq; rw [ha] at this; cases this
  · cases hq : F a with
    | none => rfl
    | some o => rcases I.keep a o hq with q | ⟨_, sl, q⟩ <;> (rw [ha] at q; cases q)
  · obtain ⟨o, ho, _⟩ := I.ownIn a q; rw [ha] at ho; cases ho
  · obtain ⟨o, ho⟩ := I.rho_in q; rw [ha] at ho; cases ho
  · obtain ⟨_, o, ho, _⟩ := I.frames.mem q; rw [ha] at ho; cases ho

theorem simI_stuck {iter : Expr} : SimI X A envs own env r ρ₀ iter stuckD := by
  intro F s₀ m H ρ s _ _ res H' h; cases h

theorem simI_list {iter : Expr} {d : ED} (h : Sim X A envs own env r ρ₀ VRel (eval iter env) d) : SimI X A envs own env r ρ₀ iter (seqSrcD d) := by
  intro F s₀ m H ρ s hp I res H' hd Q E hQ hE
  refine h.use hp I hd hE fun x v H₁ ρ₁ s₁ hp1 I1 hv hd1 => ?_
  unfold liftD srcV at hd1
  cases hq : listAt H₁ x with
  | none => rw [hq] at hd1; cases hd1
  | some q =>
    rw [hq] at hd1
    cases hd1
    obtain ⟨rfl, hi⟩ := listAt_inv hq
    refine I1.isListE hv hi fun a items n hia g hr hz => ?_
    refine wpAny_pyIter_list ⟨_, g, rfl, n, rfl⟩ ?_
    exact hQ _ rfl s₁.heap.objs.size ρ₁ _ hp1 (I1.grow (push_keeps _ _) ⟨rfl, rfl, rfl⟩) ⟨a, hia, _, Heap.get?_push_size _ rfl, rfl, rfl⟩ (fresh_out I1 (size_none _))

theorem small_down {a b : Int} (ha : -(2 ^ 61) < a) (ha' : a < 2 ^ 61) (hb : -(2 ^ 61) < b) (hb' : b < 2 ^ 61) : Builtin.Range.small a b (-1) = true ∧ Builtin.Range.rangeSize a b (-1) = ((a - b).toNat : Int) := by
  have e : Builtin.Range.rangeSize a b (-1) = ((a - b).toNat : Int) := by
    unfold Builtin.Range.rangeSize
    rw [if_neg (by decide)]
    have : (-(-1 : Int)) = 1 := by decide
    rw [this, Int.ediv_one]
    split <;> omega
  refine ⟨?_, e⟩
  have hk : ((a - b).toNat : Int) = a - b ∨ (((a - b).toNat : Int) = 0 ∧ a ≤ b) := by omega
  unfold Builtin.Range.small
  rw [e]
  generalize ((a - b).toNat : Int) = k at hk
  simp only [Builtin.Range.rangeFitsLong, Bool.and_eq_true, Bool.or_eq_true, decide_eq_true_eq, beq_iff_eq]
  rw [if_neg (by decide)]
  simp only [Bool.and_eq_true, decide_eq_true_eq]
  omega

theorem iter_range {F : Fz} {s₀ : Shared} {m : M} {H : HP} {ρ : List Addr} {s : Shared} {a b c : Int} {t u v : Tok} {tk : Nat} {k : Nat} {Q : Value → Shared → Prop} {E : Value → Shared → Prop} (I : Inv X envs F own env r.res s₀ m H ρ s)
    (hsm : Builtin.Range.small a b c = true) (hsz : Builtin.Range.rangeSize a b c = (k : Int))
    (hQ : ∀ J ρ' s', ρ <+: ρ' → Inv X envs F own env r.res s₀ m H ρ' s' → ItAt ⟨rangeL a k c, none⟩ ρ' J 0 s'.heap → ItOut X F own ρ' (frs envs) J → Q (.ref J) s') :
    wpAny (model X.prog X.w) A (pyIter (.ref s.heap.objs.size)) Q E { s with heap := s.heap.push { cls := .type "range", data := .fields #[.int a t, .int b u, .int c v] }, toks := tk } := by
  have I1 : Inv X envs F own env r.res s₀ m H ρ { s with heap := s.heap.push { cls := .type "range", data := .fields #[.int a t, .int b u, .int c v] }, toks := tk } := I.grow (push_keeps _ _) ⟨rfl, rfl, rfl⟩
  refine wpAny_pyIter_range (IsRange.new ..) hsm ?_
  refine hQ _ ρ _ (List.prefix_refl _) (I1.grow (push_keeps _ _) ⟨rfl, rfl, rfl⟩) ?_ (fresh_out I1 (size_none _))
  refine .inl ⟨a, c, by rw [rangeL_length], ?_⟩
  rw [rangeL_length]
  have e1 : a + ((0 : Nat) : Int) * c = a := by simp
  have e2 : (k : Int) - ((0 : Nat) : Int) = Builtin.Range.rangeSize a b c := by rw [hsz]; simp
  rw [e1, e2]
  exact Heap.get?_push_size _ rfl

section
variable {F : Fz} {s₀ : Shared} {m : M} {H H' : HP} {ρ : List Addr} {s : Shared} {src : Src} {xs : List PV} {vs : List Value} {Q E : Value → Shared → Prop}
theorem vrels_three {x y z : PV} : ∀ {vs : List Value}, VRels ρ [x, y, z] vs → ∃ w u v, vs = [w, u, v] ∧ VRel ρ x w ∧ VRel ρ y u ∧ VRel ρ z v
  | [], h => h.elim
  | [_], h => h.2.elim
  | [_, _], h => h.2.2.elim
  | [w, u, v], h => ⟨w, u, v, rfl, h.1, h.2.1, h.2.2.1⟩
  | _ :: _ :: _ :: _ :: _, h => h.2.2.2.elim
theorem rangeTo (I : Inv X envs F own env r.res s₀ m H ρ s) (hv : VRels ρ xs vs) (hr : rangeV xs H = some (src, H')) (hQ : ∀ J ρ' s', ρ <+: ρ' → Inv X envs F own env r.res s₀ m H' ρ' s' → ItAt src ρ' J 0 s'.heap → ItOut X F own ρ' (frs envs) J → Q (.ref J) s') :
    wpAny (model X.prog X.w) A (call (.type "range") vs []) (fun v s => wpAny (model X.prog X.w) A (pyIter v) Q E s) E s := by
  unfold rangeV at hr
  cases xs with
  | nil => cases hr
  | cons x xs =>
    cases xs with
    | nil =>
      obtain ⟨w, rfl, hw⟩ := vrels_one hv
      cases x <;> try cases hr
      rename_i b
      obtain ⟨t, rfl⟩ := hw
      unfold range1 at hr
      simp only at hr
      by_cases hb : b.natAbs < 2 ^ 62
      · rw [if_pos (decide_eq_true hb)] at hr
        cases hr
        refine call_range_1 (iter_range I (small_one (by decide) (by decide) (by omega) (by omega)) ?_ hQ)
        rw [rangeSize_one]; split <;> omega
      · rw [if_neg (by simpa using hb)] at hr; cases hr
    | cons y xs =>
      cases xs with
      | nil =>
        obtain ⟨w, u, rfl, hw, hu⟩ := vrels_two hv
        obtain ⟨a, b, rfl, rfl, h2⟩ := int2_inv (show range2 x y H = _ from hr)
        replace hr := h2
        obtain ⟨t, rfl⟩ := hw
        obtain ⟨t', rfl⟩ := hu
        by_cases hb : (decide (a.natAbs < 2 ^ 61) && decide (b.natAbs < 2 ^ 61)) = true
        · rw [if_pos hb] at hr
          cases hr
          simp only [Bool.and_eq_true, decide_eq_true_eq] at hb
          refine call_range_2 (iter_range I (small_one (by omega) (by omega) (by omega) (by omega)) ?_ hQ)
          rw [rangeSize_one]; split <;> omega
        · rw [if_neg hb] at hr; cases hr
      | cons z xs =>
        cases xs with
        | cons _ _ => cases hr
        | nil =>
          replace hr : range3 x y z H = some (src, H') := hr
          unfold range3 at hr
          by_cases hz : z = .int (-1)
          · rw [if_pos hz] at hr
            subst hz
            obtain ⟨w, u, x, rfl, hw, hu, hx⟩ := vrels_three hv
            obtain ⟨a, b, rfl, rfl, h2⟩ := int2_inv hr
            replace hr := h2
            obtain ⟨t, rfl⟩ := hw
            obtain ⟨t', rfl⟩ := hu
            obtain ⟨t'', rfl⟩ := hx
            by_cases hb : (decide (a.natAbs < 2 ^ 61) && decide (b.natAbs < 2 ^ 61)) = true
            · rw [if_pos hb] at hr
              cases hr
              simp only [Bool.and_eq_true, decide_eq_true_eq] at hb
              refine call_range_3 (by decide) ?_ (.inl (PyProof.noPylong_small (by decide)))
              have := small_down (a := a) (b := b) (by omega) (by omega) (by omega) (by omega)
              exact iter_range I this.1 this.2 hQ
            · rw [if_neg hb] at hr; cases hr
          · rw [if_neg hz] at hr; cases hr
end
theorem back_ne {pos : Pos} {args : List Expr} (h : args ≠ []) : backTo pos (starEach args env) ≠ [] := by
  cases args with
  | nil => exact absurd rfl h
  | cons e es => cases e <;> exact List.cons_ne_nil _ _
theorem simI_range (T : Top0 X) (C : Cok X A envs own env r n) {p pos : Pos} {args : List Expr} {ds : List ED} (hx : r.res "range" = some .glob) (hm : X.mg "range" = none)
    (ha : SimsB X A envs own env r ρ₀ (backTo pos (starEach args env)) ds) (hpl : (backTo pos (starEach args env)).any (·.1) = false) (hne : args ≠ []) : SimI X A envs own env r ρ₀ (.Call (.Name "range" p) args [] pos) (rangeD ds) := by
  intro F s₀ m H ρ s hp I res H' hd Q E hQ hE
  refine wpAny_Call_NameR (load_builtin T C I hx hm (by decide) (show bootBuiltins "range" = some (.type "range") by decide +kernel) ?_)
  refine callWith_type hpl ?_
  refine (sim_args ha (back_ne hne)).use hp I hd hE fun xs as H₁ ρ₁ s₁ hp1 I1 hv hd1 => ?_
  rw [hv.1]
  unfold liftD at hd1
  cases hr : rangeV xs H₁ with
  | none => rw [hr] at hd1; cases hd1
  | some q =>
    rw [hr] at hd1; cases hd1
    exact rangeTo I1 hv.2 hr fun J ρ' s' h' => hQ _ rfl J ρ' s' (hp1.trans h')

theorem owned_goes {M : Model} {target : Expr} {I : Addr} {v : Value} {s : Shared} {E : Value → Shared → Prop} {Q : Unit → Shared → Prop} (h : ∃ o vs, s.heap.get? I = some o ∧ o.data = .fields vs ∧ ItCls o) (hQ : Q () s) : wpAny M A (letOwnedTupleGo target (.ref I) v) Q E s := by
  obtain ⟨o, vs, ho, hd, hc⟩ := h
  unfold letOwnedTupleGo
  split
  · cases v with
    | ref a =>
      refine wpAny_bind (wpAny_load ho ?_)
      rw [hd]
      rcases hc with hc | hc <;> rw [hc] <;> (simp; exact wpAny_pure hQ)
    | _ => exact wpAny_pure hQ
  · cases v with
    | ref a =>
      refine wpAny_bind (wpAny_load ho ?_)
      rw [hd]
      rcases hc with hc | hc <;> rw [hc] <;> (simp; exact wpAny_pure hQ)
    | _ => exact wpAny_pure hQ
  · exact wpAny_pure hQ

/-- where a for | comprehension puts its item -/
theorem simT_one (C : Cok X A envs own env r n) (hown : ∀ p ∈ env.cells, p.2 ∈ own) {x : Str} {i : Nat} {b : Bool} {pos : Pos} (hx : r.res x = some (.slot i b)) {F : Fz} {s₀ : Shared} {m : M} {H : HP} {ρ : List Addr} {s : Shared} (I : Inv X envs F own env r.res s₀ m H ρ s) {v : PV} {v' : Value} (hv : VRel ρ v v')
    {Q : Unit → Shared → Prop} {E : Value → Shared → Prop} (hQ : ∀ s', Inv X envs F own env r.res s₀ (upd m i v) H ρ s' → Q () s') : wpAny (model X.prog X.w) A (assign (.Name x pos) env v') Q E s :=
  wpAny_assign_Name (store_var C I hx hv (fun _ c hc => hown _ (mem_of_lookup hc)) hQ)

noncomputable def TgtOk (r : Cx) (t : Tgt) (e : Expr) : Prop := match t with
  | .one i => ∃ x b pos, e = .Name x pos ∧ r.res x = some (.slot i b)
  | .two i j => ∃ x y b c p1 p2 k pos, e = .Tuple [.Name x p1, .Name y p2] k pos ∧ r.res x = some (.slot i b) ∧ r.res y = some (.slot j c)

theorem simT (C : Cok X A envs own env r n) (hh : A.handled = none) (hown : ∀ p ∈ env.cells, p.2 ∈ own) {t : Tgt} {e : Expr} (ht : TgtOk r t e) {F : Fz} {s₀ : Shared} {m m' : M} {H : HP} {ρ : List Addr} {s : Shared} (I : Inv X envs F own env r.res s₀ m H ρ s) {v : PV} {v' : Value} (hv : VRel ρ v v') (hput : t.put v m H = some m')
    {Q : Unit → Shared → Prop} {E : Value → Shared → Prop} (hQ : ∀ s', Inv X envs F own env r.res s₀ m' H ρ s' → Q () s') : wpAny (model X.prog X.w) A (assign e env v') Q E s := by
  cases t with
  | one i =>
    obtain ⟨x, b, pos, rfl, hx⟩ := ht
    cases hput
    exact simT_one C hown hx I hv hQ
  | two i j =>
    obtain ⟨x, y, b, c, p1, p2, k, pos, rfl, hx, hy⟩ := ht
    unfold Tgt.put at hput
    simp only at hput
    cases hq : tup2At H v with
    | none => rw [hq] at hput; cases hput
    | some q =>
      rw [hq] at hput
      cases hput
      obtain ⟨_, rfl, ho⟩ := tup2At_inv hq
      refine I.isTupE hv ho fun a items n _ g hr hz => ?_
      obtain ⟨l⟩ := items
      obtain ⟨w1, w2, rfl, h1, h2⟩ := vrels_two hr
      show wpAny _ _ (do standAt pos; unpack (.ref a) [(false, assign (.Name x p1) env), (false, assign (.Name y p2) env)]) _ _ _
      refine wpAny_bind (wpAny_standAt (PyProof.Rows.unpack_tuple hh (items := #[w1, w2]) ⟨_, g, rfl, n, rfl⟩ rfl rfl fun h' hext => ?_))
      have I1 : Inv X envs F own env r.res s₀ m H ρ { s with heap := h' } := I.grow (fun b o e => hext b o (Nat.ne_of_lt (Heap.lt_size e)) e) ⟨rfl, rfl, rfl⟩
      show wpAny _ _ (do holding [w2] (assign (.Name x p1) env w1); holding [] (assign (.Name y p2) env w2); pure ()) _ _ _
      exact wpAny_bind (wpAny_holding (simT_one C hown hx I1 h1 fun s1 I2 => wpAny_bind (wpAny_holding (simT_one C hown hy I2 h2 fun s2 I3 => wpAny_pure (hQ s2 I3)))))

theorem forGo_cons {t : Tgt} {src : Src} {body fin : SD} {v : PV} {vs : List PV} {m : M} {H : HP} : seqS (forGo t src body (v :: vs)) fin m H =
    if src.ok H = true then (match t.put v m H with
      | some m1 => (match body m1 H with
        | some (.ok .next, m2, H2) => seqS (forGo t src body vs) fin m2 H2
        | x => x)
      | none => none) else none := by
  by_cases hok : src.ok H = true
  · rw [if_pos hok]
    cases hput : t.put v m H with
    | none => simp only [seqS, forGo, hok, hput, if_true]
    | some m1 =>
      cases hb : body m1 H with
      | none => simp only [seqS, forGo, hok, hput, hb, if_true]
      | some q =>
        obtain ⟨rs, m2, H2⟩ := q
        cases rs with
        | error c => simp only [seqS, forGo, hok, hput, hb, if_true]
        | ok f => cases f <;> simp only [seqS, forGo, hok, hput, hb, if_true]
  · rw [if_neg hok]
    simp only [seqS, forGo]
    rw [if_neg hok]

/-- where a for stands after j turns -/
structure ForAt (X : Stat) (envs : List Env) (F : Fz) (own : List Addr) (env : Env) (r : Cx) (s₀ : Shared) (src : Src) (J : Addr) (j : Nat) (m : M) (H : HP) (ρ : List Addr) (s : Shared) : Prop where
  inv : Inv X envs F own env r.res s₀ m H ρ s
  it : ItAt src ρ J j s.heap
  out : ItOut X F own ρ (frs envs) J
section
variable {F : Fz} {s₀ : Shared} {src : Src} {J : Addr} {j : Nat} {m : M} {H : HP} {ρ : List Addr} {s : Shared}
theorem ForAt.thaw (W : ForAt X envs F own env r s₀ src J j m H ρ s) {m' : M} {H' : HP} {ρ' : List Addr} {s' : Shared} (hp : ρ <+: ρ') (I' : Inv X envs (frz s ρ own) own env r.res s m' H' ρ' s') : ForAt X envs F own env r s₀ src J j m' H' ρ' s' := by
  have hfz : ∀ o, s.heap.get? J = some o → frz s ρ own J = some o := fun o ho => but_some.mpr ⟨fun q => by
    rcases List.mem_append.mp q with q | q
    · exact W.out.rho (List.mem_of_mem_drop q)
    · exact W.out.own q, ho⟩
  refine ⟨W.inv.thaw I' hp, W.it.same hp fun o ho => ?_, W.out.base, W.out.frozen, W.out.own, fun q => ?_, W.out.fs⟩
  · rcases I'.keep J o (hfz o ho) with q | ⟨q, _⟩
    · exact q
    · exact absurd q W.out.fs
  · obtain ⟨i, hi⟩ := List.getElem?_of_mem q
    by_cases hlt : i < ρ.length
    · obtain ⟨tl, rfl⟩ := hp
      rw [List.getElem?_append_left hlt] at hi
      exact W.out.rho (List.mem_of_getElem? hi)
    · have h0 : i ≠ 0 := by have := W.inv.ne; omega
      have hf := ((I'.apart i J hi).2.2.2 h0).1
      obtain ⟨o, _, ho, _⟩ := W.it.obj
      rw [hfz o ho] at hf; cases hf
theorem for_body (C : Cok X A envs own env r n) {body : List Stmt} {dbody : SD} (hb : SimS X A envs own env r ρ₀ (execs body env) dbody) (hp0 : ρ₀ <+: ρ) (W : ForAt X envs F own env r s₀ src J j m H ρ s) {m2 : M} {s2 : Shared} (I2 : Inv X envs (frz s ρ own) own env r.res s m2 H ρ s2) {rb : Except Str Fl} {mb : M} {Hb : HP} (hbd : dbody m2 H = some (rb, mb, Hb))
    {P B : Shared → Prop} {R E : Value → Shared → Prop} (hN : rb = .ok .next → ∀ ρ' s', ρ <+: ρ' → ForAt X envs F own env r s₀ src J j mb Hb ρ' s' → P s') (hR : ∀ v, rb = .ok (.ret v) → ∀ w ρ' s', ρ <+: ρ' → Inv X envs F own env r.res s₀ mb Hb ρ' s' → VRel ρ' v w → R w s')
    (hE : ∀ c, rb = .error c → ∀ e ρ' s', ρ <+: ρ' → Inv X envs F own env r.res s₀ mb Hb ρ' s' → Exc X F ρ' (flAt env) c e s'.heap → E (.ref e) s') :
    wpAny (model X.prog X.w) A (execs body env) (fun f s₃ => match f with | .next | .cont => P s₃ | .brk => B s₃ | .ret v => R v s₃) (notedBy (model X.prog X.w) A env E) s2 := by
  refine hb (frz s ρ own) s m2 H ρ s2 hp0 I2 _ _ _ hbd _ _ (fun fl e fl' ρ' s' hp I' hfl => ?_) fun c e ee ρ' s' hp I' x => ?_
  · have W' := W.thaw hp I'
    cases fl with
    | next => cases hfl; exact hN e ρ' s' hp W'
    | ret v =>
      obtain ⟨w, rfl, hw⟩ := hfl
      exact hR v e w ρ' s' hp W'.inv hw
  · have W' := W.thaw hp I'
    exact wp_noted C W'.inv (x.thaw W.inv I' hp) fun s6 I6 x6 => hE c e _ ρ' s6 hp I6 x6
end
noncomputable def ForI (X : Stat) (envs : List Env) (F : Fz) (own : List Addr) (env : Env) (r : Cx) (s₀ : Shared) (src : Src) (J : Addr) (t : Tgt) (db fin : SD) (o : Except Str Fl × M × HP) (ρ : List Addr) (k : Nat) (s : Shared) : Prop :=
  ∃ j m H ρ', k = src.items.length - j ∧ j ≤ src.items.length ∧ ρ <+: ρ' ∧ ForAt X envs F own env r s₀ src J j m H ρ' s ∧ seqS (forGo t src db (src.items.drop j)) fin m H = some o
theorem forGo_inv {t : Tgt} {src : Src} {body fin : SD} {v : PV} {vs : List PV} {m : M} {H : HP} {o : Except Str Fl × M × HP} (h : seqS (forGo t src body (v :: vs)) fin m H = some o) : src.ok H = true ∧ ∃ m1 q, t.put v m H = some m1 ∧ body m1 H = some q ∧ (q.1 = .ok .next → seqS (forGo t src body vs) fin q.2.1 q.2.2 = some o) ∧ (q.1 ≠ .ok .next → o = q) := by
  rw [forGo_cons] at h
  by_cases hok : src.ok H = true
  · rw [if_pos hok] at h
    refine ⟨hok, ?_⟩
    cases hput : t.put v m H with
    | none => rw [hput] at h; cases h
    | some m1 =>
      rw [hput] at h
      simp only at h
      cases hb : body m1 H with
      | none => rw [hb] at h; cases h
      | some q =>
        rw [hb] at h
        refine ⟨m1, q, rfl, hb, ?_⟩
        obtain ⟨rb, mb, Hb⟩ := q
        cases rb with
        | error c => cases h; exact ⟨fun e => (by cases e), fun _ => rfl⟩
        | ok f =>
          cases f with
          | next => exact ⟨fun _ => h, fun q => absurd rfl q⟩
          | ret v => cases h; exact ⟨fun e => (by cases e), fun _ => rfl⟩
  · rw [if_neg hok] at h; cases h
theorem simS_for (C : Cok X A envs own env r n) (hh : A.handled = none) (hown : ∀ p ∈ env.cells, p.2 ∈ own) {t : Tgt} {tgt iter : Expr} {body : List Stmt} {pos : Pos} {dsrc : RD Src} {dbody : SD} (ht : TgtOk r t tgt)
    (hi : SimI X A envs own env r ρ₀ iter dsrc) (hb : SimS X A envs own env r ρ₀ (execs body env) dbody) (hs : ∀ x, foldedSetIterable iter env x = pure x) :
    SimS X A envs own env r ρ₀ (exec (.For tgt iter body [] pos) env) (forS t dsrc dbody) := by
  intro F s₀ m H ρ s hp I res m' H' hd Q E hQ hE
  refine wpAny_For ?_ hs
  unfold forS runS at hd
  cases hsrc : dsrc m H with
  | none => rw [hsrc] at hd; cases hd
  | some q =>
    obtain ⟨rs, H₁⟩ := q
    rw [hsrc] at hd
    cases rs with
    | error c =>
      cases hd
      exact hi F s₀ m H ρ s hp I _ _ hsrc _ _ (fun a e => nomatch e) fun c' e => hE c' (by cases e; rfl)
    | ok src =>
      refine hi F s₀ m H ρ s hp I _ _ hsrc _ _ (fun a e J ρ₁ s₁ hp1 I1 hit hout => ?_) fun c' e => nomatch e
      cases e
      simp only at hd
      refine codeAny_forLoop_any (ForI X envs F own env r s₀ src J t dbody _ (res, m', H') ρ₁) (fun k s' hI => ?_) (src.items.length - 0) ⟨0, m, H₁, ρ₁, rfl, Nat.zero_le _, List.prefix_refl _, ⟨I1, hit, hout⟩, hd⟩
      clear hd hsrc I1 hit hout I
      obtain ⟨j, m₁, H₂, ρ', hk, hj, hp2, W, hd2⟩ := hI
      cases hdrop : src.items.drop j with
      | nil =>
        have hjl : j = src.items.length := by
          have := List.drop_eq_nil_iff.mp hdrop
          omega
        rw [hdrop] at hd2
        simp only [seqS, forGo, nextS] at hd2
        by_cases hok : src.ok H₂ = true
        · rw [if_pos hok] at hd2
          cases hd2
          refine wp_nextEnd hh W.inv W.it hok W.out hjl fun s3 I3 _ _ => ?_
          exact wpAny_execs_nil (hQ _ rfl _ ρ' s3 (hp1.trans hp2) I3 rfl)
        · rw [if_neg hok] at hd2; cases hd2
      | cons v vs =>
        have hv : src.items[j]? = some v := by rw [← List.head?_drop, hdrop]; rfl
        have hjlt := (List.getElem?_eq_some_iff.mp hv).1
        have hvs : src.items.drop (j + 1) = vs := by rw [← List.tail_drop, hdrop]; rfl
        rw [hdrop] at hd2
        obtain ⟨hok, m₂, q, hput, hbd, hnx, hno⟩ := forGo_inv hd2
        refine wp_next W.inv W.it hok W.out hv fun v' s3 I3 hit3 hv3 _ _ => ?_
        refine owned_goes hit3.obj ?_
        refine simT C hh hown ht I3.freeze hv3 hput fun s4 I4 => ?_
        refine for_body C hb (hp.trans (hp1.trans hp2)) (j := j + 1) ⟨I3, hit3, W.out⟩ I4 hbd (fun e ρ'' s5 hp5 W5 => ?_) (fun v e w ρ'' s5 hp5 I5 hw => ?_) fun c e ee ρ'' s5 hp5 I5 x => ?_
        · exact ⟨src.items.length - (j + 1), by omega, j + 1, _, _, ρ'', rfl, hjlt, hp2.trans hp5, W5, by rw [hvs]; exact hnx e⟩
        · cases hno (by rw [e]; simp)
          exact hQ _ e _ ρ'' s5 ((hp1.trans hp2).trans hp5) I5 ⟨w, rfl, hw⟩
        · cases hno (by rw [e]; simp)
          exact wp_came I5 x (let ⟨L, _, _, h, _⟩ := C.frame; ⟨L, h⟩) fun s7 I7 x7 => hE c e _ ρ'' s7 ((hp1.trans hp2).trans hp5) I7 x7
end
end Mine
namespace Mine
open PySem

section
variable {X : Stat} {A : Around} {envs : List Env} {own : List Addr} {env : Env} {r : Cx} {ρ₀ : List Addr} {n : Nat}

end
end Mine
namespace Mine
open PySem

theorem slotInC_loc {o : Str → Option VR} {x : Str} : ∀ {l : List (Str × NameKind)} {i k : Nat}, slotInC o x l i = some (.slot k false) → i ≤ k ∧ l.lookup x = some .local ∧ ∃ kd, l[k - i]? = some (x, kd)
  | [], i, k, h => by cases h
  | (y, kd) :: l, i, k, h => by
    unfold slotInC at h
    split at h
    · rename_i hxy
      subst hxy
      have hl : ((x, kd) :: l).lookup x = some kd := by rw [List.lookup_cons]; simp
      rw [hl]
      cases kd <;> simp only [Option.some.injEq, VR.slot.injEq, reduceCtorEq] at h
      · obtain ⟨rfl, _⟩ := h
        exact ⟨Nat.le_refl _, rfl, .local, by simp⟩
      · split at h
        · simp at h
        · cases h
    · rename_i hxy
      obtain ⟨h1, h3, kd', h4⟩ := slotInC_loc h
      refine ⟨by omega, ?_, kd', ?_⟩
      · rw [List.lookup_cons]
        have : (x == y) = false := by simpa using hxy
        rw [this]; exact h3
      · have : k - i = (k - (i + 1)) + 1 := by omega
        rw [this, List.getElem?_cons_succ]; exact h4
theorem slotInC_free {o : Str → Option VR} {x : Str} : ∀ {l : List (Str × NameKind)} {i k : Nat}, slotInC o x l i = some (.slot k true) → l.lookup x = some .free ∧ o x = some (.slot k true)
  | [], i, k, h => by cases h
  | (y, kd) :: l, i, k, h => by
    unfold slotInC at h
    split at h
    · rename_i hxy
      subst hxy
      have hl : ((x, kd) :: l).lookup x = some kd := by rw [List.lookup_cons]; simp
      rw [hl]
      cases kd <;> simp only [Option.some.injEq, VR.slot.injEq, reduceCtorEq, and_false] at h
      · split at h
        · rename_i j he
          simp at h; subst h
          exact ⟨rfl, he⟩
        · cases h
    · rename_i hxy
      obtain ⟨h1, h2⟩ := slotInC_free h
      refine ⟨?_, h2⟩
      rw [List.lookup_cons]
      have : (x == y) = false := by simpa using hxy
      rw [this]; exact h1
theorem slotInC_glob {o : Str → Option VR} {x : Str} : ∀ {l : List (Str × NameKind)} {i : Nat}, slotInC o x l i = some .glob → l.lookup x = some .globalImplicit
  | [], i, h => by cases h
  | (y, kd) :: l, i, h => by
    unfold slotInC at h
    split at h
    · rename_i hxy
      subst hxy
      have hl : ((x, kd) :: l).lookup x = some kd := by rw [List.lookup_cons]; simp
      rw [hl]
      cases kd <;> simp only [Option.some.injEq, reduceCtorEq] at h
      · split at h <;> cases h
      · rfl
    · rename_i hxy
      rw [List.lookup_cons]
      have : (x == y) = false := by simpa using hxy
      rw [this]; exact slotInC_glob h
theorem slotInC_mem {o : Str → Option VR} {x : Str} : ∀ {l : List (Str × NameKind)} {i : Nat} {v : VR}, slotInC o x l i = some v → ∃ kd, (x, kd) ∈ l
  | [], i, v, h => by cases h
  | (y, kd) :: l, i, v, h => by
    unfold slotInC at h
    split at h
    · rename_i hxy; subst hxy; exact ⟨kd, List.mem_cons_self⟩
    · obtain ⟨kd', hm⟩ := slotInC_mem h; exact ⟨kd', List.mem_cons_of_mem _ hm⟩

/-- the cells that a comprehension takes along -/
noncomputable def closL (env : Env) : List (Str × NameKind) → List (Str × Addr) → List (Str × Addr)
  | [], acc => acc
  | (n, k) :: r, acc => if k == .free then closL env r ((n, (env.cells.lookup n).getD 0) :: acc) else closL env r acc

theorem closGo {env : Env} (f : Str × NameKind → List (Str × Addr) → Sem (ForInStep (List (Str × Addr))))
    (hf : ∀ n k acc, f (n, k) acc = if (k == NameKind.free) = true then (cellOf env n >>= fun a => pure (ForInStep.yield ((n, a) :: acc))) else pure (ForInStep.yield acc)) :
    ∀ (names : List (Str × NameKind)) (acc : List (Str × Addr)), (∀ p ∈ names, p.2 = .free → ∃ c, env.cells.lookup p.1 = some c) → forIn names acc f = (pure (closL env names acc) : Sem (List (Str × Addr)))
  | [], acc, _ => by rw [List.forIn_nil]; rfl
  | (n, k) :: r, acc, hp => by
    rw [List.forIn_cons, hf]
    cases hk : (k == NameKind.free) with
    | true =>
      obtain ⟨c, hc⟩ := hp (n, k) List.mem_cons_self (by simpa using hk)
      have e1 : cellOf env n = pure c := by unfold cellOf; rw [hc]
      rw [if_pos rfl, e1]
      have ih := closGo f hf r ((n, c) :: acc) fun q hq => hp q (List.mem_cons_of_mem _ hq)
      have e2 : closL env ((n, k) :: r) acc = closL env r ((n, c) :: acc) := by simp only [closL, hk, if_true, hc, Option.getD_some]
      rw [e2, ← ih]
      rfl
    | false =>
      rw [if_neg (by decide)]
      have ih := closGo f hf r acc fun q hq => hp q (List.mem_cons_of_mem _ hq)
      have e2 : closL env ((n, k) :: r) acc = closL env r acc := by simp [closL, hk]
      rw [e2, ← ih]
      rfl
theorem closure_eq {env : Env} {sc : Scope} (h : ∀ p ∈ sc.names, p.2 = .free → ∃ c, env.cells.lookup p.1 = some c) : closureFor sc env = pure (closL env sc.names []) := by
  unfold closureFor
  show (forIn sc.names [] _ >>= fun cs => pure cs) = _
  rw [closGo _ (fun n k acc => rfl) sc.names [] h]
  rfl

theorem closL_out {env : Env} {y : Str} : ∀ (names : List (Str × NameKind)) (acc : List (Str × Addr)), y ∉ names.map (·.1) → (closL env names acc).lookup y = acc.lookup y
  | [], _, _ => rfl
  | (n, k) :: r, acc, h => by
    simp only [List.map_cons, List.mem_cons, not_or] at h
    unfold closL
    split
    · rw [closL_out r _ h.2, List.lookup_cons]
      have : (y == n) = false := by simpa using h.1
      rw [this]
    · exact closL_out r _ h.2
theorem closL_in {env : Env} {y : Str} {c : Addr} (hc : env.cells.lookup y = some c) : ∀ (names : List (Str × NameKind)) (acc : List (Str × Addr)), (names.map (·.1)).Nodup → names.lookup y = some .free → (closL env names acc).lookup y = some c
  | [], _, _, h => by cases h
  | (n, k) :: r, acc, hn, h => by
    simp only [List.map_cons, List.nodup_cons] at hn
    rw [List.lookup_cons] at h
    unfold closL
    cases hb : y == n with
    | true =>
      rw [hb] at h
      have : y = n := beq_iff_eq.mp hb
      subst this
      cases h
      rw [if_pos (by decide), closL_out r _ hn.1, List.lookup_cons]
      simp [hc]
    | false =>
      rw [hb] at h
      split
      · exact closL_in hc r _ hn.2 h
      · exact closL_in hc r _ hn.2 h
theorem closL_mem {env : Env} : ∀ (names : List (Str × NameKind)) (acc : List (Str × Addr)) (_ : ∀ p ∈ names, p.2 = .free → ∃ c, env.cells.lookup p.1 = some c) (p : Str × Addr), p ∈ closL env names acc → p ∈ env.cells ∨ p ∈ acc
  | [], _, _, p, h => .inr h
  | (n, k) :: r, acc, hf, p, h => by
    unfold closL at h
    split at h
    · rename_i hk
      obtain ⟨c, hc⟩ := hf (n, k) List.mem_cons_self (by simpa using hk)
      rcases closL_mem r _ (fun q hq => hf q (List.mem_cons_of_mem _ hq)) p h with q | q
      · exact .inl q
      · rcases List.mem_cons.mp q with rfl | q
        · rw [hc]; exact .inl (mem_of_lookup hc)
        · exact .inr q
    · exact closL_mem r _ (fun q hq => hf q (List.mem_cons_of_mem _ hq)) p h
theorem closL_names {env : Env} : ∀ (names : List (Str × NameKind)) (acc : List (Str × Addr)), (names.map (·.1)).Nodup → (acc.map (·.1)).Nodup → (∀ x ∈ names.map (·.1), x ∉ acc.map (·.1)) → ((closL env names acc).map (·.1)).Nodup
  | [], _, _, h, _ => h
  | (y, k) :: r, acc, h1, h2, h3 => by
    simp only [List.map_cons, List.nodup_cons] at h1
    unfold closL
    split
    · refine closL_names r _ h1.2 ?_ fun x hx => ?_
      · simp only [List.map_cons, List.nodup_cons]
        exact ⟨h3 y (by simp), h2⟩
      · simp only [List.map_cons, List.mem_cons, not_or]
        exact ⟨fun q => h1.1 (q ▸ hx), h3 x (by simp only [List.map_cons, List.mem_cons]; exact .inr hx)⟩
    · exact closL_names r _ h1.2 h2 fun x hx => h3 x (by simp only [List.map_cons, List.mem_cons]; exact .inr hx)

theorem lookup_map {x : Str} {g : Str → NameKind → NameKind} : ∀ (l : List (Str × NameKind)), (l.map fun p => (p.1, g p.1 p.2)).lookup x = (l.lookup x).map (g x)
  | [] => rfl
  | (y, k) :: r => by
    rw [List.map_cons, List.lookup_cons, List.lookup_cons]
    cases hb : x == y with
    | true => rw [beq_iff_eq.mp hb]; rfl
    | false => exact lookup_map r
theorem relabel_lookup {sc : Scope} {env : Env} {x : Str} : (relabel sc env).names.lookup x = (sc.names.lookup x).map fun k => if (k == .free && env.scope.kind == .function && env.kindOf x == some .cell) = true then .cell else k := by
  unfold relabel
  have e : (fun x : Str × NameKind => match x with | (n, k) => if (k == NameKind.free && env.scope.kind == ScopeKind.function && env.kindOf n == some NameKind.cell) = true then (n, NameKind.cell) else (n, k)) =
      fun p => (p.1, (fun (n : Str) (k : NameKind) => if (k == NameKind.free && env.scope.kind == ScopeKind.function && env.kindOf n == some NameKind.cell) = true then NameKind.cell else k) p.1 p.2) := by
    funext p
    obtain ⟨n, k⟩ := p
    simp only
    split <;> rfl
  show (sc.names.map (fun x : Str × NameKind => match x with | (n, k) => if (k == NameKind.free && env.scope.kind == ScopeKind.function && env.kindOf n == some NameKind.cell) = true then (n, NameKind.cell) else (n, k))).lookup x = _
  rw [e, lookup_map (g := fun (n : Str) (k : NameKind) => if (k == NameKind.free && env.scope.kind == ScopeKind.function && env.kindOf n == some NameKind.cell) = true then NameKind.cell else k)]

section
variable {X : Stat} {A : Around} {envs : List Env} {own : List Addr} {env : Env} {r : Cx} {ρ₀ : List Addr} {n : Nat}

theorem compOk_parts {sc : Scope} (h : compOk r sc = true) : sc.kind = .function ∧ (sc.names.map (·.1)).Nodup ∧ (∀ p ∈ sc.names, (p.1 == ("__debug__" : Str)) = false) ∧ (∀ p ∈ sc.names, p.2 ≠ .cell) ∧ ∀ p ∈ sc.names, p.2 = .free → ∃ i, r.res p.1 = some (.slot i true) := by
  unfold compOk at h
  simp only [Bool.and_eq_true, beq_iff_eq, decide_eq_true_eq] at h
  obtain ⟨⟨⟨h1, h2⟩, h3⟩, h4⟩ := h
  refine ⟨h1, h2, fun p hp => by simpa using List.all_eq_true.mp h3 p hp, fun p hp q => ?_, fun p hp q => ?_⟩
  · have := List.all_eq_true.mp h4 p hp
    rw [q] at this; cases this
  · have := List.all_eq_true.mp h4 p hp
    rw [q] at this
    simp only at this
    split at this
    · rename_i i he; exact ⟨i, he⟩
    · cases this

theorem Cok.toComp (C : Cok X A envs own env r n) (hic : r.ic = false) {sc : Scope} (hok : compOk r sc = true) {Cc : Addr} (hne : ∀ p ∈ env.cells, p.2 ≠ Cc) : Cok X A envs [Cc] (compEnvC sc (closL env sc.names []) Cc env) (r.comp sc) n := by
  obtain ⟨hk, hn, hdb, hcell, hfree⟩ := compOk_parts hok
  have hfr : ∀ p ∈ sc.names, p.2 = .free → ∃ c, env.cells.lookup p.1 = some c := fun p hp q => by
    obtain ⟨i, hi⟩ := hfree p hp q
    exact (C.cell p.1 i hi).2
  have kindOf : ∀ x, (compEnvC sc (closL env sc.names []) Cc env).kindOf x = (sc.names.lookup x).map fun k => if (k == .free && env.scope.kind == .function && env.kindOf x == some .cell) = true then .cell else k := fun x => relabel_lookup
  have mem : ∀ p ∈ closL env sc.names [], p ∈ env.cells := fun p hp => by
    rcases closL_mem sc.names [] hfr p hp with q | q
    · exact q
    · cases q
  refine ⟨C.frames, C.depth, C.units, hk, C.globals, C.builtins, fun x hx => ?_, fun x i hx => ?_, fun x i hx => ?_, fun x y i b b' hx hy => ?_, fun x v hx => ?_, C.hd, fun h => (by cases h), ?_, fun p hp => hne p (mem p hp), C.frame⟩
  · rw [kindOf, slotInC_glob hx]; rfl
  · rw [kindOf, (slotInC_loc hx).2.1]; rfl
  · obtain ⟨h1, h2⟩ := slotInC_free hx
    obtain ⟨hc, c, hcl⟩ := C.cell x i h2
    refine ⟨?_, c, closL_in hcl sc.names [] hn h1⟩
    rw [kindOf, h1]
    simp only [Option.map_some]
    rw [if_pos (by rw [C.kind, hc]; rfl)]
  · cases b <;> cases b'
    · obtain ⟨_, _, _, h1⟩ := slotInC_loc hx
      obtain ⟨_, _, _, h2⟩ := slotInC_loc hy
      rw [h1] at h2; cases h2; rfl
    · have h1 := (slotInC_loc hx).1
      have h2 := C.bound hic y i true (slotInC_free hy).2
      omega
    · have h1 := (slotInC_loc hy).1
      have h2 := C.bound hic x i true (slotInC_free hx).2
      omega
    · exact C.inj x y i true true (slotInC_free hx).2 (slotInC_free hy).2
  · obtain ⟨kd, hm⟩ := slotInC_mem hx
    exact hdb (x, kd) hm
  · have hnm := closL_names (env := env) sc.names [] hn (by simp) (by simp)
    show (closL env sc.names []).Pairwise fun x y => x.2 ≠ y.2
    have hpw : (closL env sc.names []).Pairwise fun x y => x.1 ≠ y.1 := List.pairwise_map.mp hnm
    exact hpw.imp_of_mem fun {a b} ha hb hab e => hab (by
      have ha' := mem a ha
      have hb' := mem b hb
      obtain ⟨a1, a2⟩ := a
      obtain ⟨b1, b2⟩ := b
      simp only at e ⊢
      subst e
      exact name_of_addr C.cellsApart ha' hb')
end
end Mine
namespace Mine
open PySem

section
variable {X : Stat} {A : Around} {envs : List Env} {F : Fz} {own : List Addr} {env : Env} {r : Cx} {s₀ : Shared} {m : M} {H : HP} {ρ : List Addr} {s : Shared} {n : Nat}

/-- places that a comprehension holds: nobody else knows them -/
structure Off (X : Stat) (envs : List Env) (F : Fz) (own : List Addr) (env : Env) (ρ : List Addr) (a : Addr) : Prop where
  own : a ∉ own
  fs : a ∉ frs envs
  cells : a ∉ env.cells.map (·.2)
  frozen : F a = none
  base : X.base.get? a = none
  rho : a ∉ ρ

theorem off_fresh (I : Inv X envs F own env r.res s₀ m H ρ s) {a : Addr} (ha : s.heap.get? a = none) : Off X envs F own env ρ a := by
  have o := fresh_out I ha
  refine ⟨o.own, o.fs, fun q => ?_, o.frozen, o.base, o.rho⟩
  obtain ⟨p, hp, rfl⟩ := List.mem_map.mp q
  obtain ⟨v, o, ho, _⟩ := I.cells p hp; rw [ha] at ho; cases ho

theorem Off.grow {ρ' : List Addr} {s' : Shared} {off : List Addr} {H' : HP} {m' : M} {a : Addr} (o : Off X envs F own env ρ a) (hp : ρ <+: ρ') (hn : ∀ (i : Nat) (b : Addr), ρ'[i]? = some b → ρ.length ≤ i → b ≠ a) : Off X envs F own env ρ' a := by
  refine ⟨o.own, o.fs, o.cells, o.frozen, o.base, fun q => ?_⟩
  obtain ⟨i, hi⟩ := List.getElem?_of_mem q
  by_cases hlt : i < ρ.length
  · obtain ⟨tl, rfl⟩ := hp
    rw [List.getElem?_append_left hlt] at hi
    exact o.rho (List.mem_of_getElem? hi)
  · exact hn i a hi (by omega) rfl

/-- only places that nobody knows are changed -/
theorem Inv.offStep {s' : Shared} {off : List Addr} (I : Inv X envs F own env r.res s₀ m H ρ s) (ho : ∀ a ∈ off, Off X envs F own env ρ a) (hk : ∀ b o, b ∉ off → s.heap.get? b = some o → s'.heap.get? b = some o) (hs : Same s s') : Inv X envs F own env r.res s₀ m H ρ s' := by
  refine I.moveOff (off := off) (fun b o e => ?_) (fun a ha => ⟨(ho a ha).own, (ho a ha).fs, (ho a ha).cells, (ho a ha).frozen, (ho a ha).base⟩) (List.prefix_refl _) I.len I.nodup (fun i o e => ?_) (fun i a e hi => ?_) (fun b o e => ?_) hs
  · obtain ⟨h1, h2⟩ := but_some.mp e
    exact .inl (hk b o (fun q => h1 (List.mem_append_right _ q)) h2)
  · obtain ⟨a, ob, h1, h2, h3⟩ := I.objs i o e
    exact ⟨a, ob, h1, hk a ob (fun q => (ho a q).rho (List.mem_of_getElem? h1)) h2, h3⟩
  · have := (List.getElem?_eq_some_iff.mp e).1
    omega
  · exact hk b o (fun q => by rw [(ho b q).base] at e; cases e) (I.base b o e)

/-- the comprehension's own frame -/
theorem Inv.inner (I : Inv X envs F own env r.res s₀ m H ρ s) (C : Cok X A envs own env r n) (hic : r.ic = false) {sc : Scope} (hok : compOk r sc = true) {Cc : Addr} (ho : Off X envs F own env ρ Cc) {mr : Str → Option Value} (hns : s.heap.Ns Cc mr) {x : Str} {i : Nat} (hx : (r.comp sc).res x = some (.slot i false)) {v : PV} {v' : Value}
    (hmx : mr x = some v') (hv : VRel ρ v v') : Inv X envs (but s.heap (ρ.drop 1 ++ [Cc])) [Cc] (compEnvC sc (closL env sc.names []) Cc env) (r.comp sc).res s (updC m i v) H ρ s := by
  obtain ⟨hk, hn, hdb, hcell, hfree⟩ := compOk_parts hok
  have hfr : ∀ p ∈ sc.names, p.2 = .free → ∃ c, env.cells.lookup p.1 = some c := fun p hp q => by
    obtain ⟨i, hi⟩ := hfree p hp q
    exact (C.cell p.1 i hi).2
  have mem : ∀ p ∈ closL env sc.names [], p ∈ env.cells := fun p hp => by
    rcases closL_mem sc.names [] hfr p hp with q | q
    · exact q
    · cases q
  refine ⟨fun b o e => .inl (but_some.mp e).2, I.base, I.frames, fun a ha => ?_, fun a ha => ?_, ⟨mr, hns⟩, List.mem_singleton_self _, fun a ha => ?_, fun p hp => I.cells p (mem p hp), fun y j b hy w hw => ?_, I.len, I.objs, I.nodup, fun j a e => ?_, Same.refl s, I.ne⟩
  · unfold but; rw [if_pos (List.mem_append_right _ ha)]
  · rw [List.mem_singleton] at ha; subst ha; exact ho.base
  · rw [List.mem_singleton] at ha; subst ha
    obtain ⟨o, es, ep, ho', hd, _⟩ := hns
    exact ⟨o, ho', fun vs q => by rw [hd] at q; cases q⟩
  · unfold updC at hw
    by_cases hj : j = i
    · subst hj
      rw [if_pos rfl] at hw; cases hw
      have hyx : y = x := (C.toComp hic hok (Cc := Cc) (fun p hp q => ho.cells (List.mem_map.mpr ⟨p, hp, q⟩))).inj y x j b false hy hx
      subst hyx
      rw [hx] at hy; cases hy
      exact ⟨v', ⟨mr, hns, hmx⟩, hv⟩
    · rw [if_neg hj] at hw
      split at hw
      · rename_i hlt
        cases b with
        | false =>
          have := (slotInC_loc hy).1
          omega
        | true =>
          obtain ⟨h1, h2⟩ := slotInC_free hy
          obtain ⟨w', ⟨c, hc, hcell'⟩, hw'⟩ := I.vars y j true h2 w hw
          exact ⟨w', ⟨c, closL_in hc sc.names [] hn h1, hcell'⟩, hw'⟩
      · cases hw
  · have ap := I.apart j a e
    refine ⟨fun q => ?_, ap.2.1, fun q => ?_, fun h0 => ⟨?_, (ap.2.2.2 h0).2⟩⟩
    · rw [List.mem_singleton] at q; subst q
      exact ho.rho (List.mem_of_getElem? e)
    · obtain ⟨p, hp, rfl⟩ := List.mem_map.mp q
      exact ap.2.2.1 (List.mem_map.mpr ⟨p, mem p hp, rfl⟩)
    · unfold but
      rw [if_pos]
      refine List.mem_append_left _ (List.mem_of_getElem? (i := j - 1) ?_)
      rw [List.getElem?_drop, show 1 + (j - 1) = j by omega]; exact e

/-- back from the comprehension's frame -/
theorem Inv.outer {sc : Scope} {Cc : Addr} {mi : M} {H' : HP} {ρ' : List Addr} {s' : Shared} {cenv : Env} {rs : Str → Option VR} (I : Inv X envs F own env r.res s₀ m H ρ s) (ho : Off X envs F own env ρ Cc)
    (I' : Inv X envs (but s.heap (ρ.drop 1 ++ [Cc])) [Cc] cenv rs s mi H' ρ' s') (hp : ρ <+: ρ') :
    Inv X envs F own env r.res s₀ m H' ρ' s' ∧ (∀ a o, a ≠ Cc → a ∉ ρ → a ∉ frs envs → s.heap.get? a = some o → s'.heap.get? a = some o) ∧ (∀ (i : Nat) (b : Addr), ρ'[i]? = some b → ρ.length ≤ i → s.heap.get? b = none) := by
  have new : ∀ (i : Nat) (b : Addr), ρ'[i]? = some b → ρ.length ≤ i → s.heap.get? b = none := fun i b e hi => by
    have h0 : i ≠ 0 := by have := I.ne; omega
    have ap := I'.apart i b e
    have hfz := (ap.2.2.2 h0).1
    unfold but at hfz
    split at hfz
    · rename_i hm
      exfalso
      rcases List.mem_append.mp hm with q | q
      · obtain ⟨j, hj⟩ := List.getElem?_of_mem (List.mem_of_mem_drop q)
        have hj' := getElem?_prefix hp hj
        have := (List.getElem?_inj (List.getElem?_eq_some_iff.mp hj').1 I'.nodup).mp (hj'.trans e.symm)
        have := (List.getElem?_eq_some_iff.mp hj).1
        omega
      · exact ap.1 q
    · exact hfz
  refine ⟨?_, fun a o h1 h2 h3 e => ?_, new⟩
  · refine I.moveOff (off := [Cc]) I'.keep (fun a ha => ?_) hp I'.len I'.nodup I'.objs (fun i a e hi => .inl (new i a e hi)) I'.base I'.same
    rw [List.mem_singleton] at ha; subst ha
    exact ⟨ho.own, ho.fs, ho.cells, ho.frozen, ho.base⟩
  · have : but s.heap (ρ.drop 1 ++ [Cc]) a = some o := but_some.mpr ⟨fun q => by
      rcases List.mem_append.mp q with q | q
      · exact h2 (List.mem_of_mem_drop q)
      · rw [List.mem_singleton] at q; exact h1 q, e⟩
    rcases I'.keep a o this with q | ⟨q, _⟩
    · exact q
    · exact absurd q h3

theorem noErr_ok {α : Type} {d : RD α} {m : M} {H H' : HP} {e : Except Str α} (h : noErr d m H = some (e, H')) : ∃ a, e = .ok a ∧ d m H = some (.ok a, H') := by
  unfold noErr at h
  split at h
  · rename_i a H₁ he
    cases h
    exact ⟨a, rfl, he⟩
  · cases h

end
end Mine
namespace Mine
open PySem

section
variable {X : Stat} {A : Around} {envs : List Env} {F : Fz} {own : List Addr} {env : Env} {r : Cx} {s₀ : Shared} {m : M} {H : HP} {ρ : List Addr} {s : Shared} {n : Nat}

theorem call_append {prog : Program} {w : World} {E : Value → Shared → Prop} {D : Addr} {items : Array Value} {c : Nat} {x : Value} {Q : Value → Shared → Prop} (ho : s.heap.get? D = some ⟨.type "list", none, .seq items c, #[]⟩) (hsz : items.size ≤ sizeLine)
    (hQ : Q .none { s with heap := s.heap.update D (Obj.mapSeq fun xs => xs.push x) }) : wpAny (model prog w) A (call (.builtin "list.append") [.ref D, x]) Q E s :=
  call_meets slot_list_append ⟨_, ho, rfl⟩ entry_list_append (args_list_append _ _) (list_append D items c x hsz) ⟨ho, hQ⟩

theorem compStep_len {test : TD} {elt : ED} {acc vs : List PV} {m : M} {H H' : HP} (h : compStep test elt acc m H = some (.ok vs, H')) : acc.length ≤ vs.length := by
  unfold compStep bindD at h
  split at h
  · rename_i b H₁ hb
    cases b with
    | true =>
      simp only [if_true] at h
      split at h
      · cases h; simp
      · cases h
      · cases h
    | false => cases h; exact Nat.le_refl _
  · cases h
  · cases h
theorem compGo_room {i : Nat} {src : Src} {test : TD} {elt : ED} : ∀ {l acc : List PV} {o : Except Str (List PV)} {m : M} {H H' : HP}, compGo i src test elt l acc m H = some (o, H') → (∀ vs, o = .ok vs → roomy vs.length = true) → acc.length ≤ 1000000
  | [], acc, o, m, H, H', h, hr => by cases h; exact of_decide_eq_true (hr _ rfl)
  | v :: l, acc, o, m, H, H', h, hr => by
    unfold compGo at h
    split at h
    · split at h
      · rename_i acc' H₁ hs
        exact Nat.le_trans (compStep_len hs) (compGo_room h hr)
      · rename_i c H₁ hs
        by_cases hq : roomy acc.length = true
        · exact of_decide_eq_true hq
        · rw [if_neg hq] at h; cases h
      · cases h
    · cases h

/-- an exception of the comprehension's frame, seen from without -/
theorem Exc.outer {fl : Value → Prop} {c : Str} {e Cc : Addr} {mi : M} {H' : HP} {ρ' : List Addr} {s' : Shared} {cenv : Env} {rs : Str → Option VR} (I : Inv X envs F own env r.res s₀ m H ρ s)
    (I' : Inv X envs (but s.heap (ρ.drop 1 ++ [Cc])) [Cc] cenv rs s mi H' ρ' s') (hp : ρ <+: ρ') (x : Exc X (but s.heap (ρ.drop 1 ++ [Cc])) ρ' fl c e s'.heap) : Exc X F ρ' fl c e s'.heap := by
  have key : ∀ a o vs, s'.heap.get? a = some o → o.data = .fields vs → but s.heap (ρ.drop 1 ++ [Cc]) a = none → a ∉ ρ' → F a = none := fun a o vs ho hd h1 h2 => by
    have hn : s.heap.get? a = none := by
      unfold but at h1
      split at h1
      · rename_i hm
        exfalso
        rcases List.mem_append.mp hm with q | q
        · exact h2 (hp.subset (List.mem_of_mem_drop q))
        · obtain ⟨o', ho', hf'⟩ := I'.ownIn a q
          rw [ho] at ho'; cases ho'; exact hf' vs hd
      · exact h1
    cases hq : F a with
    | none => rfl
    | some o => rcases I.keep a o hq with q | ⟨_, sl, q⟩ <;> (rw [hn] at q; cases q)
  obtain ⟨⟨Cl, oe, vs, hC, he, hcls, hd, hcase⟩, hnew, hfz, hρ, hdt⟩ := x
  refine ⟨⟨Cl, oe, vs, hC, he, hcls, hd, ?_⟩, hnew, key e oe vs he hd hfz hρ, hρ, hdt⟩
  rcases hcase with h1 | ⟨T, oT, ts, y, h1, hTe, hTb, hTF, hTρ, hT, hdT, h3, hfl⟩
  · exact .inl h1
  · exact .inr ⟨T, oT, ts, y, h1, hTe, hTb, key T oT ts hT hdT hTF hTρ, hTρ, hT, hdT, h3, hfl⟩

noncomputable def TestOk (X : Stat) (A : Around) (envs : List Env) (env : Env) (r : Cx) (sc : Scope) (ifs : List Expr) (dt : TD) : Prop :=
  (ifs = [] ∧ dt = pureD true) ∨ (∃ c, ifs = [c] ∧ ∀ Cc ρ₀, (∀ p ∈ env.cells, p.2 ≠ Cc) → Sim X A envs [Cc] (compEnvC sc (closL env sc.names []) Cc env) (r.comp sc) ρ₀ TRel (isTrue c (compEnvC sc (closL env sc.names []) Cc env) (eval c (compEnvC sc (closL env sc.names []) Cc env))) dt) ∨ dt = stuckD

/-- where a comprehension stands after j turns -/
structure CompAt (X : Stat) (envs : List Env) (F : Fz) (own : List Addr) (env : Env) (r : Cx) (s₀ : Shared) (m : M) (src : Src) (J D Cc : Addr) (j : Nat) (acc : List PV) (H : HP) (ρ : List Addr) (s : Shared) : Prop where
  inv : Inv X envs F own env r.res s₀ m H ρ s
  it : ItAt src ρ J j s.heap
  dst : ∃ items c, s.heap.get? D = some ⟨.type "list", none, .seq items c, #[]⟩ ∧ VRels ρ acc items.toList
  ns : ∃ mr, s.heap.Ns Cc mr
  oJ : Off X envs F own env ρ J
  oD : Off X envs F own env ρ D
  oC : Off X envs F own env ρ Cc
theorem off_grow {ρ' : List Addr} {a : Addr} (o : Off X envs F own env ρ a) (hp : ρ <+: ρ') (ha : ∃ ob, s.heap.get? a = some ob) (hn : ∀ (i : Nat) (b : Addr), ρ'[i]? = some b → ρ.length ≤ i → s.heap.get? b = none) : Off X envs F own env ρ' a :=
  o.grow (s' := s) (off := []) (H' := []) (m' := fun _ => none) hp fun k b e hk q => by
    obtain ⟨ob, ho⟩ := ha
    have := hn k b e hk
    rw [q, ho] at this; cases this
section
variable {src : Src} {J D Cc : Addr} {j : Nat} {acc : List PV} {sc : Scope}
theorem CompAt.out {mi : M} {H' : HP} {ρ' : List Addr} {s' : Shared} {cenv : Env} {rs : Str → Option VR} (W : CompAt X envs F own env r s₀ m src J D Cc j acc H ρ s) (hJC : J ≠ Cc) (hDC : D ≠ Cc) (I' : Inv X envs (but s.heap (ρ.drop 1 ++ [Cc])) [Cc] cenv rs s mi H' ρ' s') (hns : ∃ mr, s'.heap.Ns Cc mr) (hp : ρ <+: ρ') :
    CompAt X envs F own env r s₀ m src J D Cc j acc H' ρ' s' := by
  obtain ⟨O1, O2, O3⟩ := W.inv.outer (sc := default) W.oC I' hp
  refine ⟨O1, W.it.same hp fun o ho => O2 J o hJC W.oJ.rho W.oJ.fs ho, ?_, hns, off_grow W.oJ hp ?_ O3, off_grow W.oD hp ?_ O3, off_grow W.oC hp ?_ O3⟩
  · obtain ⟨items, c, g, hr⟩ := W.dst
    exact ⟨items, c, O2 D _ hDC W.oD.rho W.oD.fs g, hr.mono hp⟩
  · obtain ⟨o, _, ho, _⟩ := W.it.obj; exact ⟨o, ho⟩
  · obtain ⟨_, _, g, _⟩ := W.dst; exact ⟨_, g⟩
  · obtain ⟨_, o, _, _, ho, _⟩ := W.ns; exact ⟨o, ho⟩
theorem CompAt.push (W : CompAt X envs F own env r s₀ m src J D Cc j acc H ρ s) (hJD : J ≠ D) (hDC : D ≠ Cc) {y : PV} {w : Value} (hw : VRel ρ y w) (hsz : acc.length + 1 ≤ 1000000) {Q : Shared → Prop} {E : Value → Shared → Prop} (hQ : ∀ s', CompAt X envs F own env r s₀ m src J D Cc j (acc ++ [y]) H ρ s' → Q s') :
    wpAny (model X.prog X.w) A (call (.builtin "list.append") [.ref D, w]) (fun _ s => Q s) E s := by
  obtain ⟨items, c, g, hr⟩ := W.dst
  have hl := hr.length
  simp only [Array.length_toList] at hl
  refine call_append g (by have := sizeLine_ge; omega) (hQ _ ⟨?_, ?_, ⟨items.push w, _, Heap.get?_update_self _ g rfl, ?_⟩, ?_, W.oJ, W.oD, W.oC⟩)
  · exact W.inv.offStep (off := [D]) (fun a ha => by rw [List.mem_singleton] at ha; subst ha; exact W.oD) (fun b o hb e => (Heap.get?_update_other _ _ (fun q => hb (by rw [← q]; exact List.mem_singleton_self _))).trans e) ⟨rfl, rfl, rfl⟩
  · exact W.it.same (List.prefix_refl _) fun o ho => (Heap.get?_update_other _ _ (Ne.symm hJD)).trans ho
  · rw [Array.toList_push]
    exact hr.append ⟨hw, trivial⟩
  · obtain ⟨mr, o, es, ep, ho, hh⟩ := W.ns
    exact ⟨mr, o, es, ep, (Heap.get?_update_other _ _ hDC).trans ho, hh⟩
/-- the item is put into the comprehension's own name -/
theorem CompAt.put {s' : Shared} (W : CompAt X envs F own env r s₀ m src J D Cc j acc H ρ s) (hJC : J ≠ Cc) (hDC : D ≠ Cc) {mr : Str → Option Value} (hns : s'.heap.Ns Cc mr) (hsb : ∀ b, b ≠ Cc → s'.heap.get? b = s.heap.get? b) (hs : Same s s') : CompAt X envs F own env r s₀ m src J D Cc j acc H ρ s' := by
  refine ⟨W.inv.offStep (off := [Cc]) (fun a ha => by rw [List.mem_singleton] at ha; subst ha; exact W.oC) (fun b o hb e => (hsb b (fun q => hb (by rw [q]; exact List.mem_singleton_self _))).trans e) hs, W.it.same (List.prefix_refl _) fun o ho => (hsb J hJC).trans ho, ?_, ⟨mr, hns⟩, W.oJ, W.oD, W.oC⟩
  obtain ⟨items, c, g, hr⟩ := W.dst
  exact ⟨items, c, (hsb D hDC).trans g, hr⟩
theorem comp_elt {elt : Expr} {de : ED} {i : Nat} {v : PV} {o : Except Str (List PV)} {H5 H₃ : HP} {ρ5 : List Addr} {s5 : Shared} (W : CompAt X envs F own env r s₀ m src J D Cc j acc H ρ s) (hJD : J ≠ D) (hJC : J ≠ Cc) (hDC : D ≠ Cc) (hsz : ∀ acc', o = .ok acc' → acc'.length ≤ 1000000)
    (he : Sim X A envs [Cc] (compEnvC sc (closL env sc.names []) Cc env) (r.comp sc) ρ5 VRel (eval elt (compEnvC sc (closL env sc.names []) Cc env)) de)
    (hp : ρ <+: ρ5) (I' : Inv X envs (but s.heap (ρ.drop 1 ++ [Cc])) [Cc] (compEnvC sc (closL env sc.names []) Cc env) (r.comp sc).res s (updC m i v) H5 ρ5 s5)
    (hbe : bindD de (fun x => pureD (acc ++ [x])) (updC m i v) H5 = some (o, H₃)) {Q : Shared → Prop} {E : Value → Shared → Prop} (hQ : ∀ acc', o = .ok acc' → ∀ ρ6 s6, ρ5 <+: ρ6 → CompAt X envs F own env r s₀ m src J D Cc j acc' H₃ ρ6 s6 → Q s6)
    (hE : ∀ c, o = .error c → ∀ e ρ6 s6, ρ5 <+: ρ6 → Inv X envs (but s.heap (ρ.drop 1 ++ [Cc])) [Cc] (compEnvC sc (closL env sc.names []) Cc env) (r.comp sc).res s (updC m i v) H₃ ρ6 s6 → Exc X (but s.heap (ρ.drop 1 ++ [Cc])) ρ6 (flOk (compEnvC sc (closL env sc.names []) Cc env)) c e s6.heap → E (.ref e) s6) :
    wpAny (model X.prog X.w) A (eval elt (compEnvC sc (closL env sc.names []) Cc env)) (fun y s6 => wpAny (model X.prog X.w) A (call (.builtin "list.append") [.ref D, y]) (fun _ s => Q s) E s6) E s5 := by
  unfold bindD at hbe
  cases hde : de (updC m i v) H5 with
  | none => rw [hde] at hbe; cases hbe
  | some q =>
    obtain ⟨rs, H6⟩ := q
    rw [hde] at hbe
    cases rs with
    | error c =>
      cases hbe
      exact he _ _ _ _ ρ5 s5 (List.prefix_refl _) I' _ _ hde _ _ (fun y' e => nomatch e) fun c' e ee ρ6 s6 hp6 I7 x7 => hE c' (by cases e; rfl) ee ρ6 s6 hp6 I7 x7
    | ok y =>
      cases hbe
      refine he _ _ _ _ ρ5 s5 (List.prefix_refl _) I' _ _ hde _ _ (fun y' e w ρ6 s6 hp6 I7 hw => ?_) fun c' e => nomatch e
      cases e
      exact (W.out hJC hDC I7 I7.loc (hp.trans hp6)).push hJD hDC hw (by have := hsz _ rfl; simpa using this) fun s' W' => hQ _ rfl ρ6 s' hp6 W'
noncomputable def CompI (X : Stat) (envs : List Env) (F : Fz) (own : List Addr) (env : Env) (r : Cx) (s₀ : Shared) (m : M) (src : Src) (J D Cc : Addr) (i : Nat) (dt : TD) (de : ED) (o : Except Str (List PV)) (H' : HP) (ρ : List Addr) (k : Nat) (s : Shared) : Prop :=
  ∃ j acc H₂ ρ', k = src.items.length - j ∧ j ≤ src.items.length ∧ ρ <+: ρ' ∧ CompAt X envs F own env r s₀ m src J D Cc j acc H₂ ρ' s ∧ compGo i src dt de (src.items.drop j) acc m H₂ = some (o, H')
end
theorem compGo_step {i : Nat} {src : Src} {test : TD} {elt : ED} {v : PV} {l acc : List PV} {o : Except Str (List PV)} {H' : HP} (h : compGo i src test elt (v :: l) acc m H = some (o, H')) : src.ok H = true ∧ ∃ o' H₁, compStep test elt acc (updC m i v) H = some (o', H₁) ∧ (∀ acc', o' = .ok acc' → compGo i src test elt l acc' m H₁ = some (o, H')) ∧ ∀ c, o' = .error c → o = .error c ∧ H' = H₁ := by
  unfold compGo at h
  by_cases hok : src.ok H = true
  · rw [if_pos hok] at h
    refine ⟨hok, ?_⟩
    cases hst : compStep test elt acc (updC m i v) H with
    | none => rw [hst] at h; cases h
    | some q =>
      obtain ⟨rs, H₃⟩ := q
      rw [hst] at h
      cases rs with
      | error e =>
        simp only at h
        by_cases hq : roomy acc.length = true
        · rw [if_pos hq] at h; cases h
          refine ⟨_, _, rfl, ?_, ?_⟩
          · intro _ e; cases e
          · intro c e; cases e; exact ⟨rfl, rfl⟩
        · rw [if_neg hq] at h; cases h
      | ok acc' =>
        refine ⟨_, _, rfl, ?_, ?_⟩
        · intro _ e; cases e; exact h
        · intro c e; cases e
  · rw [if_neg hok] at h; cases h
theorem comp_turn (C : Cok X A envs own env r n) (hic : r.ic = false) {sc : Scope} (hok : compOk r sc = true) {elt : Expr} {x : Str} {px : Pos} {ifs : List Expr} {i : Nat} (hx : (r.comp sc).res x = some (.slot i false)) {dt : TD} {de : ED}
    {src : Src} {J D Cc : Addr} (hne : ∀ p ∈ env.cells, p.2 ≠ Cc) (ht : TestOk X A envs env r sc ifs dt)
    (he : ∀ ρ₀, Sim X A envs [Cc] (compEnvC sc (closL env sc.names []) Cc env) (r.comp sc) ρ₀ VRel (eval elt (compEnvC sc (closL env sc.names []) Cc env)) de)
    {j : Nat} {acc : List PV} {o : Except Str (List PV)} {H₃ : HP} {v : PV} {v' : Value} (W : CompAt X envs F own env r s₀ m src J D Cc j acc H ρ s) (hv : VRel ρ v v') (hJD : J ≠ D) (hJC : J ≠ Cc) (hDC : D ≠ Cc) (hst : compStep dt de acc (updC m i v) H = some (o, H₃)) (hsz : ∀ acc', o = .ok acc' → acc'.length ≤ 1000000) {Q : Shared → Prop} {E : Value → Shared → Prop}
    (hQ : ∀ acc', o = .ok acc' → ∀ ρ6 s6, ρ <+: ρ6 → CompAt X envs F own env r s₀ m src J D Cc j acc' H₃ ρ6 s6 → Q s6)
    (hE : ∀ c, o = .error c → ∀ e ρ6 s6, ρ <+: ρ6 → CompAt X envs F own env r s₀ m src J D Cc j acc H₃ ρ6 s6 → Exc X F ρ6 (flAt env) c e s6.heap → E (.ref e) s6) :
    wpAny (model X.prog X.w) A (assign (.Name x px) (compEnvC sc (closL env sc.names []) Cc env) v') (fun _ s₂ =>
          wpAny (model X.prog X.w) A (forIn ifs true fun c r => if r = true then do let ok ← isTrue c (compEnvC sc (closL env sc.names []) Cc env) (eval c (compEnvC sc (closL env sc.names []) Cc env)); pure (ForInStep.yield ok) else pure (ForInStep.yield r)) (fun ok s₃ =>
            if ok = true then wpAny (model X.prog X.w) A (eval elt (compEnvC sc (closL env sc.names []) Cc env)) (fun x s₄ =>
              wpAny (model X.prog X.w) A (call (.builtin "list.append") [.ref D, x]) (fun _ s₅ => Q s₅) (notedBy (model X.prog X.w) A (compEnvC sc (closL env sc.names []) Cc env) E) s₄) (notedBy (model X.prog X.w) A (compEnvC sc (closL env sc.names []) Cc env) E) s₃
            else Q s₃) (notedBy (model X.prog X.w) A (compEnvC sc (closL env sc.names []) Cc env) E) s₂) (notedBy (model X.prog X.w) A (compEnvC sc (closL env sc.names []) Cc env) E) s := by
  have Ci := C.toComp hic hok hne
  obtain ⟨mr, hns⟩ := W.ns
  refine wpAny_assign_Name (wpAny_storeName_local (Ci.locl x i hx) hns (fun h4 hns4 hsb4 => ?_) (by rw [Ci.kind]; rfl))
  have W4 := W.put (s' := { s with heap := h4, toks := s.toks + 1 }) hJC hDC hns4 hsb4.2 ⟨rfl, rfl, rfl⟩
  have I5 := W4.inv.inner C hic hok W4.oC hns4 hx (v := v) (v' := v') (by simp) hv
  clear hns hsb4 W
  have hE' : ∀ c, o = .error c → ∀ e ρ6 s6, ρ <+: ρ6 → Inv X envs (but h4 (ρ.drop 1 ++ [Cc])) [Cc] (compEnvC sc (closL env sc.names []) Cc env) (r.comp sc).res { s with heap := h4, toks := s.toks + 1 } (updC m i v) H₃ ρ6 s6 → Exc X (but h4 (ρ.drop 1 ++ [Cc])) ρ6 (flOk (compEnvC sc (closL env sc.names []) Cc env)) c e s6.heap → notedBy (model X.prog X.w) A (compEnvC sc (closL env sc.names []) Cc env) E (.ref e) s6 := fun c eo e ρ6 s6 hp6 I7 x7 =>
    wp_noted Ci I7 x7 fun s7 I8 x8 => hE c eo e ρ6 s7 hp6 (W4.out hJC hDC I8 I8.loc hp6) (Exc.outer W4.inv I8 hp6 x8)
  unfold compStep at hst
  rcases ht with ⟨rfl, rfl⟩ | ⟨cd, rfl, hts⟩ | rfl
  · refine wpAny_tests_nil ?_
    rw [if_pos rfl]
    exact comp_elt W4 hJD hJC hDC hsz (he ρ) (List.prefix_refl _) I5 hst hQ hE'
  · refine wpAny_tests_one ?_
    cases hdt : noErr dt (updC m i v) H with
    | none => simp only [bindD, hdt] at hst; cases hst
    | some q =>
      obtain ⟨rs, H5⟩ := q
      obtain ⟨b, rfl, hdb⟩ := noErr_ok hdt
      simp only [bindD, hdt] at hst
      refine hts Cc ρ hne _ _ _ _ ρ _ (List.prefix_refl _) I5 _ _ hdb _ _ (fun b' e bb ρ5 s5 hp5 I6 hbb => ?_) fun c' e => nomatch e
      cases e; cases hbb
      cases b with
      | true =>
        rw [if_pos rfl]
        simp only [if_true] at hst
        exact comp_elt W4 hJD hJC hDC hsz (he ρ5) hp5 I6 hst (fun acc' eo ρ6 s6 h6 => hQ acc' eo ρ6 s6 (hp5.trans h6)) fun c eo e ρ6 s6 h6 => hE' c eo e ρ6 s6 (hp5.trans h6)
      | false =>
        rw [if_neg (by decide)]
        simp only [Bool.false_eq_true, if_false] at hst
        cases hst
        exact hQ _ rfl ρ5 s5 hp5 (W4.out hJC hDC I6 I6.loc hp5)
  · cases hst
theorem comp_loop (C : Cok X A envs own env r n) (hic : r.ic = false) (hh : A.handled = none) {sc : Scope} (hok : compOk r sc = true) {elt iter : Expr} {x : Str} {px pos : Pos} {ifs : List Expr} {i : Nat} (hx : (r.comp sc).res x = some (.slot i false)) {dt : TD} {de : ED}
    (ht : TestOk X A envs env r sc ifs dt)
    (he : ∀ Cc ρ₀, (∀ p ∈ env.cells, p.2 ≠ Cc) → Sim X A envs [Cc] (compEnvC sc (closL env sc.names []) Cc env) (r.comp sc) ρ₀ VRel (eval elt (compEnvC sc (closL env sc.names []) Cc env)) de)
    {src : Src} {J D Cc : Addr} (I : Inv X envs F own env r.res s₀ m H ρ s) (hit : ItAt src ρ J 0 s.heap) (oJ : Off X envs F own env ρ J) (oD : Off X envs F own env ρ D) (oC : Off X envs F own env ρ Cc) (hJD : J ≠ D) (hJC : J ≠ Cc) (hDC : D ≠ Cc)
    (hD : s.heap.get? D = some ⟨.type "list", none, .seq #[] 0, #[]⟩) (hC : ∃ mr, s.heap.Ns Cc mr) {o : Except Str (List PV)} {H' : HP} (hgo : compGo i src dt de src.items [] m H = some (o, H')) (hroom : ∀ vs, o = .ok vs → roomy vs.length = true) (hsok : ∀ vs, o = .ok vs → src.ok H' = true) {R : Result → Shared → Prop}
    (hRe : ∀ c, o = .error c → ∀ e s' ρ', ρ <+: ρ' → Inv X envs F own env r.res s₀ m H' ρ' s' → Exc X F ρ' (flAt env) c e s'.heap → (∃ mr, s'.heap.Ns Cc mr) → Off X envs F own env ρ' Cc → R (.error (.ref e)) s')
    (hR : ∀ vs, o = .ok vs → ∀ s' ρ' items c, ρ <+: ρ' → Inv X envs F own env r.res s₀ m H' ρ' s' → s'.heap.get? D = some ⟨.type "list", none, .seq items c, #[]⟩ → VRels ρ' vs items.toList → (∃ mr, s'.heap.Ns Cc mr) → Off X envs F own env ρ' D → Off X envs F own env ρ' Cc → R (.ok .next) s') :
    codeAny (model X.prog X.w) A (.compLoop (.ListComp elt [⟨.Name x px, iter, ifs, 0⟩] sc pos) 0 (.ref J) (.ref D) (compEnvC sc (closL env sc.names []) Cc env)) R s := by
  have hne : ∀ p ∈ env.cells, p.2 ≠ Cc := fun p hp q => oC.cells (List.mem_map.mpr ⟨p, hp, q⟩)
  refine codeAny_compLoop_tests (CompI X envs F own env r s₀ m src J D Cc i dt de o H' ρ) (fun k s' hI => ?_) (src.items.length - 0) ⟨0, [], H, ρ, rfl, Nat.zero_le _, List.prefix_refl _, ⟨I, hit, ⟨#[], 0, hD, trivial⟩, hC, oJ, oD, oC⟩, hgo⟩
  obtain ⟨j, acc, H₂, ρ', hk, hj, hp2, W, hd2⟩ := hI
  have hout2 : ItOut X F own ρ' (frs envs) J := ⟨W.oJ.base, W.oJ.frozen, W.oJ.own, W.oJ.rho, W.oJ.fs⟩
  cases hdrop : src.items.drop j with
  | nil =>
    have hjl : j = src.items.length := by
      have := List.drop_eq_nil_iff.mp hdrop
      omega
    rw [hdrop] at hd2
    cases hd2
    refine wp_nextEnd hh W.inv W.it (hsok _ rfl) hout2 hjl fun s3 I3 hk3 _ => ?_
    obtain ⟨items, c, hD2, hacc⟩ := W.dst
    obtain ⟨mr, o, es, ep, ho, hh⟩ := W.ns
    exact hR _ rfl s3 ρ' items c hp2 I3 (hk3 _ _ (Ne.symm hJD) hD2) hacc ⟨mr, o, es, ep, hk3 _ _ (Ne.symm hJC) ho, hh⟩ W.oD W.oC
  | cons v vs' =>
    rw [hdrop] at hd2
    obtain ⟨hok2, o', H₃, hst, hd3, hd4⟩ := compGo_step hd2
    have hv : src.items[j]? = some v := by rw [← List.head?_drop, hdrop]; rfl
    have hjlt := (List.getElem?_eq_some_iff.mp hv).1
    have hvs : src.items.drop (j + 1) = vs' := by rw [← List.tail_drop, hdrop]; rfl
    refine wp_next W.inv W.it hok2 hout2 hv fun v' s3 I3 hit3 hv3 hk3 hs3 => ?_
    have W3 : CompAt X envs F own env r s₀ m src J D Cc (j + 1) acc H₂ ρ' s3 := by
      refine ⟨I3, hit3, ?_, ?_, W.oJ, W.oD, W.oC⟩
      · obtain ⟨items, c, hD2, hacc⟩ := W.dst
        exact ⟨items, c, hk3 _ _ (Ne.symm hJD) hD2, hacc⟩
      · obtain ⟨mr, o, es, ep, ho, hh⟩ := W.ns
        exact ⟨mr, o, es, ep, hk3 _ _ (Ne.symm hJC) ho, hh⟩
    refine comp_turn C hic hok hx hne ht (fun ρ₀ => he Cc ρ₀ hne) W3 hv3 hJD hJC hDC hst (fun acc' e => compGo_room (hd3 acc' e) hroom) (fun acc' eo ρ6 s6 h6 W6 => ?_) fun c eo e ρ6 s6 h6 W6 x6 => ?_
    · exact ⟨src.items.length - (j + 1), by omega, j + 1, acc', H₃, ρ6, rfl, hjlt, hp2.trans h6, W6, by rw [hvs]; exact hd3 _ eo⟩
    · obtain ⟨e1, e2⟩ := hd4 c eo
      subst e2
      exact hRe c e1 e s6 ρ6 (hp2.trans h6) W6.inv x6 W6.ns W6.oC
end
end Mine
namespace Mine
open PySem

section
variable {X : Stat} {A : Around} {envs : List Env} {F : Fz} {own : List Addr} {env : Env} {r : Cx} {s₀ : Shared} {m : M} {H : HP} {ρ : List Addr} {s : Shared} {n : Nat}

/-- a place that nobody knew becomes known -/
theorem Inv.adopt {D : Addr} {ob : Obj} {po : PO} (I : Inv X envs F own env r.res s₀ m H ρ s) (o : Off X envs F own env ρ D) (hob : s.heap.get? D = some ob) (ho : ORel X (ρ ++ [D]) po ob) : Inv X envs F own env r.res s₀ m (H ++ [po]) (ρ ++ [D]) s := by
  have hp : ρ <+: ρ ++ [D] := ⟨[D], rfl⟩
  refine I.moveOff (off := [D]) (fun b o e => .inl (but_some.mp e).2) (fun a ha => by rw [List.mem_singleton] at ha; subst ha; exact ⟨o.own, o.fs, o.cells, o.frozen, o.base⟩) hp (by simp [I.len]) ?_ (fun i o e => ?_) (fun i b e hi => .inr ?_) I.base (Same.refl s)
  · exact List.nodup_append.mpr ⟨I.nodup, by simp, fun x hx y hy => by
      rw [List.mem_singleton] at hy
      subst hy
      intro q; subst q; exact o.rho hx⟩
  · by_cases hi : i < H.length
    · rw [List.getElem?_append_left hi] at e
      obtain ⟨b, ob', h1, h2, h3⟩ := I.objs i o e
      exact ⟨b, ob', getElem?_prefix hp h1, h2, h3.mono hp⟩
    · rw [List.getElem?_append_right (by omega)] at e
      have h0 : i - H.length = 0 := by
        have := (List.getElem?_eq_some_iff.mp e).1
        simp at this; omega
      rw [h0] at e
      simp at e; subst e
      have hi' : i = ρ.length := by rw [I.len]; omega
      exact ⟨D, ob, by rw [hi']; simp, hob, ho⟩
  · have hlt := (List.getElem?_eq_some_iff.mp e).1
    simp at hlt
    have hi' : i = ρ.length := by omega
    rw [hi'] at e
    simp at e; subst e; exact List.mem_singleton_self _

theorem pyIter_self {src : Src} {J : Addr} {k : Nat} {Q : Value → Shared → Prop} {E : Value → Shared → Prop} (h : ItAt src ρ J k s.heap) (hQ : Q (.ref J) s) : wpAny (model X.prog X.w) A (pyIter (.ref J)) Q E s := by
  unfold ItAt at h
  split at h
  · rcases h with ⟨a, c, _, hit⟩ | h
    · exact wpAny_pyIter_rangeiter hit hQ
    · exact h.elim
  · obtain ⟨l, _, hit⟩ := h
    exact wpAny_pyIter_listiter hit hQ

/-- what is left to do behind a comprehension, its frame known -/
noncomputable def compEnd (M : Model) (A : Around) (E : Value → Shared → Prop) (use : Option (Value → Sem Unit)) (Q : Value → Shared → Prop) (acc : Value) (ce : Env) (res : Result) (s' : Shared) : Prop := match res with
  | .ok _ => (match use with
    | none => ∃ m, s'.heap.Ns ce.locals m ∧ ∀ h', Heap.SameBut ce.locals s'.heap h' → Q acc { s' with heap := h' }
    | some u => wpAny M A (u acc) (fun _ s'' => ∃ m, s''.heap.Ns ce.locals m ∧ ∀ h', Heap.SameBut ce.locals s''.heap h' → Q .none { s'' with heap := h' }) E s')
  | .error x => ∃ m, s'.heap.Ns ce.locals m ∧ ∀ h', Heap.SameBut ce.locals s'.heap h' → wpAny M A (passOn "comprehension.variables-let-go" x ce : Sem Value) (fun _ _ => False) E { s' with heap := h' }
theorem wp_comprehension {M : Model} {E : Value → Shared → Prop} {e : Expr} {sc : Scope} {pos : Pos} {new first : Sem Value} {g : Comprehension} {gs : List Comprehension} {cl : List (Str × Addr)} {use : Option (Value → Sem Unit)} {Q : Value → Shared → Prop}
    (hcl : clausesOf e = g :: gs) (hs : ∀ x, foldedSetIterable g.iter env x = pure x) (hclos : closureFor sc env = pure cl) (hk : sc.kind = .function) (hn : ∀ x ∈ sc.names, x.2 = .local → sc.names.lookup x.1 = some .local)
    (h : wpAny M A first (fun x s₁ => wpAny M A (pyIter x) (fun it s₂ => wpAny M A new (fun acc s₃ => wpAny M A (newFunctionEnv sc env.globals cl [] env.qual none .none (some env)) (fun ce s₄ =>
      codeAny M A (.compStart e 0 it acc { ce with scope := relabel sc env }) (compEnd M A E use Q acc { ce with scope := relabel sc env }) s₄) E s₃) E s₂) E s₁) E s) : wpAny M A (comprehension e sc env pos new false first use) Q E s := by
  unfold comprehension
  rw [hclos, hcl]
  refine wpAny_bind (wpAny_mono h (fun x s₁ h₁ => wpAny_bind (wpAny_standAt (wpAny_bind (wpAny_of_eq (hs x) (wpAny_bind (wpAny_holding (wpAny_mono h₁ (fun it s₂ h₂ => wpAny_standIf (wpAny_bind (wpAny_mono h₂ (fun acc s₃ h₃ => wpAny_bind (wpAny_pure (wpAny_bind (wpAny_mono h₃ (fun ce s₄ h₄ => ?_) fun _ _ y => y)))) fun _ _ y => y))) fun _ _ y => y))))))) fun _ _ y => y)
  dsimp only
  have loc : ∀ l : List (Str × NameKind), (∀ x ∈ l, x ∈ sc.names) → ∀ x ∈ l, x.2 = .local → Env.kindOf { ce with scope := relabel sc env } x.1 = some .local := fun l hl x hx e => lookup_relabel_local (hn x (hl x hx) e)
  have back : ∀ x ∈ (sc.names.filter fun x => (x.2 == .local || x.2 == .cell) && x.1 != (".0" : Str)).reverse, x ∈ sc.names := fun x hx => (List.mem_filter.mp (List.mem_reverse.mp hx)).1
  refine wpAny_holding (wpAny_bind (wpAny_attempt (wpAny_holding (wpAny_run (codeAny_mono h₄ fun res s' hr => ?_)))))
  cases res with
  | ok f =>
    cases use with
    | none =>
      obtain ⟨m, h1, h2⟩ := hr
      exact wpAny_bind (wpAny_holding (wpAny_comp_letGo (cenv := { ce with scope := relabel sc env }) hk _ s' m (loc _ back) h1 fun h' _ _ hs' => wpAny_pure (h2 h' hs')))
    | some u =>
      refine wpAny_bind (wpAny_rule (wpAny_bind (wpAny_holding (wpAny_mono hr (fun _ s'' hr' => ?_) fun _ _ y => y))))
      obtain ⟨m, h1, h2⟩ := hr'
      exact wpAny_bind (wpAny_comp_letGo (cenv := { ce with scope := relabel sc env }) hk _ s'' m (loc _ fun x hx => by
        rcases List.mem_append.mp hx with q | q
        · exact back x (List.mem_of_mem_drop q)
        · exact back x (List.mem_of_mem_take q)) h1 fun h' _ _ hs' => wpAny_pure (h2 h' hs'))
  | error x =>
    obtain ⟨m, h1, h2⟩ := hr
    exact wpAny_bind (wpAny_holding (wpAny_comp_letGo (cenv := { ce with scope := relabel sc env }) hk _ s' m (loc _ back) h1 fun h' _ _ hs' => wpAny_mono (h2 h' hs') (fun _ _ f => f.elim) fun _ _ y => y))

/-- the exception goes on -/
theorem wp_passOn {E : Value → Shared → Prop} {c : Str} {e : Addr} {what : String} {ce : Env} {P : Value → Shared → Prop} (I : Inv X envs F own env r.res s₀ m H ρ s) (x : Exc X F ρ (flAt env) c e s.heap) (hce : ce.frame = env.frame) (hf : ∃ L, env.frame = some L)
    (h : ∀ s', Inv X envs F own env r.res s₀ m H ρ s' → Exc X F ρ (flOk env) c e s'.heap → E (.ref e) s') : wpAny (model X.prog X.w) A (passOn what (.ref e) ce : Sem Value) P E s := by
  have x' := x
  obtain ⟨⟨Cl, oe, vs, hC, he, hcls, hd, hcase⟩, hnew, hfz, hρ, hdt⟩ := x
  obtain ⟨L, hf⟩ := hf
  unfold passOn
  rcases hcase with ⟨h1, L', _, q⟩ | ⟨T, oT, ts, y, h1, _⟩
  · cases q
  · refine wpAny_bind (wpAny_field he hd h1 ?_)
    rw [if_neg (show ¬ ((Value.ref T == Value.none) = true) from by simp)]
    refine wpAny_bind ?_
    refine wp_flight I (x'.imp fun v hv => .inl hv) fun s' I' x'' => ?_
    refine wpAny_throw (h s' I' (x''.imp fun v hv => ?_))
    subst hv
    rw [hce, hf]
    exact .inr ⟨L, hf, rfl⟩

theorem comp_block (C : Cok X A envs own env r n) (hic : r.ic = false) (hh : A.handled = none) {sc : Scope} (hok : compOk r sc = true) {elt iter : Expr} {x : Str} {px pos : Pos} {ifs : List Expr} {i : Nat} (hx : (r.comp sc).res x = some (.slot i false)) {dt : TD} {de : ED}
    (ht : TestOk X A envs env r sc ifs dt)
    (he : ∀ Cc ρ₀, (∀ p ∈ env.cells, p.2 ≠ Cc) → Sim X A envs [Cc] (compEnvC sc (closL env sc.names []) Cc env) (r.comp sc) ρ₀ VRel (eval elt (compEnvC sc (closL env sc.names []) Cc env)) de)
    {src : Src} {J : Addr} (I : Inv X envs F own env r.res s₀ m H ρ s) (hit : ItAt src ρ J 0 s.heap) (hout : ItOut X F own ρ (frs envs) J)
    {o : Except Str (List PV)} {H' : HP} (hgo : compGo i src dt de src.items [] m H = some (o, H')) (hroom : ∀ vs, o = .ok vs → roomy vs.length = true) (hsok : ∀ vs, o = .ok vs → src.ok H' = true) {RR : Value → Env → Result → Shared → Prop} {E : Value → Shared → Prop}
    (hRe : ∀ c, o = .error c → ∀ D Cc e s' ρ', ρ <+: ρ' → Inv X envs F own env r.res s₀ m H' ρ' s' → Exc X F ρ' (flAt env) c e s'.heap → (∃ mr, s'.heap.Ns Cc mr) → Off X envs F own env ρ' Cc → RR (.ref D) (compEnvC sc (closL env sc.names []) Cc env) (.error (.ref e)) s')
    (hR : ∀ vs, o = .ok vs → ∀ D Cc s' ρ' items c, ρ <+: ρ' → Inv X envs F own env r.res s₀ m H' ρ' s' → s'.heap.get? D = some ⟨.type "list", none, .seq items c, #[]⟩ → VRels ρ' vs items.toList → (∃ mr, s'.heap.Ns Cc mr) → Off X envs F own env ρ' D → Off X envs F own env ρ' Cc → D ≠ Cc → RR (.ref D) (compEnvC sc (closL env sc.names []) Cc env) (.ok .next) s') :
    wpAny (model X.prog X.w) A (newList []) (fun acc s₃ => wpAny (model X.prog X.w) A (newFunctionEnv sc env.globals (closL env sc.names []) [] env.qual none .none (some env)) (fun cenv s₄ =>
      codeAny (model X.prog X.w) A (.compStart (.ListComp elt [⟨.Name x px, iter, ifs, 0⟩] sc pos) 0 (.ref J) acc { cenv with scope := relabel sc env }) (RR acc { cenv with scope := relabel sc env }) s₄) E s₃) E s := by
  obtain ⟨hk, hn, hdb, hcell, hfree⟩ := compOk_parts hok
  refine wpAny_newObj_type (wpAny_newFunctionEnv hcell (by intro y hy; simp at hy) (fun h₁ hns₁ hsb₁ => ?_) hk)
  dsimp only at hns₁ hsb₁ ⊢
  generalize hH2 : s.heap.push { cls := .type "list", dict := none, data := .seq ([] : List Value).toArray } = H2 at hns₁ hsb₁ ⊢
  have hC : H2.objs.size = s.heap.objs.size + 1 := by rw [← hH2, Heap.size_push]
  have hDC : s.heap.objs.size ≠ H2.objs.size := by rw [hC]; exact Nat.ne_of_lt (Nat.lt_succ_self _)
  have below : ∀ b, b < s.heap.objs.size → b ≠ H2.objs.size ∧ b ≠ s.heap.objs.size := fun b hb => ⟨by rw [hC]; exact Nat.ne_of_lt (Nat.lt_succ_of_lt hb), Nat.ne_of_lt hb⟩
  have old : ∀ b o, s.heap.get? b = some o → h₁.get? b = some o := fun b o e => hsb₁.extBut b o (below b (Heap.lt_size e)).1 (Heap.get?_push_of_some _ (hH2 ▸ Heap.get?_push_of_some _ e))
  have hD1 : h₁.get? s.heap.objs.size = some ⟨.type "list", none, .seq #[] 0, #[]⟩ := hsb₁.extBut _ _ hDC (Heap.get?_push_of_some _ (hH2 ▸ Heap.get?_push_size _ rfl))
  have fresh : ∀ a, s.heap.objs.size ≤ a → s.heap.get? a = none := fun a ha => by
    cases e : s.heap.get? a with
    | none => rfl
    | some o' => exact absurd (Heap.lt_size e) (Nat.not_lt.mpr ha)
  have hfD := fresh _ (Nat.le_refl _)
  have hfC := fresh H2.objs.size (by rw [hC]; exact Nat.le_succ _)
  have oD := off_fresh I hfD
  have oC := off_fresh I hfC
  have oJ : Off X envs F own env ρ J := ⟨hout.own, hout.fs, (fun q => by
    obtain ⟨p, hp, e⟩ := List.mem_map.mp q
    obtain ⟨v, o, ho, hd⟩ := I.cells p hp
    obtain ⟨o', vs', ho', hd', _⟩ := hit.obj
    rw [e, ho'] at ho; cases ho
    rw [hd'] at hd; cases hd), hout.frozen, hout.base, hout.rho⟩
  have hJ : ∃ o, s.heap.get? J = some o := let ⟨o, _, ho, _⟩ := hit.obj; ⟨o, ho⟩
  have hJD : J ≠ s.heap.objs.size := fun q => by obtain ⟨o, ho⟩ := hJ; rw [q, hfD] at ho; cases ho
  have hJC : J ≠ H2.objs.size := fun q => by obtain ⟨o, ho⟩ := hJ; rw [q, hfC] at ho; cases ho
  have loop : ∀ s₃ : Shared, s₃ = { s with heap := h₁, toks := s.toks + ([] : List (Str × Value)).length } →
      codeAny (model X.prog X.w) A (.compLoop (.ListComp elt [⟨.Name x px, iter, ifs, 0⟩] sc pos) 0 (.ref J) (.ref s.heap.objs.size) (compEnvC sc (closL env sc.names []) H2.objs.size env))
        (RR (.ref s.heap.objs.size) (compEnvC sc (closL env sc.names []) H2.objs.size env)) s₃ := by
    rintro s₃ rfl
    have I1 : Inv X envs F own env r.res s₀ m H ρ { s with heap := h₁, toks := s.toks + ([] : List (Str × Value)).length } := I.grow old ⟨rfl, rfl, rfl⟩
    exact comp_loop C hic hh hok hx ht he I1 (hit.same (List.prefix_refl _) fun o ho => old _ _ ho) oJ oD oC hJD hJC hDC hD1 ⟨_, hns₁⟩ hgo hroom hsok (fun c eo e s' ρ' hp I' x h3 h5 => hRe c eo _ _ e s' ρ' hp I' x h3 h5) fun vs eo s' ρ' items c hp I' h1 h2 h3 h4 h5 => hR vs eo _ _ s' ρ' items c hp I' h1 h2 h3 h4 h5 hDC
  have hit1 : ItAt src ρ J 0 h₁ := hit.same (List.prefix_refl _) fun o ho => old _ _ ho
  exact codeAny_compStart_list (loop _ rfl) (pyIter_self (s := { s with heap := h₁, toks := s.toks + ([] : List (Str × Value)).length }) hit1 (loop _ rfl))

theorem compNames {sc : Scope} (hn : (sc.names.map (·.1)).Nodup) : ∀ p ∈ sc.names, p.2 = .local → sc.names.lookup p.1 = some .local := by
  suffices h : ∀ (l : List (Str × NameKind)), (l.map (·.1)).Nodup → ∀ p ∈ l, l.lookup p.1 = some p.2 from fun p hp e => by rw [h _ hn p hp, e]
  intro l
  induction l with
  | nil => intro _ p hp; cases hp
  | cons q l ih =>
    intro hn p hp
    simp only [List.map_cons, List.nodup_cons] at hn
    rw [List.lookup_cons]
    rcases List.mem_cons.mp hp with rfl | hp
    · simp
    · have : (p.1 == q.1) = false := by
        simp only [beq_eq_false_iff_ne, ne_eq]
        intro e
        exact hn.1 (e ▸ List.mem_map.mpr ⟨p, hp, rfl⟩)
      rw [this]; exact ih hn.2 p hp

theorem compD_inv {i : Nat} {di : RD Src} {dt : TD} {de : ED} {m : M} {H H' : HP} {res : Except Str PV} (hd : compD i di dt de m H = some (res, H')) : (∃ c, di m H = some (.error c, H') ∧ res = .error c) ∨ ∃ src H1 o H2, di m H = some (.ok src, H1) ∧ compGo i src dt de src.items [] m H1 = some (o, H2) ∧ (∀ vs, o = .ok vs → roomy vs.length = true ∧ src.ok H2 = true ∧ res = .ok (.ref H2.length) ∧ H' = H2 ++ [.list vs]) ∧ ∀ c, o = .error c → res = .error c ∧ H' = H2 := by
  unfold compD bindD at hd
  cases hdi : di m H with
  | none => rw [hdi] at hd; cases hd
  | some q =>
    obtain ⟨rs, H1⟩ := q
    rw [hdi] at hd
    cases rs with
    | error c => cases hd; exact .inl ⟨c, rfl, rfl⟩
    | ok src =>
      simp only at hd
      cases hgo : compGo i src dt de src.items [] m H1 with
      | none => rw [hgo] at hd; cases hd
      | some q =>
        obtain ⟨rs, H2⟩ := q
        rw [hgo] at hd
        refine .inr ⟨src, H1, rs, H2, rfl, hgo, ?_, ?_⟩
        · intro vs e
          subst e
          simp only [liftD] at hd
          by_cases hrm : roomy vs.length = true ∧ src.ok H2 = true
          · rw [if_pos hrm] at hd
            cases hd
            exact ⟨hrm.1, hrm.2, rfl, rfl⟩
          · rw [if_neg hrm] at hd; cases hd
        · intro c e
          subst e
          cases hd
          exact ⟨rfl, rfl⟩
theorem comp_run (C : Cok X A envs own env r n) (hic : r.ic = false) (hh : A.handled = none) {sc : Scope} (hok : compOk r sc = true) {ρ₀ : List Addr} {elt iter : Expr} {x : Str} {px pos : Pos} {ifs : List Expr} {i : Nat} (hx : (r.comp sc).res x = some (.slot i false)) {dt : TD} {de : ED} {di : RD Src}
    (hs : ∀ x, foldedSetIterable iter env x = pure x)
    (hi : SimI X A envs own env r ρ₀ iter di) (ht : TestOk X A envs env r sc ifs dt)
    (he : ∀ Cc ρ₀, (∀ p ∈ env.cells, p.2 ≠ Cc) → Sim X A envs [Cc] (compEnvC sc (closL env sc.names []) Cc env) (r.comp sc) ρ₀ VRel (eval elt (compEnvC sc (closL env sc.names []) Cc env)) de)
    (hp : ρ₀ <+: ρ) (I : Inv X envs F own env r.res s₀ m H ρ s) {res : Except Str PV} {H' : HP} (hd : compD i di dt de m H = some (res, H')) {use : Option (Value → Sem Unit)} {cp : Pos} {Q E : Value → Shared → Prop}
    (hR : ∀ vs H2, res = .ok (.ref H2.length) → H' = H2 ++ [.list vs] → roomy vs.length = true → ∀ D Cc s' ρ' items c, ρ <+: ρ' → Inv X envs F own env r.res s₀ m H2 ρ' s' → s'.heap.get? D = some ⟨.type "list", none, .seq items c, #[]⟩ → VRels ρ' vs items.toList → (∃ mr, s'.heap.Ns Cc mr) → Off X envs F own env ρ' D → Off X envs F own env ρ' Cc → D ≠ Cc → compEnd (model X.prog X.w) A E use Q (.ref D) (compEnvC sc (closL env sc.names []) Cc env) (.ok .next) s')
    (hE : ∀ c, res = .error c → ∀ e ρ' s', ρ <+: ρ' → Inv X envs F own env r.res s₀ m H' ρ' s' → Exc X F ρ' (flOk env) c e s'.heap → E (.ref e) s') :
    wpAny (model X.prog X.w) A (comprehension (.ListComp elt [⟨.Name x px, iter, ifs, 0⟩] sc pos) sc env cp (newList []) false (eval iter env) use) Q E s := by
  obtain ⟨hk, hn, hdb, hcell, hfree⟩ := compOk_parts hok
  have hfr : ∀ p ∈ sc.names, p.2 = .free → ∃ c, env.cells.lookup p.1 = some c := fun p hp q => by
    obtain ⟨i, hi⟩ := hfree p hp q
    exact (C.cell p.1 i hi).2
  refine wp_comprehension rfl hs (closure_eq hfr) hk (compNames hn) ?_
  rcases compD_inv hd with ⟨c, hdi, rfl⟩ | ⟨src, H1, o, H2, hdi, hgo, hok1, herr⟩
  · exact hi F s₀ m H ρ s hp I _ _ hdi _ _ (fun a e => nomatch e) fun c' e => hE c' (by cases e; rfl)
  · refine hi F s₀ m H ρ s hp I _ _ hdi _ _ (fun src' e J ρ1 s1 hp1 I1 hit hout => ?_) fun c e => nomatch e
    cases e
    refine comp_block (RR := fun acc ce => compEnd (model X.prog X.w) A E use Q acc ce) C hic hh hok hx ht he I1 hit hout hgo (fun vs e => (hok1 vs e).1) (fun vs e => (hok1 vs e).2.1) (fun c eo D Cc e s' ρ' hp' I' x h3 h5 => ?_) fun vs eo D Cc s' ρ' items c hp' => ?_
    · obtain ⟨e1, e2⟩ := herr c eo
      subst e2
      obtain ⟨mr, hns⟩ := h3
      refine ⟨mr, hns, fun h' hsb => ?_⟩
      have hsb' : ∀ b o, b ≠ Cc → s'.heap.get? b = some o → h'.get? b = some o := fun b o hb q => hsb.extBut b o hb q
      have I2 : Inv X envs F own env r.res s₀ m H' ρ' { s' with heap := h' } := I'.offStep (off := [Cc]) (fun a ha => by rw [List.mem_singleton] at ha; subst ha; exact h5) (fun b o hb q => hsb' b o (fun z => hb (by rw [z]; exact List.mem_singleton_self _)) q) ⟨rfl, rfl, rfl⟩
      have x2 : Exc X F ρ' (flAt env) c e h' := by
        obtain ⟨o, es, ep, ho, hdo, _⟩ := hns
        have nf : ∀ (a : Addr) (ob : Obj) (vs : Array Value), s'.heap.get? a = some ob → ob.data = .fields vs → a ≠ Cc := fun a ob vs q1 q2 q => by
          subst q
          rw [ho] at q1; cases q1
          rw [hdo] at q2; cases q2
        obtain ⟨⟨Cl, oe, vs, hC, hee, hcls, hdd, hcase⟩, hnew, hfz, hρ, hdt⟩ := x
        have hee' := hsb' e oe (nf e oe vs hee hdd) hee
        refine ⟨⟨Cl, oe, vs, hC, hee', hcls, hdd, ?_⟩, hnew, hfz, hρ, fun o' q => ?_⟩
        · rcases hcase with q | ⟨T, oT, ts, y, q1, hTe, hTb, hTF, hTρ, hT, hdT, q3, hfl⟩
          · exact .inl q
          · exact .inr ⟨T, oT, ts, y, q1, hTe, hTb, hTF, hTρ, hsb' T oT (nf T oT ts hT hdT) hT, hdT, q3, hfl⟩
        · rw [hee'] at q; cases q; exact hdt _ hee
      exact wp_passOn I2 x2 rfl (let ⟨L, _, _, q, _⟩ := C.frame; ⟨L, q⟩) fun s'' I'' x'' => hE c e1 e ρ' s'' (hp1.trans hp') I'' x''
    · obtain ⟨h1, h2, e1, e2⟩ := hok1 vs eo
      exact hR vs H2 e1 e2 h1 D Cc s' ρ' items c (hp1.trans hp')
theorem sim_listComp (C : Cok X A envs own env r n) (hic : r.ic = false) (hh : A.handled = none) {sc : Scope} (hok : compOk r sc = true) {ρ₀ : List Addr} {elt iter : Expr} {x : Str} {px pos : Pos} {ifs : List Expr} {i : Nat} (hx : (r.comp sc).res x = some (.slot i false)) {dt : TD} {de : ED} {di : RD Src}
    (hs : ∀ x, foldedSetIterable iter env x = pure x)
    (hi : SimI X A envs own env r ρ₀ iter di) (ht : TestOk X A envs env r sc ifs dt)
    (he : ∀ Cc ρ₀, (∀ p ∈ env.cells, p.2 ≠ Cc) → Sim X A envs [Cc] (compEnvC sc (closL env sc.names []) Cc env) (r.comp sc) ρ₀ VRel (eval elt (compEnvC sc (closL env sc.names []) Cc env)) de) :
    Sim X A envs own env r ρ₀ VRel (eval (.ListComp elt [⟨.Name x px, iter, ifs, 0⟩] sc pos) env) (compD i di dt de) := by
  intro F s₀ m H ρ s hp I res H' hd Q E hQ hE
  rw [eval_ListComp]
  refine comp_run (use := none) C hic hh hok hx hs hi ht he hp I hd (fun vs H2 e1 e2 hrm D Cc s' ρ' items c hp' I' h1 h2 h3 h4 h5 hDC => ?_) hE
  subst e2
  obtain ⟨mr, hns⟩ := h3
  refine ⟨mr, hns, fun h' hsb => ?_⟩
  have I2 : Inv X envs F own env r.res s₀ m H2 ρ' { s' with heap := h' } := I'.offStep (off := [Cc]) (fun a ha => by rw [List.mem_singleton] at ha; subst ha; exact h5) (fun b o hb e => hsb.extBut b o (fun q => hb (by rw [q]; exact List.mem_singleton_self _)) e) ⟨rfl, rfl, rfl⟩
  have I3 := I2.adopt (po := .list vs) h4 (hsb.extBut _ _ hDC h1) ⟨items, c, rfl, h2.mono ⟨[D], rfl⟩, hrm⟩
  exact hQ _ e1 _ _ _ (hp'.trans ⟨[D], rfl⟩) I3 ⟨D, by rw [← I2.len]; simp, rfl⟩
theorem swaps_comp {elt : Expr} {gs : List Comprehension} {sc : Scope} {pos p : Pos} {x : Str} {line : Nat} : ∃ b, swapsWith (.ListComp elt gs sc pos) (some (.Name x p)) line env = pure b ∧ (b = true → env.kindOf x = some .local) := by
  refine ⟨_, rfl, fun h => ?_⟩
  simp only [Bool.and_eq_true, beq_iff_eq] at h
  exact h.1.1.2

theorem simS_setComp (C : Cok X A envs own env r n) (hown : ∀ p ∈ env.cells, p.2 ∈ own) (hic : r.ic = false) (hh : A.handled = none) {sc : Scope} (hok : compOk r sc = true) {ρ₀ : List Addr} {elt iter : Expr} {x y : Str} {px pos spos py : Pos} {ifs : List Expr} {i j : Nat} {b : Bool} (hx : (r.comp sc).res x = some (.slot i false)) (hy : r.res y = some (.slot j b)) {dt : TD} {de : ED} {di : RD Src}
    (hs : ∀ x, foldedSetIterable iter env x = pure x)
    (hi : SimI X A envs own env r ρ₀ iter di) (ht : TestOk X A envs env r sc ifs dt)
    (he : ∀ Cc ρ₀, (∀ p ∈ env.cells, p.2 ≠ Cc) → Sim X A envs [Cc] (compEnvC sc (closL env sc.names []) Cc env) (r.comp sc) ρ₀ VRel (eval elt (compEnvC sc (closL env sc.names []) Cc env)) de) :
    SimS X A envs own env r ρ₀ (exec (.Assign [.Name y py] (.ListComp elt [⟨.Name x px, iter, ifs, 0⟩] sc pos) spos) env) (setS j (compD i di dt de)) := by
  obtain ⟨sw, hsw, hloc⟩ := swaps_comp (env := env) (elt := elt) (gs := [⟨.Name x px, iter, ifs, 0⟩]) (sc := sc) (pos := pos) (p := py) (x := y) (line := spos.line)
  cases sw with
  | false => exact simS_set C hown hy (sim_listComp C hic hh hok hx hs hi ht he) hsw
  | true =>
  intro F s₀ m H ρ s hp I res m' H' hd Q E hQ hE
  rw [exec_Assign_Name_used _ _ _ _ hsw]
  refine wpAny_bind (wpAny_standAt (wpAny_bind ?_))
  show wpAny _ A (do let _ ← comprehension (.ListComp elt [⟨.Name x px, iter, ifs, 0⟩] sc pos) sc env _ (newList []) false (eval iter env) (some (assign (.Name y py) env))) _ _ s
  unfold setS runS at hd
  cases hdc : compD i di dt de m H with
  | none => rw [hdc] at hd; cases hd
  | some q0 =>
  obtain ⟨rs0, H0⟩ := q0
  rw [hdc] at hd
  refine wpAny_bind (wpAny_mono (comp_run (use := some (assign (.Name y py) env)) (Q := fun _ s' => Q .next s') C hic hh hok hx hs hi ht he hp I hdc (fun vs H2 e1 e2 hrm D Cc s' ρ' items c hp' I' h1 h2 h3 h4 h5 hDC => ?_) fun c e => ?_) (fun _ s' hq => wpAny_pure (wpAny_pure hq)) fun _ _ e => e)
  · subst e1; subst e2
    cases hd
    have I3 := I'.adopt (po := .list vs) h4 h1 ⟨items, c, rfl, h2.mono ⟨[D], rfl⟩, hrm⟩
    have oC : Off X envs F own env (ρ' ++ [D]) Cc := ⟨h5.own, h5.fs, h5.cells, h5.frozen, h5.base, fun q => by
      rcases List.mem_append.mp q with q | q
      · exact h5.rho q
      · rw [List.mem_singleton] at q; exact hDC q.symm⟩
    refine wpAny_assign_Name (store_var C I3.freeze hy (v := .ref H2.length) ⟨D, by rw [← I'.len]; simp, rfl⟩ (fun _ c hc => hown _ (mem_of_lookup hc)) fun s'' I'' => ?_)
    have I4 := I3.thaw I'' (List.prefix_refl _)
    obtain ⟨mr, o, es, ep, ho, hrest⟩ := h3
    have hCk : s''.heap.get? Cc = some o := by
      rcases I''.keep Cc o (but_some.mpr ⟨fun q => by
        rcases List.mem_append.mp q with q | q
        · exact oC.rho (List.mem_of_mem_drop q)
        · exact oC.own q, ho⟩) with q | ⟨q, _⟩
      · exact q
      · exact absurd q oC.fs
    refine ⟨mr, ⟨o, es, ep, hCk, hrest⟩, fun h' hsb => ?_⟩
    exact hQ _ rfl _ _ _ (hp'.trans ⟨[D], rfl⟩) (I4.offStep (s' := { s'' with heap := h' }) (off := [Cc]) (fun a ha => by rw [List.mem_singleton] at ha; subst ha; exact oC) (fun b o hb e => hsb.extBut b o (fun q => hb (by rw [q]; exact List.mem_singleton_self _)) e) ⟨rfl, rfl, rfl⟩) rfl
  · subst e
    cases hd
    exact hE c rfl
end
end Mine
namespace Mine
open PySem

section
variable {X : Stat} {A : Around} {envs : List Env} {own : List Addr} {env : Env} {r : Cx} {ρ₀ : List Addr} {n : Nat}

theorem attrBase {o : Expr} {f : Str} (h : notCall0 o = true) {whole : Sem Value} : attributeBase o f env whole = whole := by
  unfold attributeBase
  split
  · cases h
  · rfl

noncomputable def midOf : MI → String
  | .append => "list.append" | .reverse => "list.reverse" | .pop => "list.pop" | .count => "list.count"

theorem getMeth {E : Value → Shared → Prop} {s : Shared} {f : Str} {b : MI} {l : Addr} {items : Array Value} {c : Nat} {pl : Sem Bool} {Q : Value × List Value → Shared → Prop} (hm : mi f = some b) (hl : s.heap.get? l = some ⟨.type "list", none, .seq items c, #[]⟩)
    (h : Q (.builtin (midOf b), [.ref l]) s) : wpAny (model X.prog X.w) A (getMethod (.ref l) f pl) Q E s := by
  have hL : s.heap.IsList l items := ⟨_, hl, rfl, c, rfl⟩
  have hN : s.heap.NoDictAt (.ref l) := by
    first | exact fun o ho => by rw [hl] at ho; cases ho; rfl | exact ⟨_, hl, rfl⟩
  unfold mi at hm
  split at hm
  · rename_i e; subst e; cases hm
    exact PyProof.Rows.getMethod_list_of PySem.F.slot_list_append PySem.F.type_list_append hL hN h
  · split at hm
    · rename_i e; subst e; cases hm
      exact PyProof.Rows.getMethod_list_of PySem.F.slot_list_reverse PySem.F.type_list_reverse hL hN h
    · split at hm
      · rename_i e; subst e; cases hm
        exact PyProof.Rows.getMethod_list_of PySem.F.slot_list_pop PySem.F.type_list_pop hL hN h
      · split at hm
        · rename_i e; subst e; cases hm
          exact PyProof.Rows.getMethod_list_of PySem.F.slot_list_count PySem.F.type_list_count hL hN h
        · cases hm

theorem star_some {e : Expr} {es : List Expr} {env : Env} : ∃ t, starEach (e :: es) env = t :: starEach es env := by
  cases e <;> exact ⟨_, rfl⟩
theorem len_backTo {pos : Pos} : ∀ {args : List Expr}, args.length < 2 → (backTo pos (starEach args env)).length = args.length
  | [], _ => rfl
  | [e], _ => by
    obtain ⟨t, ht⟩ := star_some (e := e) (es := []) (env := env)
    rw [ht]; rfl
  | _ :: _ :: _, h => by simp at h; omega

theorem boolsCount {ρ : List Addr} : ∀ {vs : List PV} {ws : List Value}, VRels ρ vs ws → vs.all isBoolV = true → (∀ y ∈ ws, ∃ b, y = .bool b) ∧ ws.countP (PyProof.Rows.isBoolOf true) = vs.count (.bool true)
  | [], [], _, _ => ⟨fun y hy => (by cases hy), rfl⟩
  | v :: vs, w :: ws, ⟨h1, h2⟩, h => by
    simp only [List.all_cons, Bool.and_eq_true] at h
    obtain ⟨ih1, ih2⟩ := boolsCount h2 h.2
    cases v with
    | bool b =>
      cases h1
      refine ⟨fun y hy => ?_, ?_⟩
      · rcases List.mem_cons.mp hy with rfl | hy
        · exact ⟨b, rfl⟩
        · exact ih1 y hy
      · rw [List.countP_cons, List.count_cons, ih2]
        cases b <;> simp [PyProof.Rows.isBoolOf]
    | _ => cases h.1
  | [], _ :: _, h, _ => h.elim
  | _ :: _, [], h, _ => h.elim

theorem listD_one {α : Type} {d : ED} {k : List PV → RD α} : bindD (listD [d]) k = bindD d fun v => k [v] := by
  funext m H
  simp only [listD, bindD, pureD]
  split <;> rename_i h <;> (split at h <;> first | cases h | skip) <;> simp_all
theorem VRels.dropLast {ρ : List Addr} : ∀ {vs : List PV} {ws : List Value}, VRels ρ vs ws → VRels ρ vs.dropLast ws.dropLast
  | [], [], _ => trivial
  | [v], [w], _ => trivial
  | v :: v2 :: vs, w :: w2 :: ws, ⟨h1, h2⟩ => ⟨h1, VRels.dropLast (vs := v2 :: vs) (ws := w2 :: ws) h2⟩
  | [], _ :: _, h => h.elim
  | _ :: _, [], h => h.elim
  | [_], _ :: _ :: _, h => h.2.elim
  | _ :: _ :: _, [_], h => h.2.elim

theorem meth_form {args : List Expr} {pos : Pos} (hlen : args.length < 2) (hpl : (backTo pos (starEach args env)).any (·.1) = false) : methodCallForm (args.length + ([] : List Keyword).length) (backTo pos (starEach args env)) (backToKw pos (keywordEach [] env)) = true := by
  unfold methodCallForm
  have h1 : (backTo pos (starEach args env)).all (fun x => !x.1) = true := by
    rw [List.all_eq_true]
    intro x hx
    have := List.any_eq_false.mp hpl x hx
    simpa using this
  rw [h1, show (backToKw pos (keywordEach [] env)).all (fun x => x.1.isSome) = true from rfl]
  show decide (args.length + 0 + 0 < 30) = true
  exact decide_eq_true (by omega)
section
variable {F : Fz} {s₀ : Shared} {m : M} {H H' : HP} {ρ : List Addr} {s : Shared} {Q E : Value → Shared → Prop} {q : Nat × List PV} {a : Addr} {res : Except Str PV} {pos : Pos} {x : PV}
theorem erase_last {items : Array Value} (hsz : 0 < items.size) : (items.eraseIdxIfInBounds (items.size - 1)).toList = items.toList.dropLast := by
  rw [Array.eraseIdxIfInBounds, dif_pos (by omega), Array.toList_eraseIdx, List.dropLast_eq_take, List.eraseIdx_eq_take_drop_succ]
  simp
  omega
theorem m_pop (I : Inv X envs F own env r.res s₀ m H ρ s) (hl : listAt H x = some q) (hv : VRel ρ x (.ref a)) (hd : liftD (methV .pop x []) m H = some (res, H'))
    (hQ : ∀ v, res = .ok v → ∀ v' ρ' s', ρ <+: ρ' → Inv X envs F own env r.res s₀ m H' ρ' s' → VRel ρ' v v' → Q v' s') : wpAny (model X.prog X.w) A (callWith pos (.builtin (midOf .pop)) [.ref a] [] []) Q E s := by
  obtain ⟨rfl, hi⟩ := listAt_inv hl
  obtain ⟨_, items, c, e, hia, hn, hr, hz⟩ := I.isList hv hi
  cases e
  unfold liftD methV at hd
  simp only [hl] at hd
  by_cases hi0 : q.1 ≠ 0
  · rw [if_pos hi0] at hd
    cases hgl : q.2.getLast? with
    | none => rw [hgl] at hd; cases hd
    | some v =>
      rw [hgl] at hd
      cases hd
      have hlv := hr.length
      simp only [Array.length_toList] at hlv
      have hvl : q.2[q.2.length - 1]? = some v := by rw [← List.getLast?_eq_getElem?]; exact hgl
      obtain ⟨w, hw, hvw⟩ := hr.get hvl
      have hsz := (List.getElem?_eq_some_iff.mp hvl).1
      have hy : items[items.size - 1]? = some w := by rw [← hlv, ← Array.getElem?_toList]; exact hw
      refine P.pop_list (n := c) hn hy ?_ (by have := sizeLine_ge; omega)
      refine hQ _ rfl _ ρ _ (List.prefix_refl _) (I.put hia hi0 (fun b hb => Heap.get?_update_other _ _ (Ne.symm hb)) ⟨rfl, rfl, rfl⟩ (Heap.get?_update_self _ hn rfl) ⟨items.eraseIdxIfInBounds (items.size - 1), _, rfl, ?_, ?_⟩) hvw
      · rw [erase_last (by omega)]
        exact hr.dropLast
      · unfold roomy; simp only [List.length_dropLast, decide_eq_true_eq]; omega
  · rw [if_neg hi0] at hd; cases hd
theorem m_append {v : PV} {w : Value} (I : Inv X envs F own env r.res s₀ m H ρ s) (hv : VRel ρ x (.ref a)) (hv2 : VRel ρ v w) (hd : liftD (methV .append x [v]) m H = some (res, H')) (hQ : ∀ v, res = .ok v → ∀ v' ρ' s', ρ <+: ρ' → Inv X envs F own env r.res s₀ m H' ρ' s' → VRel ρ' v v' → Q v' s') :
    ∃ items n, items.size ≤ sizeLine ∧ s.heap.get? a = some ⟨.type "list", none, .seq items n, #[]⟩ ∧ Q .none { s with heap := s.heap.update a (Obj.mapSeq fun xs => xs.push w) } := by
  unfold liftD methV at hd
  cases hl : listAt H x with
  | none => simp only [hl] at hd; cases hd
  | some q =>
    simp only [hl, one?] at hd
    obtain ⟨rfl, hi⟩ := listAt_inv hl
    obtain ⟨_, items, c, e, hia, hg, hr, hz⟩ := I.isList hv hi
    cases e
    by_cases hrm : roomy (q.2.length + 1) = true ∧ q.1 ≠ 0
    · rw [if_pos hrm] at hd
      cases hd
      refine ⟨items, c, by have := sizeLine_ge; omega, hg, ?_⟩
      refine hQ _ rfl _ ρ _ (List.prefix_refl _) (I.put hia hrm.2 (fun b hb => Heap.get?_update_other _ _ (Ne.symm hb)) ⟨rfl, rfl, rfl⟩ (Heap.get?_update_self _ hg rfl) ⟨items.push w, _, rfl, ?_, ?_⟩) rfl
      · rw [Array.toList_push]; exact hr.append ⟨hv2, trivial⟩
      · simpa using hrm.1
    · rw [if_neg hrm] at hd; cases hd
end
theorem sim_meth {o : Expr} {f : Str} {ap pos : Pos} {args : List Expr} {b : MI} {dO : ED} {ds : List ED} (hm : mi f = some b) (hn : notCall0 o = true) (hline : ap.endLine = pos.line) (hlen : args.length < 2)
    (ho : Sim X A envs own env r ρ₀ VRel (eval o env) dO) (ha : SimsB X A envs own env r ρ₀ (backTo pos (starEach args env)) ds) (hpl : (backTo pos (starEach args env)).any (·.1) = false) :
    Sim X A envs own env r ρ₀ VRel (eval (.Call (.Attribute o f ap) args [] pos) env) (methD b dO ds) := by
  intro F s₀ m H ρ s hp I res H' hd Q E hQ hE
  rw [arm_eval_Call, attrBase hn]
  refine wpAny_bind (ho.use hp I hd hE fun x ov H1 ρ1 s1 hp1 I1 hv hd0 => wpAny_bind (wpAny_standAt ?_))
  obtain ⟨q, hl, hd1⟩ := need_inv hd0
  clear hd0
  · skip
    obtain ⟨rfl, hi⟩ := listAt_inv hl
    obtain ⟨a, items, c, rfl, hia, hg, hr, hz⟩ := I1.isList hv hi
    have hlen' := len_backTo (env := env) (pos := pos) hlen
    have hpos : methodCallPos true o env ap pos = pure pos := by unfold methodCallPos; simp [hline]
    unfold methodCall
    rw [meth_form hlen hpl]
    refine wpAny_bind (wpAny_holding (getMeth (X := X) hm hg ?_))
    refine wpAny_bind (wpAny_of_eq hpos ?_)
    have hQ' : ∀ v, res = .ok v → ∀ v' ρ' s', ρ1 <+: ρ' → Inv X envs F own env r.res s₀ m H' ρ' s' → VRel ρ' v v' → Q v' s' := fun v e v' ρ' s' h' => hQ v e v' ρ' s' (hp1.trans h')
    have hE' : ∀ c, res = .error c → ∀ e ρ' s', ρ1 <+: ρ' → Inv X envs F own env r.res s₀ m H' ρ' s' → Exc X F ρ' (flOk env) c e s'.heap → E (.ref e) s' := fun c e ee ρ' s' h' => hE c e ee ρ' s' (hp1.trans h')
    clear hQ hE
    generalize backTo pos (starEach args env) = ts at ha hlen'
    show wpAny _ _ (callWith pos (.builtin (midOf b)) [.ref a] ts []) _ _ _
    cases ha with
    | star =>
      simp only [listD, bindD, stuckD] at hd1
      cases hd1
    | nil =>
      replace hd1 : liftD (methV b (.ref q.1) []) m H1 = some (res, H') := hd1
      cases b with
      | append => simp only [liftD, methV, hl] at hd1; cases hd1
      | count => simp only [liftD, methV, hl] at hd1; cases hd1
      | pop => exact m_pop I1 hl hv hd1 hQ'
      | reverse => simp only [liftD, methV, hl] at hd1; cases hd1
    | cons h1 h2 =>
      rename_i t d ts ds
      have ets : ts = [] := by
        cases ts with
        | nil => rfl
        | cons _ _ => simp at hlen'; omega
      subst ets
      cases h2
      rw [listD_one] at hd1
      cases b with
      | reverse =>
        refine PySem.seqMethod1_meets PySem.F.slot_list_reverse PySem.F.entry_list_reverse (h1.use (hp.trans hp1) I1 hd1 hE' fun v w H2 ρ2 s2 hp2 I2 hv2 hd2 => ?_)
        simp only [liftD, methV] at hd2
        cases h2 : listAt H2 (.ref q.1) <;> rw [h2] at hd2 <;> cases hd2
      | pop =>
        refine PySem.seqMethod1_meets PySem.F.slot_list_pop PySem.F.entry_list_pop (h1.use (hp.trans hp1) I1 hd1 hE' fun v w H2 ρ2 s2 hp2 I2 hv2 hd2 => ?_)
        simp only [liftD, methV] at hd2
        cases h2 : listAt H2 (.ref q.1) <;> rw [h2] at hd2 <;> cases hd2
      | append => exact P.append_list (h1.use (hp.trans hp1) I1 hd1 hE' fun v w H2 ρ2 s2 hp2 I2 hv2 hd2 => m_append I2 (hv.mono hp2) hv2 hd2 fun v e v' ρ' s' h' => hQ' v e v' ρ' s' (hp2.trans h'))
      | count =>
        refine PySem.seqMethod1_meets PySem.F.slot_list_count PySem.F.entry_list_count (h1.use (hp.trans hp1) I1 hd1 hE' fun v w H2 ρ2 s2 hp2 I2 hv2 hd2 => ?_)
        unfold liftD methV at hd2
        cases h2 : listAt H2 (.ref q.1) with
        | none => simp only [h2] at hd2; cases hd2
        | some q2 =>
          simp only [h2, one?] at hd2
          by_cases hall : v = .bool true ∧ q2.2.all isBoolV = true
          · rw [if_pos hall] at hd2
            cases hd2
            obtain ⟨e2, hi2⟩ := listAt_inv h2
            have hvv := hall.1
            subst hvv
            cases hv2
            have hv3 := hv.mono hp2
            rw [e2] at hv3
            obtain ⟨a2, items2, c2, e3, hia2, hg2, hr2, hz2⟩ := I2.isList hv3 hi2
            cases e3
            obtain ⟨hb, hc⟩ := boolsCount hr2 hall.2
            refine ⟨⟨_, hg2, rfl⟩, PySem.F.args_list_count_2 _ _, _, SeqAt.list_countAt a items2 c2 none #[] (.bool true) (PyProof.Rows.isBoolOf true), hg2, fun y hy => ?_, ?_⟩
            · obtain ⟨b', rfl⟩ := hb y (by simpa using hy)
              exact PySem.SeqAt.EqAt.bool_bool b' true
            · rw [hc]
              exact hQ' _ rfl _ ρ2 _ hp2 (I2.grow (fun _ _ e => e) ⟨rfl, rfl, rfl⟩) ⟨_, rfl⟩
          · rw [if_neg hall] at hd2; cases hd2
end
end Mine
namespace Mine
open PySem

end Mine
namespace Mine
open PySem PySem.W

noncomputable def jdCheck (K : Frag) (C : Addr) : Bool :=
  makesIn K C && keepIn K (.ref C) && findIn K (.ref C) "__getattribute__" == some (some (.builtin "object.__getattribute__")) && findIn K (.ref C) "__getattr__" == some none &&
  findIn K (.ref C) "__setattr__" == some (some (.builtin "object.__setattr__")) && findIn K (.ref C) jdAttr == some none && plainOver K C && (clsIn K C).any (·.hasDict)
noncomputable def jdFn (K : Frag) (C : Addr) (f : Str) (a : Addr) : Bool := findIn K (.ref C) f == some (some (.ref a)) && typeIn K (.ref a) == some (.type "function") && !(f == jdAttr)
structure JdC (K : Frag) (C : Addr) : Prop where
  makes : makesIn K C = true
  keep : keepIn K (.ref C) = true
  ga : findIn K (.ref C) "__getattribute__" = some (some (.builtin "object.__getattribute__"))
  gt : findIn K (.ref C) "__getattr__" = some none
  sa : findIn K (.ref C) "__setattr__" = some (some (.builtin "object.__setattr__"))
  at_ : findIn K (.ref C) jdAttr = some none
  over : plainOver K C = true
  dict : (clsIn K C).any (·.hasDict) = true
theorem JdC.of {K : Frag} {C : Addr} (h : jdCheck K C = true) : JdC K C := by
  unfold jdCheck at h
  simp only [Bool.and_eq_true, beq_iff_eq] at h
  obtain ⟨⟨⟨⟨⟨⟨⟨h1, h2⟩, h3⟩, h4⟩, h5⟩, h6⟩, h7⟩, h8⟩ := h
  exact ⟨h1, h2, h3, h4, h5, h6, h7, h8⟩
structure JdOk (X : Stat) (fs : List (Str × Addr × FnI)) : Prop where
  at_ : ∃ K C, K.In X.base ∧ X.mg jdName = some (.ref C) ∧ JdC K C ∧ ∀ f a fi, fs.lookup f = some (a, fi) → jdFn K C f a = true
  fn : ∀ f a fi, fs.lookup f = some (a, fi) → FnAt X a fi ∧ namesOk fi = true

noncomputable def nsObj (es : Array DictEntry) (n : Nat) : Obj := ⟨.type "dict", none, .dict es n, #[]⟩
theorem look_nil {n : Nat} (f : Str) : lookIn f (nsObj #[] n) = some none := rfl
theorem isStr_self (f : Str) (t : Tok) : (Value.str f t).isStr f = true := by simp [Value.isStr]
theorem isStr_ne {f g : Str} (t : Tok) (h : f ≠ g) : (Value.str f t).isStr g = false := by simpa [Value.isStr] using h
theorem look_one {e : DictEntry} {t : Tok} {n : Nat} (h : e.key = .str jdAttr t) : lookIn jdAttr (nsObj #[e] n) = some (some e.val) := by
  unfold lookIn nsObj
  simp only [List.find?_cons, h, isStr_self]
theorem look_other {e : DictEntry} {t : Tok} {n : Nat} {f : Str} (h : e.key = .str jdAttr t) (hf : (f == jdAttr) = false) : lookIn f (nsObj #[e] n) = some none := by
  have hne : jdAttr ≠ f := fun q => by rw [q] at hf; simp at hf
  unfold lookIn nsObj
  simp only [List.find?_cons, h, isStr_ne t hne, List.find?_nil]
  simp [DictEntry.refKey, h]

section
variable {X : Stat} {A : Around} {envs : List Env} {own : List Addr} {env : Env} {r : Cx} {ρ₀ : List Addr} {n : Nat} {fs : List (Str × Addr × FnI)}
section
variable {F : Fz} {s₀ : Shared} {m : M} {H H' : HP} {ρ : List Addr} {s : Shared} {rs : Str → Option VR}
theorem Inv.instAt (I : Inv X envs F own env rs s₀ m H ρ s) {i d : Nat} {w : Value} (hi : H[i]? = some (.inst d)) (hv : VRel ρ (.ref i) w) : ∃ a C dx, w = .ref a ∧ X.mg jdName = some (.ref C) ∧ ρ[d]? = some dx ∧ s.heap.get? a = some ⟨.ref C, some dx, .plain, #[]⟩ := by
  obtain ⟨a, ha, rfl⟩ := hv
  obtain ⟨a', ob, h1, h2, h3⟩ := I.objs i _ hi
  rw [ha] at h1; cases h1
  obtain ⟨C, dx, e1, e2, rfl⟩ := h3
  exact ⟨a, C, dx, rfl, e1, e2, h2⟩
theorem Inv.nsAt (I : Inv X envs F own env rs s₀ m H ρ s) {d : Nat} {v : Option PV} {dx : Addr} (hd : H[d]? = some (.ns v)) (hx : ρ[d]? = some dx) : ∃ es n, s.heap.get? dx = some (nsObj es n) ∧ NsRel ρ v es := by
  obtain ⟨a', ob, h1, h2, h3⟩ := I.objs d _ hd
  rw [hx] at h1; cases h1
  obtain ⟨es, n, rfl, h⟩ := h3
  exact ⟨es, n, h2, h⟩
theorem inst_at {C a dx : Addr} {es : Array DictEntry} {n : Nat} (h1 : s.heap.get? a = some ⟨.ref C, some dx, .plain, #[]⟩) (h2 : s.heap.get? dx = some (nsObj es n)) : W.InstAt s.heap a ⟨.ref C, some dx, .plain, #[]⟩ C (some (nsObj es n)) := ⟨h1, rfl, rfl, h2⟩
end

theorem sim_attr (J : JdOk X fs) {x : Str} {p pos : Pos} {dO : ED} (ho : Sim X A envs own env r ρ₀ VRel (eval (.Name x p) env) dO) : Sim X A envs own env r ρ₀ VRel (eval (.Attribute (.Name x p) jdAttr pos) env) (attrD dO) := by
  intro F s₀ m H ρ s hp I res H' hd Q E hQ hE
  rw [arm_eval_Attribute, attrBase rfl]
  refine wpAny_bind (ho.use hp I hd hE fun y ov H1 ρ1 s1 hp1 I1 hv hd1 => wpAny_bind (wpAny_standAt (wpAny_bind (wpAny_holding ?_))))
  unfold liftD at hd1
  simp only at hd1
  cases ha : attrV y H1 with
  | none => rw [ha] at hd1; cases hd1
  | some v =>
    rw [ha] at hd1; cases hd1
    obtain ⟨i, d, rfl, hi, hdd⟩ := attrV_inv ha
    obtain ⟨a, C, dx, rfl, hmg, hρ, hob⟩ := I1.instAt hi hv
    obtain ⟨es, k, hns, e, t, rfl, hkey, hval⟩ := I1.nsAt hdd hρ
    obtain ⟨K, C', hK, hmg', jc, _⟩ := J.at_
    rw [hmg] at hmg'; cases hmg'
    have hK1 : K.In s1.heap := hK.keeps I1.base
    obtain ⟨cd, hcd, hhd⟩ := any_some jc.dict
    have hf : findObj K C (some (nsObj #[e] k)) jdAttr = some (.value e.val) := by
      unfold findObj
      rw [hcd, Option.bind_some, jc.at_, Option.bind_some]
      simp only [Option.bind_some, ownOf, hhd, if_true, look_one hkey]
    have hh : handedIn e.val = true := by
      cases v with
      | none => rw [hval]; rfl
      | bool b => rw [hval]; rfl
      | int z => obtain ⟨_, q⟩ := hval; rw [q]; rfl
      | str z => obtain ⟨_, q⟩ := hval; rw [q]; rfl
      | ref z => obtain ⟨_, _, q⟩ := hval; rw [q]; rfl
    refine get_value hK1 (inst_at hob hns) jc.ga hf hh ?_
    exact wpAny_bind (wpAny_of_eq (show letTemporaryGo (.Name x p) _ _ = pure () from rfl) (wpAny_pure (hQ _ rfl _ ρ1 _ hp1 (I1.tok _) hval)))

theorem put_nil {h : Int} {t : Tok} {v : Value} {k : Nat} : Obj.putName jdAttr h (.str jdAttr t) v (nsObj #[] k) = nsObj #[⟨h, .str jdAttr t, v⟩] (k + 1) := rfl
theorem put_one {h : Int} {t u : Tok} {v : Value} {k : Nat} {e : DictEntry} (he : e.key = .str jdAttr u) : Obj.putName jdAttr h (.str jdAttr t) v (nsObj #[e] k) = nsObj #[{ e with val := v }] k := by
  rw [Obj.putName_eq]
  unfold Obj.putNameByArray nsObj
  have : (#[e] : Array DictEntry).findIdx? (·.key.isStr jdAttr) = some 0 := by
    simp [Array.findIdx?, he, isStr_self, Array.findIdx?.loop]
  simp only [this]
  simp [Array.modify, Array.modifyM]
theorem store_attr {K : Frag} {C a dx : Addr} {es es' : Array DictEntry} {k k' : Nat} {v : Value} {s : Shared} {Q : Unit → Shared → Prop} {E : Value → Shared → Prop} (hK : K.In s.heap) (jc : JdC K C) (hob : s.heap.get? a = some ⟨.ref C, some dx, .plain, #[]⟩) (hns : s.heap.get? dx = some (nsObj es k))
    (hl : (lookIn jdAttr (nsObj es k)).isSome = true) (hany : (!es.any (·.key.isStr jdAttr) && es.any (·.refKey)) = false) (hput : Obj.putName jdAttr (PyData.keyHash X.w.params jdAttr) (.str jdAttr (s.toks + 1)) v (nsObj es k) = nsObj es' k') (hz : es'.size ≤ 1000)
    (h : Q () { s with heap := s.heap.update dx (Obj.putName jdAttr (PyData.keyHash X.w.params jdAttr) (.str jdAttr (s.toks + 1)) v), toks := s.toks + 1 + 1 }) : wpAny (model X.prog X.w) A (setAttr (.ref a) jdAttr v) Q E s := by
  have I := inst_at hob hns
  refine set_plain hK I jc.sa ?_
  have ht : takerIn K C jdAttr = some none := by unfold takerIn; rw [jc.at_]; rfl
  obtain ⟨cd, hc, hd'⟩ := any_some jc.dict
  refine osa_open (s := { s with toks := s.toks + 1 }) hK I jc.over ht fun b => ?_
  have D' : (s.heap.update dx (Obj.putName jdAttr (PyData.keyHash X.w.params jdAttr) (.str jdAttr (s.toks + 1)) v)).get? dx = some (nsObj es' k') := by
    have := Heap.get?_update_self (h := s.heap) (a := dx) (Obj.putName jdAttr (PyData.keyHash X.w.params jdAttr) (.str jdAttr (s.toks + 1)) v) hns (by rw [hput]; rfl)
    rw [this, hput]
  refine wpAny_bind (wpAny_pure (wpAny_bind (wpAny_bind (wpAny_loadPart hob (wpAny_bind ((looks_clsIn (M := model X.prog X.w) (h := ({ s with toks := s.toks + 1 } : Shared).heap) hK hc).here ?_))))))
  rw [hd']
  refine wpAny_pure (a := some dx) (wpAny_bind (wpAny_pure (wpAny_bind ?_)))
  unfold nsSet
  refine wpAny_bind (wpAny_bind (wpAny_askSetting (wpAny_pure (wpAny_bind (wpAny_mkText (wpAny_bind (wpAny_loadPart hns ?_)))))))
  dsimp only [nsObj]
  rw [aRefKeyMayBeTheName_at, hany]
  refine wpAny_updatePart hns ?_
  refine wpAny_bind (wpAny_lookBehind D' (pastItsLine_dict (by rw [sizeLine_eq]; omega)) ?_)
  exact wpAny_pure h
theorem simS_setAttr (J : JdOk X fs) {o e : Expr} {tp pos : Pos} {dO dE : ED} (he : Sim X A envs own env r ρ₀ VRel (eval e env) dE) (ho : Sim X A envs own env r ρ₀ VRel (eval o env) dO)
    (hs : swapsWith e (some (.Attribute o jdAttr tp)) pos.line env = pure false) : SimS X A envs own env r ρ₀ (exec (.Assign [.Attribute o jdAttr tp] e pos) env) (setAttrS dO dE) := by
  intro F s₀ m H ρ s hp I res m' H' hd Q E hQ hE
  refine plainObj_wpAny_Assign_Attribute (he.useS hp I hd hE fun v c H₁ ρ₁ s₁ hp1 I1 hv hd1 => ?_) hs
  refine ho.useS (hp.trans hp1) I1 hd1 (fun c e ee ρ' s' h' => hE c e ee ρ' s' (hp1.trans h')) fun x w H₂ ρ₂ s₂ hp2 I2 hx hd2 => ?_
  replace hd2 : (setAttrV x v H₂).map (fun H' => (Except.ok Fl.next, m, H')) = some (res, m', H') := hd2
  cases hset : setAttrV x v H₂ with
  | none => rw [hset] at hd2; cases hd2
  | some H₄ =>
    rw [hset] at hd2; cases hd2
    obtain ⟨i, d, u, rfl, hi, hdd, hd0, rfl⟩ := setAttrV_inv hset
    obtain ⟨a, C, dx, rfl, hmg, hρ, hob⟩ := I2.instAt hi hx
    obtain ⟨es, k, hns, hrel⟩ := I2.nsAt hdd hρ
    obtain ⟨K, C', hK, hmg', jc, _⟩ := J.at_
    rw [hmg] at hmg'; cases hmg'
    have hK2 : K.In s₂.heap := hK.keeps I2.base
    have hv2 := hv.mono hp2
    have fin : ∀ (es' : Array DictEntry) (k' : Nat) (g : Obj → Obj), g (nsObj es k) = nsObj es' k' → NsRel ρ₂ (some v) es' → Q .next { s₂ with heap := s₂.heap.update dx g, toks := s₂.toks + 1 + 1 } := fun es' k' g hg hr => by
      refine hQ _ rfl _ ρ₂ _ (hp1.trans hp2) (I2.put (ob := nsObj es' k') hρ hd0 (fun b hb => Heap.get?_update_other _ _ (Ne.symm hb)) ⟨rfl, rfl, rfl⟩ ?_ ⟨es', k', rfl, hr⟩) rfl
      have := Heap.get?_update_self (h := s₂.heap) (a := dx) g hns (by rw [hg]; rfl)
      rw [this, hg]
    cases u with
    | none =>
      replace hrel : es = #[] := hrel
      subst hrel
      refine store_attr (X := X) hK2 jc hob hns rfl (by simp) put_nil (by simp) (fin _ _ _ put_nil ⟨_, _, rfl, rfl, hv2⟩)
    | some p =>
      obtain ⟨e, t, rfl, hkey, _⟩ := hrel
      refine store_attr (X := X) hK2 jc hob hns (by rw [look_one hkey]; rfl) ?_ (put_one hkey) (by simp) (fin _ _ _ (put_one hkey) ⟨_, t, rfl, hkey, hv2⟩)
      simp [DictEntry.refKey, hkey]

/-- the call of a def, known by its place -/
theorem code_call (T : Top0 X) {a : Addr} {fi : FnI} (hf : FnAt X a fi) (hno : namesOk fi = true) {hd : Bool} {body : SD} (hb : BodyOk X fi hd n body) (hh : hd = false → A.handled = none) (hA : A.frames = some envs) (hdep : A.depth + (n + 1) < recursionLimit) (hun : A.units + 20 * (n + 1) < 9000)
    {F : Fz} {s₀ : Shared} {m : M} {H H' : HP} {ρ : List Addr} {s : Shared} {rs : Str → Option VR} (I : Inv X envs F own env rs s₀ m H ρ s) {xs : List PV} {vs : List Value} (hv : VRels ρ xs vs) {res : Except Str PV}
    (hd1 : fnD fi.params.length (slotsOf fi.scope fi.params) body xs H = some (res, H')) {R : Result → Shared → Prop}
    (hQ : ∀ v, res = .ok v → ∀ v' ρ' s', ρ <+: ρ' → Inv X envs F own env rs s₀ m H' ρ' s' → VRel ρ' v v' → R (.ok (.ret v')) s')
    (hE : ∀ c, res = .error c → ∀ e ρ' s', ρ <+: ρ' → Inv X envs F own env rs s₀ m H' ρ' s' → Exc X F ρ' (fun v => v = .none) c e s'.heap → R (.error (.ref e)) s') :
    codeAny (model X.prog X.w) A (.call (.ref a) ⟨vs, []⟩) R s := by
  have hL : ∀ (env' : Env), env'.frame = some s.heap.objs.size → ∀ L, env'.frame = some L → s.heap.get? L = none := fun env' h L e => by
    rw [h] at e; cases e; exact size_none _
  exact code_enter T hf hno hb hh hA hdep hun I.to0 hv hd1 (fun v e v' ρ' s' own' env' rs' m' hp' hfr I'' hv' => hQ v e v' ρ' s' hp' (I.back I'' hp' (hL env' hfr)) hv')
    fun c e ee ρ' s' own' env' rs' m' hp' hfr I'' x => hE c e ee ρ' s' hp' (I.back I'' hp' (hL env' hfr)) (x.back I hp')

theorem sim_methJ (T : Top0 X) (J : JdOk X fs) (C : Cok X A envs own env r (n + 1)) {o : Expr} {f : Str} {ap pos : Pos} {args : List Expr} {a : Addr} {fi : FnI} {dO : ED} {ds : List ED} {body : SD} (hf : fs.lookup f = some (a, fi)) (hn : notCall0 o = true) (hline : ap.endLine = pos.line) (hlen : args.length < 2)
    (hb : BodyOk X fi r.hd n body) (ho : Sim X A envs own env r ρ₀ VRel (eval o env) dO) (ha : SimsB X A envs own env r ρ₀ (backTo pos (starEach args env)) ds) (hpl : (backTo pos (starEach args env)).any (·.1) = false) :
    Sim X A envs own env r ρ₀ VRel (eval (.Call (.Attribute o f ap) args [] pos) env) (methJ (fnD fi.params.length (slotsOf fi.scope fi.params) body) dO ds) := by
  intro F s₀ m H ρ s hp I res H' hd Q E hQ hE
  rw [arm_eval_Call, attrBase hn]
  refine wpAny_bind (ho.use hp I hd hE fun x ov H1 ρ1 s1 hp1 I1 hv hd0 => wpAny_bind (wpAny_standAt ?_))
  obtain ⟨⟨d, v⟩, hi, hd1⟩ := needInst_inv hd0
  clear hd0
  obtain ⟨i, rfl, hi, hdd⟩ := nsOf_inv hi
  obtain ⟨b, Cl, dx, rfl, hmg, hρ, hob⟩ := I1.instAt hi hv
  obtain ⟨es, k, hns, hrel⟩ := I1.nsAt hdd hρ
  obtain ⟨K, C', hK, hmg', jc, hfn⟩ := J.at_
  rw [hmg] at hmg'; cases hmg'
  have hK1 : K.In s1.heap := hK.keeps I1.base
  have hjf := hfn f a fi hf
  unfold jdFn at hjf
  simp only [Bool.and_eq_true, beq_iff_eq, Bool.not_eq_true'] at hjf
  obtain ⟨⟨hj1, hj2⟩, hj3⟩ := hjf
  obtain ⟨hfa, hno⟩ := J.fn f a fi hf
  have hpos : methodCallPos true o env ap pos = pure pos := by unfold methodCallPos; simp [hline]
  have hsh : shadowIn (some (nsObj es k)) f = some false := by
    unfold shadowIn
    cases v with
    | none =>
      replace hrel : es = #[] := hrel
      subst hrel
      simp only [look_nil]; rfl
    | some p =>
      obtain ⟨e, t, rfl, hkey, _⟩ := hrel
      simp only [look_other hkey hj3]; rfl
  unfold methodCall
  rw [meth_form hlen hpl]
  refine wpAny_bind (wpAny_holding (method_fn hK1 (inst_at hob hns) jc.ga jc.gt hj1 hj2 hsh ?_))
  refine wpAny_bind (wpAny_of_eq hpos ?_)
  obtain ⟨o', fd, ho', hdata, _⟩ := hfa.obj
  show wpAny _ _ (callWith pos (.ref a) [.ref b] (backTo pos (starEach args env)) []) _ _ _
  refine Calls.callWith_function (o := o') (fd := fd) ?_
  have hQ' : ∀ v, res = .ok v → ∀ v' ρ' s', ρ1 <+: ρ' → Inv X envs F own env r.res s₀ m H' ρ' s' → VRel ρ' v v' → Q v' s' := fun v e v' ρ' s' h' => hQ v e v' ρ' s' (hp1.trans h')
  have hE' : ∀ c, res = .error c → ∀ e ρ' s', ρ1 <+: ρ' → Inv X envs F own env r.res s₀ m H' ρ' s' → Exc X F ρ' (flOk env) c e s'.heap → E (.ref e) s' := fun c e ee ρ' s' h' => hE c e ee ρ' s' (hp1.trans h')
  have go : ∀ (xs : List PV) (vs : List Value) (H2 : HP) (ρ2 : List Addr) (s2 : Shared), ρ1 <+: ρ2 → Inv X envs F own env r.res s₀ m H2 ρ2 s2 → VRels ρ2 xs vs → fnD fi.params.length (slotsOf fi.scope fi.params) body (.ref i :: xs) H2 = some (res, H') → wpAny (model X.prog X.w) A (call (.ref a) (.ref b :: vs) []) Q E s2 := fun xs vs H2 ρ2 s2 hp2 I2 hvs hd2 =>
    wp_call T hfa hno hb C.hd C.frames C.depth C.units I2 (xs := .ref i :: xs) (vs := .ref b :: vs) ⟨hv.mono hp2, hvs⟩ hd2 (fun v e v' ρ' s' h' => hQ' v e v' ρ' s' (hp2.trans h')) fun c e ee ρ' s' h' I' x => hE' c e ee ρ' s' (hp2.trans h') I' (x.imp fun v q => .inl (.inl q))
  generalize backTo pos (starEach args env) = ts at ha
  cases ha with
  | nil => exact evalArgs_none ⟨⟨I1.base _ _ ho', hdata⟩, go [] [] H1 ρ1 s1 (List.prefix_refl _) I1 trivial hd1⟩
  | star =>
    simp only [listD, bindD, stuckD] at hd1
    cases hd1
  | cons h1 h2 =>
    refine (sim_args (SimsB.cons h1 h2) (by simp)).use (hp.trans hp1) I1 hd1 hE' fun xs as H₂ ρ₂ s₂ hp2 I2 hv2 hd2 => ⟨⟨I2.base _ _ ho', hdata⟩, ?_⟩
    rw [hv2.1]
    exact go xs as.pos H₂ ρ₂ s₂ hp2 I2 hv2.2 hd2

theorem sim_new (T : Top0 X) (J : JdOk X fs) (C : Cok X A envs own env r (n + 2)) {p pos : Pos} {a : Addr} {fi : FnI} {body : SD} (hf : fs.lookup ("__init__" : Str) = some (a, fi)) (hx : r.res jdName = some .glob)
    (hb : BodyOk X fi r.hd n body) : Sim X A envs own env r ρ₀ VRel (eval (.Call (.Name jdName p) [] [] pos) env) (newJ (fnD fi.params.length (slotsOf fi.scope fi.params) body)) := by
  intro F s₀ m H ρ s hp I res H' hd Q E hQ hE
  obtain ⟨H2, hd1, e⟩ := newJ_inv hd
  cases e
  obtain ⟨K, Cl, hK, hmg, jc, hfn⟩ := J.at_
  refine wpAny_Call_NameR (load_glob T C I hx hmg ?_)
  have hK1 : K.In s.heap := hK.keeps I.base
  have hjf := hfn _ a fi hf
  unfold jdFn at hjf
  simp only [Bool.and_eq_true, beq_iff_eq, Bool.not_eq_true'] at hjf
  obtain ⟨⟨hj1, hj2⟩, hj3⟩ := hjf
  obtain ⟨hfa, hno⟩ := J.fn _ a fi hf
  refine W.callWith_of (P := fun h => K.In h) rfl (fun h hk => keeps_K jc.keep h hk) (evalArgs_none ⟨hK1, ?_⟩)
  show wpAny _ _ (call (.ref Cl) [] []) _ _ _
  obtain ⟨hh, g, dr, tk, os⟩ := s
  refine wpAny_call (make_core (makes_of hK1 jc.makes) (looks_findIn hK1 hj1) (fun self => bind_fn hK1 self hj2) (.inl rfl) ?_)
  have I1 : Inv X envs F own env r.res s₀ m (H ++ [.ns none]) (ρ ++ [hh.objs.size]) ⟨hh.push emptyDict, g, dr, tk, os⟩ := I.new (push_keeps _ _) ⟨rfl, rfl, rfl⟩ (size_none _) (Heap.get?_push_size _ rfl) ⟨#[], 0, rfl, rfl⟩
  have hsz : (hh.push emptyDict).objs.size = hh.objs.size + 1 := Heap.size_push _ _
  have hlen : ρ.length = H.length := I.len
  have I2 : Inv X envs F own env r.res s₀ m (H ++ [.ns none] ++ [.inst H.length]) (ρ ++ [hh.objs.size] ++ [hh.objs.size + 1]) ⟨(hh.push emptyDict).push (instObj Cl hh.objs.size), g, dr, tk, os⟩ := by
    refine I1.new (push_keeps _ _) ⟨rfl, rfl, rfl⟩ ?_ ?_ ⟨Cl, hh.objs.size, hmg, ?_, rfl⟩
    · rw [← hsz]; exact size_none _
    · rw [← hsz]; exact Heap.get?_push_size _ rfl
    · rw [List.append_assoc, List.getElem?_append_right (by omega), hlen]; simp
  have hself : VRel (ρ ++ [hh.objs.size] ++ [hh.objs.size + 1]) (.ref (H.length + 1)) (.ref (hh.objs.size + 1)) := by
    refine ⟨hh.objs.size + 1, ?_, rfl⟩
    rw [List.getElem?_append_right (by simp; omega)]
    simp [hlen]
  have hpp : ρ <+: ρ ++ [hh.objs.size] ++ [hh.objs.size + 1] := ⟨[hh.objs.size, hh.objs.size + 1], by simp⟩
  refine code_call (A := A.under (.builtin "type.__call__" ⟨[.ref Cl], []⟩)) T hfa hno hb C.hd ?_ ?_ ?_ I2 (xs := [.ref (H.length + 1)]) (vs := [.ref (hh.objs.size + 1)]) ⟨hself, trivial⟩ (res := .ok .none) (H' := H') (by rw [List.append_assoc]; exact hd1) (fun v e v' ρ' s' h' I' hv' => ?_) fun c e => nomatch e
  · unfold Around.under
    simp only [C.frames]
    rfl
  · have := C.depth
    rw [PyProof.Rows.depth_under_make]; omega
  · have := C.units
    rw [PyProof.Rows.units_under_make]; omega
  · cases e
    replace hv' : v' = .none := hv'
    exact ⟨hv', hQ _ rfl _ ρ' s' (hpp.trans h') I' (hself.mono h')⟩
end
end Mine
namespace Mine
open PySem

noncomputable def bmVE : List Value := [.type "ValueError", .type "Exception", .type "BaseException", .type "object"]
/-- an exception of class C against class D, in an except clause -/
noncomputable def ExcMatch (X : Stat) (C D : Addr) (b : Bool) : Prop := ∀ (A : Around) (E : Value → Shared → Prop) (s : Shared) (e : Addr) (oe : Obj) (Q : Bool → Shared → Prop), X.base.StaysIn s.heap → s.heap.get? e = some oe → oe.cls = .ref C → Q b s →
  wpAny (model X.prog X.w) A (excMatches (.ref e) (.ref D)) Q E s
noncomputable def IsiOk (X : Stat) (C : Addr) (tv : Value) (b : Bool) : Prop := ∀ (A : Around) (E : Value → Shared → Prop) (s : Shared) (e : Addr) (oe : Obj) (Q : Value → Shared → Prop), X.base.StaysIn s.heap → s.heap.get? e = some oe → oe.cls = .ref C → oe.dict = none → (∃ vs, oe.data = .fields vs) →
  (∀ t, Q (.bool b) { s with toks := t }) → wpAny (model X.prog X.w) A (call (.builtin "isinstance") [.ref e, tv]) Q E s
structure ClsOk (X : Stat) (G : PG) : Prop where
  at_ : ∀ c as, G.clss.lookup c = some as → ∃ C, X.cls c = some C ∧ PyProof.Rows.OwnCls c C bmVE "ValueError.__new__" X.mg X.base
  vs : ∀ c as C d as' D, G.clss.lookup c = some as → X.cls c = some C → G.clss.lookup d = some as' → X.cls d = some D → ExcMatch X C D (as.contains d) ∧ IsiOk X C (.ref D) (as.contains d)
  ve : ∀ c as C, G.clss.lookup c = some as → X.cls c = some C → IsiOk X C (.type "ValueError") (as.contains "ValueError")
  known : ∀ c C, X.cls c = some C → ∃ as, G.clss.lookup c = some as

section
variable {X : Stat} {A : Around} {envs : List Env} {own : List Addr} {env : Env} {r : Cx} {ρ₀ : List Addr} {n : Nat}

theorem wp_isTy {F : Fz} {s₀ : Shared} {m : M} {H : HP} {ρ : List Addr} {s : Shared} {rs : Str → Option VR} (I : Inv X envs F own env rs s₀ m H ρ s) {x : PV} {v : Value} {t : TyN} {b : Bool} {Q : Value → Shared → Prop} {E : Value → Shared → Prop} (hv : VRel ρ x v) (hb : isTy t x H = some b)
    (h0 : Q (.bool b) s) (h1 : Q (.bool b) { s with toks := s.toks + 1 }) : wpAny (model X.prog X.w) A (call (.builtin "isinstance") [v, .type t.name]) Q E s := by
  cases x with
  | none =>
    cases hv; cases hb
    cases t
    · exact IsiPair.NoneType_int h1
    · exact IsiPair.NoneType_bool h1
    · exact IsiPair.NoneType_list h1
    · exact IsiPair.NoneType_tuple h1
    · exact IsiPair.NoneType_str h1
  | bool u =>
    cases hv; cases hb
    cases t
    · exact IsiPair.bool_int h0
    · exact IsiPair.bool_bool h0
    · exact IsiPair.bool_list h1
    · exact IsiPair.bool_tuple h1
    · exact IsiPair.bool_str h1
  | int i =>
    obtain ⟨_, rfl⟩ := hv; cases hb
    cases t
    · exact IsiPair.int_int h0
    · exact IsiPair.int_bool h1
    · exact IsiPair.int_list h1
    · exact IsiPair.int_tuple h1
    · exact IsiPair.int_str h1
  | str i =>
    obtain ⟨_, rfl⟩ := hv; cases hb
    cases t
    · exact IsiPair.str_int h1
    · exact IsiPair.str_bool h1
    · exact IsiPair.str_list h1
    · exact IsiPair.str_tuple h1
    · exact IsiPair.str_str h0
  | ref i =>
    unfold isTy at hb
    simp only at hb
    cases hi : H[i]? with
    | none => rw [hi] at hb; cases hb
    | some o =>
      rw [hi] at hb
      obtain ⟨a, ob, rfl, h2, h3, h4⟩ := I.ref hv hi
      cases o with
      | list vs =>
        obtain ⟨items, c, rfl, _, _⟩ := h4
        cases hb
        cases t
        · exact IsiPair.list_int h3 rfl h1
        · exact IsiPair.list_bool h3 rfl h1
        · exact IsiPair.list_list h3 rfl h0
        · exact IsiPair.list_tuple h3 rfl h1
        · exact IsiPair.list_str h3 rfl h1
      | tup vs =>
        obtain ⟨items, c, rfl, _, _⟩ := h4
        cases hb
        cases t
        · exact IsiPair.tuple_int h3 rfl h1
        · exact IsiPair.tuple_bool h3 rfl h1
        · exact IsiPair.tuple_list h3 rfl h1
        · exact IsiPair.tuple_tuple h3 rfl h0
        · exact IsiPair.tuple_str h3 rfl h1
      | _ => cases hb
theorem wp_isi {G : PG} (K : ClsOk X G) {F : Fz} {s₀ : Shared} {m : M} {H : HP} {ρ : List Addr} {s : Shared} {rs : Str → Option VR} (I : Inv X envs F own env rs s₀ m H ρ s) {x : PV} {v tv : Value} {T : Str} {b : Bool} {Q : Value → Shared → Prop} {E : Value → Shared → Prop}
    (hv : VRel ρ x v) (hb : isIn G T x H = some b)
    (ht : (∃ as, G.clss.lookup T = some as ∧ ∃ D, X.cls T = some D ∧ tv = .ref D) ∨ (G.clss.lookup T = none ∧ (∀ t, tyOf T = some t → tv = .type t.name) ∧ (T = "ValueError" → tv = .type "ValueError")))
    (hno : ∀ as, G.clss.lookup T = some as → tyOf T = none)
    (hQ : ∀ t, Q (.bool b) { s with toks := t }) : wpAny (model X.prog X.w) A (call (.builtin "isinstance") [v, tv]) Q E s := by
  unfold isIn at hb
  cases hty : tyOf T with
  | some t =>
    rw [hty] at hb
    rcases ht with ⟨as, hl, _⟩ | ⟨_, h1, _⟩
    · rw [hno as hl] at hty; cases hty
    · rw [h1 t hty]
      exact wp_isTy I hv hb (hQ s.toks) (hQ _)
  | none =>
    rw [hty] at hb
    obtain ⟨i, c, as, rfl, hi, hl, hq, rfl⟩ := isExc_inv hb
    obtain ⟨a, ob, rfl, h2, h3, C, hC, hcls, hdict, hdat⟩ := I.ref hv hi
    rcases ht with ⟨as', hl', D, hD, rfl⟩ | ⟨hn, _, hve⟩
    · exact (K.vs c as C T as' D hl hC hl' hD).2 A E s a ob Q I.base h3 hcls hdict hdat hQ
    · rcases hq with q | q
      · subst q
        rw [hve rfl]
        exact K.ve c as C hl hC A E s a ob Q I.base h3 hcls hdict hdat hQ
      · rw [hn] at q; cases q
end
end Mine
namespace Mine
open PySem

/-- names of builtins that nobody hides -/
noncomputable def biNames : List Str := ["isinstance", "range", "len", "list", "sum", "min", "max", "int", "bool", "tuple", "str", "ValueError"]
noncomputable def BiFree (X : Stat) : Prop := ∀ x ∈ biNames, X.mg x = none

section
variable {X : Stat} {A : Around} {envs : List Env} {own : List Addr} {env : Env} {r : Cx} {ρ₀ : List Addr} {n : Nat}

theorem boot_ty (t : TyN) : bootBuiltins (Str.ofString t.name) = some (.type t.name) ∧ (Str.ofString t.name ∈ biNames) ∧ Str.ofString t.name ≠ "__name__" := by
  cases t <;> exact ⟨by decide +kernel, by decide +kernel, by decide +kernel⟩
theorem ty_glob {G : PG} (K : ClsOk X G) (B : BiFree X) {T : Str} {as : List Str} (hl : G.clss.lookup T = some as) : tyOf T = none := by
  cases h : tyOf T with
  | none => rfl
  | some t =>
    obtain ⟨D, hD, O⟩ := K.at_ T as hl
    have hb := O.bound
    rw [B T (by rw [tyOf_inv h]; exact (boot_ty t).2.1)] at hb; cases hb

theorem sim_isi {G : PG} (T0 : Top0 X) (K : ClsOk X G) (B : BiFree X) (C : Cok X A envs own env r n) {a : Expr} {T : Str} {p pT pos : Pos} {d : ED} (hx : r.res "isinstance" = some .glob) (hT : r.res T = some .glob)
    (hst : starEach [a, .Name T pT] env = [(false, eval a env), (false, eval (.Name T pT) env)]) (ha : Sim X A envs own env r ρ₀ VRel (eval a env) d) :
    Sim X A envs own env r ρ₀ VRel (eval (.Call (.Name "isinstance" p) [a, .Name T pT] [] pos) env) (isInD G T d) := by
  intro F s₀ m H ρ s hp I res H' hd Q E hQ hE
  have hbt : backTo pos (starEach [a, .Name T pT] env) = [(false, eval a env), (false, eval (.Name T pT) env)] := by rw [hst]; rfl
  refine wpAny_Call_NameR (load_builtin T0 C I hx (B _ (by decide)) (by decide) (show bootBuiltins "isinstance" = some (.builtin "isinstance") by decide +kernel) ?_)
  rw [hbt]
  refine Calls.callWith_builtin rfl (Calls.evalArgs_plain (Calls.spliced_cons (ha.use hp I hd hE fun x v H1 ρ1 s1 hp1 I1 hv hd1 => Calls.spliced_cons ?_)))
  simp only [liftD] at hd1
  cases hb : isIn G T x H1 with
  | none => rw [hb] at hd1; cases hd1
  | some b =>
    rw [hb] at hd1
    cases hd1
    have fin : ∀ tv, ((∃ as, G.clss.lookup T = some as ∧ ∃ D, X.cls T = some D ∧ tv = .ref D) ∨ (G.clss.lookup T = none ∧ (∀ t, tyOf T = some t → tv = .type t.name) ∧ (T = "ValueError" → tv = .type "ValueError"))) →
        wpAny (model X.prog X.w) A (call (.builtin "isinstance") ([] ++ [v, tv]) []) Q E s1 := fun tv ht =>
      wp_isi K I1 hv hb ht (fun as hl => ty_glob K B hl) fun t => hQ _ rfl _ ρ1 _ hp1 (I1.grow (fun _ _ e => e) ⟨rfl, rfl, rfl⟩) rfl
    cases hl : G.clss.lookup T with
    | some as =>
      obtain ⟨D, hD, O⟩ := K.at_ T as hl
      exact load_glob T0 C I1 hT O.bound (Calls.spliced_nil (fin _ (.inl ⟨as, hl, D, hD, rfl⟩)))
    | none =>
      cases hty : tyOf T with
      | some t =>
        have e := tyOf_inv hty
        obtain ⟨h1, h2, h3⟩ := boot_ty t
        rw [← e] at h1 h2 h3
        exact load_builtin T0 C I1 hT (B _ h2) h3 h1 (Calls.spliced_nil (fin _ (.inr ⟨hl, fun t' ht' => by rw [hty] at ht'; cases ht'; rfl, fun e' => by subst e'; rw [show tyOf "ValueError" = none by rfl] at hty; cases hty⟩)))
      | none =>
        unfold isIn at hb
        rw [hty] at hb
        obtain ⟨_, _, _, _, _, _, q, _⟩ := isExc_inv hb
        rcases q with rfl | q
        · exact load_builtin T0 C I1 hT (B _ (by decide)) (by decide) (show bootBuiltins "ValueError" = some (.type "ValueError") by decide +kernel) (Calls.spliced_nil (fin _ (.inr ⟨hl, fun t' ht' => (by rw [show tyOf "ValueError" = none by rfl] at ht'; cases ht'), fun _ => rfl⟩)))
        · rw [hl] at q; cases q

theorem simS_raise {G : PG} (T0 : Top0 X) (K : ClsOk X G) (C : Cok X A envs own env r n) (hfree : r.hd = false) {c : Str} {msg : Str} {k : Nat} {np kp cpos pos : Pos} (hc : (G.clss.lookup c).isSome = true) (hx : r.res c = some .glob) :
    SimS X A envs own env r ρ₀ (exec (.Raise (some (.Call (.Name c np) [.Constant (.str msg) k kp] [] cpos)) none pos) env) (raiseS c) := by
  intro F s₀ m H ρ s hp I res m' H' hd Q E hQ hE
  cases hd
  obtain ⟨as, hl⟩ := Option.isSome_iff_exists.mp hc
  obtain ⟨Cl, hCl, O⟩ := K.at_ c as hl
  obtain ⟨bm, N, nm, q, bs, hdct, sn, sub, ab, col, dd, k0, k1, k2, k3, k5, mN, hC, hN, hni, OT⟩ := O.obj
  refine wpAny_Raise_call_subT (C := Cl) (nm := nm) (q := q) (N := N) (bs := bs) (bm := bm) (hdct := hdct) (sn := sn) (sub := sub) (ab := ab) (col := col) (dd := dd) (k0 := k0) (k1 := k1) (k2 := k2) (k3 := k3) (k5 := k5) PySem.F.excBase_ValueError (OT.hasType (by decide +kernel)) (C.hd hfree) rfl hni (load_glob T0 C I hx O.bound ⟨rfl, ?_⟩)
  have hs : Sim X A envs own env r ρ₀ ARel (evalArgs (.ref Cl) true (backTo cpos (starEach [.Constant (.str msg) k kp] env)) []) (listD [pureD (.str msg)]) := sim_args (SimsB.cons (sim_str (x := msg) (k := k) (pos := kp)) .nil) (by simp [starEach, backTo])
  refine hs F s₀ m H ρ s hp I (.ok [.str msg]) H rfl _ _ (fun a e args ρ' s' hp' I' har => ?_) fun c e => nomatch e
  cases e
  obtain ⟨hkw, hv⟩ := har
  have hlen := hv.length
  refine ⟨hkw, ?_, I'.base _ _ hC, hN.keeps I'.base, OT.keeps I'.base, fun h' e M => ?_⟩
  · have := sizeLine_ge
    simp at hlen; omega
  · have I2 : Inv X envs F own env r.res s₀ m H ρ' { s' with heap := h' } := I'.grow M.keeps ⟨rfl, rfl, rfl⟩
    have o := fresh_out I' M.new
    obtain ⟨t, he, _, _⟩ := M.there
    refine hE c rfl e ρ' _ hp' I2 ⟨⟨Cl, _, _, hCl, he, rfl, rfl, .inl ⟨rfl, .inl (.inr rfl)⟩⟩, o.base, o.frozen, o.rho, fun oe q => ?_⟩
    have q' : h'.get? e = some oe := q
    rw [he] at q'; cases q'; rfl
end
end Mine
namespace Mine
open PySem

section
variable {X : Stat} {A : Around} {envs : List Env} {F : Fz} {own : List Addr} {env : Env} {r : Cx} {s₀ : Shared} {m : M} {H : HP} {ρ : List Addr} {s : Shared} {ρ₀ : List Addr} {n : Nat}

theorem Cok.held (C : Cok X A envs own env r n) (e : Value) : Cok X (A.mark (some e)) envs own env r.held n :=
  ⟨C.frames, C.depth, C.units, C.kind, C.globals, C.builtins, C.glob, C.locl, C.cell, C.inj, C.debug, (fun h => by cases h), C.bound, C.cellsApart, C.cellsLoc, C.frame⟩

theorem del_var (C : Cok X A envs own env r n) (I : Inv X envs F own env r.res s₀ m H ρ s) {x : Str} {i : Nat} {pos : Pos} (hx : r.res x = some (.slot i false)) {Q : Unit → Shared → Prop} {E : Value → Shared → Prop}
    (h : ∀ s', Inv X envs F own env r.res s₀ (del m i) H ρ s' → Q () s') : wpAny (model X.prog X.w) A (do bindName env x .none; unbindBehindTheSuite env x pos) Q E s := by
  obtain ⟨mr, hn⟩ := I.loc
  refine wpAny_nameGoes_keeps (C.locl x i hx) hn (by rw [C.kind]; rfl) fun h' v hn' hs' => h _ (I.frame I.locOwn hs' ⟨rfl, rfl, rfl⟩ ?_ ⟨_, hn'⟩ (fun p hp => ?_) (fun y j b hy w hw => ?_))
  · obtain ⟨o, es, ep, ho, hd, _⟩ := hn'
    exact ⟨o, ho, fun vs q => by rw [hd] at q; cases q⟩
  · obtain ⟨v, o, ho, hd⟩ := I.cells p hp
    exact ⟨v, o, (hs'.2 _ (C.cellsLoc p hp)).trans ho, hd⟩
  · unfold del at hw
    by_cases hj : j = i
    · rw [if_pos hj] at hw; cases hw
    · rw [if_neg hj] at hw
      obtain ⟨w', h1, h2⟩ := I.vars y j b hy w hw
      refine ⟨w', ?_, h2⟩
      have hyx : y ≠ x := fun q => by subst q; rw [hx] at hy; cases hy; exact hj rfl
      cases b with
      | false =>
        obtain ⟨mr', hn₁, hm₁⟩ := h1
        have := Ns.unique hn hn₁
        subst this
        exact ⟨_, hn', by rw [if_neg hyx]; exact hm₁⟩
      | true =>
        obtain ⟨c, hc, o, ho, hd⟩ := h1
        exact ⟨c, hc, o, (hs'.2 _ (C.cellsLoc _ (mem_of_lookup hc))).trans ho, hd⟩

theorem Exc.off {fl : Value → Prop} {c : Str} {e : Addr} (I : Inv X envs F own env r.res s₀ m H ρ s) (x : Exc X F ρ fl c e s.heap) : Off X envs F own env ρ e := by
  obtain ⟨⟨Cl, oe, vs, hC, he, hcls, hd, hcase⟩, hnew, hfz, hρ, hdt⟩ := x
  refine ⟨fun q => ?_, fun q => ?_, fun q => ?_, hfz, hnew, hρ⟩
  · obtain ⟨o', ho', hf'⟩ := I.ownIn e q
    rw [he] at ho'; cases ho'; exact hf' vs hd
  · obtain ⟨_, o', ho', hf'⟩ := I.frames.mem q
    rw [he] at ho'; cases ho'; exact hf' vs hd
  · obtain ⟨p, hp, e'⟩ := List.mem_map.mp q
    obtain ⟨v, o, ho, hd'⟩ := I.cells p hp
    rw [e', he] at ho; cases ho
    rw [hd] at hd'; cases hd'

/-- the handlers of a try -/
inductive HandsOk (X : Stat) (G : PG) (A : Around) (envs : List Env) (own : List Addr) (env : Env) (r : Cx) (ρ₀ : List Addr) : List ExceptHandler → List Hd → Prop where
  | stop {hs : List ExceptHandler} : HandsOk X G A envs own env r ρ₀ hs []
  | plain {c : Str} {p pos : Pos} {st : Stmt} {body : List Stmt} {d : SD} {hs : List ExceptHandler} {ds : List Hd} : r.res c = some .glob → (∀ e, SimS X (A.mark (some (.ref e))) envs own env r.held ρ₀ (execs (st :: body) env) d) → HandsOk X G A envs own env r ρ₀ hs ds →
      HandsOk X G A envs own env r ρ₀ (.ExceptHandler (some (.Name c p)) none (st :: body) pos :: hs) (⟨c, none, d⟩ :: ds)
  | named {c x : Str} {i : Nat} {p pos : Pos} {st : Stmt} {body : List Stmt} {d : SD} {hs : List ExceptHandler} {ds : List Hd} : r.res c = some .glob → r.res x = some (.slot i false) → (∀ e, SimS X (A.mark (some (.ref e))) envs own env r.held ρ₀ (execs (st :: body) env) d) → HandsOk X G A envs own env r ρ₀ hs ds →
      HandsOk X G A envs own env r ρ₀ (.ExceptHandler (some (.Name c p)) (some x) (st :: body) pos :: hs) (⟨c, some i, d⟩ :: ds)

theorem handS_inv {G : PG} {c : Str} {h : Hd} {r : List Hd} {m : M} {H : HP} {p : Except Str Fl × M × HP} (e : handS G c (h :: r) m H = some p) : ∃ b, hitV G c h.cls = some b ∧ (if b then runHd c h m H else handS G c r m H) = some p := by
  rw [handS] at e
  cases hh : hitV G c h.cls with
  | none => rw [hh] at e; cases e
  | some b => rw [hh] at e; exact ⟨b, rfl, e⟩
theorem sim_hands {G : PG} (T0 : Top0 X) (K : ClsOk X G) (B : BiFree X) (C : Cok X A envs own env r n) : ∀ {hs : List ExceptHandler} {ds : List Hd} {ρ₀ : List Addr}, HandsOk X G A envs own env r ρ₀ hs ds → ∀ {F : Fz} {s₀ : Shared} {m : M} {H : HP} {ρ : List Addr} {s : Shared} {c : Str} {e : Addr},
    ρ₀ <+: ρ → Inv X envs F own env r.res s₀ m H ρ s → Exc X F ρ (fun v => v = .none) c e s.heap → ∀ {res : Except Str Fl} {m' : M} {H' : HP}, handS G c ds m H = some (res, m', H') → ∀ {Q : Flow → Shared → Prop} {E : Value → Shared → Prop},
    (∀ f, res = .ok f → ∀ f' ρ' s', ρ <+: ρ' → Inv X envs F own env r.res s₀ m' H' ρ' s' → FRel ρ' f f' → Q f' s') → wpAny (model X.prog X.w) A (handleBy (.ref e) env hs) Q E s := by
  intro hs ds ρ₀ hh
  induction hh with
  | stop => intro F s₀ m H ρ s c e hp I x res m' H' hd; cases hd
  | plain hc hb hr ih =>
    rename_i c' p pos st body d hs ds
    intro F s₀ m H ρ s c e hp I x res m' H' hd Q E hQ
    obtain ⟨Cl, oe, vs, hC, he, hcls, hdat, _⟩ := x.cls
    obtain ⟨b, hh, hd⟩ := handS_inv hd
    obtain ⟨as, as', hl, hl', hcn⟩ := hitV_inv hh
    obtain ⟨D, hD, O⟩ := K.at_ c' as' hl'
    refine wpAny_handleBy_cons (codeAny_handlers_test (load_glob T0 (C.held _) I hc O.bound ((K.vs c as Cl c' as' D hl hC hl' hD).1 _ _ s e oe _ I.base he hcls ?_))) (by intro q; cases q)
    rw [hcn]
    cases b with
    | true =>
      obtain ⟨f, m1, H1, hdb, e1⟩ := okS_inv (f := id) hd
      cases e1
      exact codeAny_handlers_suite (wp_flight I (x.imp fun v q => .inr q) fun s1 I1 x1 => hb e F s₀ m H ρ s1 hp I1 _ _ _ hdb _ _ (fun f' ef => hQ f' ef) (fun c ec => nomatch ec))
    | false => exact ih hp I x hd hQ
  | named hc hx hb hr ih =>
    rename_i c' x' i p pos st body d hs ds
    intro F s₀ m H ρ s c e hp I x res m' H' hd Q E hQ
    obtain ⟨Cl, oe, vs, hC, he, hcls, hdat, _⟩ := x.cls
    obtain ⟨b, hh, hd⟩ := handS_inv hd
    obtain ⟨as, as', hl, hl', hcn⟩ := hitV_inv hh
    obtain ⟨D, hD, O⟩ := K.at_ c' as' hl'
    refine wpAny_handleBy_cons (codeAny_handlers_test (load_glob T0 (C.held _) I hc O.bound ((K.vs c as Cl c' as' D hl hC hl' hD).1 _ _ s e oe _ I.base he hcls ?_))) (by intro q; cases q)
    rw [hcn]
    cases b with
    | true =>
      obtain ⟨f, m1, H1, hdb, e1⟩ := okS_inv (f := fun m => del m i) hd
      cases e1
      refine codeAny_handlers_suite_as (wp_flight I (x.imp fun v q => .inr q) fun s1 I1 x1 => ?_)
      obtain ⟨Cl1, oe1, vs1, hC1, he1, hcls1, hdat1, _⟩ := x1.cls
      have I2 := I1.adopt (po := .exc c) (x1.off I1) he1 ⟨Cl1, hC1, hcls1, x1.dict _ he1, vs1, hdat1⟩
      refine store_var (C.held (.ref e)) (r := r.held) I2 hx (v := .ref H.length) ⟨e, by rw [← I1.len]; simp, rfl⟩ (fun q => nomatch q) fun s2 I3 => ?_
      refine hb e F s₀ _ _ (ρ ++ [e]) s2 (hp.trans ⟨[e], rfl⟩) I3 _ _ _ hdb _ _ (fun f' ef f'' ρ' s' hp' I' hf => ?_) (fun c ec => nomatch ec)
      cases ef
      exact del_var C I' hx fun s3 I4 => hQ f rfl f'' ρ' s3 (List.IsPrefix.trans ⟨[e], rfl⟩ hp') I4 hf
    | false => exact ih hp I x hd hQ

theorem simS_try {G : PG} (T0 : Top0 X) (K : ClsOk X G) (B : BiFree X) (C : Cok X A envs own env r n) {body : List Stmt} {h : ExceptHandler} {hs : List ExceptHandler} {pos : Pos} {db : SD} {ds : List Hd}
    (hb : SimS X A envs own env r ρ₀ (execs body env) db) (hh : ∀ ρ₁, ρ₀ <+: ρ₁ → HandsOk X G A envs own env r ρ₁ (h :: hs) ds) : SimS X A envs own env r ρ₀ (exec (.Try body (h :: hs) [] [] pos) env) (tryS G db ds) := by
  intro F s₀ m H ρ s hp I res m' H' hd Q E hQ hE
  unfold tryS at hd
  cases hdb : db m H with
  | none => rw [hdb] at hd; cases hd
  | some q =>
    obtain ⟨rs, m1, H1⟩ := q
    rw [hdb] at hd
    refine wpAny_Try_except (hb F s₀ m H ρ s hp I _ _ _ hdb _ _ (fun f ef f' ρ' s' hp' I' hf => ?_) (fun c ec e ρ' s' hp' I' x => ?_))
    · subst ef
      cases hd
      cases f with
      | next =>
        cases hf
        exact wpAny_pure (hQ _ rfl _ ρ' s' hp' I' rfl)
      | ret v =>
        obtain ⟨v', rfl, hv⟩ := hf
        exact hQ _ rfl _ ρ' s' hp' I' ⟨v', rfl, hv⟩
    · subst ec
      simp only at hd
      refine wp_note C I' x fun s1 I1 x1 => wp_flight I1 (x1.imp fun v q => .inl q) fun s2 I2 x2 => ?_
      exact sim_hands T0 K B C (hh ρ' (hp.trans hp')) (List.prefix_refl _) I2 (x2.imp fun v q => q) hd fun f ef f' ρ'' s'' hp'' => hQ f ef f' ρ'' s'' (hp'.trans hp'')
end
end Mine
namespace Mine
open PySem

structure Glo (X : Stat) (G : PG) : Prop where
  T0 : Top0 X
  K : ClsOk X G
  B : BiFree X
  fns : ∀ f fi, G.fns.lookup f = some fi → FnOk X f fi ∧ namesOk fi = true
  consts : ∀ x v, G.consts.lookup x = some v → ∃ v', X.mg x = some v' ∧ VRel [] v v'
  jd : JdOk X G.jd

structure SimN (X : Stat) (G : PG) (n : Nat) : Prop where
  e : ∀ A envs own env r ρ₀ e, Cok X A envs own env r n → Sim X A envs own env r ρ₀ VRel (eval e env) (evalD G n r e)
  t : ∀ A envs own env r ρ₀ e, Cok X A envs own env r n → Sim X A envs own env r ρ₀ TRel (isTrue e env (eval e env)) (testD G n r e)
  es : ∀ A envs own env r ρ₀ es, Cok X A envs own env r n → Sims X A envs own env r ρ₀ VRel (evalEach es env) (evalsD G n r es)
  eb : ∀ A envs own env r ρ₀ pos es, Cok X A envs own env r n → SimsB X A envs own env r ρ₀ (backTo pos (starEach es env)) (evalsD G n r es)
  ts : ∀ A envs own env r ρ₀ es, Cok X A envs own env r n → Sims X A envs own env r ρ₀ TRel (es.map fun e => isTrue e env (eval e env)) (testsD G n r es)
  o : ∀ A envs own env r ρ₀ e, Cok X A envs own env r n → Sim X A envs own env r ρ₀ VRel (valueOrNone (evalOpt e env)) (optD (evalO G n r e))
  i : ∀ A envs own env r ρ₀ e, Cok X A envs own env r n → SimI X A envs own env r ρ₀ e (iterD G n r e)
  s : ∀ A envs own env r ρ₀ st, Cok X A envs own env r n → (∀ p ∈ env.cells, p.2 ∈ own) → r.ic = false → SimS X A envs own env r ρ₀ (exec st env) (execD G n r st)
  ss : ∀ A envs own env r ρ₀ ss, Cok X A envs own env r n → (∀ p ∈ env.cells, p.2 ∈ own) → r.ic = false → SimS X A envs own env r ρ₀ (execs ss env) (execsD G n r ss)
  h : ∀ A envs own env r ρ₀ hs, Cok X A envs own env r n → (∀ p ∈ env.cells, p.2 ∈ own) → r.ic = false → HandsOk X G A envs own env r ρ₀ hs (handsD G n r hs)

section
variable {X : Stat} {G : PG} {A : Around} {envs : List Env} {own : List Addr} {env : Env} {r : Cx} {ρ₀ : List Addr} {n : Nat}

theorem SimS.stuck' {t : Sem Flow} : SimS X A envs own env r ρ₀ t stuckS := by
  intro F s₀ m H ρ s _ _ res m' H' h; cases h

theorem star_cons {e : Expr} {es : List Expr} (h : notStar e = true) : starEach (e :: es) env = (false, eval e env) :: starEach es env := by
  cases e <;> first | rfl | cases h
theorem simN_zero : SimN X G 0 where
  e := fun _ _ _ _ _ _ _ _ => Sim.stuck
  t := fun _ _ _ _ _ _ _ _ => Sim.stuck
  es := fun A envs own env r ρ₀ es _ => by
    induction es with
    | nil => exact .nil
    | cons e es ih => exact .cons Sim.stuck ih
  eb := fun A envs own env r ρ₀ pos es _ => by
    induction es with
    | nil => exact .nil
    | cons e es ih =>
      by_cases h : notStar e = true
      · rw [star_cons h]; exact .cons Sim.stuck ih
      · cases e <;> first | exact absurd rfl h | exact .star
  ts := fun A envs own env r ρ₀ es _ => by
    induction es with
    | nil => exact .nil
    | cons e es ih => exact .cons Sim.stuck ih
  o := fun _ _ _ _ _ _ _ _ => Sim.stuck
  i := fun _ _ _ _ _ _ _ _ => simI_stuck
  s := fun _ _ _ _ _ _ _ _ _ _ => SimS.stuck'
  ss := fun _ _ _ _ _ _ _ _ _ _ => SimS.stuck'
  h := fun _ _ _ _ _ _ _ _ _ _ => .stop

theorem plain_star {pos : Pos} : ∀ {es : List Expr}, plainArgs es = true → (backTo pos (starEach es env)).any (·.1) = false
  | [], _ => rfl
  | e :: es, h => by
    have h' := Bool.and_eq_true_iff.mp h
    rw [star_cons h'.1]
    exact plain_star (pos := pos) (es := es) h'.2
theorem plain_two {a b : Expr} (h : plainArgs [a, b] = true) : starEach [a, b] env = [(false, eval a env), (false, eval b env)] := by
  have h' := Bool.and_eq_true_iff.mp h
  have h'' := Bool.and_eq_true_iff.mp h'.2
  rw [star_cons h'.1, star_cons h''.1]
  rfl

theorem folded (iter : Expr) : (∀ x, foldedSetIterable iter env x = pure x) ∨ ∀ n r, iterD G n r iter = stuckD := by
  cases iter <;> first | (left; intro x; rfl) | skip
  right
  intro n r
  cases n <;> rfl

theorem sim_marked {op : CmpOp} {b : Expr} {d : ED} (h : Sim X A envs own env r ρ₀ VRel (eval b env) d) (hd : ∀ e k p, b = .Set e k p → d = stuckD) : Sim X A envs own env r ρ₀ VRel (markedBehindIn op b (eval b env)) d := by
  unfold markedBehindIn
  split
  · rename_i hb
    unfold behindInMarks at hb
    split at hb
    · rw [hd _ _ _ rfl]; exact Sim.stuck
    · cases hb
  · exact h

theorem bi_boot (b : BI) : Str.ofString b.str ∈ biNames ∧ Str.ofString b.str ≠ "__name__" ∧ bootBuiltins (Str.ofString b.str) = some (biName b) := by
  cases b <;> exact ⟨by decide +kernel, by decide +kernel, by decide +kernel⟩
theorem sim_builtin (Z : Glo X G) (C : Cok X A envs own env r n) (hfree : r.hd = false) {f : Str} {b : BI} {p pos : Pos} {args : List Expr} {ds : List ED} (hb : bi f = some b) (hx : r.res f = some .glob) (hne : args ≠ []) (hpl : plainArgs args = true)
    (ha : SimsB X A envs own env r ρ₀ (backTo pos (starEach args env)) ds) : Sim X A envs own env r ρ₀ VRel (eval (.Call (.Name f p) args [] pos) env) (callBiD b ds) := by
  intro F s₀ m H ρ s hp I res H' hd Q E hQ hE
  have hpl' := plain_star (env := env) (pos := pos) hpl
  have hf := bi_inv hb
  subst hf
  obtain ⟨k1, k2, k3⟩ := bi_boot b
  refine wpAny_Call_NameR (load_builtin Z.T0 C I hx (Z.B _ k1) k2 k3 ?_)
  have fin : ∀ g, wpAny (model X.prog X.w) A (evalArgs g true (backTo pos (starEach args env)) []) (fun a s₁ => wpAny (model X.prog X.w) A (call (biName b) a.pos a.kw) Q E s₁) E s := fun g => by
    refine (sim_args ha (back_ne hne)).use hp I hd hE fun xs as H₁ ρ₁ s₁ hp1 I1 hv hd1 => ?_
    rw [hv.1]
    exact sim_biV (C.hd hfree) hv.2 F s₀ m H₁ ρ₁ s₁ (List.prefix_refl _) I1 _ _ hd1 Q E (fun a e b ρ' s' hp' => hQ a e b ρ' s' (hp1.trans hp')) (fun c e ee ρ' s' hp' => hE c e ee ρ' s' (hp1.trans hp'))
  generalize backTo pos (starEach args env) = ts at hpl' fin
  cases b <;> first | exact Calls.callWith_builtin hpl' (fin _) | exact callWith_type hpl' (fin _)
end
end Mine
namespace Mine
open PySem

section
variable {X : Stat} {G : PG} {n : Nat}

theorem Sim.nones {α β : Type} {A : Around} {envs : List Env} {own : List Addr} {env : Env} {r : Cx} {ρ₀ : List Addr} {V : List Addr → α → β → Prop} {t : Sem β} {d : RD α} (h : ∀ m H, d m H = none) : Sim X A envs own env r ρ₀ V t d := by
  intro F s₀ m H ρ s _ _ res H' hd; rw [h] at hd; cases hd
theorem Sim.boolE {A : Around} {envs : List Env} {own : List Addr} {env : Env} {r : Cx} {ρ₀ : List Addr} {t : Sem Value} {d : TD} (h : Sim X A envs own env r ρ₀ BRel t d) : Sim X A envs own env r ρ₀ VRel t (boolE d) := by
  intro F s₀ m H ρ s hp I res H' hd Q E hQ hE
  refine h.use hp I hd hE fun b v H₁ ρ₁ s₁ hp1 I1 hv hd1 => ?_
  cases hd1
  exact hQ _ rfl _ ρ₁ s₁ hp1 I1 hv

section
variable {A : Around} {envs : List Env} {own : List Addr} {env : Env} {r : Cx} {ρ₀ : List Addr}
theorem sim_constD {c : Const} {k : Nat} {p : Pos} : Sim X A envs own env r ρ₀ VRel (eval (.Constant c k p) env) (constD c) := by
  cases c <;> first | exact sim_int | exact sim_bool | exact sim_str | exact sim_none | exact Sim.stuck
theorem sim_nameD (Z : Glo X G) (C : Cok X A envs own env r n) {x : Str} {p : Pos} : Sim X A envs own env r ρ₀ VRel (eval (.Name x p) env) (nameD G r x) := by
  unfold nameD
  cases hx : r.res x with
  | none => exact Sim.stuck
  | some v =>
    cases v with
    | slot i b => exact sim_var C hx
    | glob =>
      simp only
      cases hv : G.consts.lookup x with
      | none => exact Sim.stuck
      | some v =>
        obtain ⟨v', hg, hr⟩ := Z.consts _ _ hv
        exact sim_const Z.T0 C hx hg hr
theorem sim_named (Z : Glo X G) (ih : ∀ k, k ≤ n → SimN X G k) (C : Cok X A envs own env r (n + 1)) {f : Str} {p pos : Pos} {args : List Expr} (hpl : plainArgs args = true) (hx : r.res f = some .glob) : Sim X A envs own env r ρ₀ VRel (eval (.Call (.Name f p) args [] pos) env) (match G.fns.lookup f with
          | some fi => if args ≠ [] then callD (fnDen G n r.hd fi) (evalsD G n r args) else stuckD
          | none => (match bi f with
            | some b => if args ≠ [] then whenFree r (callBiD b (evalsD G n r args)) stuckD else stuckD
            | none => if f = "isinstance" then
                (match two? args with
                | some q => (match asName q.2 with
                  | some T => if isGlob r T = true then isInD G T (evalD G n r q.1) else stuckD
                  | none => stuckD)
                | none => stuckD) else stuckD)) := by
  have In := ih n (Nat.le_refl _)
  have Cn := C.less (Nat.le_succ n)
  cases hf : G.fns.lookup f with
  | some fi =>
    by_cases hq : args ≠ []
    · simp only [if_pos hq]
      cases n with
      | zero =>
        refine Sim.nones fun m H => ?_
        cases args with
        | nil => exact absurd rfl hq
        | cons a as => rfl
      | succ k =>
        exact sim_call Z.T0 Cn (Z.fns _ _ hf).1 (Z.fns _ _ hf).2 hx (fun A envs own env ρ₀ C' hown => (ih k (by omega)).ss A envs own env _ ρ₀ _ C' hown rfl) (In.eb _ _ _ _ _ _ _ _ Cn) hq
    · simp only [if_neg hq]; exact Sim.stuck
  | none =>
    simp only
    cases hb : bi f with
    | some b =>
      by_cases hq : args ≠ []
      · simp only [if_pos hq]
        unfold whenFree
        cases hfree : r.hd with
        | true => exact Sim.stuck
        | false => exact sim_builtin Z C hfree hb hx hq hpl (In.eb _ _ _ _ _ _ _ _ Cn)
      · simp only [if_neg hq]; exact Sim.stuck
    | none =>
      simp only
      by_cases hi : f = "isinstance"
      · rw [if_pos hi]
        subst hi
        cases h2 : two? args with
        | none => exact Sim.stuck
        | some q =>
          simp only
          cases hT : asName q.2 with
          | none => exact Sim.stuck
          | some T =>
            simp only
            by_cases hg : isGlob r T = true
            · rw [if_pos hg]
              have e2 := two_inv (a := q.1) (b := q.2) h2
              subst e2
              obtain ⟨pT, hpT⟩ := asName_inv hT
              rw [hpT] at hpl ⊢
              exact sim_isi Z.T0 Z.K Z.B C hx (isGlob_inv hg) (plain_two hpl) (In.e _ _ _ _ _ _ _ Cn)
            · rw [if_neg hg]; exact Sim.stuck
      · rw [if_neg hi]; exact Sim.stuck
theorem sim_newE (Z : Glo X G) (ih : ∀ k, k ≤ n → SimN X G k) (C : Cok X A envs own env r (n + 1)) {args : List Expr} {p pos : Pos} (hx : r.res jdName = some .glob) :
    Sim X A envs own env r ρ₀ VRel (eval (.Call (.Name jdName p) args [] pos) env) (if args = [] then (match G.jd.lookup ("__init__" : Str) with | some q => newJ (fnDen G n r.hd q.2) | none => stuckD) else stuckD) := by
  by_cases hq : args = []
  · rw [if_pos hq]
    subst hq
    cases hf : G.jd.lookup ("__init__" : Str) with
    | none => exact Sim.stuck
    | some q =>
      obtain ⟨a, fi⟩ := q
      simp only
      cases n with
      | zero => exact Sim.nones fun m H => rfl
      | succ k => exact sim_new Z.T0 Z.jd C hf hx (fun A envs own env ρ₀ C' hown => (ih k (by omega)).ss A envs own env _ ρ₀ _ C' hown rfl)
  · rw [if_neg hq]; exact Sim.stuck
theorem sim_other (Z : Glo X G) (ih : ∀ k, k ≤ n → SimN X G k) (C : Cok X A envs own env r (n + 1)) {f : Expr} {q : Expr × Str × Pos} {args : List Expr} {pos : Pos} (hpl : plainArgs args = true) (ha : asAttr f = some q) :
    Sim X A envs own env r ρ₀ VRel (eval (.Call f args [] pos) env) (match G.jd.lookup q.2.1 with | some w => if notCall0 q.1 = true ∧ q.2.2.endLine = pos.line ∧ args.length < 2 then methJ (fnDen G n r.hd w.2) (evalD G n r q.1) (evalsD G n r args) else stuckD | none => stuckD) := by
  have In := ih n (Nat.le_refl _)
  have Cn := C.less (Nat.le_succ n)
  cases hf : G.jd.lookup q.2.1 with
  | none => exact Sim.stuck
  | some w =>
    obtain ⟨a, fi⟩ := w
    simp only
    by_cases hq : notCall0 q.1 = true ∧ q.2.2.endLine = pos.line ∧ args.length < 2
    · rw [if_pos hq]
      have e := asAttr_inv (o := q.1) (f := q.2.1) (p := q.2.2) ha
      rw [e]
      cases n with
      | zero => exact Sim.nones fun m H => rfl
      | succ k => exact sim_methJ Z.T0 Z.jd Cn hf hq.1 hq.2.1 hq.2.2 (fun A envs own env ρ₀ C' hown => (ih k (by omega)).ss A envs own env _ ρ₀ _ C' hown rfl) (In.e _ _ _ _ _ _ _ Cn) (In.eb _ _ _ _ _ _ _ _ Cn) (plain_star hpl)
    · rw [if_neg hq]; exact Sim.stuck
theorem sim_callE (Z : Glo X G) (ih : ∀ k, k ≤ n → SimN X G k) (C : Cok X A envs own env r (n + 1)) {f : Expr} {args : List Expr} {kw : List Keyword} {pos : Pos} : Sim X A envs own env r ρ₀ VRel (eval (.Call f args kw pos) env) (evalD G (n + 1) r (.Call f args kw pos)) := by
  have In := ih n (Nat.le_refl _)
  have Cn := C.less (Nat.le_succ n)
  cases kw with
  | cons _ _ => exact Sim.stuck
  | nil =>
    show Sim X A envs own env r ρ₀ VRel _ (if plainArgs args = true then _ else _)
    by_cases hpl : plainArgs args = true
    · rw [if_pos hpl]
      cases hn : asName f with
      | some x =>
        simp only
        by_cases hg : isGlob r x = true
        · rw [if_pos hg]
          obtain ⟨p, rfl⟩ := asName_inv hn
          by_cases hj : x = jdName
          · rw [if_pos hj]
            subst hj
            exact sim_newE Z ih C (isGlob_inv hg)
          rw [if_neg hj]
          exact sim_named Z ih C hpl (isGlob_inv hg)
        · rw [if_neg hg]; exact Sim.stuck
      | none =>
        simp only
        cases ha : asAttr f with
        | none => exact Sim.stuck
        | some q =>
          simp only
          cases hb : mi q.2.1 with
          | none =>
            simp only
            exact sim_other Z ih C hpl ha
          | some b =>
            simp only
            by_cases hq : notCall0 q.1 = true ∧ q.2.2.endLine = pos.line ∧ args.length < 2
            · rw [if_pos hq]
              have e := asAttr_inv (o := q.1) (f := q.2.1) (p := q.2.2) ha
              rw [e]
              exact sim_meth hb hq.1 hq.2.1 hq.2.2 (In.e _ _ _ _ _ _ _ Cn) (In.eb _ _ _ _ _ _ _ _ Cn) (plain_star hpl)
            · rw [if_neg hq]; exact Sim.stuck
    · rw [if_neg hpl]; exact Sim.stuck
theorem compOk_of {sc : Scope} (hq : ¬ (r.ic = true ∨ compOk r sc = false)) : r.ic = false ∧ compOk r sc = true := by
  cases h1 : r.ic with
  | true => exact absurd (.inl h1) hq
  | false =>
    cases h2 : compOk r sc with
    | false => exact absurd (.inr h2) hq
    | true => exact ⟨rfl, rfl⟩
theorem test_ok (In : SimN X G n) (Cn : Cok X A envs own env r n) {sc : Scope} (hic : r.ic = false) (hok : compOk r sc = true) {ifs : List Expr} : TestOk X A envs env r sc ifs (match ifs with | [] => pureD true | c :: cs => (match cs with | [] => testD G n (r.comp sc) c | _ :: _ => stuckD)) := by
  cases ifs with
  | nil => exact .inl ⟨rfl, rfl⟩
  | cons c cs =>
    cases cs with
    | nil => exact .inr (.inl ⟨_, rfl, fun Cc ρ₁ hne => In.t _ _ _ _ _ _ _ (Cn.toComp hic hok hne)⟩)
    | cons _ _ => exact .inr (.inr rfl)
theorem sim_compE (In : SimN X G n) (C : Cok X A envs own env r (n + 1)) {elt : Expr} {gs : List Comprehension} {sc : Scope} {pos : Pos} : Sim X A envs own env r ρ₀ VRel (eval (.ListComp elt gs sc pos) env) (evalD G (n + 1) r (.ListComp elt gs sc pos)) := by
  have Cn := C.less (Nat.le_succ n)
  show Sim X A envs own env r ρ₀ VRel _ (match asGen gs with | some g => _ | none => _)
  cases hg : asGen gs with
  | none => exact Sim.stuck
  | some g =>
    obtain ⟨x, it, ifs⟩ := g
    simp only
    obtain ⟨p, rfl⟩ := asGen_inv hg
    cases hx : plainSlot (r.comp sc) x with
    | none => exact Sim.stuck
    | some i =>
      simp only
      by_cases hq : r.ic = true ∨ compOk r sc = false
      · rw [if_pos hq]; exact Sim.stuck
      · rw [if_neg hq]
        obtain ⟨hic, hok⟩ := compOk_of hq
        unfold whenFree
        cases hfree : r.hd with
        | true => exact Sim.stuck
        | false =>
          rcases folded (env := env) (G := G) it with hs | hs
          · exact sim_listComp Cn hic (C.hd hfree) hok (plainSlot_inv hx) hs (In.i _ _ _ _ _ _ _ Cn) (test_ok In Cn hic hok) (fun Cc ρ₁ hne => In.e _ _ _ _ _ _ _ (Cn.toComp hic hok hne))
          · rw [hs]; exact Sim.stuck
theorem sim_cmpE (In : SimN X G n) (C : Cok X A envs own env r (n + 1)) {a : Expr} {ops : List CmpOp} {bs : List Expr} {pos : Pos} : Sim X A envs own env r ρ₀ VRel (eval (.Compare a ops bs pos) env) (evalD G (n + 1) r (.Compare a ops bs pos)) := by
  have Cn := C.less (Nat.le_succ n)
  show Sim X A envs own env r ρ₀ VRel _ (match one? ops with | some op => _ | none => _)
  cases ho : one? ops with
  | none => exact Sim.stuck
  | some op =>
    simp only
    cases hb : one? bs with
    | none => exact Sim.stuck
    | some b =>
      simp only
      have e1 := one_inv ho
      have e2 := one_inv hb
      subst e1; subst e2
      exact Sim.conv rfl (Sim.boolE (sim_cmp C (pos := pos) (op := op) (In.e _ _ _ _ _ _ _ Cn) (sim_marked (In.e _ _ _ _ _ _ _ Cn) (fun e k p hb => by subst hb; cases n <;> rfl))))
end
theorem e_step (Z : Glo X G) (ih : ∀ k, k ≤ n → SimN X G k) (A : Around) (envs : List Env) (own : List Addr) (env : Env) (r : Cx) (ρ₀ : List Addr) (e : Expr) (C : Cok X A envs own env r (n + 1)) :
    Sim X A envs own env r ρ₀ VRel (eval e env) (evalD G (n + 1) r e) := by
  have In := ih n (Nat.le_refl _)
  have Cn := C.less (Nat.le_succ n)
  cases e with
  | Constant c k p => exact sim_constD
  | Name x p => exact sim_nameD Z C
  | BoolOp op vs p => exact Sim.conv (t := boolOp _ _ (evalEach _ env)) rfl (sim_boolOp (In.es _ _ _ _ _ _ _ Cn))
  | BinOp a op b p => exact Sim.conv rfl (sim_bin (In.e _ _ _ _ _ _ _ Cn) (In.e _ _ _ _ _ _ _ Cn))
  | UnaryOp op a p => exact Sim.conv rfl (sim_un (In.e _ _ _ _ _ _ _ Cn))
  | Compare a ops bs p => exact sim_cmpE In C
  | Call f args kw p => exact sim_callE Z ih C
  | Subscript a b p =>
    show Sim X A envs own env r ρ₀ VRel _ (match asSlice b with | some q => _ | none => _)
    cases hs : asSlice b with
    | some q =>
      obtain ⟨p', rfl⟩ := asSlice_inv (l := q.1) (u := q.2) hs
      exact sim_slice (In.e _ _ _ _ _ _ _ Cn) (In.o _ _ _ _ _ _ _ Cn) (In.o _ _ _ _ _ _ _ Cn)
    | none => exact sim_subscript (In.e _ _ _ _ _ _ _ Cn) (In.e _ _ _ _ _ _ _ Cn) (fun l u p q => by subst q; cases hs)
  | Attribute o f p =>
    show Sim X A envs own env r ρ₀ VRel _ (if f = jdAttr ∧ (asName o).isSome = true then _ else _)
    by_cases hq : f = jdAttr ∧ (asName o).isSome = true
    · rw [if_pos hq]
      obtain ⟨rfl, ho⟩ := hq
      obtain ⟨x, hx⟩ := Option.isSome_iff_exists.mp ho
      obtain ⟨p', rfl⟩ := asName_inv hx
      exact sim_attr Z.jd (In.e _ _ _ _ _ _ _ Cn)
    · rw [if_neg hq]; exact Sim.stuck
  | List es p => exact Sim.conv rfl (sim_list (In.eb _ _ _ _ _ _ _ _ Cn))
  | Tuple es c p => exact Sim.conv rfl (sim_tuple (In.eb _ _ _ _ _ _ _ _ Cn))
  | ListComp elt gs sc p => exact sim_compE In C
  | _ => exact Sim.stuck

theorem Sim.truthB {A : Around} {envs : List Env} {own : List Addr} {env : Env} {r : Cx} {ρ₀ : List Addr} {t : Sem Value} {d : TD} (h : Sim X A envs own env r ρ₀ BRel t d) : Sim X A envs own env r ρ₀ TRel (do let c ← t; holding [c] (truthy c)) d := by
  intro F s₀ m H ρ s hp I res H' hd Q E hQ hE
  refine wpAny_bind (h F s₀ m H ρ s hp I _ _ hd _ _ (fun b e v ρ' s' hp' I' hv => ?_) hE)
  cases hv
  exact (sim_truthV (X := X) (A := A) (envs := envs) (own := own) (env := env) (r := r) (ρ₀ := ρ') (x := .bool b) (a := .bool b) rfl).hold F s₀ m H' ρ' s' (List.prefix_refl _) I' _ _ rfl _ _ (fun a ea b' ρ'' s'' hp'' I'' hb => by cases ea; exact hQ b e b' ρ'' s'' (hp'.trans hp'') I'' hb) (fun c ec => nomatch ec)
theorem sim_cmpT {A : Around} {envs : List Env} {own : List Addr} {env : Env} {r : Cx} {ρ₀ : List Addr} (C : Cok X A envs own env r n) {ta tb : Sem Value} {da db : ED} {op : CmpOp} {pos : Pos} (ha : Sim X A envs own env r ρ₀ VRel ta da) (hb : Sim X A envs own env r ρ₀ VRel tb db) :
    Sim X A envs own env r ρ₀ TRel (do let a ← ta; let b ← holding [a] tb; standAt pos; let c ← operate [a, b] (compareOp op a b); holding [c] (truthy c)) (cmpD op da db) :=
  ha.bind fun x a ρ₁ hp hx => (hb.mono hp).hold.bind fun y b ρ₂ hp2 hy => Sim.stand (Sim.truthB (sim_cmpOp C (hx.mono hp2) hy).oper)

theorem sim_testE {A : Around} {envs : List Env} {own : List Addr} {env : Env} {r : Cx} {ρ₀ : List Addr} {e : Expr} {d : ED} (h : Sim X A envs own env r ρ₀ VRel (eval e env) d) (he : isTrue e env (eval e env) = (do let v ← eval e env; standAt e.pos; holding [v] (truthy v))) : Sim X A envs own env r ρ₀ TRel (isTrue e env (eval e env)) (truthD d) :=
  Sim.conv he (sim_truth h)
theorem t_step (Z : Glo X G) (ih : ∀ k, k ≤ n → SimN X G k) (A : Around) (envs : List Env) (own : List Addr) (env : Env) (r : Cx) (ρ₀ : List Addr) (e : Expr) (C : Cok X A envs own env r (n + 1)) :
    Sim X A envs own env r ρ₀ TRel (isTrue e env (eval e env)) (testD G (n + 1) r e) := by
  have In := ih n (Nat.le_refl _)
  have Cn := C.less (Nat.le_succ n)
  cases e with
  | UnaryOp op a p =>
    cases op with
    | Not =>
      refine Sim.conv rfl ((In.t A envs own env r ρ₀ _ Cn).bind fun x a ρ₁ hp hx => ?_)
      cases hx
      exact Sim.pure fun _ _ => rfl
    | _ => exact sim_testE (In.e _ _ _ _ _ _ _ Cn) rfl
  | BoolOp op vs p => exact Sim.conv rfl (sim_allTrue (In.ts _ _ _ _ _ _ _ Cn))
  | IfExp a b c p => exact Sim.stuck
  | Compare a ops bs pos =>
    show Sim X A envs own env r ρ₀ TRel _ (match one? ops with | some op => _ | none => _)
    cases ho : one? ops with
    | none => exact Sim.stuck
    | some op =>
      simp only
      cases hb : one? bs with
      | none => exact Sim.stuck
      | some b =>
        simp only
        have e1 := one_inv ho
        have e2 := one_inv hb
        subst e1; subst e2
        exact Sim.conv rfl (sim_cmpT C (pos := pos) (op := op) (In.e _ _ _ _ _ _ _ Cn) (sim_marked (In.e _ _ _ _ _ _ _ Cn) (fun e k p hb => by subst hb; cases n <;> rfl)))
  | _ => exact sim_testE (In.e _ _ _ _ _ _ _ Cn) rfl
end
end Mine
namespace Mine
open PySem

section
variable {X : Stat} {G : PG} {n : Nat}

theorem es_step (ih : ∀ k, k ≤ n → SimN X G k) (A : Around) (envs : List Env) (own : List Addr) (env : Env) (r : Cx) (ρ₀ : List Addr) (es : List Expr) (C : Cok X A envs own env r (n + 1)) :
    Sims X A envs own env r ρ₀ VRel (evalEach es env) (evalsD G (n + 1) r es) := by
  have In := ih n (Nat.le_refl _)
  have Cn := C.less (Nat.le_succ n)
  cases es with
  | nil => exact .nil
  | cons e es =>
    refine .cons (d := if notStar e = true then _ else _) ?_ (In.es _ _ _ _ _ _ _ Cn)
    by_cases h : notStar e = true
    · rw [if_pos h]; exact In.e _ _ _ _ _ _ _ Cn
    · rw [if_neg h]; exact Sim.stuck
theorem eb_step (ih : ∀ k, k ≤ n → SimN X G k) (A : Around) (envs : List Env) (own : List Addr) (env : Env) (r : Cx) (ρ₀ : List Addr) (pos : Pos) (es : List Expr) (C : Cok X A envs own env r (n + 1)) :
    SimsB X A envs own env r ρ₀ (backTo pos (starEach es env)) (evalsD G (n + 1) r es) := by
  have In := ih n (Nat.le_refl _)
  have Cn := C.less (Nat.le_succ n)
  cases es with
  | nil => exact .nil
  | cons e es =>
    show SimsB X A envs own env r ρ₀ _ ((if notStar e = true then evalD G n r e else stuckD) :: _)
    by_cases h : notStar e = true
    · rw [if_pos h, star_cons h]
      exact .cons (In.e _ _ _ _ _ _ _ Cn) (In.eb _ _ _ _ _ _ _ _ Cn)
    · rw [if_neg h]
      obtain ⟨t, ht⟩ := star_some (e := e) (es := es) (env := env)
      rw [ht]
      exact .star

theorem ts_step (ih : ∀ k, k ≤ n → SimN X G k) (A : Around) (envs : List Env) (own : List Addr) (env : Env) (r : Cx) (ρ₀ : List Addr) (es : List Expr) (C : Cok X A envs own env r (n + 1)) :
    Sims X A envs own env r ρ₀ TRel (es.map fun e => isTrue e env (eval e env)) (testsD G (n + 1) r es) := by
  have In := ih n (Nat.le_refl _)
  have Cn := C.less (Nat.le_succ n)
  cases es with
  | nil => exact .nil
  | cons e es => exact .cons (In.t _ _ _ _ _ _ _ Cn) (In.ts _ _ _ _ _ _ _ Cn)

theorem o_step (ih : ∀ k, k ≤ n → SimN X G k) (A : Around) (envs : List Env) (own : List Addr) (env : Env) (r : Cx) (ρ₀ : List Addr) (e : Option Expr) (C : Cok X A envs own env r (n + 1)) :
    Sim X A envs own env r ρ₀ VRel (valueOrNone (evalOpt e env)) (optD (evalO G (n + 1) r e)) := by
  have In := ih n (Nat.le_refl _)
  have Cn := C.less (Nat.le_succ n)
  cases e with
  | none => exact sim_opt trivial
  | some e => exact sim_opt (In.e _ _ _ _ _ _ _ Cn)

theorem i_step (Z : Glo X G) (ih : ∀ k, k ≤ n → SimN X G k) (A : Around) (envs : List Env) (own : List Addr) (env : Env) (r : Cx) (ρ₀ : List Addr) (e : Expr) (C : Cok X A envs own env r (n + 1)) :
    SimI X A envs own env r ρ₀ e (iterD G (n + 1) r e) := by
  have In := ih n (Nat.le_refl _)
  have Cn := C.less (Nat.le_succ n)
  cases e with
  | Call f args kw pos =>
    show SimI X A envs own env r ρ₀ _ (match asName f with | some f => _ | none => _)
    cases hn : asName f with
    | none => exact simI_list (In.e _ _ _ _ _ _ _ Cn)
    | some x =>
      simp only
      by_cases hx : x = "range"
      · rw [if_pos hx]
        subst hx
        obtain ⟨p, rfl⟩ := asName_inv hn
        cases kw with
        | cons _ _ => exact simI_stuck
        | nil =>
          simp only
          by_cases hq : isGlob r "range" = true ∧ args ≠ [] ∧ plainArgs args = true
          · rw [if_pos hq]
            exact simI_range Z.T0 C (isGlob_inv hq.1) (Z.B _ (by decide +kernel)) (In.eb _ _ _ _ _ _ _ _ Cn) (plain_star hq.2.2) hq.2.1
          · rw [if_neg hq]; exact simI_stuck
      · rw [if_neg hx]; exact simI_list (In.e _ _ _ _ _ _ _ Cn)
  | Set es k p => exact simI_stuck
  | _ => exact simI_list (In.e _ _ _ _ _ _ _ Cn)

section
variable {A : Around} {envs : List Env} {own : List Addr} {env : Env} {r : Cx} {ρ₀ : List Addr}
theorem setS_stuck {t : Sem Flow} {i : Nat} : SimS X A envs own env r ρ₀ t (setS i stuckD) := by
  intro F s₀ m H ρ s _ _ res m' H' h; cases h
theorem s_setComp (ih : ∀ k, k ≤ n → SimN X G k) (C : Cok X A envs own env r (n + 1)) (hown : ∀ p ∈ env.cells, p.2 ∈ own) (hic : r.ic = false) {x : Str} {px pos cp : Pos} {i : Nat} {b : Bool} (hx : r.res x = some (.slot i b)) {elt : Expr} {gs : List Comprehension} {sc : Scope} :
    SimS X A envs own env r ρ₀ (exec (.Assign [.Name x px] (.ListComp elt gs sc cp) pos) env) (setS i (evalD G n r (.ListComp elt gs sc cp))) := by
  have Cn := C.less (Nat.le_succ n)
  cases n with
  | zero => exact setS_stuck
  | succ k =>
    have Ik := ih k (by omega)
    have Ck := Cn.less (Nat.le_succ k)
    show SimS X A envs own env r ρ₀ _ (setS i (match asGen gs with | some g => _ | none => _))
    cases hg : asGen gs with
    | none => exact setS_stuck
    | some g =>
      obtain ⟨y, it, ifs⟩ := g
      simp only
      obtain ⟨p, rfl⟩ := asGen_inv hg
      cases hy : plainSlot (r.comp sc) y with
      | none => exact setS_stuck
      | some j =>
        simp only
        by_cases hq : r.ic = true ∨ compOk r sc = false
        · rw [if_pos hq]; exact setS_stuck
        · rw [if_neg hq]
          obtain ⟨_, hok⟩ := compOk_of hq
          unfold whenFree
          cases hfree : r.hd with
          | true => exact setS_stuck
          | false =>
            rcases folded (env := env) (G := G) it with hs | hs
            · exact simS_setComp Ck hown hic (C.hd hfree) hok (plainSlot_inv hy) hx hs (Ik.i _ _ _ _ _ _ _ Ck) (test_ok Ik Ck hic hok) (fun Cc ρ₁ hne => Ik.e _ _ _ _ _ _ _ (Ck.toComp hic hok hne))
            · rw [hs]; exact setS_stuck
theorem s_setName (ih : ∀ k, k ≤ n → SimN X G k) (C : Cok X A envs own env r (n + 1)) (hown : ∀ p ∈ env.cells, p.2 ∈ own) (hic : r.ic = false) {x : Str} {px pos : Pos} {i : Nat} {b : Bool} (hx : r.res x = some (.slot i b)) {e : Expr} :
    SimS X A envs own env r ρ₀ (exec (.Assign [.Name x px] e pos) env) (setE e i (evalD G n r e)) := by
  have In := ih n (Nat.le_refl _)
  have Cn := C.less (Nat.le_succ n)
  cases e with
  | ListComp elt gs sc cp => exact s_setComp ih C hown hic hx
  | SetComp a b c d => cases n <;> exact setS_stuck (i := i)
  | DictComp a b c d f => cases n <;> exact setS_stuck (i := i)
  | _ => exact simS_set C hown hx (In.e _ _ _ _ _ _ _ Cn) rfl
theorem simS_forE (In : SimN X G n) (C : Cok X A envs own env r (n + 1)) (hown : ∀ p ∈ env.cells, p.2 ∈ own) (hic : r.ic = false) {t : Tgt} {e it : Expr} {body : List Stmt} {pos : Pos} (ht : TgtOk r t e) : SimS X A envs own env r ρ₀ (exec (.For e it body [] pos) env) (whenFree r (forS t (iterD G n r it) (execsD G n r body)) stuckS) := by
  have Cn := C.less (Nat.le_succ n)
  unfold whenFree
  cases hfree : r.hd with
  | true => exact SimS.stuck'
  | false =>
    rcases folded (env := env) (G := G) it with hs | hs
    · exact simS_for Cn (C.hd hfree) hown ht (In.i _ _ _ _ _ _ _ Cn) (In.ss _ _ _ _ _ _ _ Cn hown hic) hs
    · rw [hs]
      intro F s₀ m H ρ s _ _ res m' H' h; cases h
end
theorem s_step (Z : Glo X G) (ih : ∀ k, k ≤ n → SimN X G k) (A : Around) (envs : List Env) (own : List Addr) (env : Env) (r : Cx) (ρ₀ : List Addr) (st : Stmt) (C : Cok X A envs own env r (n + 1)) (hown : ∀ p ∈ env.cells, p.2 ∈ own) (hic : r.ic = false) :
    SimS X A envs own env r ρ₀ (exec st env) (execD G (n + 1) r st) := by
  have In := ih n (Nat.le_refl _)
  have Cn := C.less (Nat.le_succ n)
  cases st with
  | Expr e pos =>
    show SimS X A envs own env r ρ₀ _ (match asCall e with | some _ => _ | none => _)
    cases hc : asCall e with
    | none => exact SimS.stuck'
    | some q =>
      obtain ⟨p, rfl⟩ := asCall_inv hc
      exact simS_drop C (In.e _ _ _ _ _ _ _ Cn) rfl
  | Pass pos => exact SimS.stand SimS.next
  | Return v pos =>
    cases v with
    | none => exact SimS.stuck'
    | some e => exact simS_ret (In.e _ _ _ _ _ _ _ Cn)
  | Assign ts e pos =>
    show SimS X A envs own env r ρ₀ _ (match one? ts with | some t => _ | none => _)
    cases h1 : one? ts with
    | none => exact SimS.stuck'
    | some t =>
      have e1 := one_inv h1
      subst e1
      simp only
      cases hn : asName t with
      | some x =>
        simp only
        cases hx : slotOf r x with
        | none => exact SimS.stuck'
        | some i =>
          obtain ⟨b, hx⟩ := slotOf_inv hx
          obtain ⟨p, rfl⟩ := asName_inv hn
          exact s_setName ih C hown hic hx
      | none =>
        simp only
        cases hs : asSub t with
        | none =>
          simp only
          cases ha : asAttr t with
          | none => exact SimS.stuck'
          | some q =>
            simp only
            by_cases hq : isComp e = true ∨ q.2.1 ≠ jdAttr
            · rw [if_pos hq]; exact SimS.stuck'
            · rw [if_neg hq]
              have hj : q.2.1 = jdAttr := Classical.byContradiction fun h => hq (.inr h)
              have ea := asAttr_inv (o := q.1) (f := q.2.1) (p := q.2.2) ha
              rw [ea, hj]
              refine simS_setAttr Z.jd (In.e _ _ _ _ _ _ _ Cn) (In.e _ _ _ _ _ _ _ Cn) ?_
              cases e <;> rfl
        | some q =>
          simp only
          by_cases hq : isComp e = true ∨ isSliceE q.2 = true
          · rw [if_pos hq]; exact SimS.stuck'
          · rw [if_neg hq]
            obtain ⟨p, rfl⟩ := asSub_inv (o := q.1) (i := q.2) hs
            refine simS_setItem (In.e _ _ _ _ _ _ _ Cn) (In.e _ _ _ _ _ _ _ Cn) (In.e _ _ _ _ _ _ _ Cn) ?_
            cases e <;> rfl
  | If t a b pos => exact simS_if (In.t _ _ _ _ _ _ _ Cn) (In.ss _ _ _ _ _ _ _ Cn hown hic) (In.ss _ _ _ _ _ _ _ Cn hown hic)
  | For t it body els pos =>
    cases els with
    | cons _ _ => exact SimS.stuck'
    | nil =>
      show SimS X A envs own env r ρ₀ _ (match asName t with | some x => _ | none => _)
      cases hn : asName t with
      | some x =>
        simp only
        cases hx : slotOf r x with
        | none => exact SimS.stuck'
        | some i =>
          obtain ⟨b, hx⟩ := slotOf_inv hx
          obtain ⟨p, rfl⟩ := asName_inv hn
          exact simS_forE In C hown hic (t := .one i) ⟨x, b, p, rfl, hx⟩
      | none =>
        simp only
        cases hp : asPair t with
        | none => exact SimS.stuck'
        | some q =>
          simp only
          obtain ⟨p1, p2, k, pp, rfl⟩ := asPair_inv (x := q.1) (y := q.2) hp
          cases hx : slotOf r q.1 with
          | none => exact SimS.stuck'
          | some i =>
            simp only
            cases hy : slotOf r q.2 with
            | none => exact SimS.stuck'
            | some j =>
              obtain ⟨b, hx⟩ := slotOf_inv hx
              obtain ⟨c, hy⟩ := slotOf_inv hy
              exact simS_forE In C hown hic (t := .two i j) ⟨_, _, b, c, p1, p2, k, pp, rfl, hx, hy⟩
  | Raise v c pos =>
    show SimS X A envs own env r ρ₀ _ (match asRaise v c with | some c => _ | none => _)
    cases hr : asRaise v c with
    | none => exact SimS.stuck'
    | some x =>
      simp only
      by_cases hq : isGlob r x = true ∧ (G.clss.lookup x).isSome = true
      · rw [if_pos hq]
        unfold whenFree
        cases hfree : r.hd with
        | true => exact SimS.stuck'
        | false =>
          obtain ⟨p, s, k, q, r', rfl, rfl⟩ := asRaise_inv hr
          exact simS_raise Z.T0 Z.K C hfree hq.2 (isGlob_inv hq.1)
      · rw [if_neg hq]; exact SimS.stuck'
  | Try body hs els fin pos =>
    cases els with
    | cons _ _ => exact SimS.stuck'
    | nil =>
      cases fin with
      | cons _ _ => exact SimS.stuck'
      | nil =>
        cases hs with
        | nil => exact SimS.stuck'
        | cons h hs =>
          show SimS X A envs own env r ρ₀ _ (whenFree r _ _)
          unfold whenFree
          cases hfree : r.hd with
          | true => exact SimS.stuck'
          | false => exact simS_try Z.T0 Z.K Z.B C (In.ss _ _ _ _ _ _ _ Cn hown hic) (fun ρ₁ hp => In.h _ _ _ _ _ _ _ Cn hown hic)
  | _ => exact SimS.stuck'

theorem ss_step (ih : ∀ k, k ≤ n → SimN X G k) (A : Around) (envs : List Env) (own : List Addr) (env : Env) (r : Cx) (ρ₀ : List Addr) (ss : List Stmt) (C : Cok X A envs own env r (n + 1)) (hown : ∀ p ∈ env.cells, p.2 ∈ own) (hic : r.ic = false) :
    SimS X A envs own env r ρ₀ (execs ss env) (execsD G (n + 1) r ss) := by
  have In := ih n (Nat.le_refl _)
  have Cn := C.less (Nat.le_succ n)
  cases ss with
  | nil => exact simS_nil
  | cons s ss => exact simS_cons (In.s _ _ _ _ _ _ _ Cn hown hic) (In.ss _ _ _ _ _ _ _ Cn hown hic)

theorem h_step (ih : ∀ k, k ≤ n → SimN X G k) (A : Around) (envs : List Env) (own : List Addr) (env : Env) (r : Cx) (ρ₀ : List Addr) (hs : List ExceptHandler) (C : Cok X A envs own env r (n + 1)) (hown : ∀ p ∈ env.cells, p.2 ∈ own) (hic : r.ic = false) :
    HandsOk X G A envs own env r ρ₀ hs (handsD G (n + 1) r hs) := by
  have In := ih n (Nat.le_refl _)
  have Cn := C.less (Nat.le_succ n)
  cases hs with
  | nil => exact .stop
  | cons h hs =>
    show HandsOk X G A envs own env r ρ₀ _ (match asHand h with | some q => _ | none => _)
    cases ha : asHand h with
    | none => exact .stop
    | some q =>
      obtain ⟨c, nm, body⟩ := q
      simp only
      by_cases hg : isGlob r c = true
      · rw [if_pos hg]
        obtain ⟨p, s, b, q, rfl, rfl⟩ := asHand_inv ha
        cases nm with
        | none => exact .plain (isGlob_inv hg) (fun e => In.ss _ _ _ _ _ _ _ (Cn.held _) hown hic) (In.h _ _ _ _ _ _ _ Cn hown hic)
        | some x =>
          simp only
          cases hx : plainSlot r x with
          | none => exact .stop
          | some i => exact .named (isGlob_inv hg) (plainSlot_inv hx) (fun e => In.ss _ _ _ _ _ _ _ (Cn.held _) hown hic) (In.h _ _ _ _ _ _ _ Cn hown hic)
      · rw [if_neg hg]; exact .stop

theorem simN (Z : Glo X G) : ∀ n k, k ≤ n → SimN X G k
  | 0, k, h => by
    have : k = 0 := by omega
    subst this; exact simN_zero
  | n + 1, k, h => by
    have ih := simN Z n
    by_cases hk : k ≤ n
    · exact ih k hk
    · have : k = n + 1 := by omega
      subst this
      exact ⟨e_step Z ih, t_step Z ih, es_step ih, eb_step ih, ts_step ih, o_step ih, i_step Z ih, s_step Z ih, ss_step ih, h_step ih⟩

end
end Mine
namespace Mine
open PySem

section
variable {X : Stat} {A : Around} {envs : List Env} {n : Nat}
theorem wp_top (T : Top0 X) {f : Str} {fi : FnI} (hf : FnOk X f fi) (hno : namesOk fi = true) {hd : Bool} {body : SD} (hb : BodyOk X fi hd n body) (hh : hd = false → A.handled = none) (hA : A.frames = some envs) (hdep : A.depth + (n + 1) < recursionLimit) (hun : A.units + 20 * (n + 1) < 9000)
    {H H' : HP} {ρ : List Addr} {s : Shared} (I : Inv0 X envs H ρ s) {a : Addr} (ha : X.mg f = some (.ref a)) {xs : List PV} {vs : List Value} (hv : VRels ρ xs vs) {v : PV}
    (hd1 : fnD fi.params.length (slotsOf fi.scope fi.params) body xs H = some (.ok v, H')) {Q E : Value → Shared → Prop}
    (hQ : ∀ v' ρ' s' own' env' rs' m', ρ <+: ρ' → env'.frame = some s.heap.objs.size → Inv X (env' :: envs) (but s.heap (ρ.drop 1)) own' env' rs' s m' H' ρ' s' → VRel ρ' v v' → Q v' s') :
    wpAny (model X.prog X.w) A (call (.ref a) vs []) Q E s := by
  obtain ⟨a', hm, hf⟩ := hf
  rw [ha] at hm
  cases hm
  exact wp_enter T hf hno hb hh hA hdep hun I hv hd1 (fun v e v' ρ' s' own' env' rs' m' hp' hfr I'' hv' => by cases e; exact hQ v' ρ' s' own' env' rs' m' hp' hfr I'' hv') fun c e => nomatch e
end

/-- a law's call -/
theorem law_ok {X : Stat} {G : PG} (Z : Glo X G) {A : Around} {n : Nat} {f : Str} {fi : FnI} (hf : G.fns.lookup f = some fi) (hh : A.handled = none) (hA : A.frames = some []) (hdep : A.depth + (n + 1) < recursionLimit) (hun : A.units + 20 * (n + 1) < 9000)
    {s : Shared} (hbase : X.base = s.heap) {a l : Addr} (ha : X.mg f = some (.ref a)) {items : Array Value} {c : Nat} {zs : List PV} (hl : s.heap.get? l = some ⟨.type "list", none, .seq items c, #[]⟩) (hz : ∀ ρ, VRels ρ zs items.toList) (hr : roomy zs.length = true) {v : PV} {H' : HP}
    (hd : fnDen G (n + 1) false fi [.ref 0] [.list zs] = some (.ok v, H')) {Q E : Value → Shared → Prop}
    (hQ : ∀ v' ρ' s', VRel ρ' v v' → (∀ b o, s.heap.get? b = some o → s'.heap.get? b = some o) → s'.os = s.os → s'.gens = s.gens → Q v' s') : wpAny (model X.prog X.w) A (call (.ref a) [.ref l] []) Q E s := by
  have I : Inv0 X [] [.list zs] [l] s := by
    refine ⟨fun b o e => by rw [hbase] at e; exact e, ?_, rfl, fun i o e => ?_, by simp, fun i b e => ?_, by simp⟩
    · first | exact Heap.FunFrames.nil | exact trivial | constructor
    · cases i with
      | zero =>
        simp at e; subst e
        exact ⟨l, _, rfl, hl, items, c, rfl, hz _, hr⟩
      | succ i => simp at e
    · refine ⟨by simp [frs], fun h0 => ?_⟩
      cases i with
      | zero => exact absurd rfl h0
      | succ i => simp at e
  refine wp_top Z.T0 (Z.fns _ _ hf).1 (Z.fns _ _ hf).2 (body := execsD G n ⟨resOf fi.scope, false, false⟩ fi.body) (n := n) (fun A envs own env ρ₀ C' hown => (simN Z n n (Nat.le_refl _)).ss A envs own env _ ρ₀ _ C' hown rfl) (fun _ => hh) hA hdep hun I ha (xs := [.ref 0]) (vs := [.ref l]) ⟨⟨l, rfl, rfl⟩, trivial⟩ hd fun v' ρ' s' own' env' rs' m' hp hfr I' hv => ?_
  refine hQ v' ρ' s' hv (fun b o e => ?_) ?_ ?_
  · rcases I'.keep b o (but_some.mpr ⟨by simp, e⟩) with q | ⟨q, _⟩
    · exact q
    · exfalso
      unfold frs at q
      rw [List.filterMap_cons, hfr] at q
      simp at q
      subst q
      exact absurd (Heap.lt_size e) (Nat.lt_irrefl _)
  · exact I'.same.os
  · exact I'.same.gens
end Mine
namespace Mine
open PySem PySem.W PyProof.Rows

noncomputable def fiOf (d : DefRec) : FnI := ⟨d.params.args.map (·.arg), d.scope, d.body⟩
noncomputable def fnsOf (ds : List DefRec) : List (Str × FnI) := ds.map fun d => (d.name, fiOf d)

noncomputable def simpleParams (a : Arguments) : Bool :=
  a.posonlyargs.isEmpty && a.vararg.isNone && a.kwonlyargs.isEmpty && a.kw_defaults.isEmpty && a.kwarg.isNone && a.defaults.isEmpty

theorem zip_lookup : ∀ {ps : List Str} {vs : List Value}, vs.length = ps.length → ∀ n ∈ ps, ((ps.zip vs).lookup n).isSome = true
  | [], _, _, n, hn => by cases hn
  | p :: ps, [], h, _, _ => by simp at h
  | p :: ps, v :: vs, h, n, hn => by
    rw [List.zip_cons_cons, List.lookup_cons]
    cases hb : (n == p) with
    | true => rfl
    | false =>
      refine zip_lookup (by simpa using h) n ?_
      rcases List.mem_cons.mp hn with rfl | q
      · simp at hb
      · exact q
theorem filterMap_congr' {α β : Type} {f g : α → Option β} : ∀ {l : List α}, (∀ a ∈ l, f a = g a) → l.filterMap f = l.filterMap g
  | [], _ => rfl
  | a :: l, h => by
    rw [List.filterMap_cons, List.filterMap_cons, h a List.mem_cons_self, filterMap_congr' fun b hb => h b (List.mem_cons_of_mem _ hb)]
theorem zip_binds : ∀ {ps : List Str} {vs : List Value}, ps.Nodup → vs.length = ps.length → ps.filterMap (fun n => ((ps.zip vs).lookup n).map (n, ·)) = ps.zip vs
  | [], _, _, _ => rfl
  | p :: ps, [], _, h => by simp at h
  | p :: ps, v :: vs, hn, h => by
    rw [List.nodup_cons] at hn
    have ih := zip_binds (vs := vs) hn.2 (by simpa using h)
    rw [List.filterMap_cons, List.zip_cons_cons, List.lookup_cons]
    simp only [beq_self_eq_true, Option.map_some]
    congr 1
    rw [← ih]
    refine filterMap_congr' fun a ha => ?_
    rw [List.lookup_cons]
    have : (a == p) = false := by
      simp only [beq_eq_false_iff_ne, ne_eq]
      rintro rfl; exact hn.1 ha
    rw [this, ih]
theorem bind_simple0 {n : Str} {as : List Arg} {b : List Stmt} {sc : Scope} {pm cd doc : Value} : ∀ vs : List Value, vs.length = (as.map (·.arg)).length → (as.map (·.arg)).Nodup → bindArgs (Calls.docDef n ⟨[], as, none, [], [], none, []⟩ b sc pm cd doc) ⟨vs, []⟩ = pure ((as.map (·.arg)).zip vs) := by
  intro vs hl hnd
  have hm : ((as.map (·.arg)).take (as.map (·.arg)).length).filter (fun n => (((as.map (·.arg)).zip vs).lookup n).isNone) = [] := by
    rw [List.filter_eq_nil_iff]
    intro a ha
    have := zip_lookup hl a (List.mem_of_mem_take ha)
    rw [Option.isSome_iff_exists] at this
    obtain ⟨x, hx⟩ := this
    rw [hx]; simp
  have hg : ¬ (vs.length > (as.map (·.arg)).length) := by omega
  have hf : (as.map (·.arg)).filterMap (fun n => (((as.map (·.arg)).zip vs).lookup n).map (n, ·)) = (as.map (·.arg)).zip vs := zip_binds hnd hl
  show (if (decide (vs.length > (as.map (·.arg)).length) && true) = true then _ else _) = _
  rw [if_neg (by simpa using Nat.not_lt.mp hg)]
  have hd0 : ∀ k : Nat, (#[] : Array Value).toList.drop k = [] := fun k => by simp
  show (if (!((((as.map (·.arg)).take ((as.map (·.arg)).length - ((#[] : Array Value).toList.drop _).length)).filter (fun n => (((as.map (·.arg)).zip vs).lookup n).isNone)).isEmpty)) = true then _ else _) = _
  rw [hd0, if_neg (by rw [show ((as.map (·.arg)).length - ([] : List Value).length) = (as.map (·.arg)).length from rfl, hm]; simp)]
  have hz : ∀ l : List Str, l.zip ([] : List Value) = [] := fun l => by cases l <;> rfl
  show (forIn (((as.map (·.arg)).drop ((as.map (·.arg)).length - ((#[] : Array Value).toList.drop (0 - (as.map (·.arg)).length)).length)).zip ((#[] : Array Value).toList.drop (0 - (as.map (·.arg)).length))) _ _ >>= _) = _
  rw [hd0, hz]
  show (pure ((as.map Arg.arg ++ []).filterMap (fun n => (((as.map Arg.arg).zip vs).lookup n).map (n, ·))) : Sem (List (Str × Value))) = _
  rw [List.append_nil, hf]

theorem bind_simple {n : Str} {a : Arguments} {b : List Stmt} {sc : Scope} {pm cd doc : Value} (h : simpleParams a = true) (hnd : (a.args.map (·.arg)).Nodup) : ∀ vs : List Value, vs.length = (a.args.map (·.arg)).length → bindArgs (Calls.docDef n a b sc pm cd doc) ⟨vs, []⟩ = pure ((a.args.map (·.arg)).zip vs) := by
  intro vs hl
  obtain ⟨po, as, va, ko, kd, kw, df⟩ := a
  unfold simpleParams at h
  simp only [Bool.and_eq_true, List.isEmpty_iff, Option.isNone_iff_eq_none, decide_eq_true_eq] at h
  obtain ⟨⟨⟨⟨⟨rfl, rfl⟩, rfl⟩, rfl⟩, rfl⟩, rfl⟩ := h
  exact bind_simple0 vs hl hnd

noncomputable def fnCheck (d : DefRec) : Bool := simpleParams d.params && scopeOk (fiOf d) && namesOk (fiOf d)

theorem lookup_fns {ds : List DefRec} {f : Str} {fi : FnI} (h : (fnsOf ds).lookup f = some fi) : ∃ d ∈ ds, d.name = f ∧ fi = fiOf d := by
  induction ds with
  | nil => cases h
  | cons d ds ih =>
    simp only [fnsOf, List.map_cons, List.lookup_cons] at h
    cases hb : (f == d.name) with
    | true =>
      rw [hb] at h
      cases h
      exact ⟨d, List.mem_cons_self, (beq_iff_eq.mp hb).symm, rfl⟩
    | false =>
      rw [hb] at h
      obtain ⟨d', h1, h2, h3⟩ := ih h
      exact ⟨d', List.mem_cons_of_mem _ h1, h2, h3⟩

theorem lookup_all {α β : Type} [BEq α] [LawfulBEq α] {l : List (α × β)} {x : α} {v : β} (h : l.lookup x = some v) {p : α × β → Prop} (hp : ∀ q ∈ l, p q) : p (x, v) := by
  induction l with
  | nil => cases h
  | cons q l ih =>
    rw [List.lookup_cons] at h
    cases hb : (x == q.1) with
    | true =>
      rw [hb] at h; cases h
      have := hp q List.mem_cons_self
      rw [beq_iff_eq.mp hb]; exact this
    | false =>
      rw [hb] at h
      exact ih h fun q hq => hp q (List.mem_cons_of_mem _ hq)

section
variable {p : Program} {loose : List Str} {mean : ExcName → Option Value} {mg mb : Str → Option Value} {h : Heap} {prog : Program} {w : World} {cls : Str → Option Addr}

theorem top0_of (T : Top p loose mean mg mb h) : Top0 ⟨prog, w, h, mg, mb, cls⟩ := ⟨T.g, T.b, T.builtins, T.nolimit⟩

theorem fnOk_of (T : Top p loose mean mg mb h) (hc : (recsOf p).all fnCheck = true) (f : Str) (fi : FnI) (hf : (fnsOf (recsOf p)).lookup f = some fi) : FnOk ⟨prog, w, h, mg, mb, cls⟩ f fi ∧ namesOk fi = true := by
  obtain ⟨d, hd, rfl, rfl⟩ := lookup_fns hf
  have := List.all_eq_true.mp hc d hd
  simp only [fnCheck, Bool.and_eq_true] at this
  obtain ⟨⟨h1, h2⟩, h3⟩ := this
  obtain ⟨a, o, pm, code, doc, hm, ho, hdat, hcode⟩ := T.fn d hd
  refine ⟨⟨a, hm, h2, o, _, ho, hdat, rfl, rfl, rfl, rfl, rfl, hcode, bind_simple h1 ?_⟩, h3⟩
  unfold scopeOk at h2
  simp only [Bool.and_eq_true, decide_eq_true_eq] at h2
  exact h2.1.2

end

-- own classes
section
variable {prog : Program} {w : World} {A : Around} {E : Value → Shared → Prop} {s : Shared} {K : Frag} {x C D : Addr} {ox : Obj}

theorem look_cls {M : Model} {h : Heap} (X : K.In h) (hc : (clsIn K C).isSome = true) : Looks M h (isType (.ref C)) true := by
  unfold clsIn at hc
  split at hc
  · rename_i c' d' cd' sl' ho
    intro A' Q' E' s' k q
    unfold isType loadHead
    exact wpAny_bind (wpAny_loadPart (k _ _ (X _ _ ho)) (wpAny_pure q))
  · cases hc

theorem exc_match {b : Bool} {e : Addr} {oe : Obj} {Q : Bool → Shared → Prop} (X : K.In s.heap) (hD : (clsIn K D).isSome = true) (htD : typeIn K (.ref D) = some (.type "type")) (hbD : subIn K (.ref D) (.type "BaseException") = some true) (hs : subIn K (.ref C) (.ref D) = some b)
    (he : s.heap.get? e = some oe) (hcls : oe.cls = .ref C) (hq : Q b s) : wpAny (model prog w) A (excMatches (.ref e) (.ref D)) Q E s := by
  obtain ⟨h, g, d, t, os⟩ := s
  have L1 := looks_typeIn (M := model prog w) X htD
  have L2 : Looks (model prog w) h (isSubtype (.type "type") (.type "tuple")) false := Looks.of_pure (by rw [isSubtype_type]; kernel_rfl)
  have L3 := look_cls (M := model prog w) X hD
  have L4 := looks_subIn (M := model prog w) X hbD
  have L5 : Looks (model prog w) h (typeOf (.ref e)) (.ref C) := hcls ▸ (Looks.ld he).andThen .now
  have L6 := looks_subIn (M := model prog w) X hs
  unfold excMatches isInstance isExcClass
  refine wpAny_bind (wpAny_bind (L1.at (L2.at ?_)))
  simp only [Bool.false_eq_true, if_false]
  refine wpAny_bind (wpAny_pure ?_)
  rw [List.forIn_cons]
  refine wpAny_bind (wpAny_bind (wpAny_bind (wpAny_bind (L3.at ?_))))
  rw [if_pos rfl]
  refine L4.at ?_
  rw [if_neg (by decide)]
  refine wpAny_pure ?_
  show wpAny _ _ (forIn [] _ _) _ _ _
  rw [List.forIn_nil]
  refine wpAny_pure (wpAny_bind (L5.at ?_))
  rw [List.forIn_cons]
  refine wpAny_bind (wpAny_bind (wpAny_bind (L6.at ?_)))
  cases b with
  | true =>
    rw [if_pos rfl]
    exact wpAny_pure (wpAny_pure (wpAny_pure hq))
  | false =>
    rw [if_neg (by decide)]
    refine wpAny_pure ?_
    show wpAny _ _ (forIn [] _ _) _ _ _
    rw [List.forIn_nil]
    exact wpAny_pure (wpAny_pure hq)

theorem fobj_data {a g : Value} {name : Str} (hc : (clsIn K C).isSome = true) (ha : findIn K (.ref C) name = some (some a)) (hg : specialIn K a "__get__" = some (some g)) (ht : takesIn K a = some true) : findObj K C none name = some (.bind g a) := by
  obtain ⟨cd, hc⟩ := Option.isSome_iff_exists.mp hc
  unfold findObj
  rw [hc, Option.bind_some, ha, Option.bind_some]
  simp only [hg, ht, Option.bind_some]

/-- what K says of an own class: a plain exception class -/
noncomputable def excK (K : Frag) (C : Addr) : Bool := (clsIn K C).isSome && typeIn K (.ref C) == some (.type "type") && subIn K (.ref C) (.type "BaseException") == some true &&
  (findIn K (.ref C) "__getattribute__" == some (some (.builtin "BaseException.__getattribute__")) && findIn K (.ref C) "__getattr__" == some none) && findIn K (.ref C) "__class__" == some (some (.builtin "object.__class__")) && specialIn K (.builtin "object.__class__") "__get__" == some (some (.builtin "getset_descriptor.__get__")) &&
  takesIn K (.builtin "object.__class__") == some true && mroIn K C (.type "object") == some true

structure ExcK (K : Frag) (C : Addr) : Prop where
  cls : (clsIn K C).isSome = true
  ty : typeIn K (.ref C) = some (.type "type")
  be : subIn K (.ref C) (.type "BaseException") = some true
  hg : findIn K (.ref C) "__getattribute__" = some (some (.builtin "BaseException.__getattribute__")) ∧ findIn K (.ref C) "__getattr__" = some none
  ha : findIn K (.ref C) "__class__" = some (some (.builtin "object.__class__"))
  hn : specialIn K (.builtin "object.__class__") "__get__" = some (some (.builtin "getset_descriptor.__get__"))
  htk : takesIn K (.builtin "object.__class__") = some true
  hm : mroIn K C (.type "object") = some true
theorem ExcK.of (h : excK K C = true) : ExcK K C := by
  unfold excK at h
  simp only [Bool.and_eq_true, beq_iff_eq] at h
  obtain ⟨⟨⟨⟨⟨⟨⟨h1, h2⟩, h3⟩, h4⟩, h5⟩, h6⟩, h7⟩, h8⟩ := h
  exact ⟨h1, h2, h3, h4, h5, h6, h7, h8⟩

theorem kcls (Z : ExcK K D) {Q : Option Value → Shared → Prop} (X : K.In s.heap) (I : InstAt s.heap x ox D none) (h : ∀ t, Q (some (.ref D)) { s with toks := t }) : wpAny (model prog w) A (getAttr? (.ref x) "__class__") Q E s := by
  obtain ⟨hh, g, d, t, os⟩ := s
  have L0 := I.type (M := model prog w)
  have L1 := looks_findIn (M := model prog w) X Z.hg.1
  have L2 := looks_findIn (M := model prog w) X Z.hg.2
  have LF := looks_find (M := model prog w) X I (fobj_data Z.cls Z.ha Z.hn Z.htk)
  have LB := looks_subIn (M := model prog w) X Z.be
  have FG := PySem.F.attrBase_ValueError.ga
  have f3 := FG.bind (.ref x)
  have hx1 : (onTheHeap (Value.ref D) && Value.builtin "BaseException.__getattribute__" == Value.builtin "object.__getattribute__") = false := by
    have : (Value.builtin "BaseException.__getattribute__" == Value.builtin "object.__getattribute__") = false := by decide +kernel
    rw [this]; rfl
  unfold getAttr? getAttrBy? getAttrBy
  refine wpAny_bind (wpAny_mkText (wpAny_bind (wpAny_attempt (wpAny_holding (wpAny_bind (L0.at (wpAny_bind (L1.at ?_))))))))
  simp only [hx1, Bool.false_eq_true, if_false]
  unfold getAttrByItsOwn hookBefore
  refine wpAny_bind ?_
  rw [if_pos (show onTheHeap (Value.ref D) = true from rfl)]
  refine L2.at ?_
  refine wpAny_bind (wpAny_attempt (wpAny_holding ?_))
  unfold callGetattribute
  rw [if_neg (by simp)]
  unfold boundAndCalled
  rw [f3]
  refine wpAny_bind (wpAny_pure ?_)
  refine wpAny_call (codeAny_call_builtin FG.plain PySem.F.entry_bexc_ga ?_)
  have hk : builtinKind "BaseException.__getattribute__" = some .slot := by decide +kernel
  have hsplit : splitId "BaseException.__getattribute__" = some ("BaseException", "__getattribute__") := by decide +kernel
  have ha := PySem.F.args_bexc_ga (.ref x) (.str "__class__" t)
  simp only [checkBuiltinCall, hk, hsplit]
  refine wpAny_bind ?_
  unfold isInstance
  refine wpAny_bind (L0.at (LB.at ?_))
  rw [if_neg (by decide)]
  refine wpAny_of_eq ha ?_
  unfold Builtin.«object.__getattribute__»
  refine wpAny_bind (wpAny_pure ?_)
  refine wpAny_bind (wpAny_pure (wpAny_bind (L0.at (wpAny_bind (LF.at ?_)))))
  show wpAny _ _ (holding [.builtin "object.__class__"] (call (.builtin "getset_descriptor.__get__") [.builtin "object.__class__", .ref x, .ref D]) >>= ret) _ _ _
  refine wpAny_bind (wpAny_holding (wpAny_call (class_get (s := ⟨hh, g, d, t + 1, os⟩) (ox := ox) (od := none) X I Z.hm ?_)))
  refine wpAny_pure ?_
  exact handed_on rfl (wpAny_pure (h _))

theorem knested (Z : ExcK K D) {c : Value} {dep : Int} {tk : Tok} {Q : Fin → Shared → Prop} {b : Bool} (X : K.In s.heap) (I : InstAt s.heap x ox D none) (hty : Looks (model prog w) s.heap (typeOf c) (.type "type")) (his : Looks (model prog w) s.heap (isType c) true)
    (hne : b = false → (Value.ref D == c) = false) (hsub : Looks (model prog w) s.heap (isSubtype (.ref D) c) b) (h : ∀ t, Q (.done (.ret (.bool b))) { s with toks := t }) :
    wpAny (model prog w) A (Builtin.«isinstance.nested» ⟨[.ref x, c, .int dep tk], []⟩) Q E s := by
  have hisD : Looks (model prog w) s.heap (isType (.ref D)) true := look_cls X Z.cls
  have h0 : Q (.done (.ret (.bool b))) s := h s.toks
  obtain ⟨hh, g, d, tt, os⟩ := s
  have L0 := I.type (M := model prog w)
  have LI : Looks (model prog w) hh (isInstance (.ref x) c) b := L0.andThen hsub
  unfold Builtin.«isinstance.nested»
  refine wpAny_bind (L0.at ?_)
  by_cases q : (Value.ref D == c) = true
  · have : b = true := by
      cases b with
      | true => rfl
      | false => rw [hne rfl] at q; cases q
    subst this
    rw [if_pos q]
    exact wpAny_bind (wpAny_rule (wpAny_bind (wpAny_pure (wpAny_pure h0))))
  · rw [if_neg q]
    refine wpAny_bind (hty.at ?_)
    rw [if_pos (by decide)]
    k_delta "plainIsInstance"
    refine wpAny_bind (wpAny_bind (his.at ?_))
    simp only [Bool.not_true, Bool.false_eq_true, if_false]
    refine wpAny_bind (LI.at ?_)
    cases b with
    | true =>
      simp only [if_true]
      exact wpAny_pure (wpAny_pure h0)
    | false =>
      simp only [Bool.false_eq_true, if_false]
      refine wpAny_bind (kcls Z X I fun tk' => ?_)
      refine wpAny_bind (hisD.at ?_)
      simp only [Bool.not_true, Bool.false_eq_true, if_false]
      refine wpAny_bind (wpAny_rule ?_)
      refine hsub.at ?_
      first
        | exact wpAny_pure (h _)
        | exact wpAny_pure (wpAny_pure (h _))
        | exact wpAny_bind (wpAny_pure (wpAny_pure (h _)))

theorem kisi (Z : ExcK K D) {c : Value} {Q : Value → Shared → Prop} {b : Bool} (X : K.In s.heap) (I : InstAt s.heap x ox D none) (hty : ∀ (M : Model) h', K.In h' → Looks M h' (typeOf c) (.type "type")) (his : ∀ (M : Model) h', K.In h' → Looks M h' (isType c) true)
    (hne : b = false → (Value.ref D == c) = false) (hsub : ∀ (M : Model) h', K.In h' → Looks M h' (isSubtype (.ref D) c) b) (h : ∀ t, Q (.bool b) { s with toks := t }) : wpAny (model prog w) A (call (.builtin "isinstance") [.ref x, c]) Q E s :=
  call_isinstance (S := fun _ R s => (K.In s.heap ∧ InstAt s.heap x ox D none) ∧ ∀ t, R (.ok (.ret (.bool b))) { s with toks := t })
    (fun _ _ _ _ _ hs => isinstance_outer (knested Z hs.1.1 hs.1.2 (hty _ _ hs.1.1) (his _ _ hs.1.1) hne (hsub _ _ hs.1.1) hs.2) (by intro q; cases q)) ⟨⟨X, I⟩, h⟩
end
end Mine
namespace Mine
open PySem PySem.W PyProof.Rows

/-- a global, as K has it -/
noncomputable def gIn (K : Frag) (x : Str) : Option Value := match K.lookup mainGlobals with
  | some ⟨_, _, .dict es _, _⟩ => nsFind es x
  | _ => none
theorem gIn_mg {K : Frag} {h : Heap} {mg : Str → Option Value} (X : K.In h) (hg : h.Ns mainGlobals mg) {x : Str} {v : Value} (e : gIn K x = some v) : mg x = some v := by
  unfold gIn at e
  split at e
  · rename_i c d es ep sl ho
    obtain ⟨o, es', ep', ho', hd, _, hm⟩ := hg
    have := X _ _ ho
    rw [this] at ho'
    cases ho'
    cases hd
    rw [← hm]; exact e
  · cases e

/-- the own exception classes: their names, places and kin -/
noncomputable def clsCheck (p : Program) (K : Frag) (cl : List (Str × Addr)) (clss : List (Str × List Str)) : Bool :=
  cl.all (fun c => excK K c.2 && gIn K c.1 == some (.ref c.2) && specOf p c.1 == some ("ValueError.__new__", bmVE) && (clss.lookup c.1).isSome) &&
  clss.all (fun c => match cl.lookup c.1 with
    | none => false
    | some C => cl.all (fun d => subIn K (.ref C) (.ref d.2) == some (c.2.contains d.1) && (c.2.contains d.1 || decide (C ≠ d.2))) && subIn K (.ref C) (.type "ValueError") == some (c.2.contains "ValueError") && c.2.contains "ValueError")

theorem lookup_mem' {α β : Type} [BEq α] [LawfulBEq α] {l : List (α × β)} {x : α} {v : β} (h : l.lookup x = some v) : (x, v) ∈ l := lookup_all h (p := fun q => q ∈ l) fun _ hq => hq

section
variable {p : Program} {loose : List Str} {mean : ExcName → Option Value} {mg mb : Str → Option Value} {h : Heap} {prog : Program} {w : World} {K : Frag} {cl : List (Str × Addr)} {G : PG}

theorem clsOk_of (T : Top p loose mean mg mb h) (X : K.In h) (hc : clsCheck p K cl G.clss = true) : ClsOk ⟨prog, w, h, mg, mb, fun x => cl.lookup x⟩ G := by
  unfold clsCheck at hc
  rw [Bool.and_eq_true] at hc
  obtain ⟨h1, h2⟩ := hc
  have at1 : ∀ c C, cl.lookup c = some C → ExcK K C ∧ gIn K c = some (.ref C) ∧ specOf p c = some ("ValueError.__new__", bmVE) ∧ (G.clss.lookup c).isSome = true := fun c C hl => by
    have := List.all_eq_true.mp h1 _ (lookup_mem' hl)
    simp only [Bool.and_eq_true, beq_iff_eq] at this
    exact ⟨ExcK.of this.1.1.1, this.1.1.2, this.1.2, this.2⟩
  have at2 : ∀ c as, G.clss.lookup c = some as → ∃ C, cl.lookup c = some C ∧ (∀ d D, cl.lookup d = some D → subIn K (.ref C) (.ref D) = some (as.contains d) ∧ (as.contains d = false → C ≠ D)) ∧ subIn K (.ref C) (.type "ValueError") = some (as.contains "ValueError") ∧ as.contains "ValueError" = true := fun c as hl => by
    have := List.all_eq_true.mp h2 _ (lookup_mem' hl)
    simp only at this
    cases hC : cl.lookup c with
    | none => rw [hC] at this; cases this
    | some C =>
      rw [hC] at this
      simp only [Bool.and_eq_true, beq_iff_eq] at this
      refine ⟨C, rfl, fun d D hd => ?_, this.1.2, this.2⟩
      have h3 := List.all_eq_true.mp this.1.1 _ (lookup_mem' hd)
      simp only [Bool.and_eq_true, Bool.or_eq_true, beq_iff_eq, decide_eq_true_eq] at h3
      refine ⟨h3.1, fun q => ?_⟩
      rcases h3.2 with r | r
      · rw [q] at r; cases r
      · exact r
  have inst : ∀ {s : Shared} {e : Addr} {oe : Obj} {C : Addr}, s.heap.get? e = some oe → oe.cls = .ref C → oe.dict = none → (∃ vs, oe.data = .fields vs) → InstAt s.heap e oe C none := fun he hcls hdict ⟨vs, hd⟩ => by
    refine ⟨he, hcls, by unfold notCls; rw [hd], ?_⟩
    rw [hdict]; trivial
  refine ⟨fun c as hl => ?_, fun c as C d as' D hl hC hl' hD => ?_, fun c as C hl hC => ?_, fun c C hC => ?_⟩
  · obtain ⟨C, hC, _⟩ := at2 c as hl
    obtain ⟨_, hg, hs, _⟩ := at1 c C hC
    obtain ⟨C', O, _⟩ := T.ownAt hs
    have := O.bound
    rw [gIn_mg X T.g hg] at this
    cases this
    exact ⟨C, hC, O.own⟩
  · obtain ⟨C', hC', hs, _⟩ := at2 c as hl
    have e1 : cl.lookup c = some C := hC
    rw [e1] at hC'; cases hC'
    have e2 : cl.lookup d = some D := hD
    obtain ⟨hsub, hne⟩ := hs d D e2
    have ZC := (at1 c C e1).1
    have ZD := (at1 d D e2).1
    refine ⟨fun A E s e oe Q hb he hcls hq => ?_, fun A E s e oe Q hb he hcls hdict hdat hq => ?_⟩
    · exact exc_match (X.keeps hb) ZD.cls ZD.ty ZD.be hsub he hcls hq
    · refine kisi ZC (X.keeps hb) (inst he hcls hdict hdat) (fun _ h' X' => looks_typeIn X' ZD.ty) (fun _ h' X' => look_cls X' ZD.cls) (fun q => ?_) (fun _ h' X' => looks_subIn X' hsub) hq
      exact Bool.eq_false_iff.mpr fun r => hne q (Value.ref.inj (beq_iff_eq.mp r))
  · obtain ⟨C', hC', _, hs, hv⟩ := at2 c as hl
    have e1 : cl.lookup c = some C := hC
    rw [e1] at hC'; cases hC'
    have ZC := (at1 c C e1).1
    intro A E s e oe Q hb he hcls hdict hdat hq
    exact kisi ZC (X.keeps hb) (inst he hcls hdict hdat) (fun _ _ _ => Looks.of_pure (show typeOf (.type "ValueError") = pure (.type "type") by kernel_rfl)) (fun _ _ _ => Looks.of_pure rfl) (fun q => by rw [hv] at q; cases q) (fun _ h' X' => looks_subIn X' hs) hq
  · obtain ⟨_, _, _, hs⟩ := at1 c C hC
    exact Option.isSome_iff_exists.mp hs

theorem biFree_of (T : Top p loose mean mg mb h) (hf : biNames.all (fun x => !startupNames.contains x && !loose.contains x && !((recsOf p).map (·.name)).contains x && !((litsOf p).map (·.1)).contains x && !((clssOf p loose).map (·.name)).contains x) = true) : BiFree ⟨prog, w, h, mg, mb, fun x => cl.lookup x⟩ := by
  intro x hx
  have := List.all_eq_true.mp hf x hx
  simp only [Bool.and_eq_true, Bool.not_eq_true', List.contains_eq_mem, decide_eq_false_iff_not] at this
  exact T.free x this.1.1.1.1 this.1.1.1.2 this.1.1.2 this.1.2 this.2

/-- the constants of the text, as K has them -/
noncomputable def valPV : Value → Option PV
  | .int i _ => some (.int i)
  | .str x _ => some (.str x)
  | _ => none
theorem valPV_rel {u : Value} {v : PV} (h : valPV u = some v) : VRel [] v u :=
  okO_inv (o := valPV u) (P := fun v => VRel [] v u) (by cases u <;> first | exact trivial | exact ⟨_, rfl⟩) h
noncomputable def constCheck (K : Frag) (cs : List (Str × PV)) : Bool := cs.all fun q => decide ((gIn K q.1).bind valPV = some q.2)
theorem constsK_of (T : Top p loose mean mg mb h) (X : K.In h) {cs : List (Str × PV)} (hc : constCheck K cs = true) (x : Str) (v : PV) (hx : cs.lookup x = some v) : ∃ v', mg x = some v' ∧ VRel [] v v' := by
  have := of_decide_eq_true (List.all_eq_true.mp hc _ (lookup_mem' hx))
  obtain ⟨u, hi, hu⟩ := Option.bind_eq_some_iff.mp this
  exact ⟨u, gIn_mg X T.g hi, valPV_rel hu⟩

theorem glo_of (T : Top p loose mean mg mb h) (X : K.In h) (hfn : G.fns = fnsOf (recsOf p)) (hck : (recsOf p).all fnCheck = true) (hcl : clsCheck p K cl G.clss = true)
    (hbi : biNames.all (fun x => !startupNames.contains x && !loose.contains x && !((recsOf p).map (·.name)).contains x && !((litsOf p).map (·.1)).contains x && !((clssOf p loose).map (·.name)).contains x) = true)
    (hco : constCheck K G.consts = true)
    (hj : JdOk ⟨prog, w, h, mg, mb, fun x => cl.lookup x⟩ G.jd)
    : Glo ⟨prog, w, h, mg, mb, fun x => cl.lookup x⟩ G :=
  ⟨top0_of T, clsOk_of T X hcl, biFree_of T hbi, fun f fi hf => fnOk_of T hck f fi (hfn ▸ hf), fun x v hx => constsK_of T X hco x v hx
  , hj
  ⟩
end
end Mine
namespace Mine
open PySem PySem.W PyProof.Rows

theorem ints_of {R : WRecords} : ∀ {xs : List WData}, WShape.hasItems R xs .int = true → ∃ zs : List Int, xs = zs.map .int
  | [], _ => ⟨[], rfl⟩
  | x :: xs, h => by
    unfold WShape.hasItems at h
    rw [Bool.and_eq_true] at h
    obtain ⟨zs, rfl⟩ := ints_of h.2
    have h1 := h.1
    cases x <;> first | (exact ⟨_ :: zs, rfl⟩) | (unfold WShape.has at h1; simp [WShape.arms] at h1)

theorem pre_ints {l : OpenLaw} (hm : l.most = some 63) (hb : l.bound = none) {args : List WData} (h : l.row.claim.pre args = true) : ∃ zs : List Int, args = [.list (zs.map .int)] ∧ zs.length ≤ 63 := by
  have h' : (WShape.hasAll [] args [.list .int] && l.pre.holds [] { args := args }) = true := h
  rw [Bool.and_eq_true] at h'
  obtain ⟨h1, h2⟩ := h'
  match args, h1, h2 with
  | [], h1, _ => simp [WShape.hasAll] at h1
  | [d], h1, h2 =>
    simp only [WShape.hasAll, Bool.and_true] at h1
    have hd : ∃ xs, d = .list xs ∧ WShape.hasItems [] xs .int = true := by
      cases d with
      | list xs =>
        refine ⟨xs, rfl, ?_⟩
        unfold WShape.has at h1
        simpa [WShape.arms] using h1
      | _ => unfold WShape.has at h1; simp [WShape.arms] at h1
    obtain ⟨xs, rfl, hx⟩ := hd
    obtain ⟨zs, rfl⟩ := ints_of hx
    refine ⟨zs, rfl, ?_⟩
    unfold OpenLaw.pre at h2
    rw [hm, hb] at h2
    simp [WTm.holds, WTm.value] at h2
    rcases Nat.lt_or_ge 63 zs.length with q | q
    · exfalso
      have : less? (WData.int 63) (WData.int (zs.length : Int)) = some true := by
        show some (decide ((63 : Int) < (zs.length : Int))) = some true
        rw [decide_eq_true (by omega)]
      rw [this] at h2
      cases h2
    · exact q
  | _ :: _ :: _, h1, _ => simp [WShape.hasAll] at h1

theorem ints_rel {P : Params} {h : Heap} : ∀ {zs : List Int} {vs : List Value}, WellAll P h vs (zs.map .int) → ∀ ρ, VRels ρ (zs.map .int) vs
  | [], _, hw, ρ => by cases hw; trivial
  | z :: zs, _, hw, ρ => by
    cases hw with
    | cons h1 h2 =>
      cases h1
      exact ⟨⟨_, rfl⟩, ints_rel h2 ρ⟩

theorem weight_mem : ∀ {zs : List Int} {z : Int}, z ∈ zs → (WData.int z).weight ≤ WData.weightAll (zs.map .int)
  | [], z, h => by cases h
  | y :: zs, z, h => by
    rw [List.map_cons, WData.weightAll]
    rcases List.mem_cons.mp h with rfl | h
    · omega
    · have := weight_mem h; omega
theorem int_small {zs : List Int} (h : WData.layableAll [.list (zs.map .int)] = true) : ∀ z ∈ zs, z.natAbs < 2 ^ 1100000 := by
  intro z hz
  have h1 : (WData.list (zs.map .int)).layable = true := by
    unfold WData.layableAll at h
    simpa using h
  unfold WData.layable at h1
  rw [Bool.and_eq_true, decide_eq_true_eq] at h1
  have h2 := h1.2
  rw [WData.weight] at h2
  have h3 := weight_mem hz
  rw [WData.weight] at h3
  by_cases h0 : z = 0
  · subst h0; exact Nat.pow_pos (by decide)
  · rw [if_neg (by simpa using h0)] at h3
    have h4 : z.natAbs < 2 ^ (z.natAbs.log2 + 1) := Nat.lt_log2_self
    exact Nat.lt_of_lt_of_le h4 (Nat.pow_le_pow_right (by decide) (by omega))

theorem law_final {l : OpenLaw} (hm : l.most = some 63) (hb : l.bound = none) {w : World} {s₀ s₁ : Shared} {mg mb : Str → Option Value} {cl : List (Str × Addr)} {G : PG} {fi : FnI} {n : Nat} (Z : Glo ⟨l.row.prog, w, s₁.heap, mg, mb, fun x => cl.lookup x⟩ G) (hf : G.fns.lookup ("law" : Str) = some fi) (hn : n ≤ 400)
    {fa : Addr} (hmg : mg ("law" : Str) = some (.ref fa)) (hg : s₁.gens = #[]) {args : List WData} {vals : List Value} (hpre : l.row.claim.pre args = true) (hlay : WData.layableAll args = true) (hwl : WellAll w.params s₁.heap vals args)
    (pure : ∀ zs : List Int, zs.length ≤ 63 → (∀ z ∈ zs, z.natAbs < 2 ^ 1100000) → ∃ H', fnDen G (n + 1) false fi [.ref 0] [.list (zs.map .int)] = some (.ok (.bool true), H')) :
    wpAny (model l.row.prog w) callerA (call (.ref fa) vals) (fun v s' => GoodWG l.row.claim (classAt s₀.heap) (ExcName.means s₀.heap) args s₁ (.ok (.ret v)) s') (fun e s' => GoodWG l.row.claim (classAt s₀.heap) (ExcName.means s₀.heap) args s₁ (.error e) s') s₁ := by
  obtain ⟨zs, rfl, hz⟩ := pre_ints hm hb hpre
  cases hwl with
  | cons h1 h2 =>
    cases h2
    cases h1 with
    | list ho hi =>
      rename_i a vs
      obtain ⟨H', hd⟩ := pure zs hz (int_small hlay)
      refine law_ok Z hf rfl rfl ?_ ?_ rfl hmg (items := vs.toArray) (c := 0) ho (fun ρ => ints_rel hi ρ) ?_ hd fun v' ρ' s' hv hk hos hgs => ?_
      · show 1 + claimMargin + (n + 1) < recursionLimit
        have : claimMargin = 300 := rfl
        have : recursionLimit = 1000 := rfl
        omega
      · show 4 + 20 * (n + 1) < 9000; omega
      · unfold roomy; simp; omega
      · cases hv
        refine GoodW.toG ⟨.inl ⟨.bool true, .bool true, [], rfl, fun cls => rfl, .bool true, ?_, fun _ => ⟨List.nodup_nil, fun a ha => by cases ha⟩⟩, hk, hos, hgs.trans hg⟩
        show (WShape.has [] (WData.bool true) .bool && (WTm.eq .res (.lit (.bool true))).holds [] { args := _, res := some (WData.bool true), after := _ }) = true
        simp [WShape.has, WShape.arms, WTm.holds, WTm.value]
        have : same (WData.bool true) (WData.bool true) = true := by first | rfl | decide +kernel
        rw [this]
end Mine
namespace Mine
open PySem PySem.W PyProof.Rows

noncomputable def isDefS : Stmt → Bool
  | .FunctionDef .. => true
  | .ClassDef .. => true
  | _ => false
/-- the defs and classes of the text -/
noncomputable def qOf (p : Program) : Program := { p with main := { p.main with body := p.main.body.filter isDefS } }
/-- a def of the text -/
noncomputable def dOf (q : Program) (n : Str) : DefRec := match (recsOf q).find? (fun e => e.name == n) with
  | some d => d
  | none => ⟨n, ⟨[], [], none, [], [], none, []⟩, [], q.main.scope, ⟨0, 0, 0, 0⟩⟩
/-- the part of a heap at some places -/
noncomputable def fragAt (as : List Addr) (h : Heap) : Frag := as.filterMap fun a => (h.get? a).map fun o => (a, o)
theorem fragAt_in : ∀ {as : List Addr} {h : Heap}, (fragAt as h).In h
  | [], h, a, o, e => by cases e
  | b :: as, h, a, o, e => by
    unfold fragAt at e
    rw [List.filterMap_cons] at e
    cases hb : h.get? b with
    | none => rw [hb] at e; exact fragAt_in (as := as) a o e
    | some ob =>
      rw [hb] at e
      show h.get? a = some o
      have e' : (match a == b with | true => some ob | false => (fragAt as h).lookup a) = some o := e
      cases hq : a == b with
      | true => rw [hq] at e'; rw [eq_of_beq hq, hb]; exact e'
      | false => rw [hq] at e'; exact fragAt_in a o e'
noncomputable def asOf (cl : List (Str × Addr)) : List Addr := mainGlobals :: cl.flatMap fun c => [c.2, c.2 - 1]
end Mine
namespace Mine
open PySem PySem.W PyProof.Rows

/-- a method of the text's own class -/
structure JF where
  f : Str
  a : Addr
  params : Arguments
  body : List Stmt
  scope : Scope
noncomputable def jfFi (j : JF) : FnI := ⟨j.params.args.map (·.arg), j.scope, j.body⟩
noncomputable def jdOf (js : List JF) : List (Str × Addr × FnI) := js.map fun j => (j.f, j.a, jfFi j)
noncomputable def fnSee (K : Frag) (a : Addr) : Option (Arguments × FuncBody × Scope) := match K.lookup a with
  | some ⟨_, _, .func fd, _⟩ => if fd.closure.isEmpty && fd.globals == mainGlobals && fd.builtins == builtinsNs && codeIn K fd.code fd.qualname && fd.defaults == .none && fd.kwdefaults == .none then some (fd.params, fd.body, fd.scope) else none
  | _ => none
/-- the methods in a class's text, laid at the given places -/
noncomputable def jfsOf (p : Program) (as : List Addr) : List JF :=
  let b := p.main.body.findSome? fun st => match st with
    | .ClassDef n _ _ b _ _ _ _ _ _ _ => if n == jdName then some b else none
    | _ => none
  ((b.getD []).filterMap fun st => match st with
    | .FunctionDef n ps b _ _ _ sc _ _ _ => some (n, ps, b, sc)
    | _ => none).zipWith (fun q a => ⟨q.1, a, q.2.1, q.2.2.1, q.2.2.2⟩) as
theorem bind_any {fd : FuncData} (hs : simpleParams fd.params = true) (hnd : (fd.params.args.map (·.arg)).Nodup) (hdf : fd.defaults = .none) (hkd : fd.kwdefaults = .none) : ∀ vs : List Value, vs.length = (fd.params.args.map (·.arg)).length → bindArgs fd ⟨vs, []⟩ = pure ((fd.params.args.map (·.arg)).zip vs) := by
  intro vs hl
  obtain ⟨nm, qn, ⟨po, as, va, ko, kd, kw, df⟩, bd, sc, gl, cl, de, kde, dc, pm, an, cd, ct, bl⟩ := fd
  dsimp only at *
  subst hdf; subst hkd
  unfold simpleParams at hs
  simp only [Bool.and_eq_true, List.isEmpty_iff, Option.isNone_iff_eq_none] at hs
  obtain ⟨⟨⟨⟨⟨rfl, rfl⟩, rfl⟩, rfl⟩, rfl⟩, rfl⟩ := hs
  have hm : ((as.map (·.arg)).take (as.map (·.arg)).length).filter (fun n => (((as.map (·.arg)).zip vs).lookup n).isNone) = [] := by
    rw [List.filter_eq_nil_iff]
    intro a ha
    have := zip_lookup hl a (List.mem_of_mem_take ha)
    rw [Option.isSome_iff_exists] at this
    obtain ⟨x, hx⟩ := this
    rw [hx]; simp
  have hg : ¬ (vs.length > (as.map (·.arg)).length) := by omega
  have hf : (as.map (·.arg)).filterMap (fun n => (((as.map (·.arg)).zip vs).lookup n).map (n, ·)) = (as.map (·.arg)).zip vs := zip_binds hnd hl
  show (if (decide (vs.length > (as.map (·.arg)).length) && true) = true then _ else _) = _
  rw [if_neg (by simpa using Nat.not_lt.mp hg)]
  have hd0 : ∀ k : Nat, (#[] : Array Value).toList.drop k = [] := fun k => by simp
  show (if (!((((as.map (·.arg)).take ((as.map (·.arg)).length - ((#[] : Array Value).toList.drop _).length)).filter (fun n => (((as.map (·.arg)).zip vs).lookup n).isNone)).isEmpty)) = true then _ else _) = _
  rw [hd0, if_neg (by rw [show ((as.map (·.arg)).length - ([] : List Value).length) = (as.map (·.arg)).length from rfl, hm]; simp)]
  have hz : ∀ l : List Str, l.zip ([] : List Value) = [] := fun l => by cases l <;> rfl
  show (forIn (((as.map (·.arg)).drop ((as.map (·.arg)).length - ((#[] : Array Value).toList.drop (0 - (as.map (·.arg)).length)).length)).zip ((#[] : Array Value).toList.drop (0 - (as.map (·.arg)).length))) _ _ >>= _) = _
  rw [hd0, hz]
  show (pure ((as.map Arg.arg ++ []).filterMap (fun n => (((as.map Arg.arg).zip vs).lookup n).map (n, ·))) : Sem (List (Str × Value))) = _
  rw [List.append_nil, hf]

noncomputable def jfCheck (j : JF) : Bool := simpleParams j.params && scopeOk (jfFi j) && namesOk (jfFi j)
noncomputable def jdAll (K : Frag) (jc : Addr) (js : List JF) : Bool := gIn K jdName == some (.ref jc) && jdCheck K jc && js.all (fun j => jdFn K jc j.f j.a && jfCheck j)
noncomputable def fnGood (js : List JF) : List (Option (Arguments × FuncBody × Scope)) := js.map fun j => some (j.params, .stmts j.body, j.scope)
noncomputable def fnsIn (K : Frag) (js : List JF) : List (Option (Arguments × FuncBody × Scope)) := js.map fun j => fnSee K j.a
noncomputable def asJ (cl : List (Str × Addr)) (jc : Addr) (js : List JF) : List Addr := asOf cl ++ [jc, jc - 1] ++ js.flatMap fun j => [j.a, j.a - 1]
noncomputable def HeadJ (q : Program) (cl : List (Str × Addr)) (G : PG) (jc : Addr) (js : List JF) (h : Heap) : Prop := ∃ K : Frag, K.In h ∧ clsCheck q K cl G.clss = true ∧ constCheck K G.consts = true ∧ jdAll K jc js = true ∧ fnsIn K js = fnGood js
noncomputable def headObsJ (q : Program) (cl : List (Str × Addr)) (G : PG) (jc : Addr) (js : List JF) (s : Shared) : Bool := clsCheck q (fragAt (asJ cl jc js) s.heap) cl G.clss && constCheck (fragAt (asJ cl jc js) s.heap) G.consts && jdAll (fragAt (asJ cl jc js) s.heap) jc js

theorem jd_lookup : ∀ {js : List JF} {f : Str} {w : Addr × FnI}, (jdOf js).lookup f = some w → ∃ j ∈ js, j.f = f ∧ w = (j.a, jfFi j)
  | [], f, w, h => by cases h
  | j :: js, f, w, h => by
    simp only [jdOf, List.map_cons, List.lookup_cons] at h
    cases hb : (f == j.f) with
    | true => rw [hb] at h; cases h; exact ⟨j, List.mem_cons_self, (beq_iff_eq.mp hb).symm, rfl⟩
    | false =>
      rw [hb] at h
      obtain ⟨j', h1, h2⟩ := jd_lookup (js := js) h
      exact ⟨j', List.mem_cons_of_mem _ h1, h2⟩
theorem map_eq_at {α β : Type} {f g : α → β} : ∀ {l : List α}, l.map f = l.map g → ∀ a ∈ l, f a = g a
  | [], _, a, h => by cases h
  | b :: l, h, a, ha => by
    simp only [List.map_cons, List.cons.injEq] at h
    rcases List.mem_cons.mp ha with rfl | ha
    · exact h.1
    · exact map_eq_at h.2 a ha
theorem jdOk_of {prog : Program} {w : World} {h : Heap} {mg mb : Str → Option Value} {cls : Str → Option Addr} {K : Frag} {jc : Addr} {js : List JF} (hg : h.Ns mainGlobals mg) (X : K.In h) (hc : jdAll K jc js = true) (hf : fnsIn K js = fnGood js) : JdOk ⟨prog, w, h, mg, mb, cls⟩ (jdOf js) := by
  unfold jdAll at hc
  simp only [Bool.and_eq_true, beq_iff_eq] at hc
  obtain ⟨⟨h1, h2⟩, h3⟩ := hc
  have each : ∀ j ∈ js, jdFn K jc j.f j.a = true ∧ jfCheck j = true := fun j hj => by
    have := List.all_eq_true.mp h3 j hj
    simpa only [Bool.and_eq_true] using this
  refine ⟨⟨K, jc, X, gIn_mg X hg h1, JdC.of h2, fun f a fi hl => ?_⟩, fun f a fi hl => ?_⟩
  · obtain ⟨j, hj, rfl, e⟩ := jd_lookup hl
    cases e
    exact (each j hj).1
  · obtain ⟨j, hj, rfl, e⟩ := jd_lookup hl
    cases e
    have hck := (each j hj).2
    unfold jfCheck at hck
    simp only [Bool.and_eq_true] at hck
    obtain ⟨⟨c1, c2⟩, c3⟩ := hck
    have hs : fnSee K j.a = some (j.params, .stmts j.body, j.scope) := map_eq_at hf j hj
    unfold fnSee at hs
    split at hs
    · rename_i oc od fd sl ho
      split at hs
      · rename_i hq
        simp only [Bool.and_eq_true, beq_iff_eq, List.isEmpty_iff] at hq
        obtain ⟨⟨⟨⟨⟨q1, q2⟩, q3⟩, q4⟩, q5⟩, q6⟩ := hq
        simp only [Option.some.injEq, Prod.mk.injEq] at hs
        obtain ⟨e1, e2, e3⟩ := hs
        have hnd : (fd.params.args.map (·.arg)).Nodup := by
          rw [e1]
          have c2' := c2
          unfold scopeOk at c2'
          simp only [Bool.and_eq_true, decide_eq_true_eq] at c2'
          exact c2'.1.2
        refine ⟨⟨c2, _, fd, X _ _ ho, rfl, e3, e2, q1, q2, q3, codeRec_of X q4, fun vs hv => ?_⟩, c3⟩
        have := bind_any (fd := fd) (by rw [e1]; exact c1) hnd q5 q6 vs (by rw [e1]; exact hv)
        rw [e1] at this
        exact this
      · cases hs
    · cases hs

theorem head_openJ {l : OpenLaw} {q : Program} {loose : List Str} {cl : List (Str × Addr)} {G : PG} {jc : Addr} {js : List JF} {N : Nat} {d : DefRec} {kwd : List (Str × Expr)}
    (said : l.wellSaid = true) (hN : Nat.ble 600 N = true) (e : opening l.row.prog = plainProg l.row.prog.main.scope.names) (f : ∀ s, fenceModules? l.row.prog s = some s)
    (r : ∀ (w : World) (os : OsState), (topFrom treeTable l.row.prog w N ⟨boot_heap w.params, Array.mk [], boot_drawn, boot_toks, os⟩).map (fun s => ((openSeen q loose (importedModules l.row.prog.main.body) (fun s => xlAt q [] s && recOk (RowW.records l.row.toRowW) s) true s, headObsJ q cl G jc js s), fnsIn (fragAt (asJ cl jc js) s.heap) js)) = some ((openGood q loose, true), fnGood js))
    (hdef : defOf q l.row.name = some (d, kwd)) (hp : l.row.prog.theDef l.row.name = some (d.params, d.body, d.scope)) (hk : kwWritten? d.params.kwonlyargs d.params.kw_defaults = some kwd) (hwr : (!l.row.writes || l.row.records.isEmpty) = true)
    (ok : (chainsOk q && opensWell l.row.prog && (frees l.row.toRowW && l.row.within.isEmpty)) = true) (hb : l.row.prog.bare) (hw : l.row.toRowW.promised)
    (call : WalkO q loose (XL q []) (fun _ h => HeadJ q cl G jc js h) l.row.toRowW d kwd fun f vs => PySem.call f vs) : l.Holds := by
  refine holds_law said fun s => holds_open (q := q) (loose := loose) (Xt := fun s => xlAt q [] s && recOk (RowW.records l.row.toRowW) s) (XP := XL q []) (Yf := fun s => headObsJ q cl G jc js s && @decide (fnsIn (fragAt (asJ cl jc js) s.heap) js = fnGood js) (Classical.propDecidable _)) (Ya := fun _ => true) (YP := fun _ h => HeadJ q cl G jc js h) (N := N) ?_
    (fun w s e => ?_) (fun w h h' y k => ?_) (fun s e => xl_of s (Bool.and_eq_true_iff.mp e).1) XL.keeps hdef hp hk (fun s e => recFacts_of (Bool.and_eq_true_iff.mp e).2) hwr s ok hb hw call
  · intro w
    obtain ⟨⟨h, gs, d, k, os⟩, e1, e2⟩ := Option.map_eq_some_iff.mp (boot_open e hN f w)
    cases e2
    unfold openEnds
    rw [e1]
    obtain ⟨s', h1, h2⟩ := Option.map_eq_some_iff.mp (r w os)
    simp only [Prod.mk.injEq] at h2
    obtain ⟨⟨h3, h4⟩, h5⟩ := h2
    show (topFrom treeTable l.row.prog w N ⟨boot_heap w.params, Array.mk [], boot_drawn, boot_toks, os⟩).map _ = _
    rw [h1]
    show some (openSeen q loose (importedModules l.row.prog.main.body) (fun s => xlAt q [] s && recOk (RowW.records l.row.toRowW) s) true s', headObsJ q cl G jc js s' && @decide (fnsIn (fragAt (asJ cl jc js) s'.heap) js = fnGood js) (Classical.propDecidable _)) = _
    rw [h3, h4, @decide_eq_true _ (Classical.propDecidable _) h5]; rfl
  · have h1 := Bool.and_eq_true_iff.mp e
    have h2 := Bool.and_eq_true_iff.mp h1.1
    have h3 := Bool.and_eq_true_iff.mp h2.1
    exact ⟨_, fragAt_in, h3.1, h3.2, h2.2, @of_decide_eq_true _ (Classical.propDecidable _) h1.2⟩
  · obtain ⟨K, X, h1, h2, h3⟩ := y
    exact ⟨K, X.keeps k, h1, h2, h3⟩
end Mine
namespace Mine
open PySem

abbrev Fn := List PV → HP → Option (Except Str PV × HP)
/-- a reading ends, and as Q says -/
noncomputable def RW {α : Type} (d : RD α) (m : M) (H : HP) (Q : Except Str α → HP → Prop) : Prop := ∃ r H', d m H = some (r, H') ∧ Q r H'
noncomputable def SW (d : SD) (m : M) (H : HP) (Q : Except Str Fl → M → HP → Prop) : Prop := ∃ r m' H', d m H = some (r, m', H') ∧ Q r m' H'
noncomputable def onR {α : Type} (r : Except Str α) (k : α → Prop) (e : Str → Prop) : Prop := match r with | .ok a => k a | .error c => e c
noncomputable def onN (r : Except Str Fl) (n o : Prop) : Prop := match r with | .ok .next => n | _ => o
noncomputable def resOf' (r : Except Str Fl) : Except Str PV := match r with | .ok (.ret v) => .ok v | .ok .next => .ok .none | .error c => .error c
section
variable {α β : Type} {m : M} {H : HP}
theorem RW.mono {d : RD α} {Q Q' : Except Str α → HP → Prop} (h : RW d m H Q) (hq : ∀ r H', Q r H' → Q' r H') : RW d m H Q' := let ⟨r, H', e, q⟩ := h; ⟨r, H', e, hq r H' q⟩
theorem SW.mono {d : SD} {Q Q' : Except Str Fl → M → HP → Prop} (h : SW d m H Q) (hq : ∀ r m' H', Q r m' H' → Q' r m' H') : SW d m H Q' := let ⟨r, m', H', e, q⟩ := h; ⟨r, m', H', e, hq r m' H' q⟩
theorem rw_bind {d : RD α} {k : α → RD β} {Q : Except Str β → HP → Prop} : RW (bindD d k) m H Q ↔ RW d m H fun r H1 => onR r (fun a => RW (k a) m H1 Q) fun c => Q (.error c) H1 := by
  constructor
  · rintro ⟨r, H', e, q⟩
    unfold bindD at e
    split at e
    · rename_i a H1 he; exact ⟨_, _, he, _, _, e, q⟩
    · rename_i c H1 he; cases e; exact ⟨_, _, he, q⟩
    · cases e
  · rintro ⟨r, H1, e, q⟩
    cases r with
    | ok a =>
      obtain ⟨r, H', e', q⟩ := q
      exact ⟨r, H', by unfold bindD; rw [e]; exact e', q⟩
    | error c => exact ⟨_, _, by unfold bindD; rw [e], q⟩
theorem rw_lift {f : HP → Option (α × HP)} {Q : Except Str α → HP → Prop} : RW (liftD f) m H Q ↔ ∃ p, f H = some p ∧ Q (.ok p.1) p.2 := by
  unfold RW liftD
  constructor
  · rintro ⟨r, H', e, q⟩
    cases hf : f H with
    | none => rw [hf] at e; cases e
    | some p => rw [hf] at e; cases e; exact ⟨p, rfl, q⟩
  · rintro ⟨p, e, q⟩
    exact ⟨_, _, by rw [e]; rfl, q⟩
theorem sw_next {Q : Except Str Fl → M → HP → Prop} : SW nextS m H Q ↔ Q (.ok .next) m H := by
  constructor
  · rintro ⟨r, m', H', e, q⟩; cases e; exact q
  · exact fun q => ⟨_, _, _, rfl, q⟩
theorem sw_run {d : RD α} {k : α → SD} {Q : Except Str Fl → M → HP → Prop} : SW (runS d k) m H Q ↔ RW d m H fun r H1 => onR r (fun a => SW (k a) m H1 Q) fun c => Q (.error c) m H1 := by
  constructor
  · rintro ⟨r, m', H', e, q⟩
    unfold runS at e
    split at e
    · rename_i a H1 he; exact ⟨_, _, he, _, _, _, e, q⟩
    · rename_i c H1 he; cases e; exact ⟨_, _, he, q⟩
    · cases e
  · rintro ⟨r, H1, e, q⟩
    cases r with
    | ok a =>
      obtain ⟨r, m', H', e', q⟩ := q
      exact ⟨r, m', H', by unfold runS; rw [e]; exact e', q⟩
    | error c => exact ⟨_, _, _, by unfold runS; rw [e], q⟩
theorem sw_seq {a b : SD} {Q : Except Str Fl → M → HP → Prop} : SW (seqS a b) m H Q ↔ SW a m H fun r m1 H1 => onN r (SW b m1 H1 Q) (Q r m1 H1) := by
  constructor
  · rintro ⟨r, m', H', e, q⟩
    unfold seqS at e
    split at e
    · rename_i m1 H1 he; exact ⟨_, _, _, he, _, _, _, e, q⟩
    · rename_i x hx
      refine ⟨r, m', H', e, ?_⟩
      cases r with
      | error c => exact q
      | ok f =>
        cases f with
        | next => exact absurd e (hx _ _)
        | ret v => exact q
  · rintro ⟨r, m1, H1, e, q⟩
    unfold SW seqS
    rw [e]
    cases r with
    | error c => exact ⟨_, _, _, rfl, q⟩
    | ok f =>
      cases f with
      | next => exact q
      | ret v => exact ⟨_, _, _, rfl, q⟩
theorem sw_set {i : Nat} {d : ED} {Q : Except Str Fl → M → HP → Prop} : SW (setS i d) m H Q ↔ RW d m H fun r H1 => onR r (fun v => Q (.ok .next) (upd m i v) H1) fun c => Q (.error c) m H1 := by
  unfold setS
  rw [sw_run]
  constructor <;> (refine fun h => h.mono fun r H' q => ?_; cases r <;> first | exact q | (obtain ⟨_, _, _, e, q⟩ := q; cases e; exact q) | exact ⟨_, _, _, rfl, q⟩)
theorem sw_ret {d : ED} {Q : Except Str Fl → M → HP → Prop} : SW (retS d) m H Q ↔ RW d m H fun r H1 => onR r (fun v => Q (.ok (.ret v)) m H1) fun c => Q (.error c) m H1 := by
  unfold retS
  rw [sw_run]
  constructor <;> (refine fun h => h.mono fun r H' q => ?_; cases r <;> first | exact q | (obtain ⟨_, _, _, e, q⟩ := q; cases e; exact q) | exact ⟨_, _, _, rfl, q⟩)
theorem sw_drop {d : ED} {Q : Except Str Fl → M → HP → Prop} : SW (dropS d) m H Q ↔ RW d m H fun r H1 => onR r (fun v => Q (.ok .next) m H1) fun c => Q (.error c) m H1 := by
  unfold dropS
  rw [sw_run]
  constructor <;> (refine fun h => h.mono fun r H' q => ?_; cases r <;> first | exact q | (obtain ⟨_, _, _, e, q⟩ := q; cases e; exact q) | exact ⟨_, _, _, rfl, q⟩)
theorem sw_raise {c : Str} {Q : Except Str Fl → M → HP → Prop} : SW (raiseS c) m H Q ↔ Q (.error c) m H := by
  constructor
  · rintro ⟨r, m', H', e, q⟩; cases e; exact q
  · exact fun q => ⟨_, _, _, rfl, q⟩
theorem sw_if {t : TD} {a b : SD} {Q : Except Str Fl → M → HP → Prop} : SW (ifS t a b) m H Q ↔ RW t m H fun r H1 => onR r (fun x => if x = true then SW a m H1 Q else SW b m H1 Q) fun c => Q (.error c) m H1 := by
  unfold ifS
  rw [sw_run]
  constructor <;> (refine fun h => h.mono fun r H' q => ?_; cases r with | error c => exact q | ok x => cases x <;> exact q)
theorem sw_setItem {o i d : ED} {Q : Except Str Fl → M → HP → Prop} : SW (setItemS o i d) m H Q ↔ RW d m H fun r H1 => onR r (fun v => RW o m H1 fun r H2 => onR r (fun x => RW i m H2 fun r H3 => onR r (fun y => ∃ H', setItemV x y v H3 = some H' ∧ Q (.ok .next) m H') fun c => Q (.error c) m H3) fun c => Q (.error c) m H2) fun c => Q (.error c) m H1 := by
  have key : ∀ {x y v : PV} {H : HP}, SW (fun m H => (setItemV x y v H).map fun H' => (.ok .next, m, H')) m H Q ↔ ∃ H', setItemV x y v H = some H' ∧ Q (.ok .next) m H' := by
    intro x y v H
    constructor
    · rintro ⟨r, m', H', e, q⟩
      simp only at e
      cases hf : setItemV x y v H with
      | none => rw [hf] at e; cases e
      | some H2 => rw [hf] at e; cases e; exact ⟨_, rfl, q⟩
    · rintro ⟨H', e, q⟩
      exact ⟨_, _, _, by simp only [e, Option.map_some], q⟩
  unfold setItemS
  simp only [sw_run, key]
theorem sw_try {G : PG} {body : SD} {hs : List Hd} {Q : Except Str Fl → M → HP → Prop} : SW (tryS G body hs) m H Q ↔ SW body m H fun r m1 H1 => onR r (fun f => Q (.ok f) m1 H1) fun c => SW (handS G c hs) m1 H1 Q := by
  constructor
  · rintro ⟨r, m', H', e, q⟩
    unfold tryS at e
    split at e
    · rename_i c m1 H1 he; exact ⟨_, _, _, he, _, _, _, e, q⟩
    · rename_i x hx
      refine ⟨r, m', H', e, ?_⟩
      cases r with
      | error c => exact absurd e (hx _ _ _)
      | ok f => exact q
  · rintro ⟨r, m1, H1, e, q⟩
    unfold SW tryS
    rw [e]
    cases r with
    | error c => exact q
    | ok f => exact ⟨_, _, _, rfl, q⟩
end

/-- a for, from the front on -/
theorem forW {i : Nat} {src : Src} {body : SD} (P : Nat → M → HP → Prop) (R : Except Str Fl → M → HP → Prop)
    (step : ∀ k v m H, src.items[k]? = some v → P k m H → src.ok H = true ∧ SW body (upd m i v) H fun r m' H' => (r = .ok .next ∧ P (k + 1) m' H') ∨ (r ≠ .ok .next ∧ R r m' H')) : ∀ (l : List PV) (k : Nat) (m : M) (H : HP), k ≤ src.items.length → src.items.drop k = l → P k m H →
    SW (forGo (.one i) src body l) m H fun r m' H' => (r = .ok .next ∧ P src.items.length m' H') ∨ (r ≠ .ok .next ∧ R r m' H')
  | [], k, m, H, hk, hl, hP => by
    have : k = src.items.length := by
      have := congrArg List.length hl
      simp at this; omega
    subst this
    exact sw_next.mpr (.inl ⟨rfl, hP⟩)
  | v :: l, k, m, H, hk, hl, hP => by
    have hv : src.items[k]? = some v := by
      have := congrArg (fun l => l[0]?) hl
      simpa using this
    have hvs : src.items.drop (k + 1) = l := by
      have := congrArg (List.drop 1) hl
      simpa [List.drop_drop, Nat.add_comm] using this
    obtain ⟨hok, hb⟩ := step k v m H hv hP
    unfold SW forGo
    rw [if_pos hok]
    simp only [Tgt.put]
    show SW (seqS body (forGo (.one i) src body l)) (upd m i v) H _
    refine sw_seq.mpr (hb.mono fun r m' H' q => ?_)
    rcases q with ⟨rfl, q⟩ | ⟨hr, q⟩
    · exact forW P R step l (k + 1) m' H' (List.getElem?_eq_some_iff.mp hv).1 hvs q
    · cases r with
      | error c => exact .inr ⟨hr, q⟩
      | ok f =>
        cases f with
        | next => exact absurd rfl hr
        | ret v => exact .inr ⟨hr, q⟩

theorem sw_for {i : Nat} {dsrc : RD Src} {src : Src} {body : SD} {m : M} {H H1 : HP} {Q : Except Str Fl → M → HP → Prop} (hs : dsrc m H = some (.ok src, H1)) (P : Nat → M → HP → Prop) (R : Except Str Fl → M → HP → Prop) (h0 : P 0 m H1)
    (step : ∀ k v m H, src.items[k]? = some v → P k m H → src.ok H = true ∧ SW body (upd m i v) H fun r m' H' => (r = .ok .next ∧ P (k + 1) m' H') ∨ (r ≠ .ok .next ∧ R r m' H'))
    (hn : ∀ m' H', P src.items.length m' H' → src.ok H' = true ∧ Q (.ok .next) m' H') (hr : ∀ r m' H', r ≠ .ok .next → R r m' H' → Q r m' H') : SW (forS (.one i) dsrc body) m H Q := by
  unfold forS
  refine sw_run.mpr ⟨_, _, hs, ?_⟩
  refine sw_seq.mpr ((forW P R step src.items 0 m H1 (Nat.zero_le _) rfl h0).mono fun r m' H' q => ?_)
  rcases q with ⟨rfl, q⟩ | ⟨h1, q⟩
  · obtain ⟨h2, h3⟩ := hn m' H' q
    refine ⟨_, _, _, ?_, h3⟩
    simp only [h2, if_true]
  · cases r with
    | error c => exact hr _ _ _ h1 q
    | ok f =>
      cases f with
      | next => exact absurd rfl h1
      | ret v => exact hr _ _ _ h1 q

theorem rangeK_get {a c : Int} {n k : Nat} {v : PV} (h : (rangeL a n c)[k]? = some v) : k < n ∧ v = .int (a + (k : Int) * c) := by
  unfold rangeL at h
  rw [List.getElem?_map] at h
  cases hk : (List.range n)[k]? with
  | none => rw [hk] at h; cases h
  | some j =>
    rw [hk] at h
    have hlt := (List.getElem?_eq_some_iff.mp hk).1
    simp at hlt
    rw [List.getElem?_range hlt] at hk
    cases hk; cases h
    exact ⟨hlt, rfl⟩
theorem rangeK_length {a c : Int} {n : Nat} : (rangeL a n c).length = n := by unfold rangeL; simp

theorem sw_forRange {i n : Nat} {a c : Int} {dsrc : RD Src} {body : SD} {m : M} {H H1 : HP} {Q : Except Str Fl → M → HP → Prop} (hs : dsrc m H = some (.ok ⟨rangeL a n c, none⟩, H1)) (P : Nat → M → HP → Prop) (R : Except Str Fl → M → HP → Prop) (h0 : P 0 m H1)
    (step : ∀ (k : Nat) m H, k < n → P k m H → SW body (upd m i (.int (a + (k : Int) * c))) H fun r m' H' => (r = .ok .next ∧ P (k + 1) m' H') ∨ (r ≠ .ok .next ∧ R r m' H'))
    (hn : ∀ m' H', P n m' H' → Q (.ok .next) m' H') (hr : ∀ r m' H', r ≠ .ok .next → R r m' H' → Q r m' H') : SW (forS (.one i) dsrc body) m H Q := by
  refine sw_for hs P R h0 (fun k v m H hv hP => ⟨rfl, ?_⟩) (fun m' H' hP => ⟨rfl, hn m' H' ?_⟩) hr
  · obtain ⟨h1, rfl⟩ := rangeK_get hv
    exact step k m H h1 hP
  · rw [rangeK_length] at hP; exact hP

/-- a comprehension over a range -/
theorem compGoW {i : Nat} {src : Src} {test : TD} {elt : ED} {m : M} (P : Nat → List PV → HP → Prop)
    (step : ∀ k v acc H, src.items[k]? = some v → P k acc H → src.ok H = true ∧ ∃ acc' H', compStep test elt acc (updC m i v) H = some (.ok acc', H') ∧ P (k + 1) acc' H') : ∀ (l : List PV) (k : Nat) (acc : List PV) (H : HP), k ≤ src.items.length → src.items.drop k = l → P k acc H →
    ∃ vs H', compGo i src test elt l acc m H = some (.ok vs, H') ∧ P src.items.length vs H'
  | [], k, acc, H, hk, hl, hP => by
    have : k = src.items.length := by
      have := congrArg List.length hl
      simp at this; omega
    subst this
    exact ⟨acc, H, rfl, hP⟩
  | v :: l, k, acc, H, hk, hl, hP => by
    have hv : src.items[k]? = some v := by
      have := congrArg (fun l => l[0]?) hl
      simpa using this
    have hvs : src.items.drop (k + 1) = l := by
      have := congrArg (List.drop 1) hl
      simpa [List.drop_drop, Nat.add_comm] using this
    obtain ⟨hok, acc', H', hs, hP'⟩ := step k v acc H hv hP
    obtain ⟨vs, H'', h1, h2⟩ := compGoW P step l (k + 1) acc' H' (List.getElem?_eq_some_iff.mp hv).1 hvs hP'
    refine ⟨vs, H'', ?_, h2⟩
    unfold compGo
    rw [if_pos hok, hs]
    exact h1
theorem rw_comp {i : Nat} {dsrc : RD Src} {src : Src} {test : TD} {elt : ED} {m : M} {H H1 : HP} {Q : Except Str PV → HP → Prop} (hs : dsrc m H = some (.ok src, H1)) (P : Nat → List PV → HP → Prop) (h0 : P 0 [] H1)
    (step : ∀ k v acc H, src.items[k]? = some v → P k acc H → src.ok H = true ∧ ∃ acc' H', compStep test elt acc (updC m i v) H = some (.ok acc', H') ∧ P (k + 1) acc' H')
    (hn : ∀ vs H', P src.items.length vs H' → src.ok H' = true ∧ vs.length ≤ 1000000 ∧ Q (.ok (.ref H'.length)) (H' ++ [.list vs])) : RW (compD i dsrc test elt) m H Q := by
  obtain ⟨vs, H2, h1, h2⟩ := compGoW P step src.items 0 [] H1 (Nat.zero_le _) rfl h0
  obtain ⟨h3, h4, h5⟩ := hn vs H2 h2
  unfold compD
  refine rw_bind.mpr ⟨_, _, hs, rw_bind.mpr ⟨_, _, h1, rw_lift.mpr ⟨(.ref H2.length, H2 ++ [.list vs]), ?_, h5⟩⟩⟩
  rw [if_pos ⟨by unfold roomy; exact decide_eq_true h4, h3⟩]
theorem compStep_one {test : TD} {elt : ED} {acc : List PV} {m : M} {H H' : HP} {v : PV} (ht : test = pureD true) (he : elt m H = some (.ok v, H')) : compStep test elt acc m H = some (.ok (acc ++ [v]), H') := by
  subst ht
  simp only [compStep, bindD, noErr, pureD, if_true, he]
end Mine
namespace Mine
open PySem
noncomputable def fOf (G : PG) (x : Str) : FnI := (G.fns.lookup x).getD ⟨[], default, []⟩
noncomputable def constOf (G : PG) (x : Str) : PV := (G.consts.lookup x).getD .none
noncomputable def g_worth_b1 (G : PG) (k : Nat) : SD := (seqS (ifS (cmpD .Lt (itemD (varD 1) (varD 3)) (pureD (.int 0))) (seqS (raiseS "NoWay") nextS) nextS) (seqS (setS 2 (binD .Add (varD 2) (binD .Mult (itemD (varD 1) (varD 3)) (itemD (varD 0) (varD 3))))) nextS))
noncomputable def g_worth (G : PG) (k : Nat) : SD := (seqS (ifS (cmpD .NotEq (callBiD .len [(varD 1)]) (callBiD .len [(varD 0)])) (seqS (raiseS "NoWay") nextS) nextS) (seqS (setS 2 (pureD (.int 0))) (seqS (forS (.one 3) (rangeD [(callBiD .len [(varD 1)])]) (g_worth_b1 G  k)) (seqS (retS (varD 2)) nextS))))
noncomputable def g_pieces (G : PG) (k : Nat) : SD := (seqS (retS (callBiD .sum [(varD 0)])) nextS)
noncomputable def g__law_whole (G : PG) (k : Nat) : SD := (seqS (retS (boolD true [(isInD G "int" (varD 0)), (unD .Not (isInD G "bool" (varD 0)))])) nextS)
noncomputable def g__law_cell_at (G : PG) (k : Nat) : SD := (seqS (ifS (cmpD .Lt (varD 1) (callBiD .len [(varD 0)])) (seqS (retS (itemD (varD 0) (varD 1))) nextS) nextS) (seqS (retS (pureD (.int 0))) nextS))
noncomputable def g__law_kinds (G : PG) (k : Nat) : SD := (seqS (setS 1 (mkListD [(isInD G "NoRow" (varD 0)), (isInD G "NoWay" (varD 0)), (isInD G "NoAmount" (varD 0)), (isInD G "TooGreat" (varD 0))])) (seqS (retS (methD .count (binD .Add (varD 1) (mkListD [(isInD G "NoText" (varD 0))])) [(pureD (.bool true))])) nextS))
noncomputable def g__law_kindsH (G : PG) (k : Nat) : SD := (seqS (setS 1 (mkListD [(isInD G "NoRow" (varD 0)), (isInD G "NoWay" (varD 0)), (isInD G "NoAmount" (varD 0)), (isInD G "TooGreat" (varD 0))])) (seqS (retS (methD .count (binD .Add (varD 1) (mkListD [(isInD G "NoText" (varD 0))])) [(pureD (.bool true))])) nextS))

noncomputable def Ints (H : HP) (i : Nat) (zs : List Int) : Prop := H[i]? = some (.list (zs.map .int))
theorem idx_nonneg {k : Int} {n : Nat} (h0 : 0 ≤ k) (h : k < n) : idxOf? k n = some k.toNat := by
  unfold idxOf?; rw [if_pos h0, if_pos h]
theorem ints_get {zs : List Int} {j : Nat} (h : j < zs.length) : (zs.map PV.int)[j]? = some (.int zs[j]) := by simp [h]

section
variable {a b : Int} {H : HP}
theorem op_add : opV .Add (.int a) (.int b) H = some (.int (a + b), H) := rfl
theorem op_sub : opV .Sub (.int a) (.int b) H = some (.int (a - b), H) := rfl
theorem op_mulR (h0 : -(2 ^ 60 : Int) < b) (h1 : b < 2 ^ 60) : opV .Mult (.int a) (.int b) H = some (.int (a * b), H) := by
  have : smallMul a b = true := by
    unfold smallMul
    have : decide (b.natAbs < 2 ^ 64) = true := decide_eq_true (by omega)
    rw [this]; simp
  exact if_pos this
theorem op_mulB (ha0 : 0 ≤ a) (ha1 : a < 2 ^ 2000) (hb0 : 0 ≤ b) (hb1 : b < 2 ^ 2000) : opV .Mult (.int a) (.int b) H = some (.int (a * b), H) := by
  have : smallMul a b = true := by
    unfold smallMul
    have hp : (2 : Nat) ^ 2000 ≤ 2 ^ 2000000 := Nat.pow_le_pow_right (by omega) (by omega)
    have h1 : a.natAbs < 2 ^ 2000000 := Nat.lt_of_lt_of_le (by omega) hp
    have h2 : b.natAbs < 2 ^ 2000000 := Nat.lt_of_lt_of_le (by omega) hp
    rw [decide_eq_true h1, decide_eq_true h2]; simp
  exact if_pos this
theorem op_fdiv (h0 : 0 < b) (h1 : b < 2 ^ 250) : opV .FloorDiv (.int a) (.int b) H = some (.int (a.fdiv b), H) := by
  have : smallDiv b = true := by
    unfold smallDiv
    have hp : (2 : Nat) ^ 250 ≤ 2 ^ 2000 := Nat.pow_le_pow_right (by omega) (by omega)
    exact decide_eq_true (Nat.lt_of_lt_of_le (by omega) hp)
  exact if_pos ⟨by omega, this⟩
theorem op_mod (h0 : 0 < b) : opV .Mod (.int a) (.int b) H = some (.int (a.fmod b), H) := by
  exact if_pos (show b ≠ 0 by omega)
theorem op_pow (h0 : 0 ≤ b) (h1 : b ≤ 100) (h2 : -(2 ^ 60 : Int) < a) (h3 : a < 2 ^ 60) : opV .Pow (.int a) (.int b) H = some (.int (a ^ b.toNat), H) := by
  exact if_pos (show 0 ≤ b ∧ b ≤ 100 ∧ a.natAbs < 2 ^ 64 from ⟨h0, h1, by omega⟩)
theorem cmp_eq : cmpV .Eq (.int a) (.int b) H = some (decide (a = b)) := by
  show some (PyData.eqv (.int a) (.int b)) = _
  have : PyData.eqv (.int a) (.int b) = (a == b) := by first | rfl | simp [PyData.eqv]
  rw [this]; congr 1
theorem cmp_ne : cmpV .NotEq (.int a) (.int b) H = some (!decide (a = b)) := by
  show (cmpV .Eq (.int a) (.int b) H).map (!·) = _
  rw [cmp_eq]; rfl
theorem cmp_lt : cmpV .Lt (.int a) (.int b) H = some (decide (a < b)) := rfl
theorem cmp_le : cmpV .LtE (.int a) (.int b) H = some (decide (a ≤ b)) := rfl
theorem cmp_gt : cmpV .Gt (.int a) (.int b) H = some (decide (a > b)) := rfl
theorem cmp_ge : cmpV .GtE (.int a) (.int b) H = some (decide (a ≥ b)) := rfl
theorem fmod_lo (h : 0 < b) : 0 ≤ a.fmod b := Int.fmod_nonneg_of_pos a h
theorem fmod_hi (h : 0 < b) : a.fmod b < b := Int.fmod_lt_of_pos a h
end
end Mine
namespace Mine
open PySem

section
variable {m : M} {H H1 H2 H3 : HP} {Q : Except Str Fl → M → HP → Prop}
theorem e_pure {α : Type} {v : α} : pureD v m H = some (.ok v, H) := rfl
theorem e_var {i : Nat} {v : PV} (h : m i = some v) : varD i m H = some (.ok v, H) := by unfold varD; rw [h]; rfl
theorem e_bind {α β : Type} {d : RD α} {k : α → RD β} {a : α} {r : Option (Except Str β × HP)} (h1 : d m H = some (.ok a, H1)) (h2 : k a m H1 = r) : bindD d k m H = r := by unfold bindD; rw [h1]; exact h2
theorem e_lift {α : Type} {f : HP → Option (α × HP)} {a : α} (h : f H = some (a, H1)) : liftD f m H = some (.ok a, H1) := by unfold liftD; rw [h]; rfl
theorem e_bin {op : Operator} {a b : ED} {x y z : PV} (h1 : a m H = some (.ok x, H1)) (h2 : b m H1 = some (.ok y, H2)) (h3 : opV op x y H2 = some (z, H3)) : binD op a b m H = some (.ok z, H3) := e_bind h1 (e_bind h2 (e_lift h3))
theorem e_cmp {op : CmpOp} {a b : ED} {x y : PV} {t : Bool} (h1 : a m H = some (.ok x, H1)) (h2 : b m H1 = some (.ok y, H2)) (h3 : cmpV op x y H2 = some t) : cmpD op a b m H = some (.ok t, H2) := e_bind h1 (e_bind h2 (e_lift (by rw [h3]; rfl)))
theorem e_boolE {t : TD} {b : Bool} (h : t m H = some (.ok b, H1)) : boolE t m H = some (.ok (.bool b), H1) := e_bind h rfl
theorem e_un {op : UnaryOp} {a : ED} {x z : PV} (h1 : a m H = some (.ok x, H1)) (h3 : unV op x = some z) : unD op a m H = some (.ok z, H1) := e_bind h1 (e_lift (by rw [h3]; rfl))
theorem e_item {a b : ED} {x y z : PV} (h1 : a m H = some (.ok x, H1)) (h2 : b m H1 = some (.ok y, H2)) (h3 : itemV x y H2 = some z) : itemD a b m H = some (.ok z, H2) := e_bind h1 (e_bind h2 (e_lift (by rw [h3]; rfl)))
theorem e_nil : listD [] m H = some (.ok [], H) := rfl
theorem e_cons {d : ED} {ds : List ED} {v : PV} {vs : List PV} (h1 : d m H = some (.ok v, H1)) (h2 : listD ds m H1 = some (.ok vs, H2)) : listD (d :: ds) m H = some (.ok (v :: vs), H2) := e_bind h1 (e_bind h2 rfl)
theorem e_bi {b : BI} {ds : List ED} {vs : List PV} {z : PV} (h1 : listD ds m H = some (.ok vs, H1)) (h3 : biV b vs H1 = some (z, H2)) : callBiD b ds m H = some (.ok z, H2) := e_bind h1 (e_lift h3)
theorem e_call {f : Fn} {ds : List ED} {vs : List PV} {r : Except Str PV} (h1 : listD ds m H = some (.ok vs, H1)) (h3 : f vs H1 = some (r, H2)) : callD f ds m H = some (r, H2) := e_bind h1 h3
theorem e_mkList {ds : List ED} {vs : List PV} (h1 : listD ds m H = some (.ok vs, H1)) (h2 : vs.length ≤ 1000000) : mkListD ds m H = some (.ok (.ref H1.length), H1 ++ [.list vs]) := e_bind h1 (e_lift (by unfold roomy; rw [if_pos (decide_eq_true h2)]))
theorem e_mkTup {ds : List ED} {vs : List PV} (h1 : listD ds m H = some (.ok vs, H1)) (h2 : vs.length ≤ 1000000) : mkTupD ds m H = some (.ok (.ref H1.length), H1 ++ [.tup vs]) := e_bind h1 (e_lift (by unfold roomy; rw [if_pos (decide_eq_true h2)]))
theorem e_truth {d : ED} {b : Bool} (h : d m H = some (.ok (.bool b), H1)) : truthD d m H = some (.ok b, H1) := e_bind h rfl
theorem e_not {d : TD} {b : Bool} (h : d m H = some (.ok b, H1)) : notT d m H = some (.ok (!b), H1) := e_bind h rfl
theorem e_allT0 {b : Bool} : allT b [] m H = some (.ok b, H) := rfl
theorem e_allT1 {b x : Bool} {t : TD} {ts : List TD} {r : Option (Except Str Bool × HP)} (h : t m H = some (.ok x, H1)) (h1 : x = b → allT b ts m H1 = r) (h2 : x ≠ b → some (.ok x, H1) = r) : allT b (t :: ts) m H = r := by
  refine e_bind h ?_
  by_cases q : x = b
  · simp only [q, if_true]; subst q; exact h1 rfl
  · simp only [q, if_false]; exact h2 q
theorem e_isIn {G : PG} {T : Str} {d : ED} {x : PV} {b : Bool} (h : d m H = some (.ok x, H1)) (h2 : isIn G T x H1 = some b) : isInD G T d m H = some (.ok (.bool b), H1) := e_bind h (e_lift (by rw [h2]; rfl))
theorem e_need {x : PV} {q : Nat × List PV} (h : listAt H x = some q) : needList x m H = some (.ok (), H) := by
  unfold needList liftD; simp only [h]; rfl
theorem e_append {o d : ED} {i : Nat} {v : PV} {vs : List PV} (h1 : o m H = some (.ok (.ref i), H1)) (h2 : d m H1 = some (.ok v, H2)) (hi1 : ∃ ws, H1[i]? = some (.list ws)) (hi : H2[i]? = some (.list vs)) (h0 : i ≠ 0) (hl : vs.length + 1 ≤ 1000000) :
    methD .append o [d] m H = some (.ok .none, H2.set i (.list (vs ++ [v]))) := by
  obtain ⟨ws, hw⟩ := hi1
  refine e_bind h1 (e_bind (a := ()) (H1 := H1) (e_need (listAt_of hw)) (e_bind (e_cons h2 e_nil) (e_lift ?_)))
  simp only [methV, listAt_of hi, one?]
  exact if_pos ⟨decide_eq_true hl, h0⟩
theorem e_range1 {d : ED} {b : Int} (h : d m H = some (.ok (.int b), H1)) (h0 : -(2 ^ 60 : Int) < b) (h1 : b < 2 ^ 60) : rangeD [d] m H = some (.ok ⟨rangeL 0 b.toNat 1, none⟩, H1) := by
  refine e_bind (e_cons h e_nil) (e_lift ?_)
  exact if_pos (decide_eq_true (by omega))
theorem e_range2 {d e : ED} {a b : Int} (h : d m H = some (.ok (.int a), H1)) (h' : e m H1 = some (.ok (.int b), H2)) (h0 : -(2 ^ 60 : Int) < a) (h1 : a < 2 ^ 60) (h2 : -(2 ^ 60 : Int) < b) (h3 : b < 2 ^ 60) : rangeD [d, e] m H = some (.ok ⟨rangeL a (b - a).toNat 1, none⟩, H2) := by
  refine e_bind (e_cons h (e_cons h' e_nil)) (e_lift ?_)
  exact if_pos (by rw [decide_eq_true (show a.natAbs < 2 ^ 61 by omega), decide_eq_true (show b.natAbs < 2 ^ 61 by omega)]; rfl)

theorem s_set {i : Nat} {d : ED} {b : SD} {v : PV} (h : d m H = some (.ok v, H1)) (k : SW b (upd m i v) H1 Q) : SW (seqS (setS i d) b) m H Q := sw_seq.mpr (sw_set.mpr ⟨_, _, h, k⟩)
theorem s_ret {d : ED} {b : SD} {v : PV} (h : d m H = some (.ok v, H1)) (k : Q (.ok (.ret v)) m H1) : SW (seqS (retS d) b) m H Q := sw_seq.mpr (sw_ret.mpr ⟨_, _, h, k⟩)
theorem s_drop {d : ED} {b : SD} {v : PV} (h : d m H = some (.ok v, H1)) (k : SW b m H1 Q) : SW (seqS (dropS d) b) m H Q := sw_seq.mpr (sw_drop.mpr ⟨_, _, h, k⟩)
theorem s_raise {c : Str} {b : SD} (k : Q (.error c) m H) : SW (seqS (raiseS c) b) m H Q := sw_seq.mpr (sw_raise.mpr k)
theorem s_if {t : TD} {a a' b : SD} {x : Bool} (h : t m H = some (.ok x, H1)) (k1 : x = true → SW a m H1 fun r m' H' => onN r (SW b m' H' Q) (Q r m' H')) (k2 : x = false → SW a' m H1 fun r m' H' => onN r (SW b m' H' Q) (Q r m' H')) : SW (seqS (ifS t a a') b) m H Q := by
  refine sw_seq.mpr (sw_if.mpr ⟨_, _, h, ?_⟩)
  cases x with
  | true => exact k1 rfl
  | false => exact k2 rfl
theorem s_ifF {t : TD} {a b : SD} (h : t m H = some (.ok false, H1)) (k : SW b m H1 Q) : SW (seqS (ifS t a nextS) b) m H Q := s_if h (fun q => by cases q) fun _ => sw_next.mpr k
theorem s_ifT {t : TD} {a a' b : SD} (h : t m H = some (.ok true, H1)) (k : SW a m H1 fun r m' H' => onN r (SW b m' H' Q) (Q r m' H')) : SW (seqS (ifS t a a') b) m H Q := s_if h (fun _ => k) fun q => by cases q
theorem s_next (k : Q (.ok .next) m H) : SW nextS m H Q := sw_next.mpr k
end

theorem upd_at {m : M} {i : Nat} {v : PV} : upd m i v i = some v := by unfold upd; rw [if_pos rfl]
theorem upd_ne {m : M} {i j : Nat} {v : PV} (h : j ≠ i) : upd m i v j = m j := by unfold upd; rw [if_neg h]
theorem set_get {H : HP} {i : Nat} {o o' : PO} (h : H[i]? = some o) : (H.set i o')[i]? = some o' := by
  have := (List.getElem?_eq_some_iff.mp h).1
  simp [this]
theorem set_ne {H : HP} {i j : Nat} {o : PO} (h : i ≠ j) : (H.set i o)[j]? = H[j]? := by simp [List.getElem?_set_ne h]

structure Row (row : List Int) : Prop where
  ne : row ≠ []
  first : row[0]? = some 1
  up : row.Pairwise (· < ·)
  top : ∀ x ∈ row, x ≤ 10 ^ 60
theorem Row.pos {row : List Int} (h : Row row) : ∀ x ∈ row, 1 ≤ x := by
  intro x hx
  obtain ⟨h1, h2, h3, _⟩ := h
  cases row with
  | nil => cases hx
  | cons y row =>
    simp at h2; subst h2
    rcases List.mem_cons.mp hx with rfl | hx
    · exact Int.le_refl _
    · have := (List.pairwise_cons.mp h3).1 x hx; omega

noncomputable def CellOk (f : Nat → Fn) : Prop := ∀ j i zs (H : HP) (c : Int), Ints H i zs → 0 ≤ c → f j [.ref i, .int c] H = some (.ok (.int (zs.getD c.toNat 0)), H)

theorem item_last {H : HP} {r : Nat} {row : List Int} {last : Int} (hr : Ints H r row) (hl : row.getLast? = some last) : itemV (.ref r) (.int (-1)) H = some (.int last) := by
  unfold Ints at hr
  have hne : row ≠ [] := by rintro rfl; cases hl
  have hpos : 0 < row.length := List.length_pos_iff.mpr hne
  have : idxOf? (-1) (row.map PV.int).length = some (row.length - 1) := by
    unfold idxOf?
    rw [if_neg (by omega), List.length_map, if_pos (by omega)]
    congr 1; omega
  simp only [itemV, hr, this, Option.bind_some]
  rw [List.getLast?_eq_getElem?] at hl
  rw [List.getElem?_map, hl]; rfl

theorem e_or2 {s t : TD} {x y : Bool} {m : M} {H : HP} (h1 : s m H = some (.ok x, H)) (h2 : t m H = some (.ok y, H)) : allT false [s, t] m H = some (.ok (x || y), H) := by
  refine e_allT1 h1 (fun q => e_allT1 h2 (fun q' => ?_) fun q' => ?_) fun q => ?_
  · subst q; subst q'; rfl
  · subst q; cases y
    · exact absurd rfl q'
    · rfl
  · cases x
    · exact absurd rfl q
    · rfl

end Mine
namespace Mine
open PySem

theorem Ints.lt {H : HP} {i : Nat} {zs : List Int} (h : Ints H i zs) : i < H.length := (List.getElem?_eq_some_iff.mp h).1
theorem Ints.app {H H' : HP} {i : Nat} {zs : List Int} (h : Ints H i zs) : Ints (H ++ H') i zs := by
  have hl := h.lt
  unfold Ints at *; rw [List.getElem?_append_left hl]; exact h
theorem ints_new {H : HP} {zs : List Int} : Ints (H ++ [.list (zs.map .int)]) H.length zs := by unfold Ints; simp
theorem set_new {H : HP} {a b : PO} : (H ++ [a]).set H.length b = H ++ [b] := by
  rw [List.set_append_right _ _ (Nat.le_refl _)]; simp
theorem fn1 {n : Nat} {sl : List Nat} {body : SD} {vs : List PV} {H H' : HP} {v : PV} (hl : vs.length = n) (h : SW body (argM sl vs) H fun r _ H1 => r = .ok (.ret v) ∧ H1 = H') : fnD n sl body vs H = some (.ok v, H') := by
  obtain ⟨r, m', H1, e, rfl, rfl⟩ := h
  unfold fnD; rw [if_pos hl, e]
theorem fn1e {n : Nat} {sl : List Nat} {body : SD} {vs : List PV} {H H' : HP} {c : Str} (hl : vs.length = n) (h : SW body (argM sl vs) H fun r _ H1 => r = .error c ∧ H1 = H') : fnD n sl body vs H = some (.error c, H') := by
  obtain ⟨r, m', H1, e, rfl, rfl⟩ := h
  unfold fnD; rw [if_pos hl, e]
theorem fnE {n : Nat} {sl : List Nat} {body : SD} {vs : List PV} {H : HP} {P : PV → HP → Prop} (hl : vs.length = n) (h : SW body (argM sl vs) H fun r _ H1 => ∃ v, r = .ok (.ret v) ∧ P v H1) : ∃ v H', fnD n sl body vs H = some (.ok v, H') ∧ P v H' := by
  obtain ⟨r, m', H1, e, v, rfl, hP⟩ := h
  exact ⟨v, H1, by unfold fnD; rw [if_pos hl, e], hP⟩

theorem fnR {n : Nat} {sl : List Nat} {body : SD} {vs : List PV} {H H' : HP} {r0 : Except Str PV} (hl : vs.length = n) (h : SW body (argM sl vs) H fun r _ H1 => H1 = H' ∧ resOf' r = r0) : fnD n sl body vs H = some (r0, H') := by
  obtain ⟨r, m', H1, e, rfl, rfl⟩ := h
  unfold fnD
  rw [if_pos hl, e]
  cases r with
  | error c => rfl
  | ok f => cases f <;> rfl

theorem item_at {H : HP} {i k : Nat} {zs : List Int} {c : Int} (h : Ints H i zs) (hk : k < zs.length) (hc : c = k) : itemV (.ref i) (.int c) H = some (.int (zs.getD k 0)) := by
  subst hc
  unfold Ints at h
  simp only [itemV, h, List.length_map, idx_nonneg (Int.natCast_nonneg k) (Int.ofNat_lt.mpr hk), Option.bind_some, Int.toNat_natCast, ints_get hk]
  rw [List.getD_eq_getElem?_getD, List.getElem?_eq_getElem hk]; rfl
theorem len_ints {H : HP} {i : Nat} {zs : List Int} (h : Ints H i zs) : biV .len [.ref i] H = some (.int zs.length, H) := by
  show lenV H (.ref i) = _
  unfold Ints at h
  unfold lenV
  simp only [h, List.length_map]
theorem copy_ints {H : HP} {i : Nat} {zs : List Int} (h : Ints H i zs) : biV .list [.ref i] H = some (.ref H.length, H ++ [.list (zs.map .int)]) := by
  show listV H (.ref i) = _
  unfold listV
  rw [listAt_of h]
theorem intsOf_map : ∀ (zs : List Int), intsOf? (zs.map .int) = some zs
  | [] => rfl
  | z :: zs => by simp only [List.map_cons, intsOf?, intsOf_map zs, Option.map_some]
theorem sum_ints {H : HP} {i : Nat} {zs : List Int} (h : Ints H i zs) : biV .sum [.ref i] H = some (.int zs.sum, H) := by
  show sumV H (.ref i) = _
  unfold sumV
  rw [listAt_of h]
  simp only [intsOf_map, Option.map_some]
theorem datas_ints {f : PV → Option PyData} (hf : ∀ z, f (.int z) = some (.int z)) : ∀ (zs : List Int), datasOf f (zs.map .int) = some (zs.map .int)
  | [] => rfl
  | z :: zs => by simp only [List.map_cons, datasOf, hf, datas_ints hf zs]
theorem data_ints {H : HP} {i k : Nat} {zs : List Int} (h : Ints H i zs) : dataOf H (k + 1) (.ref i) = some (.list (zs.map .int)) := by
  unfold Ints at h
  simp only [dataOf, h, datas_ints (f := dataOf H k) (fun z => by cases k <;> rfl), Option.map_some]
theorem eqv_ints : ∀ (a b : List Int), PyData.eqv (.list (a.map .int)) (.list (b.map .int)) = decide (a = b)
  | [], [] => by first | rfl | simp [PyData.eqv, PyData.eqvAll]
  | [], b :: bs => by first | rfl | simp [PyData.eqv, PyData.eqvAll]
  | a :: as, [] => by first | rfl | simp [PyData.eqv, PyData.eqvAll]
  | a :: as, b :: bs => by
    have ih := eqv_ints as bs
    simp only [List.map_cons, PyData.eqv, PyData.eqvAll] at ih ⊢
    rw [ih]
    by_cases h : a = b <;> simp [h]
theorem cmp_eq_ints {H : HP} {i j : Nat} {a b : List Int} (h1 : Ints H i a) (h2 : Ints H j b) : cmpV .Eq (.ref i) (.ref j) H = some (decide (a = b)) := by
  show (match dataOf H 3 (.ref i), dataOf H 3 (.ref j) with | some a, some b => some (PyData.eqv a b) | _, _ => none) = _
  rw [data_ints h1, data_ints h2]
  simp only [eqv_ints]

theorem cell_at_ok {G : PG} (k : Nat) {i : Nat} {zs : List Int} {H : HP} {c : Int} (h : Ints H i zs) (h0 : 0 ≤ c) : fnD 2 [0, 1] (g__law_cell_at G k) [.ref i, .int c] H = some (.ok (.int (zs.getD c.toNat 0)), H) := by
  refine fn1 rfl ?_
  unfold g__law_cell_at
  refine s_if (e_cmp (e_var rfl) (e_bi (e_cons (e_var rfl) e_nil) (len_ints h)) cmp_lt) (fun q => ?_) (fun q => s_next (s_ret e_pure ⟨?_, rfl⟩))
  · have := of_decide_eq_true q
    exact s_ret (e_item (e_var rfl) (e_var rfl) (item_at h (k := c.toNat) (by omega) (by omega))) ⟨rfl, rfl⟩
  · have := of_decide_eq_false q
    rw [List.getD_eq_getElem?_getD, List.getElem?_eq_none (by omega)]; rfl

noncomputable def dotN (row way : List Int) : Nat → Int
  | 0 => 0
  | k + 1 => dotN row way k + way.getD k 0 * row.getD k 0
theorem getD_mem {zs : List Int} {k : Nat} (h : k < zs.length) : zs.getD k 0 ∈ zs := by
  rw [List.getD_eq_getElem?_getD, List.getElem?_eq_getElem h]; simp

/-- worth -/
theorem worth_ok {G : PG} (k : Nat) {H : HP} {i j : Nat} {row way : List Int} (hi : Ints H i row) (hj : Ints H j way) (hR : ∀ x ∈ row, 0 ≤ x ∧ x < 2 ^ 2000) (hW : ∀ x ∈ way, x < 2 ^ 2000) (hl : way.length < 1000) :
    fnD 2 [0, 1] (g_worth G k) [.ref i, .ref j] H = some (if way.length = row.length ∧ ∀ x ∈ way, 0 ≤ x then .ok (.int (dotN row way way.length)) else .error "NoWay", H) := by
  have key : SW (g_worth G k) (argM [0, 1] [.ref i, .ref j]) H fun r _ H' => H' = H ∧ resOf' r = (if way.length = row.length ∧ ∀ x ∈ way, 0 ≤ x then .ok (.int (dotN row way way.length)) else .error "NoWay") := by
    unfold g_worth
    refine s_if (e_cmp (e_bi (e_cons (e_var rfl) e_nil) (len_ints hj)) (e_bi (e_cons (e_var rfl) e_nil) (len_ints hi)) cmp_ne) (fun q => ?_) (fun q => ?_)
    · have : way.length ≠ row.length := fun e => by rw [e] at q; simp at q
      exact s_raise ⟨rfl, by rw [if_neg (fun h => this h.1)]; rfl⟩
    · have hlen : way.length = row.length := by
        have : (way.length : Int) = row.length := by simpa using q
        omega
      refine s_next (s_set e_pure ?_)
      refine sw_seq.mpr (sw_forRange (e_range1 (e_bi (e_cons (e_var rfl) e_nil) (len_ints hj)) (by omega) (by omega))
        (fun k m H' => H' = H ∧ m 0 = some (.ref i) ∧ m 1 = some (.ref j) ∧ m 2 = some (.int (dotN row way k)) ∧ ∀ n, n < k → 0 ≤ way.getD n 0) (fun r _ H' => r = .error "NoWay" ∧ H' = H ∧ ¬ ∀ x ∈ way, 0 ≤ x) ⟨rfl, rfl, rfl, rfl, fun n hn => by omega⟩ (fun kk m H' hk hP => ?_) (fun m' H' hP => ?_) (fun r m' H' _ h => ?_))
      · obtain ⟨rfl, p0, p1, p2, p3⟩ := hP
        simp only [Int.toNat_natCast] at hk
        have i1 : itemV (.ref j) (.int (0 + (kk : Int) * 1)) H' = some (.int (way.getD kk 0)) := item_at hj hk (by omega)
        have i2 : itemV (.ref i) (.int (0 + (kk : Int) * 1)) H' = some (.int (row.getD kk 0)) := item_at hi (by omega) (by omega)
        have q0 : upd m 3 (.int (0 + (kk : Int) * 1)) 0 = some (.ref i) := by rw [upd_ne (by decide)]; exact p0
        have q1 : upd m 3 (.int (0 + (kk : Int) * 1)) 1 = some (.ref j) := by rw [upd_ne (by decide)]; exact p1
        have q2 : upd m 3 (.int (0 + (kk : Int) * 1)) 2 = some (.int (dotN row way kk)) := by rw [upd_ne (by decide)]; exact p2
        unfold g_worth_b1
        refine s_if (e_cmp (e_item (e_var q1) (e_var upd_at) i1) e_pure cmp_lt) (fun q => ?_) (fun q => ?_)
        · have := of_decide_eq_true q
          exact s_raise (.inr ⟨by simp, rfl, rfl, fun h => by have := h _ (getD_mem hk); omega⟩)
        · have h0 : 0 ≤ way.getD kk 0 := by have := of_decide_eq_false q; omega
          have hr := hR _ (getD_mem (zs := row) (k := kk) (by omega))
          have hw := hW _ (getD_mem hk)
          refine s_next (s_set (e_bin (e_var q2) (e_bin (e_item (e_var q1) (e_var upd_at) i1) (e_item (e_var q0) (e_var upd_at) i2) (op_mulB h0 hw hr.1 hr.2)) op_add) (s_next (.inl ⟨rfl, rfl, ?_, ?_, upd_at, fun n hn => ?_⟩)))
          · rw [upd_ne (by decide)]; exact q0
          · rw [upd_ne (by decide)]; exact q1
          · rcases Nat.lt_or_ge n kk with q | q
            · exact p3 n q
            · have : n = kk := by omega
              rw [this]; exact h0
      · obtain ⟨rfl, p0, p1, p2, p3⟩ := hP
        simp only [Int.toNat_natCast] at p2 p3
        have hall : ∀ x ∈ way, 0 ≤ x := fun x hx => by
          obtain ⟨n, hn⟩ := List.getElem?_of_mem hx
          have hlt := (List.getElem?_eq_some_iff.mp hn).1
          have := p3 n hlt
          rw [List.getD_eq_getElem?_getD, hn] at this
          exact this
        exact s_ret (e_var p2) ⟨rfl, by rw [if_pos ⟨hlen, hall⟩]; rfl⟩
      · obtain ⟨rfl, rfl, h3⟩ := h
        exact ⟨rfl, by rw [if_neg (fun h => h3 h.2)]; rfl⟩
  exact fnR rfl key
end Mine
namespace Mine
open PySem

noncomputable def clssL : List (Str × List Str) := [("CoinError", ["CoinError", "ValueError"]), ("NoRow", ["NoRow", "CoinError", "ValueError"]), ("NoWay", ["NoWay", "CoinError", "ValueError"]), ("NoAmount", ["NoAmount", "CoinError", "ValueError"]), ("TooGreat", ["TooGreat", "CoinError", "ValueError"]), ("NoText", ["NoText", "CoinError", "ValueError"])]

section
variable {m : M} {H H1 H2 : HP}
theorem e_andT {d e : ED} {ds : List ED} {R : Option (Except Str PV × HP)} (h1 : d m H = some (.ok (.bool true), H1)) (h2 : boolD true (e :: ds) m H1 = R) : boolD true (d :: e :: ds) m H = R := e_bind h1 (e_bind (a := true) (H1 := H1) rfl h2)
theorem isIn_int {G : PG} {a : Int} : isIn G "int" (.int a) H = some true := by
  unfold isIn; rw [show tyOf "int" = some .int by rfl]; rfl
theorem isIn_bool {G : PG} {a : Int} : isIn G "bool" (.int a) H = some false := by
  unfold isIn; rw [show tyOf "bool" = some .bool by rfl]; rfl
end

theorem whole_ok {G : PG} (k : Nat) {H : HP} {a : Int} : fnD 1 [0] (g__law_whole G k) [.int a] H = some (.ok (.bool true), H) := by
  refine fn1 rfl ?_
  unfold g__law_whole
  exact s_ret (e_andT (e_isIn (e_var rfl) isIn_int) (e_un (e_isIn (e_var rfl) isIn_bool) rfl)) ⟨rfl, rfl⟩

theorem pieces_ok {G : PG} (k : Nat) {H : HP} {i : Nat} {zs : List Int} (h : Ints H i zs) : fnD 1 [0] (g_pieces G k) [.ref i] H = some (.ok (.int zs.sum), H) := by
  refine fn1 rfl ?_
  unfold g_pieces
  exact s_ret (e_bi (e_cons (e_var rfl) e_nil) (sum_ints h)) ⟨rfl, rfl⟩

end Mine
namespace Mine
open PySem

section
variable {m : M} {H H1 H2 H3 : HP}
theorem e_slice {a : ED} {l u : Option ED} {x p q z : PV} (h1 : a m H = some (.ok x, H1)) (h2 : optD l m H1 = some (.ok p, H2)) (h3 : optD u m H2 = some (.ok q, H3)) {H4 : HP} (h4 : sliceV x p q H3 = some (z, H4)) : sliceD a l u m H = some (.ok z, H4) := e_bind h1 (e_bind h2 (e_bind h3 (e_lift h4)))
theorem e_none : optD none m H = some (.ok .none, H) := rfl
theorem e_some {d : ED} {v : PV} (h : d m H = some (.ok v, H1)) : optD (some d) m H = some (.ok v, H1) := h
theorem slice_up {i : Nat} {zs : List Int} {b : Int} (h : Ints H i zs) : sliceV (.ref i) .none (.int b) H = some (.ref H.length, H ++ [.list ((zs.take (clipAt zs.length b)).map .int)]) := by
  unfold Ints at h
  simp only [sliceV, h, partOf?, Option.elim, List.length_map, List.drop_zero, Nat.sub_zero, List.map_take]
theorem slice_dn {i : Nat} {zs : List Int} {a : Int} (h : Ints H i zs) : sliceV (.ref i) (.int a) .none H = some (.ref H.length, H ++ [.list ((zs.drop (clipAt zs.length a)).map .int)]) := by
  unfold Ints at h
  simp only [sliceV, h, partOf?, Option.elim, List.length_map]
  rw [List.take_of_length_le (by simp), List.map_drop]
theorem add_ints {i j : Nat} {a b : List Int} (h1 : Ints H i a) (h2 : Ints H j b) (hl : a.length + b.length ≤ 1000000) : opV .Add (.ref i) (.ref j) H = some (.ref H.length, H ++ [.list ((a ++ b).map .int)]) := by
  show addL H (.ref i) (.ref j) = _
  unfold addL
  rw [listAt_of h1, listAt_of h2]
  simp only [List.length_map]
  rw [if_pos (by unfold roomy; exact decide_eq_true hl), List.map_append]
end
theorem clip_neg1 {n : Nat} : clipAt n (-1) = n - 1 := by unfold clipAt; rw [if_pos (by decide)]; omega
theorem clip_in {n : Nat} {i : Int} (h0 : 0 ≤ i) (h1 : i ≤ n) : clipAt n i = i.toNat := by unfold clipAt; rw [if_neg (by omega)]; omega

theorem e_count {m : M} {H H1 : HP} {o : ED} {i : Nat} {vs : List PV} (h1 : o m H = some (.ok (.ref i), H1)) (hi : H1[i]? = some (.list vs)) (hb : vs.all isBoolV = true) : methD .count o [pureD (.bool true)] m H = some (.ok (.int (vs.count (.bool true))), H1) := by
  refine e_bind h1 (e_bind (a := ()) (H1 := H1) (e_need (listAt_of hi)) (e_bind (e_cons e_pure e_nil) (e_lift ?_)))
  simp only [methV, listAt_of hi, one?]
  exact if_pos ⟨trivial, hb⟩
theorem add_lists {H : HP} {i j : Nat} {a b : List PV} (h1 : H[i]? = some (.list a)) (h2 : H[j]? = some (.list b)) (hl : a.length + b.length ≤ 1000000) : opV .Add (.ref i) (.ref j) H = some (.ref H.length, H ++ [.list (a ++ b)]) := by
  show addL H (.ref i) (.ref j) = _
  unfold addL
  rw [listAt_of h1, listAt_of h2]
  exact if_pos (decide_eq_true hl)
theorem get_app {H H' : HP} {i : Nat} {o : PO} (h : H[i]? = some o) : (H ++ H')[i]? = some o := by
  rw [List.getElem?_append_left (List.getElem?_eq_some_iff.mp h).1]; exact h
theorem get_new {H : HP} {o : PO} : (H ++ [o])[H.length]? = some o := by simp
theorem lookup_in {β : Type} {x : Str} {v : β} : ∀ {l : List (Str × β)}, l.lookup x = some v → (x, v) ∈ l
  | [], h => by cases h
  | (y, w) :: l, h => by
    rw [List.lookup_cons] at h
    cases e : x == y with
    | true =>
      rw [e] at h; cases h
      rw [eq_of_beq e]; exact List.mem_cons_self
    | false => rw [e] at h; exact List.mem_cons_of_mem _ (lookup_in h)
/-- an exception's kinds -/
theorem isIn_exc {G : PG} (hG : G.clss = clssL) {H : HP} {e : Nat} {c T : Str} {as : List Str} (he : H[e]? = some (.exc c)) (hc : clssL.lookup c = some as) (hT : T = "ValueError" ∨ (clssL.lookup T).isSome = true) : isIn G T (.ref e) H = some (as.contains T) := by
  have ht : tyOf T = none := by
    rcases hT with rfl | hT
    · rfl
    · have : ∀ p ∈ clssL, tyOf p.1 = none := by decide +kernel
      obtain ⟨as', ha⟩ := Option.isSome_iff_exists.mp hT
      exact this _ (lookup_in ha)
  unfold isIn isExc
  rw [ht]
  simp only [he, hG, hc]
  rw [if_pos hT]
theorem kinds_ok {G : PG} (hG : G.clss = clssL) (k : Nat) {H : HP} {e : Nat} {c : Str} (he : H[e]? = some (.exc c)) (hc : c = "NoRow" ∨ c = "NoWay" ∨ c = "NoAmount" ∨ c = "TooGreat" ∨ c = "NoText") : ∃ ext, fnD 1 [0] (g__law_kindsH G k) [.ref e] H = some (.ok (.int 1), H ++ ext) := by
  obtain ⟨as, has, hcount⟩ : ∃ as, clssL.lookup c = some as ∧ List.count (PV.bool true) ([.bool (as.contains "NoRow"), .bool (as.contains "NoWay"), .bool (as.contains "NoAmount"), .bool (as.contains "TooGreat"), .bool (as.contains "NoText")] : List PV) = 1 := by
    rcases hc with rfl | rfl | rfl | rfl | rfl
    · exact ⟨["NoRow", "CoinError", "ValueError"], by decide +kernel, by decide +kernel⟩
    · exact ⟨["NoWay", "CoinError", "ValueError"], by decide +kernel, by decide +kernel⟩
    · exact ⟨["NoAmount", "CoinError", "ValueError"], by decide +kernel, by decide +kernel⟩
    · exact ⟨["TooGreat", "CoinError", "ValueError"], by decide +kernel, by decide +kernel⟩
    · exact ⟨["NoText", "CoinError", "ValueError"], by decide +kernel, by decide +kernel⟩
  refine ⟨[.list [.bool (as.contains "NoRow"), .bool (as.contains "NoWay"), .bool (as.contains "NoAmount"), .bool (as.contains "TooGreat")], .list [.bool (as.contains "NoText")], .list ([.bool (as.contains "NoRow"), .bool (as.contains "NoWay"), .bool (as.contains "NoAmount"), .bool (as.contains "TooGreat")] ++ [.bool (as.contains "NoText")])], fn1 rfl ?_⟩
  have E : ∀ (m : M) (T : Str), m 0 = some (.ref e) → T = "ValueError" ∨ (clssL.lookup T).isSome = true → isInD G T (varD 0) m H = some (.ok (.bool (as.contains T)), H) := fun m T h0 hT => e_isIn (e_var h0) (isIn_exc hG he has hT)
  unfold g__law_kindsH
  refine s_set (e_mkList (e_cons (E _ _ rfl (.inr (by decide +kernel))) (e_cons (E _ _ rfl (.inr (by decide +kernel))) (e_cons (E _ _ rfl (.inr (by decide +kernel))) (e_cons (E _ _ rfl (.inr (by decide +kernel))) e_nil)))) (by simp)) ?_
  refine s_ret (e_count (e_bin (e_var upd_at) (e_mkList (e_cons (e_isIn (e_var (by simp [upd, argM])) (isIn_exc hG (get_app he) has (.inr (by decide +kernel)))) e_nil) (by simp)) (add_lists (get_app get_new) get_new (by simp))) get_new (by rfl)) ⟨?_, by simp⟩
  rw [show ([PV.bool (as.contains "NoRow"), .bool (as.contains "NoWay"), .bool (as.contains "NoAmount"), .bool (as.contains "TooGreat")] ++ [PV.bool (as.contains "NoText")]) = [.bool (as.contains "NoRow"), .bool (as.contains "NoWay"), .bool (as.contains "NoAmount"), .bool (as.contains "TooGreat"), .bool (as.contains "NoText")] from rfl, hcount]
  rfl

theorem hit_of {G : PG} (hG : G.clss = clssL) {c d : Str} {as : List Str} {b : Bool} (hc : clssL.lookup c = some as) (hd : (clssL.lookup d).isNone = false) (hm : as.contains d = b) : hitV G c d = some b := by
  unfold hitV
  cases h : clssL.lookup d with
  | none => rw [h] at hd; cases hd
  | some as' => simp only [hG, hc, h, hm]
theorem hand_hit {G : PG} (hG : G.clss = clssL) {c d : Str} {as : List Str} {body : SD} {hs : List Hd} {m m1 : M} {H H1 : HP} {v : PV} {Q : Except Str Fl → M → HP → Prop} (hc : clssL.lookup c = some as) (hd : (clssL.lookup d).isNone = false) (hm : as.contains d = true) (hb : body m H = some (.ok (.ret v), m1, H1)) (hQ : Q (.ok (.ret v)) m1 H1) : SW (handS G c (⟨d, none, body⟩ :: hs)) m H Q := by
  refine ⟨_, _, _, ?_, hQ⟩
  rw [handS]
  simp only [hit_of hG hc hd hm, if_true, runHd, okS, hb]
  rfl
theorem hand_hitAs {G : PG} (hG : G.clss = clssL) {c d : Str} {as : List Str} {i : Nat} {body : SD} {hs : List Hd} {m m1 : M} {H H1 : HP} {v : PV} {Q : Except Str Fl → M → HP → Prop} (hc : clssL.lookup c = some as) (hd : (clssL.lookup d).isNone = false) (hm : as.contains d = true) (hb : body (upd m i (.ref H.length)) (H ++ [.exc c]) = some (.ok (.ret v), m1, H1)) (hQ : Q (.ok (.ret v)) (del m1 i) H1) : SW (handS G c (⟨d, some i, body⟩ :: hs)) m H Q := by
  refine ⟨_, _, _, ?_, hQ⟩
  rw [handS]
  simp only [hit_of hG hc hd hm, if_true, runHd, okS, hb]
end Mine
namespace Mine
open PySem

theorem ret_eq {m : M} {H H1 : HP} {d : ED} {b : SD} {v : PV} (h : d m H = some (.ok v, H1)) : seqS (retS d) b m H = some (.ok (.ret v), m, H1) := by
  simp only [seqS, retS, runS, h]

noncomputable def WorthOk (f : Nat → Fn) : Prop := ∀ n (H : HP) i j row way, Ints H i row → Ints H j way → (∀ x ∈ row, 0 ≤ x ∧ x < 2 ^ 2000) → (∀ x ∈ way, x < 2 ^ 2000) → way.length < 1000 →
  f n [.ref i, .ref j] H = some (if way.length = row.length ∧ ∀ x ∈ way, 0 ≤ x then .ok (.int (dotN row way way.length)) else .error "NoWay", H)
noncomputable def KindsOk (f : Nat → Fn) : Prop := ∀ n (H : HP) (e : Nat) (c : Str), H[e]? = some (.exc c) → (c = "NoRow" ∨ c = "NoWay" ∨ c = "NoAmount" ∨ c = "TooGreat" ∨ c = "NoText") → ∃ ext, f n [.ref e] H = some (.ok (.int 1), H ++ ext)
noncomputable def WholeOk (f : Nat → Fn) : Prop := ∀ n (H : HP) (a : Int), f n [.int a] H = some (.ok (.bool true), H)
noncomputable def SumOk (f : Nat → Fn) : Prop := ∀ n (H : HP) i zs, Ints H i zs → f n [.ref i] H = some (.ok (.int zs.sum), H)

theorem row_small {row : List Int} (h : Row row) : ∀ x ∈ row, 0 ≤ x ∧ x < 2 ^ 2000 := fun x hx => by
  have h1 := h.pos x hx
  have h2 := h.top x hx
  have : (10 : Int) ^ 60 < 2 ^ 2000 := by decide +kernel
  omega

end Mine
namespace Mine
open PySem
noncomputable def g_need_amount (G : PG) (k : Nat) : SD := (seqS (ifS (allT false [(cmpD .Lt (varD 0) (pureD (.int 0))), (cmpD .Gt (varD 0) (pureD (constOf G "MOST_AMOUNT")))]) (seqS (raiseS "NoAmount") nextS) nextS) nextS)
noncomputable def g_first_way_b1 (G : PG) (c_need_amount : Nat → Fn) (k : Nat) : SD := (seqS (setItemS (varD 2) (varD 4) (binD .FloorDiv (varD 3) (itemD (varD 0) (varD 4)))) (seqS (setS 3 (binD .Sub (varD 3) (binD .Mult (itemD (varD 2) (varD 4)) (itemD (varD 0) (varD 4))))) nextS))
noncomputable def g_first_way (G : PG) (c_need_amount : Nat → Fn) (k : Nat) : SD := (seqS (dropS (callD (c_need_amount (k + 1)) [(varD 1)])) (seqS (setS 2 (compD 1001 (seqSrcD (varD 0)) (pureD true) (pureD (.int 0)))) (seqS (setS 3 (varD 1)) (seqS (forS (.one 4) (rangeD [(binD .Sub (callBiD .len [(varD 0)]) (pureD (.int 1))), (unD .USub (pureD (.int 1))), (unD .USub (pureD (.int 1)))]) (g_first_way_b1 G c_need_amount k)) (seqS (retS (varD 2)) nextS)))))
section
variable {m : M} {H H1 H2 H3 : HP} {Q : Except Str Fl → M → HP → Prop}
theorem e_range3 {d e f : ED} {a b : Int} (h : d m H = some (.ok (.int a), H1)) (h' : e m H1 = some (.ok (.int b), H2)) (h'' : f m H2 = some (.ok (.int (-1)), H3)) (h0 : -(2 ^ 60 : Int) < a) (h1 : a < 2 ^ 60) (h2 : -(2 ^ 60 : Int) < b) (h3 : b < 2 ^ 60) : rangeD [d, e, f] m H = some (.ok ⟨rangeL a (a - b).toNat (-1), none⟩, H3) := by
  refine e_bind (e_cons h (e_cons h' (e_cons h'' e_nil))) (e_lift ?_)
  show range3 _ _ _ _ = _
  unfold range3
  rw [if_pos rfl]
  exact if_pos (by rw [decide_eq_true (show a.natAbs < 2 ^ 61 by omega), decide_eq_true (show b.natAbs < 2 ^ 61 by omega)]; rfl)
theorem e_seqSrc {d : ED} {i : Nat} {vs : List PV} (h : d m H = some (.ok (.ref i), H1)) (hi : H1[i]? = some (.list vs)) : seqSrcD d m H = some (.ok ⟨vs, some i⟩, H1) := e_bind h (e_lift (by unfold srcV; simp only [listAt_of hi]))
theorem s_setItem {o i d : ED} {b : SD} {x y v : PV} {H4 : HP} (h1 : d m H = some (.ok v, H1)) (h2 : o m H1 = some (.ok x, H2)) (h3 : i m H2 = some (.ok y, H3)) (h4 : setItemV x y v H3 = some H4) (k : SW b m H4 Q) : SW (seqS (setItemS o i d) b) m H Q :=
  sw_seq.mpr (sw_setItem.mpr ⟨_, _, h1, _, _, h2, _, _, h3, H4, h4, k⟩)
theorem set_ints {r k : Nat} {zs : List Int} {c z : Int} (h : Ints H r zs) (h0 : r ≠ 0) (hk : k < zs.length) (hc : c = k) : setItemV (.ref r) (.int c) (.int z) H = some (H.set r (.list ((zs.set k z).map .int))) := by
  subst hc
  unfold Ints at h
  simp only [setItemV, h, List.length_map]
  rw [if_pos ⟨h0, by omega, by omega⟩]
  simp only [Int.toNat_natCast, List.map_set]
end

noncomputable def dueT (row : List Int) (a : Int) : Nat → Int
  | 0 => a
  | t + 1 => (dueT row a t).fmod (row.getD (row.length - 1 - t) 0)
theorem Row.getD_pos {row : List Int} (h : Row row) {k : Nat} (hk : k < row.length) : 1 ≤ row.getD k 0 ∧ row.getD k 0 ≤ 10 ^ 60 := ⟨h.pos _ (getD_mem hk), h.top _ (getD_mem hk)⟩
theorem dueT_range {row : List Int} (hR : Row row) {a : Int} (ha : 0 ≤ a) : ∀ t, t ≤ row.length → 0 ≤ dueT row a t ∧ dueT row a t ≤ a
  | 0, _ => ⟨ha, Int.le_refl _⟩
  | t + 1, h => by
    have ih := dueT_range hR ha t (by omega)
    have hp := hR.getD_pos (k := row.length - 1 - t) (by omega)
    refine ⟨fmod_lo (by omega), Int.le_trans ?_ ih.2⟩
    have h1 := Int.fmod_def (dueT row a t) (row.getD (row.length - 1 - t) 0)
    have h2 : 0 ≤ (dueT row a t).fdiv (row.getD (row.length - 1 - t) 0) := Int.fdiv_nonneg ih.1 (by omega)
    have h3 : 0 ≤ row.getD (row.length - 1 - t) 0 * (dueT row a t).fdiv (row.getD (row.length - 1 - t) 0) := Int.mul_nonneg (by omega) h2
    rw [dueT]; omega
/-- the way that greatest first makes -/
noncomputable def fwAt (row : List Int) (a : Int) (p : Nat) : Int := (dueT row a (row.length - 1 - p)).fdiv (row.getD p 0)
noncomputable def fwL (row : List Int) (a : Int) : List Int := (List.range row.length).map (fwAt row a)
theorem fwL_length {row : List Int} {a : Int} : (fwL row a).length = row.length := by simp [fwL]
theorem fwL_get {row : List Int} {a : Int} {p : Nat} (h : p < row.length) : (fwL row a).getD p 0 = fwAt row a p := by
  unfold fwL
  rw [List.getD_eq_getElem?_getD, List.getElem?_map, List.getElem?_range h]; rfl
theorem fwAt_range {row : List Int} (hR : Row row) {a : Int} (ha : 0 ≤ a) {p : Nat} (hp : p < row.length) : 0 ≤ fwAt row a p ∧ fwAt row a p ≤ a := by
  have hd := dueT_range hR ha (row.length - 1 - p) (by omega)
  have hr := hR.getD_pos hp
  refine ⟨Int.fdiv_nonneg hd.1 (by omega), Int.le_trans ?_ hd.2⟩
  unfold fwAt
  rw [Int.fdiv_eq_ediv_of_nonneg _ (by omega)]
  exact Int.ediv_le_self _ hd.1
theorem due_step {row : List Int} {a : Int} {p : Nat} (hp : p < row.length) : dueT row a (row.length - p) = dueT row a (row.length - 1 - p) - fwAt row a p * row.getD p 0 := by
  have e : row.length - p = (row.length - 1 - p) + 1 := by omega
  rw [e, dueT, Int.fmod_def]
  have e2 : row.length - 1 - (row.length - 1 - p) = p := by omega
  rw [e2]
  unfold fwAt
  rw [Int.mul_comm]
theorem due_lt {row : List Int} (hR : Row row) {a : Int} {p : Nat} (hp : p < row.length) : dueT row a (row.length - p) < row.getD p 0 := by
  have e : row.length - p = (row.length - 1 - p) + 1 := by omega
  have hr := hR.getD_pos hp
  rw [e, dueT]
  have e2 : row.length - 1 - (row.length - 1 - p) = p := by omega
  rw [e2]
  exact fmod_hi (by omega)
theorem due_zero {row : List Int} (hR : Row row) {a : Int} (ha : 0 ≤ a) : dueT row a row.length = 0 := by
  have hl : 0 < row.length := List.length_pos_iff.mpr hR.ne
  have h1 := due_lt hR (a := a) hl
  have h2 := (dueT_range hR ha row.length (Nat.le_refl _)).1
  have h3 : row.getD 0 0 = 1 := by rw [List.getD_eq_getElem?_getD, hR.first]; rfl
  rw [h3] at h1
  simp only [Nat.sub_zero] at h1
  omega
end Mine
namespace Mine
open PySem

section
variable {m : M} {H H1 H2 H3 : HP} {Q : Except Str Fl → M → HP → Prop}
theorem s_dropE {d : ED} {b : SD} {c : Str} (h : d m H = some (.error c, H1)) (k : Q (.error c) m H1) : SW (seqS (dropS d) b) m H Q := sw_seq.mpr (sw_drop.mpr ⟨_, _, h, k⟩)
end
noncomputable def NeedOk (f : Nat → Fn) : Prop := ∀ j (H : HP) (a : Int), f j [.int a] H = some (if a < 0 ∨ 10 ^ 80 < a then .error "NoAmount" else .ok .none, H)
theorem need_ok {G : PG} (hG : constOf G "MOST_AMOUNT" = .int (10 ^ 80)) (k : Nat) {H : HP} {a : Int} : fnD 1 [0] (g_need_amount G k) [.int a] H = some (if a < 0 ∨ 10 ^ 80 < a then .error "NoAmount" else .ok .none, H) := by
  refine fnR rfl ?_
  unfold g_need_amount
  rw [hG]
  refine s_if (e_or2 (e_cmp (e_var rfl) e_pure cmp_lt) (e_cmp (e_var rfl) e_pure cmp_gt)) (fun q => ?_) (fun q => ?_)
  · rw [Bool.or_eq_true, decide_eq_true_eq, decide_eq_true_eq] at q
    exact s_raise ⟨rfl, by rw [if_pos q]; rfl⟩
  · rw [Bool.or_eq_false_iff, decide_eq_false_iff_not, decide_eq_false_iff_not] at q
    exact s_next (s_next ⟨rfl, by rw [if_neg (fun h => h.elim q.1 q.2)]; rfl⟩)

theorem src_ok {H : HP} {i : Nat} {vs : List PV} (h : H[i]? = some (.list vs)) : Src.ok ⟨vs, some i⟩ H = true := by
  unfold Src.ok; simp only [h, decide_true]
theorem comp_const {m : M} {H H1 : HP} {i : Nat} {dsrc : RD Src} {src : Src} {v : PV} (hs : dsrc m H = some (.ok src, H1)) (hok : src.ok H1 = true) (hl : src.items.length ≤ 1000000) : compD i dsrc (pureD true) (pureD v) m H = some (.ok (.ref H1.length), H1 ++ [.list (List.replicate src.items.length v)]) := by
  suffices h : RW (compD i dsrc (pureD true) (pureD v)) m H fun r H' => r = .ok (.ref H1.length) ∧ H' = H1 ++ [.list (List.replicate src.items.length v)] by
    obtain ⟨r, H', e, rfl, rfl⟩ := h
    exact e
  refine rw_comp hs (fun k acc H' => H' = H1 ∧ acc = List.replicate k v) ⟨rfl, rfl⟩ (fun k w acc H' hv hP => ?_) (fun vs H' hP => ?_)
  · obtain ⟨rfl, rfl⟩ := hP
    exact ⟨hok, _, _, compStep_one rfl e_pure, rfl, by rw [List.replicate_succ']⟩
  · obtain ⟨rfl, rfl⟩ := hP
    exact ⟨hok, by simpa using hl, rfl, rfl⟩
theorem comp_zeros {m : M} {H : HP} {i j : Nat} {d : ED} {zs : List Int} (hd : d m H = some (.ok (.ref j), H)) (hj : Ints H j zs) (hl : zs.length ≤ 1000000) : compD i (seqSrcD d) (pureD true) (pureD (.int 0)) m H = some (.ok (.ref H.length), H ++ [.list ((List.replicate zs.length (0 : Int)).map .int)]) := by
  rw [comp_const (e_seqSrc hd hj) (src_ok hj) (by simpa using hl)]
  simp

theorem getD_set_eq {zs : List Int} {k : Nat} {z : Int} (h : k < zs.length) : (zs.set k z).getD k 0 = z := by
  rw [List.getD_eq_getElem?_getD, List.getElem?_set_self h]; rfl
theorem getD_set_ne {zs : List Int} {k j : Nat} {z : Int} (h : k ≠ j) : (zs.set k z).getD j 0 = zs.getD j 0 := by
  rw [List.getD_eq_getElem?_getD, List.getElem?_set_ne h, ← List.getD_eq_getElem?_getD]
theorem ext_getD {a b : List Int} (hl : a.length = b.length) (h : ∀ p, p < a.length → a.getD p 0 = b.getD p 0) : a = b := by
  refine List.ext_getElem hl fun p h1 h2 => ?_
  have := h p h1
  rw [List.getD_eq_getElem?_getD, List.getD_eq_getElem?_getD, List.getElem?_eq_getElem h1, List.getElem?_eq_getElem h2] at this
  exact this
noncomputable def FirstOk (f : Nat → Fn) : Prop := ∀ j (H : HP) i row (a : Int), Ints H i row → Row row → row.length ≤ 12 → f j [.ref i, .int a] H = if a < 0 ∨ 10 ^ 80 < a then some (.error "NoAmount", H) else some (.ok (.ref H.length), H ++ [.list ((fwL row a).map .int)])
theorem big60 : (10 : Int) ^ 60 < 2 ^ 250 := by decide +kernel
theorem big60' : (10 : Int) ^ 60 < 2 ^ 2000 := by decide +kernel
theorem big80 : (10 : Int) ^ 80 < 2 ^ 2000 := by decide +kernel
theorem first_ok {G : PG} {f : Nat → Fn} (hf : NeedOk f) (k : Nat) {H : HP} {i : Nat} {row : List Int} {a : Int} (hi : Ints H i row) (hR : Row row) (hl : row.length ≤ 12) :
    fnD 2 [0, 1] (g_first_way G f k) [.ref i, .int a] H = if a < 0 ∨ 10 ^ 80 < a then some (.error "NoAmount", H) else some (.ok (.ref H.length), H ++ [.list ((fwL row a).map .int)]) := by
  by_cases hb : a < 0 ∨ 10 ^ 80 < a
  · rw [if_pos hb]
    refine fn1e rfl ?_
    unfold g_first_way
    exact s_dropE (c := "NoAmount") (e_call (e_cons (e_var rfl) e_nil) ((hf _ _ _).trans (by rw [if_pos hb]))) ⟨rfl, rfl⟩
  · rw [if_neg hb]
    have ha0 : 0 ≤ a := by omega
    have ha1 : a ≤ 10 ^ 80 := Int.not_lt.mp fun h => hb (.inr h)
    have hHl : 0 < H.length := by have := hi.lt; omega
    have b1 := big60
    have b2 := big60'
    have b3 := big80
    refine fn1 rfl ?_
    unfold g_first_way
    refine s_drop (v := .none) (e_call (e_cons (e_var rfl) e_nil) ((hf _ _ _).trans (by rw [if_neg hb]))) ?_
    refine s_set (comp_zeros (e_var rfl) hi (by omega)) ?_
    refine s_set (e_var rfl) ?_
    have hn : ((row.length : Int) - 1 - -1).toNat = row.length := by omega
    refine sw_seq.mpr (sw_forRange (e_range3 (e_bin (e_bi (e_cons (e_var rfl) e_nil) (len_ints hi.app)) e_pure op_sub) (e_un e_pure rfl) (e_un e_pure rfl) (by omega) (by omega) (by decide) (by decide))
      (fun t m H' => m 0 = some (.ref i) ∧ m 2 = some (.ref H.length) ∧ m 3 = some (.int (dueT row a t)) ∧ ∃ w : List Int, H' = H ++ [.list (w.map .int)] ∧ w.length = row.length ∧ ∀ p, row.length - t ≤ p → p < row.length → w.getD p 0 = fwAt row a p) (fun _ _ _ => False) ⟨rfl, rfl, rfl, _, rfl, by simp, fun p h1 h2 => by omega⟩ (fun t m H' ht hP => ?_) (fun m' H' hP => ?_) (fun _ _ _ _ h => h.elim))
    · rw [hn] at ht
      obtain ⟨p0, p2, p3, w, rfl, hw, hp⟩ := hP
      have hc : (row.length : Int) - 1 + (t : Int) * -1 = ((row.length - 1 - t : Nat) : Int) := by omega
      rw [hc]
      generalize hpp : row.length - 1 - t = p at *
      have hpl : p < row.length := by omega
      have ht' : t = row.length - 1 - p := by omega
      have hr := hR.getD_pos hpl
      have hd := dueT_range hR ha0 t (by omega)
      have hfw : (dueT row a t).fdiv (row.getD p 0) = fwAt row a p := by unfold fwAt; rw [← ht']
      have hfr := fwAt_range hR ha0 hpl
      unfold g_first_way_b1
      have q0 : upd m 4 (.int (p : Int)) 0 = some (.ref i) := by rw [upd_ne (by decide)]; exact p0
      have q2 : upd m 4 (.int (p : Int)) 2 = some (.ref H.length) := by rw [upd_ne (by decide)]; exact p2
      have q3 : upd m 4 (.int (p : Int)) 3 = some (.int (dueT row a t)) := by rw [upd_ne (by decide)]; exact p3
      refine s_setItem (e_bin (e_var q3) (e_item (e_var q0) (e_var upd_at) (item_at hi.app hpl rfl)) (op_fdiv (by omega) (by omega))) (e_var q2) (e_var upd_at) (set_ints (zs := w) ints_new (by omega) (by omega) rfl) ?_
      rw [hfw, set_new]
      refine s_set (e_bin (e_var q3) (e_bin (e_item (e_var q2) (e_var upd_at) (item_at ints_new (k := p) (by simp; omega) rfl)) (e_item (e_var q0) (e_var upd_at) (item_at hi.app hpl rfl)) (op_mulB (by rw [getD_set_eq (by omega)]; omega) (by rw [getD_set_eq (by omega)]; omega) (by omega) (by omega))) op_sub) (s_next (.inl ⟨rfl, ?_, ?_, ?_, _, rfl, by simp [hw], fun x h1 h2 => ?_⟩))
      · rw [upd_ne (by decide)]; exact q0
      · rw [upd_ne (by decide)]; exact q2
      · rw [upd_at, getD_set_eq (by omega)]
        have := due_step (a := a) hpl
        rw [show row.length - p = t + 1 by omega, show row.length - 1 - p = t by omega] at this
        rw [this]
      · by_cases hx : x = p
        · subst hx; exact getD_set_eq (by omega)
        · rw [getD_set_ne (fun h => hx h.symm)]; exact hp x (by omega) h2
    · obtain ⟨p0, p2, p3, w, rfl, hw, hp⟩ := hP
      refine s_ret (e_var p2) ⟨rfl, ?_⟩
      have : w = fwL row a := ext_getD (by rw [fwL_length, hw]) fun p h => by rw [fwL_get (by omega)]; exact hp p (by omega) (by omega)
      rw [this]
end Mine
namespace Mine
open PySem

section
variable {m : M} {H H1 H2 H3 : HP}
theorem e_orF {t : TD} {ts : List TD} {R : Option (Except Str Bool × HP)} (h : t m H = some (.ok false, H1)) (h2 : allT false ts m H1 = R) : allT false (t :: ts) m H = R := e_allT1 h (fun _ => h2) (fun q => absurd rfl q)
theorem e_orT {t : TD} {ts : List TD} (h : t m H = some (.ok true, H1)) : allT false (t :: ts) m H = some (.ok true, H1) := e_allT1 h (fun q => by cases q) (fun q => rfl)
theorem e_aaT {t : TD} {ts : List TD} {R : Option (Except Str Bool × HP)} (h : t m H = some (.ok true, H1)) (h2 : allT true ts m H1 = R) : allT true (t :: ts) m H = R := e_allT1 h (fun _ => h2) (fun q => absurd rfl q)
theorem e_aaF {t : TD} {ts : List TD} (h : t m H = some (.ok false, H1)) : allT true (t :: ts) m H = some (.ok false, H1) := e_allT1 h (fun q => by cases q) (fun q => rfl)
end

theorem isIn_list {G : PG} {H : HP} {i : Nat} {vs : List PV} (h : H[i]? = some (.list vs)) : isIn G "list" (.ref i) H = some true := by
  unfold isIn isTy; rw [show tyOf "list" = some .list by rfl]; simp only [h]
theorem dec_f {p : Prop} [Decidable p] (h : ¬ p) : some (decide p) = some false := by rw [decide_eq_false h]
theorem dec_t {p : Prop} [Decidable p] (h : p) : some (decide p) = some true := by rw [decide_eq_true h]
theorem ndec_f {p : Prop} [Decidable p] (h : p) : some (!decide p) = some false := by rw [decide_eq_true h]; rfl
theorem ndec_t {p : Prop} [Decidable p] (h : ¬ p) : some (!decide p) = some true := by rw [decide_eq_false h]; rfl

end Mine
namespace Mine
open PySem
noncomputable def g_good_row_b1 (G : PG) (k : Nat) : SD := (seqS (ifS (cmpD .LtE (itemD (varD 0) (varD 1)) (itemD (varD 0) (binD .Sub (varD 1) (pureD (.int 1))))) (seqS (raiseS "NoRow") nextS) nextS) nextS)
noncomputable def g_good_row (G : PG) (k : Nat) : SD := (seqS (ifS (allT false [(cmpD .Lt (callBiD .len [(varD 0)]) (pureD (.int 1))), (cmpD .Gt (callBiD .len [(varD 0)]) (pureD (constOf G "MOST"))), (cmpD .NotEq (itemD (varD 0) (pureD (.int 0))) (pureD (.int 1))), (cmpD .Gt (itemD (varD 0) (unD .USub (pureD (.int 1)))) (pureD (constOf G "GREATEST")))]) (seqS (raiseS "NoRow") nextS) nextS) (seqS (forS (.one 1) (rangeD [(pureD (.int 1)), (callBiD .len [(varD 0)])]) (g_good_row_b1 G  k)) (seqS (retS (callBiD .list [(varD 0)])) nextS)))
noncomputable def Good (zs : List Int) : Prop := 1 ≤ zs.length ∧ zs.length ≤ 12 ∧ zs.getD 0 0 = 1 ∧ zs.getD (zs.length - 1) 0 ≤ 10 ^ 60 ∧ ∀ p, p + 1 < zs.length → zs.getD p 0 < zs.getD (p + 1) 0
theorem last_ints {H : HP} {r : Nat} {zs : List Int} (h : Ints H r zs) (hl : 1 ≤ zs.length) : itemV (.ref r) (.int (-1)) H = some (.int (zs.getD (zs.length - 1) 0)) := by
  refine item_last h ?_
  rw [List.getLast?_eq_getElem?, List.getD_eq_getElem?_getD, List.getElem?_eq_getElem (by omega)]; rfl
theorem e_1060 {m : M} {H : HP} : binD .Pow (pureD (.int 10)) (pureD (.int 60)) m H = some (.ok (.int (10 ^ 60)), H) := e_bin e_pure e_pure (op_pow (by decide) (by decide) (by decide) (by decide))

noncomputable def GoodRowOk (f : Nat → Fn) : Prop := ∀ j (H : HP) i zs, Ints H i zs → (Good zs → f j [.ref i] H = some (.ok (.ref H.length), H ++ [.list (zs.map .int)])) ∧ (¬ Good zs → f j [.ref i] H = some (.error "NoRow", H))
theorem good_row_ok {G : PG} (hM : constOf G "MOST" = .int 12) (hG : constOf G "GREATEST" = .int (10 ^ 60)) (k : Nat) {H : HP} {i : Nat} {zs : List Int} (hi : Ints H i zs) :
    (Good zs → fnD 1 [0] (g_good_row G k) [.ref i] H = some (.ok (.ref H.length), H ++ [.list (zs.map .int)])) ∧ (¬ Good zs → fnD 1 [0] (g_good_row G k) [.ref i] H = some (.error "NoRow", H)) := by
  suffices h : SW (g_good_row G k) (argM [0] [.ref i]) H fun r _ H1 => (Good zs ∧ r = .ok (.ret (.ref H.length)) ∧ H1 = H ++ [.list (zs.map .int)]) ∨ (¬ Good zs ∧ r = .error "NoRow" ∧ H1 = H) by
    obtain ⟨r, m', H1, e, h⟩ := h
    constructor
    · intro hg
      rcases h with ⟨_, rfl, rfl⟩ | ⟨hn, _⟩
      · unfold fnD; rw [if_pos (by rfl), e]
      · exact absurd hg hn
    · intro hg
      rcases h with ⟨hn, _⟩ | ⟨_, rfl, rfl⟩
      · exact absurd hn hg
      · unfold fnD; rw [if_pos (by rfl), e]
  unfold g_good_row
  rw [hM, hG]
  have raise : ∀ (b : SD) (m : M), ¬ Good zs → SW (seqS (raiseS "NoRow") nextS) m H fun r m' H' => onN r (SW b m' H' fun r _ H1 => (Good zs ∧ r = .ok (.ret (.ref H.length)) ∧ H1 = H ++ [.list (zs.map .int)]) ∨ (¬ Good zs ∧ r = .error "NoRow" ∧ H1 = H)) ((Good zs ∧ r = .ok (.ret (.ref H.length)) ∧ H' = H ++ [.list (zs.map .int)]) ∨ (¬ Good zs ∧ r = .error "NoRow" ∧ H' = H)) := fun b m hn => s_raise (.inr ⟨hn, rfl, rfl⟩)
  by_cases h1 : (zs.length : Int) < 1
  · exact s_ifT (e_orT (e_cmp (e_bi (e_cons (e_var rfl) e_nil) (len_ints hi)) e_pure (cmp_lt.trans (dec_t h1)))) (raise _ _ fun h => by have := h.1; omega)
  by_cases h2 : (zs.length : Int) > 12
  · exact s_ifT (e_orF (e_cmp (e_bi (e_cons (e_var rfl) e_nil) (len_ints hi)) e_pure (cmp_lt.trans (dec_f h1))) (e_orT (e_cmp (e_bi (e_cons (e_var rfl) e_nil) (len_ints hi)) e_pure (cmp_gt.trans (dec_t h2))))) (raise _ _ fun h => by have := h.2.1; omega)
  have i0 : itemV (.ref i) (.int 0) H = some (.int (zs.getD 0 0)) := item_at hi (by omega) rfl
  have il := last_ints hi (by omega)
  by_cases h3 : zs.getD 0 0 = 1
  case neg =>
    exact s_ifT (e_orF (e_cmp (e_bi (e_cons (e_var rfl) e_nil) (len_ints hi)) e_pure (cmp_lt.trans (dec_f h1))) (e_orF (e_cmp (e_bi (e_cons (e_var rfl) e_nil) (len_ints hi)) e_pure (cmp_gt.trans (dec_f h2))) (e_orT (e_cmp (e_item (e_var rfl) e_pure i0) e_pure (cmp_ne.trans (ndec_t h3)))))) (raise _ _ fun h => h3 h.2.2.1)
  by_cases h4 : zs.getD (zs.length - 1) 0 > 10 ^ 60
  · exact s_ifT (e_orF (e_cmp (e_bi (e_cons (e_var rfl) e_nil) (len_ints hi)) e_pure (cmp_lt.trans (dec_f h1))) (e_orF (e_cmp (e_bi (e_cons (e_var rfl) e_nil) (len_ints hi)) e_pure (cmp_gt.trans (dec_f h2))) (e_orF (e_cmp (e_item (e_var rfl) e_pure i0) e_pure (cmp_ne.trans (ndec_f h3))) (e_orT (e_cmp (e_item (e_var rfl) (e_un e_pure rfl) il) e_pure (cmp_gt.trans (dec_t h4))))))) (raise _ _ fun h => by have := h.2.2.2.1; omega)
  refine s_ifF (e_orF (e_cmp (e_bi (e_cons (e_var rfl) e_nil) (len_ints hi)) e_pure (cmp_lt.trans (dec_f h1))) (e_orF (e_cmp (e_bi (e_cons (e_var rfl) e_nil) (len_ints hi)) e_pure (cmp_gt.trans (dec_f h2))) (e_orF (e_cmp (e_item (e_var rfl) e_pure i0) e_pure (cmp_ne.trans (ndec_f h3))) (e_orF (e_cmp (e_item (e_var rfl) (e_un e_pure rfl) il) e_pure (cmp_gt.trans (dec_f h4))) e_allT0)))) ?_
  have hn : ((zs.length : Int) - 1).toNat = zs.length - 1 := by omega
  refine sw_seq.mpr (sw_forRange (e_range2 e_pure (e_bi (e_cons (e_var rfl) e_nil) (len_ints hi)) (by decide) (by decide) (by omega) (by omega))
    (fun t m H' => H' = H ∧ m 0 = some (.ref i) ∧ ∀ p, p < t → zs.getD p 0 < zs.getD (p + 1) 0) (fun r _ H' => r = .error "NoRow" ∧ H' = H ∧ ¬ Good zs) ⟨rfl, rfl, fun p hp => by omega⟩ (fun t m H' ht hP => ?_) (fun m' H' hP => ?_) (fun r m' H' _ h => ?_))
  · rw [hn] at ht
    obtain ⟨rfl, p0, p1⟩ := hP
    have j1 : itemV (.ref i) (.int (1 + (t : Int) * 1)) H' = some (.int (zs.getD (t + 1) 0)) := item_at hi (by omega) (by omega)
    have j2 : itemV (.ref i) (.int (1 + (t : Int) * 1 - 1)) H' = some (.int (zs.getD t 0)) := item_at hi (by omega) (by omega)
    have q0 : upd m 1 (.int (1 + (t : Int) * 1)) 0 = some (.ref i) := by rw [upd_ne (by decide)]; exact p0
    unfold g_good_row_b1
    refine s_if (e_cmp (e_item (e_var q0) (e_var upd_at) j1) (e_item (e_var q0) (e_bin (e_var upd_at) e_pure op_sub) j2) cmp_le) (fun q => ?_) (fun q => ?_)
    · have := of_decide_eq_true q
      exact s_raise (.inr ⟨by simp, rfl, rfl, fun h => by have := h.2.2.2.2 t (by omega); omega⟩)
    · have := of_decide_eq_false q
      refine s_next (s_next (.inl ⟨rfl, rfl, q0, fun p hp => ?_⟩))
      rcases Nat.lt_or_ge p t with h | h
      · exact p1 p h
      · have : p = t := by omega
        subst this; omega
  · obtain ⟨rfl, p0, p1⟩ := hP
    rw [hn] at p1
    exact s_ret (e_bi (e_cons (e_var p0) e_nil) (copy_ints hi)) (.inl ⟨⟨by omega, by omega, h3, by omega, fun p hp => p1 p (by omega)⟩, rfl, rfl⟩)
  · obtain ⟨rfl, rfl, h⟩ := h
    exact .inr ⟨h, rfl, rfl⟩

end Mine
namespace Mine
open PySem

theorem cmp_ne_ints {H : HP} {i j : Nat} {a b : List Int} (h1 : Ints H i a) (h2 : Ints H j b) : cmpV .NotEq (.ref i) (.ref j) H = some (!decide (a = b)) := by
  have := cmp_eq_ints h1 h2
  show (eqV H (.ref i) (.ref j)).map (!·) = _
  have h : eqV H (.ref i) (.ref j) = some (decide (a = b)) := this
  rw [h]; rfl
end Mine
namespace Mine
open PySem
noncomputable def g_trial_b1 (G : PG) (c_first_way : Nat → Fn) (k : Nat) : SD := (seqS (setItemS (varD 3) (varD 4) (pureD (.int 0))) nextS)
noncomputable def g_trial (G : PG) (c_first_way : Nat → Fn) (k : Nat) : SD := (seqS (ifS (allT false [(cmpD .Lt (varD 2) (pureD (.int 0))), (cmpD .GtE (varD 2) (varD 1)), (cmpD .GtE (varD 1) (callBiD .len [(varD 0)]))]) (seqS (raiseS "NoWay") nextS) nextS) (seqS (setS 3 (callD (c_first_way (k + 0)) [(varD 0), (binD .Sub (itemD (varD 0) (varD 1)) (pureD (.int 1)))])) (seqS (forS (.one 4) (rangeD [(varD 2)]) (g_trial_b1 G c_first_way k)) (seqS (setItemS (varD 3) (varD 2) (binD .Add (itemD (varD 3) (varD 2)) (pureD (.int 1)))) (seqS (retS (varD 3)) nextS)))))
/-- the trial's way -/
noncomputable def trAt (row : List Int) (h l p : Nat) : Int := if p < l then 0 else fwAt row (row.getD h 0 - 1) p + (if p = l then 1 else 0)
noncomputable def trL (row : List Int) (h l : Nat) : List Int := (List.range row.length).map (trAt row h l)
theorem trL_length {row : List Int} {h l : Nat} : (trL row h l).length = row.length := by simp [trL]
theorem trL_get {row : List Int} {h l p : Nat} (hp : p < row.length) : (trL row h l).getD p 0 = trAt row h l p := by
  unfold trL
  rw [List.getD_eq_getElem?_getD, List.getElem?_map, List.getElem?_range hp]; rfl

noncomputable def TrialOk (f : Nat → Fn) : Prop := ∀ j (H : HP) i row (h l : Int), Ints H i row → Row row → row.length ≤ 12 → f j [.ref i, .int h, .int l] H = if l < 0 ∨ l ≥ h ∨ h ≥ row.length then some (.error "NoWay", H) else some (.ok (.ref H.length), H ++ [.list ((trL row h.toNat l.toNat).map .int)])
theorem trial_ok {G : PG} {f : Nat → Fn} (hf : FirstOk f) (k : Nat) {H : HP} {i : Nat} {row : List Int} {h l : Int} (hi : Ints H i row) (hR : Row row) (hl : row.length ≤ 12) :
    fnD 3 [0, 1, 2] (g_trial G f k) [.ref i, .int h, .int l] H = if l < 0 ∨ l ≥ h ∨ h ≥ row.length then some (.error "NoWay", H) else some (.ok (.ref H.length), H ++ [.list ((trL row h.toNat l.toNat).map .int)]) := by
  have hlt := hi.lt
  by_cases hb : l < 0 ∨ l ≥ h ∨ h ≥ row.length
  · rw [if_pos hb]
    refine fn1e rfl ?_
    unfold g_trial
    refine s_if (x := true) ?_ (fun _ => s_raise ⟨rfl, rfl⟩) (fun q => by cases q)
    by_cases h1 : l < 0
    · exact e_orT (e_cmp (e_var rfl) e_pure (cmp_lt.trans (dec_t h1)))
    by_cases h2 : l ≥ h
    · exact e_orF (e_cmp (e_var rfl) e_pure (cmp_lt.trans (dec_f h1))) (e_orT (e_cmp (e_var rfl) (e_var rfl) (cmp_ge.trans (dec_t h2))))
    · exact e_orF (e_cmp (e_var rfl) e_pure (cmp_lt.trans (dec_f h1))) (e_orF (e_cmp (e_var rfl) (e_var rfl) (cmp_ge.trans (dec_f h2))) (e_orT (e_cmp (e_var rfl) (e_bi (e_cons (e_var rfl) e_nil) (len_ints hi)) (cmp_ge.trans (dec_t (by omega))))))
  · rw [if_neg hb]
    refine fn1 rfl ?_
    unfold g_trial
    refine s_ifF (e_orF (e_cmp (e_var rfl) e_pure (cmp_lt.trans (dec_f (by omega)))) (e_orF (e_cmp (e_var rfl) (e_var rfl) (cmp_ge.trans (dec_f (by omega)))) (e_orF (e_cmp (e_var rfl) (e_bi (e_cons (e_var rfl) e_nil) (len_ints hi)) (cmp_ge.trans (dec_f (by omega)))) e_allT0))) ?_
    have hh : h.toNat < row.length := by omega
    have hr := hR.getD_pos hh
    have hfw := hf (k + 0) H i row (row.getD h.toNat 0 - 1) hi hR hl
    rw [if_neg (by omega)] at hfw
    generalize ha : row.getD h.toNat 0 - 1 = a at *
    refine s_set (e_call (e_cons (e_var rfl) (e_cons (e_bin (e_item (e_var rfl) (e_var rfl) (item_at hi hh (by omega))) e_pure op_sub) e_nil)) (by rw [ha]; exact hfw)) ?_
    refine sw_seq.mpr (sw_forRange (e_range1 (e_var rfl) (by omega) (by omega))
      (fun t m H' => m 2 = some (.int l) ∧ m 3 = some (.ref H.length) ∧ ∃ w : List Int, H' = H ++ [.list (w.map .int)] ∧ w.length = row.length ∧ ∀ p, p < row.length → w.getD p 0 = if p < t then 0 else fwAt row a p) (fun _ _ _ => False) ⟨rfl, upd_at, fwL row a, rfl, fwL_length, fun p hp => by rw [fwL_get hp, if_neg (by omega)]⟩ (fun t m H' ht hP => ?_) (fun m' H' hP => ?_) (fun _ _ _ _ h => h.elim))
    · obtain ⟨p2, p3, w, rfl, hw, hp⟩ := hP
      unfold g_trial_b1
      refine s_setItem e_pure (e_var (by rw [upd_ne (by decide)]; exact p3)) (e_var upd_at) (set_ints (k := t) (zs := w) ints_new (by omega) (by omega) (by omega)) (s_next (.inl ⟨rfl, by rw [upd_ne (by decide)]; exact p2, by rw [upd_ne (by decide)]; exact p3, w.set t 0, by rw [set_new], by simp [hw], fun p hp' => ?_⟩))
      by_cases hpt : p = t
      · subst hpt; rw [getD_set_eq (by omega), if_pos (by omega)]
      · rw [getD_set_ne (fun h => hpt h.symm), hp p hp']
        by_cases h1 : p < t
        · rw [if_pos h1, if_pos (by omega)]
        · rw [if_neg h1, if_neg (by omega)]
    · obtain ⟨p2, p3, w, rfl, hw, hp⟩ := hP
      refine s_setItem (e_bin (e_item (e_var p3) (e_var p2) (item_at (k := l.toNat) ints_new (by omega) (by omega))) e_pure op_add) (e_var p3) (e_var p2) (set_ints (k := l.toNat) (zs := w) ints_new (by omega) (by omega) (by omega)) (s_ret (e_var p3) ⟨rfl, ?_⟩)
      rw [set_new]
      congr 4
      refine ext_getD (by simp [trL_length, hw]) fun p hpl => ?_
      simp only [List.length_set] at hpl
      rw [trL_get (by omega)]
      unfold trAt
      rw [ha]
      by_cases hpt : p = l.toNat
      · subst hpt
        rw [getD_set_eq (by omega), hp _ (by omega), if_neg (by omega), if_neg (by omega), if_pos rfl]
      · rw [getD_set_ne (fun h => hpt h.symm), hp p (by omega), if_neg hpt]
        split <;> omega

theorem ints_at {zs : List Int} {t : Nat} {v : PV} (hv : (zs.map PV.int)[t]? = some v) : ∃ z, v = PV.int z := by
  rw [List.getElem?_map] at hv
  cases hz : zs[t]? with
  | none => rw [hz] at hv; cases hv
  | some z => rw [hz] at hv; cases hv; exact ⟨z, rfl⟩

end Mine
namespace Mine
open PySem
/-- the fewest pieces of d out of the coins up to place p, as the table makes them -/
noncomputable def tb (c : Nat → Nat) : Nat → Nat → Nat
  | 0, d => d
  | p + 1, d => if h : 0 < c (p + 1) ∧ c (p + 1) ≤ d then (if tb c (p + 1) (d - c (p + 1)) + 1 < tb c p d then tb c (p + 1) (d - c (p + 1)) + 1 else tb c p d) else tb c p d
  termination_by p d => (p, d)
  decreasing_by
    all_goals simp_wf
    all_goals first | (apply Prod.Lex.right; omega) | (apply Prod.Lex.left; omega)
end Mine
namespace Mine
open PySem

/-- what stood stands -/
noncomputable def Pre (H H' : HP) : Prop := ∀ (i : Nat) o, H[i]? = some o → H'[i]? = some o
theorem Pre.refl {H : HP} : Pre H H := fun _ _ h => h
theorem Pre.app {H H' e : HP} (h : Pre H H') : Pre H (H' ++ e) := fun i o hi => get_app (h i o hi)
theorem Pre.trans {H H' H'' : HP} (h : Pre H H') (h' : Pre H' H'') : Pre H H'' := fun i o hi => h' i o (h i o hi)
theorem Pre.set {H H' : HP} {r : Nat} {o : PO} (h : Pre H H') (hr : H.length ≤ r) : Pre H (H'.set r o) := fun i x hi => by
  have := (List.getElem?_eq_some_iff.mp hi).1
  rw [set_ne (by omega)]; exact h i x hi
theorem Pre.ints {H H' : HP} {i : Nat} {zs : List Int} (h : Pre H H') (hi : Ints H i zs) : Ints H' i zs := h _ _ hi
theorem Pre.len {H H' : HP} (h : Pre H H') : H.length ≤ H'.length := by
  cases hn : H.length with
  | zero => omega
  | succ n =>
    have := h n H[n] (List.getElem?_eq_getElem (by omega))
    have := (List.getElem?_eq_some_iff.mp this).1
    omega

theorem item_list {H : HP} {i k : Nat} {vs : List PV} {v : PV} {c : Int} (h : H[i]? = some (.list vs)) (hv : vs[k]? = some v) (hc : c = k) : itemV (.ref i) (.int c) H = some v := by
  subst hc
  have hk := (List.getElem?_eq_some_iff.mp hv).1
  simp only [itemV, h, idx_nonneg (Int.natCast_nonneg k) (Int.ofNat_lt.mpr hk), Option.bind_some, Int.toNat_natCast, hv]
end Mine
namespace Mine
open PySem

end Mine
namespace Mine
open PySem

end Mine
namespace Mine
open PySem

end Mine
namespace Mine
open PySem

/-- worth and pieces of the places below k -/
noncomputable def DV (row : List Int) (v : Nat → Int) : Nat → Int
  | 0 => 0
  | k + 1 => DV row v k + v k * row.getD k 0
noncomputable def SV (v : Nat → Int) : Nat → Int
  | 0 => 0
  | k + 1 => SV v k + v k
theorem DV_congr {row : List Int} {u v : Nat → Int} : ∀ k, (∀ p, p < k → u p = v p) → DV row u k = DV row v k
  | 0, _ => rfl
  | k + 1, h => by rw [DV, DV, DV_congr k fun p hp => h p (by omega), h k (by omega)]
theorem DV_list {row w : List Int} : ∀ k, DV row (fun p => w.getD p 0) k = dotN row w k
  | 0 => rfl
  | k + 1 => by rw [DV, dotN, DV_list k]
section
variable {row : List Int}
theorem Row.mono (hR : Row row) {i j : Nat} (h : i < j) (hj : j < row.length) : row.getD i 0 < row.getD j 0 := by
  have := List.pairwise_iff_getElem.mp hR.up i j (by omega) hj h
  rw [List.getD_eq_getElem?_getD, List.getD_eq_getElem?_getD, List.getElem?_eq_getElem (by omega), List.getElem?_eq_getElem hj]
  exact this
theorem Row.one (hR : Row row) : row.getD 0 0 = 1 := by rw [List.getD_eq_getElem?_getD, hR.first]; rfl

noncomputable def gv (row : List Int) (a : Int) : Nat → Int := fun p => fwAt row a p
noncomputable def gs (row : List Int) (a : Int) : Int := SV (gv row a) row.length
theorem gv_dot (hR : Row row) {a : Int} (ha : 0 ≤ a) : ∀ k, k ≤ row.length → DV row (gv row a) k = dueT row a (row.length - k)
  | 0, _ => by rw [DV, Nat.sub_zero, due_zero hR ha]
  | k + 1, h => by
    rw [DV, gv_dot hR ha k (by omega), due_step (by omega), show row.length - (k + 1) = row.length - 1 - k by omega]
    unfold gv
    omega
theorem gv_all (hR : Row row) {a : Int} (ha : 0 ≤ a) : DV row (gv row a) row.length = a := by
  rw [gv_dot hR ha _ (Nat.le_refl _), Nat.sub_self]; rfl
theorem gv_nn (hR : Row row) {a : Int} (ha : 0 ≤ a) {p : Nat} (hp : p < row.length) : 0 ≤ gv row a p := (fwAt_range hR ha hp).1

theorem DV_nn (hR : Row row) {v : Nat → Int} (hv : ∀ p, p < row.length → 0 ≤ v p) : ∀ k, k ≤ row.length → 0 ≤ DV row v k
  | 0, _ => Int.le_refl _
  | k + 1, h => by
    have h1 := DV_nn hR hv k (by omega)
    have h2 := Int.mul_nonneg (hv k (by omega)) (by have := hR.getD_pos (k := k) (by omega); omega : (0 : Int) ≤ row.getD k 0)
    rw [DV]; omega
end
end Mine
namespace Mine
open PySem
section
variable {row : List Int}
/-- the trials in their order -/
noncomputable def pairsTo (i : Nat) : List (Nat × Nat) := (List.range i).flatMap fun a => (List.range (a + 1)).map fun l => (a + 1, l)
theorem pairsTo_succ {i : Nat} : pairsTo (i + 1) = pairsTo i ++ (List.range (i + 1)).map fun l => (i + 1, l) := by
  unfold pairsTo
  conv => lhs; rw [List.range_succ]
  rw [List.flatMap_append]
  simp only [List.flatMap_cons, List.flatMap_nil, List.append_nil]
theorem mem_pairs {i : Nat} {p : Nat × Nat} : p ∈ pairsTo i ↔ p.2 < p.1 ∧ p.1 ≤ i := by
  unfold pairsTo
  simp only [List.mem_flatMap, List.mem_range, List.mem_map]
  constructor
  · rintro ⟨a, h1, l, h2, rfl⟩; exact ⟨by simp; omega, by simp; omega⟩
  · rintro ⟨h1, h2⟩
    exact ⟨p.1 - 1, by omega, p.2, by omega, by rw [show p.1 - 1 + 1 = p.1 by omega]⟩
noncomputable def trW (row : List Int) (p : Nat × Nat) : List Int := trL row p.1 p.2
noncomputable def trA (row : List Int) (p : Nat × Nat) : Int := dotN row (trW row p) row.length
noncomputable def jstep (row : List Int) (b : Option (Int × List Int)) (p : Nat × Nat) : Option (Int × List Int) :=
  if (trW row p).sum < (fwL row (trA row p)).sum then
    (match b with
    | none => some (trA row p, trW row p)
    | some (B, X) => if trA row p < B ∨ trA row p = B ∧ (trW row p).sum < X.sum then some (trA row p, trW row p) else some (B, X))
  else b
noncomputable def best (row : List Int) : Option (Int × List Int) := (pairsTo (row.length - 1)).foldl (jstep row) none

theorem trW_length {p : Nat × Nat} : (trW row p).length = row.length := trL_length
theorem trW_get {p : Nat × Nat} {q : Nat} (hq : q < row.length) : (trW row p).getD q 0 = trAt row p.1 p.2 q := trL_get hq
theorem trA_dv {p : Nat × Nat} : trA row p = DV row (trAt row p.1 p.2) row.length := by
  unfold trA
  rw [← DV_list]
  exact DV_congr _ fun q hq => trW_get hq
theorem tr_nn (hR : Row row) {p : Nat × Nat} (hp : p.1 < row.length) {q : Nat} (hq : q < row.length) : 0 ≤ trAt row p.1 p.2 q := by
  have h1 := hR.getD_pos hp
  have h2 := (fwAt_range hR (a := row.getD p.1 0 - 1) (by omega) hq).1
  unfold trAt
  split
  · omega
  · split <;> omega
/-- a trial's worth -/
theorem trA_top (hR : Row row) {h l : Nat} (hl : l < h) (hh : h < row.length) : trA row (h, l) < row.getD h 0 + row.getD l 0 ∧ row.getD l 0 ≤ trA row (h, l) := by
  rw [trA_dv]
  have h1 := hR.getD_pos hh
  have h0 : (0 : Int) ≤ row.getD h 0 - 1 := by omega
  have hc := hR.getD_pos (k := l) (by omega)
  have key : ∀ k, k ≤ row.length → DV row (trAt row h l) k ≤ DV row (gv row (row.getD h 0 - 1)) k + (if l < k then row.getD l 0 else 0) ∧ (if l < k then row.getD l 0 else 0) ≤ DV row (trAt row h l) k := by
    intro k
    induction k with
    | zero => intro _; simp [DV]
    | succ k ih =>
      intro hk
      obtain ⟨i1, i2⟩ := ih (by omega)
      have g1 := gv_nn hR h0 (p := k) (by omega)
      have g2 := hR.getD_pos (k := k) (by omega)
      have g3 := Int.mul_nonneg g1 (by omega : (0 : Int) ≤ row.getD k 0)
      rw [DV, DV]
      have et : trAt row h l k = if k < l then 0 else fwAt row (row.getD h 0 - 1) k + (if k = l then 1 else 0) := rfl
      rw [et]
      have e : fwAt row (row.getD h 0 - 1) k = gv row (row.getD h 0 - 1) k := rfl
      rw [e]
      by_cases q1 : k < l
      · rw [if_pos q1, if_neg (show ¬ l < k + 1 by omega)]
        rw [if_neg (show ¬ l < k by omega)] at i1 i2
        omega
      · rw [if_neg q1, if_pos (show l < k + 1 by omega)]
        by_cases q2 : k = l
        · subst q2
          rw [if_neg (show ¬ k < k by omega)] at i1 i2
          rw [if_pos rfl, Int.add_mul]
          omega
        · rw [if_pos (show l < k by omega)] at i1 i2
          rw [if_neg q2, Int.add_zero]
          omega
  have := key row.length (Nat.le_refl _)
  rw [if_pos (by omega), gv_all hR h0] at this
  exact ⟨by show DV row (trAt row h l) _ < _; omega, this.2⟩

end
end Mine
namespace Mine
open PySem
noncomputable def g_trials_b1 (G : PG) (c_trial c_worth : Nat → Fn) (k : Nat) : SD := (seqS (setS 4 (callD (c_trial (k + 1)) [(varD 0), (varD 2), (varD 3)])) (seqS (dropS (methD .append (varD 1) [(mkTupD [(callD (c_worth (k + 1)) [(varD 0), (varD 4)]), (varD 4)])])) nextS))
noncomputable def g_trials_b2 (G : PG) (c_trial c_worth : Nat → Fn) (k : Nat) : SD := (seqS (forS (.one 3) (rangeD [(varD 2)]) (g_trials_b1 G c_trial c_worth k)) nextS)
noncomputable def g_trials (G : PG) (c_trial c_worth : Nat → Fn) (k : Nat) : SD := (seqS (setS 1 (mkListD [])) (seqS (forS (.one 2) (rangeD [(pureD (.int 1)), (callBiD .len [(varD 0)])]) (g_trials_b2 G c_trial c_worth k)) (seqS (retS (varD 1)) nextS)))
noncomputable def g_judged_b1 (G : PG) (c_first_way c_pieces c_trials : Nat → Fn) (k : Nat) : SD := (seqS (setS 4 (callD (c_pieces (k + 23)) [(varD 3)])) (seqS (ifS (cmpD .Lt (varD 4) (callD (c_pieces (k + 21)) [(callD (c_first_way (k + 14)) [(varD 0), (varD 2)])])) (seqS (ifS (allT false [(cmpD .Is (varD 1) (pureD .none)), (cmpD .Lt (mkTupD [(varD 2), (varD 4)]) (mkTupD [(itemD (varD 1) (pureD (.int 0))), (callD (c_pieces (k + 13)) [(itemD (varD 1) (pureD (.int 1)))])]))]) (seqS (setS 1 (mkTupD [(varD 2), (varD 3)])) nextS) nextS) nextS) nextS) nextS))
noncomputable def g_judged (G : PG) (c_first_way c_pieces c_trials : Nat → Fn) (k : Nat) : SD := (seqS (setS 1 (pureD .none)) (seqS (forS (.two 2 3) (seqSrcD (callD (c_trials (k + 4)) [(varD 0)])) (g_judged_b1 G c_first_way c_pieces c_trials k)) (seqS (retS (varD 1)) nextS)))
end Mine
namespace Mine
open PySem

/-- a for with any target -/
theorem forWT {tg : Tgt} {src : Src} {body : SD} (P : Nat → M → HP → Prop) (R : Except Str Fl → M → HP → Prop)
    (step : ∀ k v m H, src.items[k]? = some v → P k m H → src.ok H = true ∧ ∃ m1, tg.put v m H = some m1 ∧ SW body m1 H fun r m' H' => (r = .ok .next ∧ P (k + 1) m' H') ∨ (r ≠ .ok .next ∧ R r m' H')) : ∀ (l : List PV) (k : Nat) (m : M) (H : HP), k ≤ src.items.length → src.items.drop k = l → P k m H →
    SW (forGo tg src body l) m H fun r m' H' => (r = .ok .next ∧ P src.items.length m' H') ∨ (r ≠ .ok .next ∧ R r m' H')
  | [], k, m, H, hk, hl, hP => by
    have : k = src.items.length := by
      have := congrArg List.length hl
      simp at this; omega
    subst this
    exact sw_next.mpr (.inl ⟨rfl, hP⟩)
  | v :: l, k, m, H, hk, hl, hP => by
    have hv : src.items[k]? = some v := by
      have := congrArg (fun l => l[0]?) hl
      simpa using this
    have hvs : src.items.drop (k + 1) = l := by
      have := congrArg (List.drop 1) hl
      simpa [List.drop_drop, Nat.add_comm] using this
    obtain ⟨hok, m1, hm1, hb⟩ := step k v m H hv hP
    unfold SW forGo
    rw [if_pos hok, hm1]
    show SW (seqS body (forGo tg src body l)) m1 H _
    refine sw_seq.mpr (hb.mono fun r m' H' q => ?_)
    rcases q with ⟨rfl, q⟩ | ⟨hr, q⟩
    · exact forWT P R step l (k + 1) m' H' (List.getElem?_eq_some_iff.mp hv).1 hvs q
    · cases r with
      | error c => exact .inr ⟨hr, q⟩
      | ok f =>
        cases f with
        | next => exact absurd rfl hr
        | ret v => exact .inr ⟨hr, q⟩
theorem sw_forT {tg : Tgt} {dsrc : RD Src} {src : Src} {body : SD} {m : M} {H H1 : HP} {Q : Except Str Fl → M → HP → Prop} (hs : dsrc m H = some (.ok src, H1)) (P : Nat → M → HP → Prop) (R : Except Str Fl → M → HP → Prop) (h0 : P 0 m H1)
    (step : ∀ k v m H, src.items[k]? = some v → P k m H → src.ok H = true ∧ ∃ m1, tg.put v m H = some m1 ∧ SW body m1 H fun r m' H' => (r = .ok .next ∧ P (k + 1) m' H') ∨ (r ≠ .ok .next ∧ R r m' H'))
    (hn : ∀ m' H', P src.items.length m' H' → src.ok H' = true ∧ Q (.ok .next) m' H') (hr : ∀ r m' H', r ≠ .ok .next → R r m' H' → Q r m' H') : SW (forS tg dsrc body) m H Q := by
  unfold forS
  refine sw_run.mpr ⟨_, _, hs, ?_⟩
  refine sw_seq.mpr ((forWT P R step src.items 0 m H1 (Nat.zero_le _) rfl h0).mono fun r m' H' q => ?_)
  rcases q with ⟨rfl, q⟩ | ⟨h1, q⟩
  · obtain ⟨h2, h3⟩ := hn m' H' q
    refine ⟨_, _, _, ?_, h3⟩
    simp only [h2, if_true]
  · cases r with
    | error c => exact hr _ _ _ h1 q
    | ok f =>
      cases f with
      | next => exact absurd rfl h1
      | ret v => exact hr _ _ _ h1 q

/-- an entry of trials: the pair's own place and its way's -/
structure EntOk (row : List Int) (H : HP) (R : Nat) (e p : Nat × Nat) : Prop where
  n1 : e.1 ≠ R
  n2 : e.2 ≠ R
  tup : H[e.1]? = some (.tup [.int (trA row p), .ref e.2])
  way : Ints H e.2 (trW row p)
noncomputable def Ents (row : List Int) (H : HP) (R : Nat) : List (Nat × Nat) → List (Nat × Nat) → Prop
  | [], [] => True
  | e :: es, p :: ps => EntOk row H R e p ∧ Ents row H R es ps
  | _, _ => False
theorem Ents.mono {row : List Int} {H H' : HP} {R : Nat} (h : ∀ (i : Nat) o, i ≠ R → H[i]? = some o → H'[i]? = some o) : ∀ {es ps}, Ents row H R es ps → Ents row H' R es ps
  | [], [], _ => trivial
  | _ :: _, _ :: _, ⟨⟨a, b, c, d⟩, t⟩ => ⟨⟨a, b, h _ _ a c, h _ _ b d⟩, Ents.mono h t⟩
  | [], _ :: _, h => h.elim
  | _ :: _, [], h => h.elim
theorem Ents.snoc {row : List Int} {H : HP} {R : Nat} {e p : Nat × Nat} (he : EntOk row H R e p) : ∀ {es ps}, Ents row H R es ps → Ents row H R (es ++ [e]) (ps ++ [p])
  | [], [], _ => ⟨he, trivial⟩
  | _ :: _, _ :: _, ⟨a, t⟩ => ⟨a, Ents.snoc he t⟩
  | [], _ :: _, h => h.elim
  | _ :: _, [], h => h.elim
theorem Ents.get {row : List Int} {H : HP} {R : Nat} : ∀ {es ps : List (Nat × Nat)} {k : Nat} {e : Nat × Nat}, Ents row H R es ps → es[k]? = some e → ∃ p, ps[k]? = some p ∧ EntOk row H R e p
  | [], [], k, e, _, h => by simp at h
  | e0 :: es, p0 :: ps, 0, e, ⟨a, t⟩, h => by
    simp at h; subst h
    exact ⟨p0, rfl, a⟩
  | e0 :: es, p0 :: ps, k + 1, e, ⟨a, t⟩, h => by
    simp at h
    obtain ⟨p, h1, h2⟩ := Ents.get t h
    exact ⟨p, by simpa using h1, h2⟩
  | [], _ :: _, _, _, h, _ => h.elim
  | _ :: _, [], _, _, h, _ => h.elim
theorem Ents.len {row : List Int} {H : HP} {R : Nat} : ∀ {es ps : List (Nat × Nat)}, Ents row H R es ps → es.length = ps.length
  | [], [], _ => rfl
  | _ :: _, _ :: _, ⟨_, t⟩ => by simp [Ents.len t]
  | [], _ :: _, h => h.elim
  | _ :: _, [], h => h.elim

structure TS (row : List Int) (H0 H : HP) (R : Nat) (ps : List (Nat × Nat)) : Prop where
  pre : Pre H0 H
  Rge : H0.length ≤ R
  es : ∃ es : List (Nat × Nat), H[R]? = some (.list (es.map fun e => .ref e.1)) ∧ Ents row H R es ps ∧ ∀ e ∈ es, H0.length ≤ e.2
theorem pairs_len : ∀ i, i ≤ 11 → (pairsTo i).length ≤ 66 := by decide +kernel
theorem trW_small {row : List Int} (hR : Row row) {h l : Nat} (hl : l < h) (hh : h < row.length) : ∀ x ∈ trW row (h, l), 0 ≤ x ∧ x < 2 ^ 2000 := by
  intro x hx
  obtain ⟨q, hq⟩ := List.getElem?_of_mem hx
  have hql := (List.getElem?_eq_some_iff.mp hq).1
  rw [trW_length] at hql
  have e := trW_get (row := row) (p := (h, l)) hql
  rw [List.getD_eq_getElem?_getD, hq] at e
  have e' : x = trAt row h l q := e
  have h1 := tr_nn hR (p := (h, l)) hh hql
  have h2 := hR.getD_pos hh
  have h3 := (fwAt_range hR (a := row.getD h 0 - 1) (by omega) hql).2
  have b := big60'
  rw [e']
  refine ⟨h1, ?_⟩
  unfold trAt
  split
  · omega
  · split <;> omega
noncomputable def TrialsOk (f : Nat → Fn) : Prop := ∀ j (H : HP) i row, Ints H i row → Row row → row.length ≤ 12 → ∃ R H', f j [.ref i] H = some (.ok (.ref R), H') ∧ TS row H H' R (pairsTo (row.length - 1))
theorem trials_ok {G : PG} {tr wo : Nat → Fn} (htr : TrialOk tr) (hwo : WorthOk wo) (k : Nat) {H : HP} {i : Nat} {row : List Int} (hi : Ints H i row) (hR : Row row) (hl : row.length ≤ 12) : ∃ R H', fnD 1 [0] (g_trials G tr wo k) [.ref i] H = some (.ok (.ref R), H') ∧ TS row H H' R (pairsTo (row.length - 1)) := by
  suffices h : SW (g_trials G tr wo k) (argM [0] [.ref i]) H fun r _ H1 => ∃ v, r = .ok (.ret v) ∧ ∃ R, v = .ref R ∧ TS row H H1 R (pairsTo (row.length - 1)) by
    obtain ⟨v, H', e, R, rfl, h⟩ := fnE rfl h
    exact ⟨R, H', e, h⟩
  have hlt := hi.lt
  unfold g_trials
  refine s_set (e_mkList e_nil (by simp)) ?_
  have hn : ((row.length : Int) - 1).toNat = row.length - 1 := by omega
  refine sw_seq.mpr (sw_forRange (e_range2 e_pure (e_bi (e_cons (e_var rfl) e_nil) (len_ints hi.app)) (by decide) (by decide) (by omega) (by omega))
    (fun t m H' => m 0 = some (.ref i) ∧ m 1 = some (.ref H.length) ∧ TS row H H' H.length (pairsTo t)) (fun _ _ _ => False) ⟨rfl, rfl, Pre.refl.app, Nat.le_refl _, [], get_new, trivial, fun e he => by cases he⟩ (fun t m H' ht hP => ?_) (fun m' H' hP => ?_) (fun _ _ _ _ h => h.elim))
  · rw [hn] at ht
    obtain ⟨p0, p1, hT⟩ := hP
    rw [show (1 : Int) + (t : Int) * 1 = ((t + 1 : Nat) : Int) by omega]
    unfold g_trials_b2
    have ht2 : (((t + 1 : Nat) : Int)).toNat = t + 1 := by omega
    refine sw_seq.mpr (sw_forRange (e_range1 (e_var upd_at) (by omega) (by omega))
      (fun l m H' => m 0 = some (.ref i) ∧ m 1 = some (.ref H.length) ∧ m 2 = some (.int ((t + 1 : Nat) : Int)) ∧ TS row H H' H.length (pairsTo t ++ (List.range l).map fun l => (t + 1, l))) (fun _ _ _ => False) ⟨by rw [upd_ne (by decide)]; exact p0, by rw [upd_ne (by decide)]; exact p1, upd_at, by simpa using hT⟩ (fun l m H' hlt2 hP => ?_) (fun m' H' hP => ?_) (fun _ _ _ _ h => h.elim))
    · rw [ht2] at hlt2
      obtain ⟨q0, q1, q2, hpre, hRge, es, hes, hE, hfr⟩ := hP
      rw [show (0 : Int) + (l : Int) * 1 = ((l : Nat) : Int) by omega]
      have r0 : upd m 3 (.int (l : Int)) 0 = some (.ref i) := by rw [upd_ne (by decide)]; exact q0
      have r1 : upd m 3 (.int (l : Int)) 1 = some (.ref H.length) := by rw [upd_ne (by decide)]; exact q1
      have r2 : upd m 3 (.int (l : Int)) 2 = some (.int ((t + 1 : Nat) : Int)) := by rw [upd_ne (by decide)]; exact q2
      have hi' := hpre.ints hi
      have et := htr (k + 1) H' i row ((t + 1 : Nat) : Int) (l : Int) hi' hR hl
      rw [if_neg (by omega), Int.toNat_natCast, Int.toNat_natCast] at et
      have hRlt : H.length < H'.length := (List.getElem?_eq_some_iff.mp hes).1
      unfold g_trials_b1
      refine s_set (e_call (e_cons (e_var r0) (e_cons (e_var r2) (e_cons (e_var upd_at) e_nil))) et) ?_
      have hsm := trW_small hR (h := t + 1) (l := l) (by omega) (by omega)
      have ew := hwo (k + 1) (H' ++ [PO.list ((trL row (t + 1) l).map .int)]) i H'.length row (trL row (t + 1) l) hi'.app ints_new (fun x hx => row_small hR x hx) (fun x hx => (hsm x hx).2) (by rw [trL_length]; omega)
      rw [if_pos ⟨trL_length, fun x hx => (hsm x hx).1⟩, trL_length] at ew
      generalize hmm : upd (upd m 3 (.int (l : Int))) 4 (.ref H'.length) = mm
      have n0 : mm 0 = some (.ref i) := by rw [← hmm, upd_ne (by decide)]; exact r0
      have n1 : mm 1 = some (.ref H.length) := by rw [← hmm, upd_ne (by decide)]; exact r1
      have n2 : mm 2 = some (.int ((t + 1 : Nat) : Int)) := by rw [← hmm, upd_ne (by decide)]; exact r2
      have n4 : mm 4 = some (.ref H'.length) := by rw [← hmm]; exact upd_at
      have hlen := hE.len
      have hpl := pairs_len t (by omega)
      have hl2 : (H' ++ [PO.list ((trL row (t + 1) l).map .int)]).length = H'.length + 1 := by simp
      refine s_drop (e_append (vs := es.map fun e => PV.ref e.1) (e_var n1) (e_mkTup (e_cons (e_call (e_cons (e_var n0) (e_cons (e_var n4) e_nil)) ew) (e_cons (e_var n4) e_nil)) (by simp)) ⟨_, get_app hes⟩ (get_app (get_app hes)) (by omega) ?_) (s_next (.inl ⟨rfl, n0, n1, n2, ?_⟩))
      · simp [hlen]; omega
      · have key : ∀ (x : Nat) o, x ≠ H.length → H'[x]? = some o → ((H' ++ [PO.list ((trL row (t + 1) l).map .int)] ++ [PO.tup [.int (dotN row (trL row (t + 1) l) row.length), .ref H'.length]]).set H.length (.list ((es.map fun e => PV.ref e.1) ++ [.ref (H' ++ [PO.list ((trL row (t + 1) l).map .int)]).length])))[x]? = some o := fun x o hx hxo => by rw [set_ne (Ne.symm hx)]; exact get_app (get_app hxo)
        refine ⟨fun x o hxo => key x o (by have := (List.getElem?_eq_some_iff.mp hxo).1; omega) (hpre x o hxo), Nat.le_refl _, es ++ [(H'.length + 1, H'.length)], ?_, ?_, fun e he => ?_⟩
        · rw [set_get (get_app (get_app hes)), hl2]; simp
        · rw [List.range_succ, List.map_append, ← List.append_assoc]
          refine Ents.snoc ⟨by show H'.length + 1 ≠ H.length; omega, by show H'.length ≠ H.length; omega, ?_, ?_⟩ (hE.mono key)
          · rw [set_ne (by show H.length ≠ H'.length + 1; omega)]
            have := get_new (H := H' ++ [PO.list ((trL row (t + 1) l).map .int)]) (o := PO.tup [.int (dotN row (trL row (t + 1) l) row.length), .ref H'.length])
            rw [hl2] at this
            exact this
          · show Ints _ H'.length _
            unfold Ints
            rw [set_ne (by omega)]
            exact get_app get_new
        · rcases List.mem_append.mp he with q | q
          · exact hfr e q
          · rw [List.mem_singleton] at q; subst q
            show H.length ≤ H'.length
            omega
    · rw [ht2] at hP
      obtain ⟨q0, q1, q2, hT2⟩ := hP
      exact s_next (.inl ⟨rfl, q0, q1, by rw [pairsTo_succ]; exact hT2⟩)
  · rw [hn] at hP
    obtain ⟨p0, p1, hT⟩ := hP
    exact s_ret (e_var p1) ⟨_, rfl, _, rfl, hT⟩

/-- a verdict as it lies -/
noncomputable def Res (H : HP) (v : PV) : Option (Int × List Int) → Prop
  | none => v = .none
  | some (A, W) => ∃ t r, v = .ref t ∧ H[t]? = some (.tup [.int A, .ref r]) ∧ Ints H r W
theorem Res.pre {H H' : HP} {v : PV} (h : Pre H H') : ∀ {b}, Res H v b → Res H' v b
  | none, hb => hb
  | some (A, W), ⟨t, r, h1, h2, h3⟩ => ⟨t, r, h1, h _ _ h2, h _ _ h3⟩
theorem item_tup {H : HP} {i k : Nat} {vs : List PV} {v : PV} {c : Int} (h : H[i]? = some (.tup vs)) (hv : vs[k]? = some v) (hc : c = k) : itemV (.ref i) (.int c) H = some v := by
  subst hc
  have hk := (List.getElem?_eq_some_iff.mp hv).1
  simp only [itemV, h, idx_nonneg (Int.natCast_nonneg k) (Int.ofNat_lt.mpr hk), Option.bind_some, Int.toNat_natCast, hv]
theorem cmp_is_none {H : HP} {v : PV} : cmpV .Is v .none H = some (decide (v = .none)) := by cases v <;> rfl
theorem cmp_lt_tup {H : HP} {i j : Nat} {a b c d : Int} (h1 : H[i]? = some (.tup [.int a, .int b])) (h2 : H[j]? = some (.tup [.int c, .int d])) : cmpV .Lt (.ref i) (.ref j) H = some (if a = c then decide (b < d) else decide (a < c)) := by
  show ltV (.ref i) (.ref j) H = _
  unfold ltV
  simp only [pairAt_of h1, pairAt_of h2]

theorem e_or1 {m : M} {H H1 : HP} {t : TD} {x : Bool} (h : t m H = some (.ok x, H1)) : allT false [t] m H = some (.ok x, H1) := e_allT1 h (fun q => by subst q; rfl) (fun q => rfl)
/-- the way of a verdict is a new list -/
noncomputable def Fr (N : Nat) (H : HP) (v : PV) : Prop := ∀ t x r, v = .ref t → H[t]? = some (.tup [x, .ref r]) → N ≤ r
theorem Fr.pre {N : Nat} {H H' : HP} {v : PV} (h : Pre H H') (f : Fr N H v) : ∀ {b}, Res H v b → Fr N H' v
  | none, hb => fun t x r e => by rw [show v = .none from hb] at e; cases e
  | some (A, W), ⟨t, r, h1, h2, h3⟩ => fun t' x r' e e2 => by
    rw [h1] at e; cases e
    rw [h _ _ h2] at e2; cases e2
    exact f t _ r h1 h2
noncomputable def ResF (N : Nat) (H : HP) (v : PV) (b : Option (Int × List Int)) : Prop := Res H v b ∧ Fr N H v
theorem ResF.pre {N : Nat} {H H' : HP} {v : PV} {b : Option (Int × List Int)} (h : Pre H H') (hb : ResF N H v b) : ResF N H' v b := ⟨hb.1.pre h, hb.2.pre h hb.1⟩
noncomputable def JudgedOk (f : Nat → Fn) : Prop := ∀ j (H : HP) i row, Ints H i row → Row row → row.length ≤ 12 → ∃ v H', f j [.ref i] H = some (.ok v, H') ∧ Pre H H' ∧ Res H' v (best row) ∧ Fr H.length H' v
theorem judged_ok {G : PG} {fw pc ts : Nat → Fn} (hfw : FirstOk fw) (hpc : SumOk pc) (hts : TrialsOk ts) (k : Nat) {H : HP} {i : Nat} {row : List Int} (hi : Ints H i row) (hR : Row row) (hl : row.length ≤ 12) : ∃ v H', fnD 1 [0] (g_judged G fw pc ts k) [.ref i] H = some (.ok v, H') ∧ Pre H H' ∧ Res H' v (best row) ∧ Fr H.length H' v := by
  suffices h : SW (g_judged G fw pc ts k) (argM [0] [.ref i]) H fun r _ H1 => ∃ v, r = .ok (.ret v) ∧ Pre H H1 ∧ ResF H.length H1 v (best row) by
    obtain ⟨v, H', e, h⟩ := fnE rfl h
    exact ⟨v, H', e, h⟩
  unfold g_judged
  refine s_set e_pure ?_
  obtain ⟨R, H1, et, hpre, hRge, es, hes, hE, hfr⟩ := hts (k + 4) H i row hi hR hl
  have hi1 := hpre.ints hi
  refine sw_seq.mpr (sw_forT (e_seqSrc (e_call (e_cons (e_var rfl) e_nil) et) hes)
    (fun t m H' => Pre H1 H' ∧ m 0 = some (.ref i) ∧ ∃ v, m 1 = some v ∧ ResF H.length H' v (((pairsTo (row.length - 1)).take t).foldl (jstep row) none)) (fun _ _ _ => False) ⟨Pre.refl, rfl, .none, rfl, rfl, fun t x r e => by cases e⟩ (fun t v m H' hv hP => ?_) (fun m' H' hP => ?_) (fun _ _ _ _ h => h.elim))
  · obtain ⟨hp, p0, b, p1, hb⟩ := hP
    refine ⟨src_ok (hp _ _ hes), ?_⟩
    have hv' : (es.map fun e => PV.ref e.1)[t]? = some v := hv
    rw [List.getElem?_map] at hv'
    cases he : es[t]? with
    | none => rw [he] at hv'; cases hv'
    | some e =>
      rw [he] at hv'
      cases hv'
      obtain ⟨p, hpt, hok⟩ := hE.get he
      have htup := hp _ _ hok.tup
      have hway : Ints H' e.2 (trW row p) := hp.ints hok.way
      refine ⟨upd (upd m 2 (.int (trA row p))) 3 (.ref e.2), by unfold Tgt.put; simp only [tup2At_of htup], ?_⟩
      have hpm := mem_pairs.mp (List.mem_of_getElem? hpt)
      have hpos := List.length_pos_iff.mpr hR.ne
      have htop := trA_top hR (h := p.1) (l := p.2) hpm.1 (by omega)
      have hA0 : 0 ≤ trA row p := by
        rw [trA_dv]
        exact DV_nn hR (fun q hq => tr_nn hR (by omega) hq) _ (Nat.le_refl _)
      have hA1 : trA row p < 2 * 10 ^ 60 := by
        have h1 := hR.getD_pos (k := p.1) (by omega)
        have h2 := hR.getD_pos (k := p.2) (by omega)
        have h3 : trA row p < row.getD p.1 0 + row.getD p.2 0 := htop.1
        omega
      have hnext : ((pairsTo (row.length - 1)).take (t + 1)).foldl (jstep row) none = jstep row (((pairsTo (row.length - 1)).take t).foldl (jstep row) none) p := by
        rw [List.take_add_one, hpt, List.foldl_append]; rfl
      rw [hnext]
      generalize ((pairsTo (row.length - 1)).take t).foldl (jstep row) none = bb at hb ⊢
      generalize hmm : upd (upd m 2 (.int (trA row p))) 3 (.ref e.2) = mm
      have n0 : mm 0 = some (.ref i) := by rw [← hmm, upd_ne (by decide), upd_ne (by decide)]; exact p0
      have n1 : mm 1 = some b := by rw [← hmm, upd_ne (by decide), upd_ne (by decide)]; exact p1
      have n2 : mm 2 = some (.int (trA row p)) := by rw [← hmm, upd_ne (by decide)]; exact upd_at
      have n3 : mm 3 = some (.ref e.2) := by rw [← hmm]; exact upd_at
      clear hmm p0 p1
      unfold g_judged_b1
      refine s_set (e_call (e_cons (e_var n3) e_nil) (hpc _ _ _ _ hway)) ?_
      have o0 : upd mm 4 (.int (trW row p).sum) 0 = some (.ref i) := by rw [upd_ne (by decide)]; exact n0
      have o1 : upd mm 4 (.int (trW row p).sum) 1 = some b := by rw [upd_ne (by decide)]; exact n1
      have o2 : upd mm 4 (.int (trW row p).sum) 2 = some (.int (trA row p)) := by rw [upd_ne (by decide)]; exact n2
      have o3 : upd mm 4 (.int (trW row p).sum) 3 = some (.ref e.2) := by rw [upd_ne (by decide)]; exact n3
      have o4 : upd mm 4 (.int (trW row p).sum) 4 = some (.int (trW row p).sum) := upd_at
      generalize upd mm 4 (.int (trW row p).sum) = mm' at o0 o1 o2 o3 o4 ⊢
      have efw := hfw (k + 14) H' i row (trA row p) (hp.ints hi1) hR hl
      rw [if_neg (by omega)] at efw
      have hb2 : ResF H.length (H' ++ [PO.list ((fwL row (trA row p)).map .int)]) b bb := hb.pre Pre.refl.app
      have hnew : H.length ≤ e.2 := hfr e (List.mem_of_getElem? he)
      have hp2 : Pre H1 (H' ++ [PO.list ((fwL row (trA row p)).map .int)]) := hp.app
      have hw2 : Ints (H' ++ [PO.list ((fwL row (trA row p)).map .int)]) e.2 (trW row p) := hway.app
      have ecmp : cmpD .Lt (varD 4) (callD (pc (k + 21)) [callD (fw (k + 14)) [varD 0, varD 2]]) mm' H' = some (.ok (decide ((trW row p).sum < (fwL row (trA row p)).sum)), H' ++ [PO.list ((fwL row (trA row p)).map .int)]) := e_cmp (e_var o4) (e_call (e_cons (e_call (e_cons (e_var o0) (e_cons (e_var o2) e_nil)) efw) e_nil) (hpc _ _ _ _ ints_new)) cmp_lt
      generalize H' ++ [PO.list ((fwL row (trA row p)).map .int)] = H2 at hb2 hp2 hw2 ecmp
      refine s_if ecmp (fun q => ?_) (fun q => ?_)
      · have hq := of_decide_eq_true q
        have ej : jstep row bb p = (match bb with | none => some (trA row p, trW row p) | some (B, X) => if trA row p < B ∨ trA row p = B ∧ (trW row p).sum < X.sum then some (trA row p, trW row p) else some (B, X)) := by unfold jstep; rw [if_pos hq]; cases bb <;> rfl
        rw [ej]
        have take : ∀ H3 : HP, Pre H2 H3 → SW (seqS (setS 1 (mkTupD [varD 2, varD 3])) nextS) mm' H3 fun r m' H' => r = .ok .next ∧ Pre H1 H' ∧ m' 0 = some (.ref i) ∧ ∃ v, m' 1 = some v ∧ ResF H.length H' v (some (trA row p, trW row p)) := fun H3 h3 =>
          s_set (e_mkTup (e_cons (e_var o2) (e_cons (e_var o3) e_nil)) (by simp)) (s_next ⟨rfl, (hp2.trans h3).app, by rw [upd_ne (by decide)]; exact o0, _, upd_at, ⟨_, _, rfl, get_new, (h3.ints hw2).app⟩, fun t' x r' q1 q2 => by cases q1; rw [get_new] at q2; cases q2; exact hnew⟩)
        cases bb with
        | none =>
          have hbn : b = .none := hb2.1
          subst hbn
          refine s_ifT (e_orT (e_cmp (e_var o1) e_pure (cmp_is_none.trans (dec_t rfl)))) ?_
          refine (take H2 Pre.refl).mono fun r m' H' ⟨h1, h2⟩ => ?_
          subst h1
          exact s_next (s_next (.inl ⟨rfl, h2⟩))
        | some x =>
          obtain ⟨B, X⟩ := x
          obtain ⟨⟨tt, rr, rfl, htt, hrr⟩, hfb⟩ := hb2
          have e1 : mkTupD [varD 2, varD 4] mm' H2 = some (.ok (.ref H2.length), H2 ++ [.tup [.int (trA row p), .int (trW row p).sum]]) := e_mkTup (e_cons (e_var o2) (e_cons (e_var o4) e_nil)) (by simp)
          have hl3 : (H2 ++ [PO.tup [.int (trA row p), .int (trW row p).sum]]).length = H2.length + 1 := by simp
          have e2 : mkTupD [itemD (varD 1) (pureD (.int 0)), callD (pc (k + 13)) [itemD (varD 1) (pureD (.int 1))]] mm' (H2 ++ [.tup [.int (trA row p), .int (trW row p).sum]]) = some (.ok (.ref (H2.length + 1)), H2 ++ [.tup [.int (trA row p), .int (trW row p).sum]] ++ [.tup [.int B, .int X.sum]]) := by
            have := e_mkTup (m := mm') (e_cons (e_item (e_var o1) e_pure (item_tup (k := 0) (get_app (H' := [PO.tup [.int (trA row p), .int (trW row p).sum]]) htt) rfl rfl)) (e_cons (e_call (e_cons (e_item (e_var o1) e_pure (item_tup (k := 1) (get_app (H' := [PO.tup [.int (trA row p), .int (trW row p).sum]]) htt) rfl rfl)) e_nil) (hpc (k + 13) _ _ _ hrr.app)) e_nil)) (by simp)
            rw [hl3] at this
            exact this
          have e3 : cmpV .Lt (.ref H2.length) (.ref (H2.length + 1)) (H2 ++ [PO.tup [.int (trA row p), .int (trW row p).sum]] ++ [.tup [.int B, .int X.sum]]) = some (decide (trA row p < B ∨ trA row p = B ∧ (trW row p).sum < X.sum)) := by
            have g2 := get_new (H := H2 ++ [PO.tup [.int (trA row p), .int (trW row p).sum]]) (o := PO.tup [.int B, .int X.sum])
            rw [hl3] at g2
            rw [cmp_lt_tup (get_app get_new) g2]
            by_cases h1 : trA row p = B
            · rw [if_pos h1]
              congr 1
              exact decide_eq_decide.mpr (by omega)
            · rw [if_neg h1]
              congr 1
              exact decide_eq_decide.mpr (by omega)
          have hp3 : Pre H2 (H2 ++ [PO.tup [.int (trA row p), .int (trW row p).sum]] ++ [.tup [.int B, .int X.sum]]) := Pre.refl.app.app
          refine s_if (x := decide (trA row p < B ∨ trA row p = B ∧ (trW row p).sum < X.sum)) (e_orF (e_cmp (e_var o1) e_pure (cmp_is_none.trans (dec_f (by simp)))) (e_or1 (e_cmp e1 e2 e3))) (fun q => ?_) (fun q => ?_)
          · simp only [if_pos (of_decide_eq_true q)]
            refine (take _ hp3).mono fun r m' H' ⟨h1, h2⟩ => ?_
            subst h1
            exact s_next (s_next (.inl ⟨rfl, h2⟩))
          · simp only [if_neg (of_decide_eq_false q)]
            exact s_next (s_next (s_next (.inl ⟨rfl, hp2.trans hp3, o0, _, o1, ⟨tt, rr, rfl, hp3 _ _ htt, hp3.ints hrr⟩, hfb.pre hp3 (b := some (B, X)) ⟨tt, rr, rfl, htt, hrr⟩⟩)))
      · have hq := of_decide_eq_false q
        have ej : jstep row bb p = bb := by unfold jstep; rw [if_neg hq]
        rw [ej]
        exact s_next (s_next (.inl ⟨rfl, hp2, o0, b, o1, hb2⟩))
  · obtain ⟨hp, p0, b, p1, hb⟩ := hP
    refine ⟨src_ok (hp _ _ hes), s_ret (e_var p1) ⟨b, rfl, hpre.trans hp, ?_⟩⟩
    simp only [List.length_map] at hb
    rw [hE.len, List.take_length] at hb
    exact hb
end Mine
namespace Mine
open PySem

end Mine
namespace Mine
open PySem

noncomputable def g_jinit (G : PG) (k : Nat) : SD := (seqS (setAttrS (varD 0) (mkListD [(pureD (.int 1))])) nextS)
noncomputable def g_jrow (G : PG) (k : Nat) : SD := (seqS (retS (callBiD .list [(attrD (varD 0))])) nextS)
noncomputable def g_jmore (G : PG) (c_good_row : Nat → Fn) (k : Nat) : SD := (seqS (setAttrS (varD 0) (callD (c_good_row (k + 1)) [(binD .Add (attrD (varD 0)) (mkListD [(varD 1)]))])) nextS)
noncomputable def g_jfewer (G : PG) (k : Nat) : SD := (seqS (ifS (cmpD .Eq (callBiD .len [(attrD (varD 0))]) (pureD (.int 1))) (seqS (raiseS "NoRow") nextS) nextS) (seqS (setS 1 (itemD (attrD (varD 0)) (unD .USub (pureD (.int 1))))) (seqS (setAttrS (varD 0) (sliceD (attrD (varD 0)) none (some (unD .USub (pureD (.int 1)))))) (seqS (retS (varD 1)) nextS))))
noncomputable def g_jverdict (G : PG) (c_judged : Nat → Fn) (k : Nat) : SD := (seqS (retS (callD (c_judged (k + 1)) [(attrD (varD 0))])) nextS)
noncomputable def g__law_coin_by (G : PG) (k : Nat) : SD := (seqS (setS 2 (binD .FloorDiv (varD 1) (pureD (.int 8)))) (seqS (ifS (allT false [(cmpD .Eq (binD .Mod (varD 1) (pureD (.int 8))) (pureD (.int 1))), (cmpD .Eq (binD .Mod (varD 1) (pureD (.int 8))) (pureD (.int 2)))]) (seqS (retS (binD .Mult (varD 0) (binD .Add (pureD (.int 2)) (binD .Mod (varD 2) (pureD (.int 5)))))) nextS) nextS) (seqS (ifS (cmpD .Eq (binD .Mod (varD 1) (pureD (.int 8))) (pureD (.int 3))) (seqS (retS (binD .Sub (binD .Mult (varD 0) (binD .Add (pureD (.int 2)) (binD .Mod (varD 2) (pureD (.int 5))))) (pureD (.int 1)))) nextS) nextS) (seqS (ifS (cmpD .Eq (binD .Mod (varD 1) (pureD (.int 8))) (pureD (.int 4))) (seqS (retS (binD .Add (binD .Mult (varD 0) (binD .Add (pureD (.int 2)) (binD .Mod (varD 2) (binD .Add (binD .Pow (pureD (.int 10)) (pureD (.int 15))) (pureD (.int 37)))))) (binD .Mod (binD .FloorDiv (varD 2) (pureD (.int 7))) (varD 0)))) nextS) nextS) (seqS (ifS (cmpD .Eq (binD .Mod (varD 1) (pureD (.int 8))) (pureD (.int 5))) (seqS (retS (binD .Sub (varD 0) (binD .Mod (varD 2) (pureD (.int 10))))) nextS) nextS) (seqS (ifS (cmpD .Eq (binD .Mod (varD 1) (pureD (.int 8))) (pureD (.int 6))) (seqS (retS (binD .Add (binD .Add (binD .Pow (pureD (.int 10)) (pureD (.int 60))) (pureD (.int 1))) (binD .Mod (varD 2) (pureD (.int 9))))) nextS) nextS) (seqS (retS (binD .Add (binD .Add (varD 0) (pureD (.int 1))) (binD .Mod (varD 2) (pureD (.int 9))))) nextS)))))))
noncomputable def g__law_put (G : PG) (c_jmore : Nat → Fn) (k : Nat) : SD := (seqS (tryS G (seqS (retS (boolE (cmpD .Is (methJ (c_jmore (k + 3)) (varD 0) [(varD 1)]) (pureD .none)))) nextS) [⟨"NoRow", none, (seqS (retS (pureD (.bool false))) nextS)⟩]) nextS)
noncomputable def g__law_put_refused (G : PG) (c__law_kindsH c_jmore : Nat → Fn) (k : Nat) : SD := (seqS (tryS G (seqS (dropS (methJ (c_jmore (k + 4)) (varD 0) [(varD 1)])) nextS) [⟨"CoinError", (some 2), (seqS (retS (boolD true [(isInD G "NoRow" (varD 2)), (isInD G "ValueError" (varD 2)), (boolE (cmpD .Eq (callD (c__law_kindsH (k + 8)) [(varD 2)]) (pureD (.int 1))))])) nextS)⟩]) (seqS (retS (pureD (.bool false))) nextS))
noncomputable def g__law_off_refused (G : PG) (c_jfewer : Nat → Fn) (k : Nat) : SD := (seqS (tryS G (seqS (dropS (methJ (c_jfewer (k + 4)) (varD 0) [])) nextS) [⟨"NoRow", none, (seqS (retS (pureD (.bool true))) nextS)⟩]) (seqS (retS (pureD (.bool false))) nextS))
noncomputable def g__law_deed (G : PG) (c__law_coin_by c__law_off_refused c__law_put c__law_put_refused c__law_whole c_jfewer : Nat → Fn) (k : Nat) : SD := (seqS (ifS (cmpD .Eq (binD .Mod (varD 2) (pureD (.int 8))) (pureD (.int 7))) (seqS (ifS (cmpD .Eq (callBiD .len [(varD 1)]) (pureD (.int 1))) (seqS (retS (callD (c__law_off_refused (k + 12)) [(varD 0)])) nextS) nextS) (seqS (setS 3 (methJ (c_jfewer (k + 23)) (varD 0) [])) (seqS (retS (boolD true [(callD (c__law_whole (k + 20)) [(varD 3)]), (boolE (cmpD .Eq (varD 3) (methD .pop (varD 1) [])))])) nextS))) nextS) (seqS (setS 4 (callD (c__law_coin_by (k + 20)) [(itemD (varD 1) (unD .USub (pureD (.int 1)))), (varD 2)])) (seqS (ifS (allT false [(cmpD .Eq (callBiD .len [(varD 1)]) (pureD (.int 12))), (cmpD .LtE (varD 4) (itemD (varD 1) (unD .USub (pureD (.int 1))))), (cmpD .Gt (varD 4) (binD .Pow (pureD (.int 10)) (pureD (.int 60))))]) (seqS (retS (callD (c__law_put_refused (k + 2)) [(varD 0), (varD 4)])) nextS) nextS) (seqS (dropS (methD .append (varD 1) [(varD 4)])) (seqS (retS (callD (c__law_put (k + 2)) [(varD 0), (varD 4)])) nextS)))))
noncomputable def g__law_row_is_b1 (G : PG) (c__law_whole c_jrow : Nat → Fn) (k : Nat) : SD := (seqS (ifS (notT (truthD (callD (c__law_whole (k + 5)) [(varD 3)]))) (seqS (retS (pureD (.bool false))) nextS) nextS) nextS)
noncomputable def g__law_row_is (G : PG) (c__law_whole c_jrow : Nat → Fn) (k : Nat) : SD := (seqS (setS 2 (methJ (c_jrow (k + 11)) (varD 0) [])) (seqS (ifS (allT false [(notT (truthD (isInD G "list" (varD 2)))), (cmpD .NotEq (varD 2) (varD 1))]) (seqS (retS (pureD (.bool false))) nextS) nextS) (seqS (forS (.one 3) (seqSrcD (varD 2)) (g__law_row_is_b1 G c__law_whole c_jrow k)) (seqS (setS 4 (methJ (c_jrow (k + 8)) (varD 0) [])) (seqS (dropS (methD .append (varD 2) [(pureD (.int 0))])) (seqS (setItemS (varD 2) (pureD (.int 0)) (pureD (.int 5))) (seqS (retS (boolD true [(boolE (cmpD .Eq (varD 4) (varD 1))), (boolE (cmpD .Eq (methJ (c_jrow (k + 1)) (varD 0) []) (varD 1))), (boolE (cmpD .Eq (varD 2) (binD .Add (binD .Add (mkListD [(pureD (.int 5))]) (sliceD (varD 1) (some (pureD (.int 1))) none)) (mkListD [(pureD (.int 0))]))))])) nextS)))))))
noncomputable def g__law_verdict_is (G : PG) (c_judged c_jverdict : Nat → Fn) (k : Nat) : SD := (seqS (setS 2 (methJ (c_jverdict (k + 11)) (varD 0) [])) (seqS (setS 3 (callD (c_judged (k + 15)) [(callBiD .list [(varD 1)])])) (seqS (ifS (allT false [(cmpD .Is (varD 3) (pureD .none)), (cmpD .Is (varD 2) (pureD .none))]) (seqS (retS (boolD true [(boolE (cmpD .Is (varD 3) (pureD .none))), (boolE (cmpD .Is (varD 2) (pureD .none)))])) nextS) nextS) (seqS (ifS (allT false [(notT (truthD (isInD G "tuple" (varD 2)))), (cmpD .NotEq (varD 2) (varD 3))]) (seqS (retS (pureD (.bool false))) nextS) nextS) (seqS (setS 4 (methJ (c_jverdict (k + 7)) (varD 0) [])) (seqS (dropS (methD .append (itemD (varD 2) (pureD (.int 1))) [(pureD (.int 0))])) (seqS (setItemS (itemD (varD 2) (pureD (.int 1))) (pureD (.int 0)) (pureD (.int 9))) (seqS (retS (boolD true [(boolE (cmpD .Eq (varD 4) (varD 3))), (boolE (cmpD .Eq (methJ (c_jverdict (k + 0)) (varD 0) []) (varD 3))), (boolE (cmpD .Eq (itemD (varD 2) (pureD (.int 1))) (binD .Add (binD .Add (mkListD [(pureD (.int 9))]) (sliceD (itemD (varD 3) (pureD (.int 1))) (some (pureD (.int 1))) none)) (mkListD [(pureD (.int 0))]))))])) nextS))))))))
noncomputable def g_law_08_b1 (G : PG) (c__law_cell_at c__law_deed c__law_row_is c__law_verdict_is c_jinit : Nat → Fn) (k : Nat) : SD := (seqS (setS 6 (binD .Mult (binD .Mod (callD (c__law_cell_at (k + 58)) [(varD 0), (pureD (.int 0))]) (pureD (.int 2))) (binD .Mod (varD 5) (pureD (.int 2))))) (seqS (ifS (notT (truthD (callD (c__law_deed (k + 27)) [(itemD (varD 1) (varD 6)), (itemD (varD 2) (varD 6)), (itemD (varD 0) (binD .Add (pureD (.int 1)) (varD 5)))]))) (seqS (retS (pureD (.bool false))) nextS) nextS) (seqS (ifS (allT false [(notT (truthD (callD (c__law_row_is (k + 39)) [(itemD (varD 1) (pureD (.int 0))), (itemD (varD 2) (pureD (.int 0)))]))), (notT (truthD (callD (c__law_row_is (k + 38)) [(itemD (varD 1) (pureD (.int 1))), (itemD (varD 2) (pureD (.int 1)))])))]) (seqS (retS (pureD (.bool false))) nextS) nextS) (seqS (ifS (allT true [(cmpD .In (binD .Sub (varD 5) (varD 4)) (mkTupD [(pureD (.int 0)), (pureD (.int 1))])), (notT (truthD (callD (c__law_verdict_is (k + 2)) [(itemD (varD 1) (varD 6)), (itemD (varD 2) (varD 6))])))]) (seqS (retS (pureD (.bool false))) nextS) nextS) nextS))))
noncomputable def g_law_08 (G : PG) (c__law_cell_at c__law_deed c__law_row_is c__law_verdict_is c_jinit : Nat → Fn) (k : Nat) : SD := (seqS (setS 1 (mkListD [(newJ (c_jinit (k + 64))), (newJ (c_jinit (k + 63)))])) (seqS (setS 2 (mkListD [(mkListD [(pureD (.int 1))]), (mkListD [(pureD (.int 1))])])) (seqS (setS 3 (callBiD .min [(pureD (.int 62)), (callBiD .max [(pureD (.int 0)), (binD .Sub (callBiD .len [(varD 0)]) (pureD (.int 1)))])])) (seqS (setS 4 (binD .Mod (binD .FloorDiv (callD (c__law_cell_at (k + 61)) [(varD 0), (pureD (.int 0))]) (pureD (.int 2))) (binD .Add (varD 3) (pureD (.int 1))))) (seqS (forS (.one 5) (rangeD [(varD 3)]) (g_law_08_b1 G c__law_cell_at c__law_deed c__law_row_is c__law_verdict_is c_jinit k)) (seqS (ifS (allT false [(notT (truthD (callD (c__law_row_is (k + 42)) [(itemD (varD 1) (pureD (.int 0))), (itemD (varD 2) (pureD (.int 0)))]))), (notT (truthD (callD (c__law_verdict_is (k + 6)) [(itemD (varD 1) (pureD (.int 1))), (itemD (varD 2) (pureD (.int 1)))])))]) (seqS (retS (pureD (.bool false))) nextS) nextS) (seqS (retS (callD (c__law_verdict_is (k + 10)) [(itemD (varD 1) (pureD (.int 0))), (itemD (varD 2) (pureD (.int 0)))])) nextS)))))))
end Mine
namespace Mine
open PySem

/-- all but the named places stay -/
noncomputable def PreL (l : List Nat) (H H' : HP) : Prop := ∀ (x : Nat) o, x ∉ l → H[x]? = some o → H'[x]? = some o
theorem Pre.l {l : List Nat} {H H' : HP} (h : Pre H H') : PreL l H H' := fun x o _ hx => h x o hx
theorem PreL.trans {l : List Nat} {H H' H'' : HP} (h : PreL l H H') (h' : PreL l H' H'') : PreL l H H'' := fun x o hn hx => h' x o hn (h x o hn hx)
theorem PreL.more {l l' : List Nat} {H H' : HP} (h : PreL l H H') (hs : ∀ x, x ∈ l → x ∈ l') : PreL l' H H' := fun x o hn hx => h x o (fun q => hn (hs x q)) hx
theorem PreL.set {l : List Nat} {H H' : HP} {d : Nat} {o : PO} (h : PreL l H H') (hd : d ∈ l) : PreL l H (H'.set d o) := fun x o' hn hx => by
  rw [set_ne (fun q => hn (by rw [← q]; exact hd))]
  exact h x o' hn hx

/-- a judge as it lies -/
structure Jd (H : HP) (i d c : Nat) (row : List Int) : Prop where
  inst : H[i]? = some (.inst d)
  ns : H[d]? = some (.ns (some (.ref c)))
  row : Ints H c row
theorem Jd.pre {H H' : HP} {i d c : Nat} {row : List Int} (h : Pre H H') (j : Jd H i d c row) : Jd H' i d c row := ⟨h _ _ j.inst, h _ _ j.ns, h.ints j.row⟩
theorem Jd.app {H e : HP} {i d c : Nat} {row : List Int} (j : Jd H i d c row) : Jd (H ++ e) i d c row := j.pre Pre.refl.app
theorem Jd.ne {H : HP} {i d c : Nat} {row : List Int} (j : Jd H i d c row) : i ≠ d ∧ c ≠ d := by
  constructor
  · rintro rfl
    have := j.inst.symm.trans j.ns
    cases this
  · rintro rfl
    have h := j.row
    unfold Ints at h
    have := h.symm.trans j.ns
    cases this

section
variable {m : M} {H H1 H2 H3 : HP} {Q : Except Str Fl → M → HP → Prop}
theorem attr_of {i d : Nat} {v : PV} (h : H[i]? = some (.inst d)) (h2 : H[d]? = some (.ns (some v))) : attrV (.ref i) H = some v := by
  unfold attrV; rw [instAt_of h]; simp only [h2]
theorem e_attr {o : ED} {i d : Nat} {v : PV} (h1 : o m H = some (.ok (.ref i), H1)) (h : H1[i]? = some (.inst d)) (h2 : H1[d]? = some (.ns (some v))) : attrD o m H = some (.ok v, H1) := e_bind h1 (e_lift (by rw [attr_of h h2]; rfl))
theorem ns_of {i d : Nat} {v : Option PV} (h : H[i]? = some (.inst d)) (h2 : H[d]? = some (.ns v)) : nsOf (.ref i) H = some (d, v) := by
  unfold nsOf; rw [instAt_of h]; simp only [h2]
theorem e_methJ {f : FnT} {o : ED} {ds : List ED} {i d : Nat} {v : Option PV} {vs : List PV} {r : Option (Except Str PV × HP)} (h1 : o m H = some (.ok (.ref i), H1)) (h : H1[i]? = some (.inst d)) (h2 : H1[d]? = some (.ns v)) (h3 : listD ds m H1 = some (.ok vs, H2)) (h4 : f (.ref i :: vs) H2 = r) : methJ f o ds m H = r :=
  e_bind h1 (e_bind (a := ()) (H1 := H1) (e_lift (by rw [ns_of h h2]; rfl)) (e_bind h3 h4))
theorem e_newJ {f : FnT} (h : f [.ref (H.length + 1)] (H ++ [.ns none, .inst H.length]) = some (.ok .none, H1)) : newJ f m H = some (.ok (.ref (H.length + 1)), H1) := by
  unfold newJ; rw [h]; rfl
theorem s_setAttr {o d : ED} {b : SD} {i r : Nat} {v : PV} {w : Option PV} (h1 : d m H = some (.ok v, H1)) (h2 : o m H1 = some (.ok (.ref i), H2)) (h3 : H2[i]? = some (.inst r)) (h4 : H2[r]? = some (.ns w)) (h5 : r ≠ 0) (k : SW b m (H2.set r (.ns (some v))) Q) : SW (seqS (setAttrS o d) b) m H Q := by
  refine sw_seq.mpr ?_
  unfold setAttrS
  refine sw_run.mpr ⟨_, _, h1, ?_⟩
  refine sw_run.mpr ⟨_, _, h2, ?_⟩
  refine ⟨.ok .next, m, H2.set r (.ns (some v)), ?_, k⟩
  show (setAttrV (.ref i) v H2).map _ = _
  unfold setAttrV
  rw [instAt_of h3]
  simp only [h4, if_pos h5]
  rfl
theorem s_setAttrE {o d : ED} {b : SD} {c : Str} (h : d m H = some (.error c, H1)) (k : Q (.error c) m H1) : SW (seqS (setAttrS o d) b) m H Q := by
  refine sw_seq.mpr ?_
  unfold setAttrS
  exact sw_run.mpr ⟨_, _, h, k⟩
theorem e_pop {o : ED} {i : Nat} {vs : List PV} {v : PV} (h1 : o m H = some (.ok (.ref i), H1)) (hi : H1[i]? = some (.list vs)) (h0 : i ≠ 0) (hv : vs.getLast? = some v) : methD .pop o [] m H = some (.ok v, H1.set i (.list vs.dropLast)) :=
  e_bind h1 (e_bind (a := ()) (H1 := H1) (e_need (listAt_of hi)) (e_bind e_nil (e_lift (by
    unfold methV; simp only [listAt_of hi]
    rw [if_pos h0, hv]; rfl))))
end
/-- a call that ends without a return -/
theorem fn1n {n : Nat} {sl : List Nat} {body : SD} {vs : List PV} {H : HP} {P : HP → Prop} (hl : vs.length = n) (h : SW body (argM sl vs) H fun r _ H1 => r = .ok .next ∧ P H1) : ∃ H', fnD n sl body vs H = some (.ok .none, H') ∧ P H' := by
  obtain ⟨r, m', H1, e, rfl, h⟩ := h
  refine ⟨H1, ?_, h⟩
  unfold fnD
  rw [if_pos hl, e]

theorem getD_app_l {a b : List Int} {p : Nat} (h : p < a.length) : (a ++ b).getD p 0 = a.getD p 0 := by
  simp [List.getD_eq_getElem?_getD, List.getElem?_append_left h]
theorem getD_app_r {a : List Int} {z : Int} : (a ++ [z]).getD a.length 0 = z := by simp
theorem good_row_iff {zs : List Int} : Good zs ↔ Row zs ∧ zs.length ≤ 12 := by
  constructor
  · rintro ⟨h1, h2, h3, h4, h5⟩
    have mono : ∀ n i, i + n < zs.length → zs.getD i 0 ≤ zs.getD (i + n) 0 := by
      intro n
      induction n with
      | zero => intro i _; exact Int.le_refl _
      | succ n ih =>
        intro i hi
        have a := ih i (by omega)
        have b := h5 (i + n) (by omega)
        have e : i + (n + 1) = i + n + 1 := by omega
        rw [e]; omega
    refine ⟨⟨?_, ?_, ?_, ?_⟩, h2⟩
    · rintro rfl; simp at h1
    · have hl : 0 < zs.length := h1
      rw [List.getD_eq_getElem?_getD] at h3
      rw [List.getElem?_eq_getElem hl] at h3 ⊢
      simpa using h3
    · rw [List.pairwise_iff_getElem]
      intro i j hi hj hij
      have a := mono (j - 1 - i) i (by omega)
      have b := h5 (j - 1) (by omega)
      rw [show i + (j - 1 - i) = j - 1 by omega] at a
      rw [show j - 1 + 1 = j by omega] at b
      have e1 : zs.getD i 0 = zs[i] := by simp [List.getD_eq_getElem?_getD, hi]
      have e2 : zs.getD j 0 = zs[j] := by simp [List.getD_eq_getElem?_getD, hj]
      omega
    · intro x hx
      obtain ⟨i, hi, rfl⟩ := List.getElem_of_mem hx
      have a := mono (zs.length - 1 - i) i (by omega)
      rw [show i + (zs.length - 1 - i) = zs.length - 1 by omega] at a
      have e1 : zs.getD i 0 = zs[i] := by simp [List.getD_eq_getElem?_getD, hi]
      omega
  · rintro ⟨hR, h2⟩
    have hpos := List.length_pos_iff.mpr hR.ne
    exact ⟨hpos, h2, hR.one, (hR.getD_pos (by omega)).2, fun p hp => hR.mono (Nat.lt_succ_self p) hp⟩
theorem good_more {row : List Int} {z : Int} (hR : Row row) : Good (row ++ [z]) ↔ row.length < 12 ∧ row.getD (row.length - 1) 0 < z ∧ z ≤ 10 ^ 60 := by
  have hpos := List.length_pos_iff.mpr hR.ne
  have hl : (row ++ [z]).length = row.length + 1 := by simp
  unfold Good
  rw [hl, Nat.add_sub_cancel, getD_app_r]
  constructor
  · rintro ⟨h1, h2, h3, h4, h5⟩
    have := h5 (row.length - 1) (by omega)
    rw [getD_app_l (by omega), show row.length - 1 + 1 = row.length by omega, getD_app_r] at this
    exact ⟨by omega, this, h4⟩
  · rintro ⟨h1, h2, h3⟩
    refine ⟨by omega, by omega, ?_, h3, fun p hp => ?_⟩
    · rw [getD_app_l hpos]; exact hR.one
    · rw [getD_app_l (by omega)]
      rcases Nat.lt_or_ge (p + 1) row.length with h | h
      · rw [getD_app_l h]; exact hR.mono (Nat.lt_succ_self p) h
      · have : p + 1 = row.length := by omega
        rw [this, getD_app_r, show p = row.length - 1 by omega]; exact h2
theorem row_fewer {row : List Int} (hR : Row row) (h : 1 < row.length) : Row row.dropLast := by
  have hl : row.dropLast.length = row.length - 1 := by simp
  refine ⟨fun q => by rw [q] at hl; simp at hl; omega, ?_, hR.up.sublist (List.dropLast_sublist _), fun x hx => hR.top x (List.dropLast_subset _ hx)⟩
  rw [List.getElem?_dropLast, if_pos (by omega)]
  exact hR.first
theorem last_getD {row : List Int} (h : row ≠ []) : row.getLast? = some (row.getD (row.length - 1) 0) := by
  have hpos := List.length_pos_iff.mpr h
  rw [List.getLast?_eq_getElem?, List.getD_eq_getElem?_getD, List.getElem?_eq_getElem (by omega)]; rfl

-- the class's methods
noncomputable def JinitOk (f : Nat → Fn) : Prop := ∀ j (H : HP) (i d : Nat), H[i]? = some (.inst d) → H[d]? = some (.ns none) → d ≠ 0 → f j [.ref i] H = some (.ok .none, (H ++ [PO.list [.int 1]]).set d (.ns (some (.ref H.length))))
theorem jinit_ok {G : PG} (k : Nat) {H : HP} {i d : Nat} (h1 : H[i]? = some (.inst d)) (h2 : H[d]? = some (.ns none)) (h0 : d ≠ 0) : fnD 1 [0] (g_jinit G k) [.ref i] H = some (.ok .none, (H ++ [PO.list [.int 1]]).set d (.ns (some (.ref H.length)))) := by
  obtain ⟨H', e, rfl⟩ := fn1n (P := fun H' => H' = (H ++ [PO.list [.int 1]]).set d (.ns (some (.ref H.length)))) (H := H) (n := 1) (sl := [0]) (vs := [.ref i]) (body := g_jinit G k) rfl (by
    unfold g_jinit
    exact s_setAttr (e_mkList (e_cons e_pure e_nil) (by simp)) (e_var rfl) (get_app h1) (get_app h2) h0 (s_next ⟨rfl, rfl⟩))
  exact e
noncomputable def JrowOk (f : Nat → Fn) : Prop := ∀ j (H : HP) i d c row, Jd H i d c row → f j [.ref i] H = some (.ok (.ref H.length), H ++ [.list (row.map .int)])
theorem jrow_ok {G : PG} (k : Nat) {H : HP} {i d c : Nat} {row : List Int} (h : Jd H i d c row) : fnD 1 [0] (g_jrow G k) [.ref i] H = some (.ok (.ref H.length), H ++ [.list (row.map .int)]) := by
  refine fn1 rfl ?_
  unfold g_jrow
  exact s_ret (e_bi (e_cons (e_attr (e_var rfl) h.inst h.ns) e_nil) (copy_ints h.row)) ⟨rfl, rfl⟩
noncomputable def JmoreOk (f : Nat → Fn) : Prop := ∀ j (H : HP) i d c row (z : Int), Jd H i d c row → d ≠ 0 → row.length ≤ 12 →
  (Good (row ++ [z]) → ∃ H' c', f j [.ref i, .int z] H = some (.ok .none, H') ∧ PreL [d] H H' ∧ Jd H' i d c' (row ++ [z]) ∧ H.length ≤ c') ∧ (¬ Good (row ++ [z]) → ∃ H', f j [.ref i, .int z] H = some (.error "NoRow", H') ∧ Pre H H')
theorem jmore_ok {G : PG} {gr : Nat → Fn} (hgr : GoodRowOk gr) (k : Nat) {H : HP} {i d c : Nat} {row : List Int} {z : Int} (h : Jd H i d c row) (h0 : d ≠ 0) (hl : row.length ≤ 12) :
    (Good (row ++ [z]) → ∃ H' c', fnD 2 [0, 1] (g_jmore G gr k) [.ref i, .int z] H = some (.ok .none, H') ∧ PreL [d] H H' ∧ Jd H' i d c' (row ++ [z]) ∧ H.length ≤ c') ∧ (¬ Good (row ++ [z]) → ∃ H', fnD 2 [0, 1] (g_jmore G gr k) [.ref i, .int z] H = some (.error "NoRow", H') ∧ Pre H H') := by
  have en : Ints (H ++ [PO.list [.int z]] ++ [.list ((row ++ [z]).map .int)]) (H ++ [PO.list [.int z]]).length (row ++ [z]) := ints_new
  have ea : ∀ m : M, m 0 = some (.ref i) → m 1 = some (.int z) → listD [binD .Add (attrD (varD 0)) (mkListD [varD 1])] m H = some (.ok [.ref (H ++ [PO.list [.int z]]).length], H ++ [PO.list [.int z]] ++ [.list ((row ++ [z]).map .int)]) := fun m p0 p1 =>
    e_cons (e_bin (e_attr (e_var p0) h.inst h.ns) (e_mkList (e_cons (e_var p1) e_nil) (by simp)) (add_ints (b := [z]) h.row.app (ints_new (zs := [z])) (by simp; omega))) e_nil
  obtain ⟨g1, g2⟩ := hgr (k + 1) _ _ _ en
  have hn := h.ne
  constructor
  · intro hg
    have e1 := g1 hg
    obtain ⟨H', e, hp, c', hj, hc⟩ := fn1n (P := fun H' => PreL [d] H H' ∧ ∃ c', Jd H' i d c' (row ++ [z]) ∧ H.length ≤ c') (H := H) (n := 2) (sl := [0, 1]) (vs := [.ref i, .int z]) (body := g_jmore G gr k) rfl (by
      unfold g_jmore
      refine s_setAttr (e_call (ea _ rfl rfl) e1) (e_var rfl) (get_app (get_app (get_app h.inst))) (get_app (get_app (get_app h.ns))) h0 (s_next ⟨rfl, ?_, _, ⟨?_, set_get (get_app (get_app (get_app h.ns))), ?_⟩, ?_⟩)
      · exact (Pre.refl.app.app.app.l).set (by simp)
      · rw [set_ne (Ne.symm hn.1)]; exact get_app (get_app (get_app h.inst))
      · have hd : d < H.length := (List.getElem?_eq_some_iff.mp h.ns).1
        unfold Ints
        rw [set_ne (by simp; omega)]
        exact ints_new
      · simp)
    exact ⟨H', c', e, hp, hj, hc⟩
  · intro hg
    refine ⟨_, fn1e rfl ?_, (Pre.refl.app (e := [.list [.int z]])).app (e := [.list ((row ++ [z]).map .int)])⟩
    unfold g_jmore
    exact s_setAttrE (e_call (ea _ rfl rfl) (g2 hg)) ⟨rfl, rfl⟩
noncomputable def JfewerOk (f : Nat → Fn) : Prop := ∀ j (H : HP) i d c row, Jd H i d c row → d ≠ 0 → row ≠ [] →
  (row.length = 1 → f j [.ref i] H = some (.error "NoRow", H)) ∧ (row.length ≠ 1 → ∃ H' c', f j [.ref i] H = some (.ok (.int (row.getD (row.length - 1) 0)), H') ∧ PreL [d] H H' ∧ Jd H' i d c' row.dropLast ∧ H.length ≤ c')
theorem jfewer_ok {G : PG} (k : Nat) {H : HP} {i d c : Nat} {row : List Int} (h : Jd H i d c row) (h0 : d ≠ 0) (hne : row ≠ []) :
    (row.length = 1 → fnD 1 [0] (g_jfewer G k) [.ref i] H = some (.error "NoRow", H)) ∧ (row.length ≠ 1 → ∃ H' c', fnD 1 [0] (g_jfewer G k) [.ref i] H = some (.ok (.int (row.getD (row.length - 1) 0)), H') ∧ PreL [d] H H' ∧ Jd H' i d c' row.dropLast ∧ H.length ≤ c') := by
  have hpos := List.length_pos_iff.mpr hne
  constructor
  · intro h1
    refine fn1e rfl ?_
    unfold g_jfewer
    exact s_ifT (e_cmp (e_bi (e_cons (e_attr (e_var rfl) h.inst h.ns) e_nil) (len_ints h.row)) e_pure (cmp_eq.trans (dec_t (by omega)))) (s_raise ⟨rfl, rfl⟩)
  · intro h1
    suffices q : SW (g_jfewer G k) (argM [0] [.ref i]) H fun r _ H1 => ∃ v, r = .ok (.ret v) ∧ v = .int (row.getD (row.length - 1) 0) ∧ PreL [d] H H1 ∧ ∃ c', Jd H1 i d c' row.dropLast ∧ H.length ≤ c' by
      obtain ⟨v, H', e, rfl, hp, c', hj, hc⟩ := fnE rfl q
      exact ⟨H', c', e, hp, hj, hc⟩
    unfold g_jfewer
    refine s_ifF (e_cmp (e_bi (e_cons (e_attr (e_var rfl) h.inst h.ns) e_nil) (len_ints h.row)) e_pure (cmp_eq.trans (dec_f (by omega)))) ?_
    refine s_set (e_item (e_attr (e_var rfl) h.inst h.ns) (e_un e_pure rfl) (last_ints h.row hpos)) ?_
    have es := slice_up (b := -1) h.row
    rw [clip_neg1, ← List.dropLast_eq_take] at es
    refine s_setAttr (e_slice (e_attr (e_var rfl) h.inst h.ns) e_none (e_some (e_un e_pure rfl)) es) (e_var rfl) (get_app h.inst) (get_app h.ns) h0 ?_
    have hn := h.ne
    have hd : d < H.length := (List.getElem?_eq_some_iff.mp h.ns).1
    refine s_ret (e_var rfl) ⟨_, rfl, rfl, (Pre.refl.app.l).set (by simp), H.length, ⟨?_, set_get (get_app h.ns), ?_⟩, Nat.le_refl _⟩
    · rw [set_ne (Ne.symm hn.1)]; exact get_app h.inst
    · unfold Ints
      rw [set_ne (by omega)]
      exact ints_new
noncomputable def JverdictOk (f : Nat → Fn) : Prop := ∀ j (H : HP) i d c row, Jd H i d c row → Row row → row.length ≤ 12 → ∃ v H', f j [.ref i] H = some (.ok v, H') ∧ Pre H H' ∧ Res H' v (best row) ∧ Fr H.length H' v
theorem jverdict_ok {G : PG} {jd : Nat → Fn} (hjd : JudgedOk jd) (k : Nat) {H : HP} {i d c : Nat} {row : List Int} (h : Jd H i d c row) (hR : Row row) (hl : row.length ≤ 12) : ∃ v H', fnD 1 [0] (g_jverdict G jd k) [.ref i] H = some (.ok v, H') ∧ Pre H H' ∧ Res H' v (best row) ∧ Fr H.length H' v := by
  obtain ⟨v, H', e, q⟩ := hjd (k + 1) H c row h.row hR hl
  refine ⟨v, H', fn1 rfl ?_, q⟩
  unfold g_jverdict
  exact s_ret (e_call (e_cons (e_attr (e_var rfl) h.inst h.ns) e_nil) e) ⟨rfl, rfl⟩
end Mine
namespace Mine
open PySem

noncomputable def CoinByOk (f : Nat → Fn) : Prop := ∀ j (H : HP) (l n : Int), 1 ≤ l → ∃ z : Int, f j [.int l, .int n] H = some (.ok (.int z), H)
theorem coin_by_ok {G : PG} (k : Nat) {H : HP} {l n : Int} (hl : 1 ≤ l) : ∃ z : Int, fnD 2 [0, 1] (g__law_coin_by G k) [.int l, .int n] H = some (.ok (.int z), H) := by
  suffices q : SW (g__law_coin_by G k) (argM [0, 1] [.int l, .int n]) H fun r _ H1 => ∃ v, r = .ok (.ret v) ∧ (∃ z : Int, v = .int z) ∧ H1 = H by
    obtain ⟨v, H', e, ⟨z, rfl⟩, rfl⟩ := fnE rfl q
    exact ⟨z, e⟩
  unfold g__law_coin_by
  refine s_set (e_bin (e_var rfl) e_pure (op_fdiv (by decide) (by decide))) ?_
  have a5 := fmod_lo (a := n.fdiv 8) (b := 5) (by decide)
  have b5 := fmod_hi (a := n.fdiv 8) (b := 5) (by decide)
  have ab := fmod_lo (a := n.fdiv 8) (b := 10 ^ 15 + 37) (by decide)
  have bb := fmod_hi (a := n.fdiv 8) (b := 10 ^ 15 + 37) (by decide)
  have big : (10 : Int) ^ 15 + 39 < 2 ^ 60 := by decide
  generalize hmm : upd (argM [0, 1] [.int l, .int n]) 2 (.int (n.fdiv 8)) = mm
  have m0 : mm 0 = some (.int l) := by rw [← hmm]; rfl
  have m1 : mm 1 = some (.int n) := by rw [← hmm]; rfl
  have m2 : mm 2 = some (.int (n.fdiv 8)) := by rw [← hmm]; rfl
  have mul5 : binD .Mult (varD 0) (binD .Add (pureD (.int 2)) (binD .Mod (varD 2) (pureD (.int 5)))) mm H = some (.ok (.int (l * (2 + (n.fdiv 8).fmod 5))), H) := e_bin (e_var m0) (e_bin e_pure (e_bin (e_var m2) e_pure (op_mod (by decide))) op_add) (op_mulR (by omega) (by omega))
  have m8 : ∀ c : Int, cmpD .Eq (binD .Mod (varD 1) (pureD (.int 8))) (pureD (.int c)) mm H = some (.ok (decide (n.fmod 8 = c)), H) := fun c => e_cmp (e_bin (e_var m1) e_pure (op_mod (by decide))) e_pure cmp_eq
  refine s_if (e_or2 (m8 1) (m8 2)) (fun _ => s_ret mul5 ⟨_, rfl, ⟨_, rfl⟩, rfl⟩) (fun _ => s_next ?_)
  refine s_if (m8 3) (fun _ => s_ret (e_bin mul5 e_pure op_sub) ⟨_, rfl, ⟨_, rfl⟩, rfl⟩) (fun _ => s_next ?_)
  refine s_if (m8 4) (fun _ => s_ret (e_bin (e_bin (e_var m0) (e_bin e_pure (e_bin (e_var m2) (e_bin (e_bin e_pure e_pure (op_pow (by decide) (by decide) (by decide) (by decide))) e_pure op_add) (op_mod (by decide))) op_add) (op_mulR (by show _ < 2 + (n.fdiv 8).fmod (10 ^ 15 + 37); omega) (by show 2 + (n.fdiv 8).fmod (10 ^ 15 + 37) < _; omega))) (e_bin (e_bin (e_var m2) e_pure (op_fdiv (by decide) (by decide))) (e_var m0) (op_mod (by omega))) op_add) ⟨_, rfl, ⟨_, rfl⟩, rfl⟩) (fun _ => s_next ?_)
  refine s_if (m8 5) (fun _ => s_ret (e_bin (e_var m0) (e_bin (e_var m2) e_pure (op_mod (by decide))) op_sub) ⟨_, rfl, ⟨_, rfl⟩, rfl⟩) (fun _ => s_next ?_)
  refine s_if (m8 6) (fun _ => s_ret (e_bin (e_bin e_1060 e_pure op_add) (e_bin (e_var m2) e_pure (op_mod (by decide))) op_add) ⟨_, rfl, ⟨_, rfl⟩, rfl⟩) (fun _ => s_next ?_)
  exact s_ret (e_bin (e_bin (e_var m0) e_pure op_add) (e_bin (e_var m2) e_pure (op_mod (by decide))) op_add) ⟨_, rfl, ⟨_, rfl⟩, rfl⟩

noncomputable def PutOk (f : Nat → Fn) : Prop := ∀ j (H : HP) i d c row (z : Int), Jd H i d c row → d ≠ 0 → row.length ≤ 12 → Good (row ++ [z]) → ∃ H' c', f j [.ref i, .int z] H = some (.ok (.bool true), H') ∧ PreL [d] H H' ∧ Jd H' i d c' (row ++ [z]) ∧ H.length ≤ c'
theorem put_ok {G : PG} {jm : Nat → Fn} (hjm : JmoreOk jm) (k : Nat) {H : HP} {i d c : Nat} {row : List Int} {z : Int} (h : Jd H i d c row) (h0 : d ≠ 0) (hl : row.length ≤ 12) (hg : Good (row ++ [z])) : ∃ H' c', fnD 2 [0, 1] (g__law_put G jm k) [.ref i, .int z] H = some (.ok (.bool true), H') ∧ PreL [d] H H' ∧ Jd H' i d c' (row ++ [z]) ∧ H.length ≤ c' := by
  obtain ⟨H', c', e, q⟩ := (hjm (k + 3) H i d c row z h h0 hl).1 hg
  refine ⟨H', c', fn1 rfl ?_, q⟩
  unfold g__law_put
  refine sw_seq.mpr (sw_try.mpr (s_ret (e_boolE (e_cmp (e_methJ (e_var rfl) h.inst h.ns (e_cons (e_var rfl) e_nil) e) e_pure (cmp_is_none.trans (dec_t rfl)))) ?_))
  exact ⟨rfl, rfl⟩
theorem cls_row8 : clssL.lookup ("NoRow" : Str) = some (["NoRow", "CoinError", "ValueError"] : List Str) := by decide +kernel
theorem try_drop {G : PG} {d : ED} {m : M} {H H1 : HP} {c : Str} {rest : SD} {Q : Except Str Fl → M → HP → Prop} (hd : d m H = some (.error c, H1)) (hs : List Hd)
    (k : SW (handS G c hs) m H1 fun r m1 H1 => onN r (SW rest m1 H1 Q) (Q r m1 H1)) : SW (seqS (tryS G (seqS (dropS d) nextS) hs) rest) m H Q := by
  refine sw_seq.mpr (sw_try.mpr (sw_seq.mpr (sw_drop.mpr ⟨_, _, hd, ?_⟩)))
  exact k
noncomputable def PutRefOk (f : Nat → Fn) : Prop := ∀ j (H : HP) i d c row (z : Int), Jd H i d c row → d ≠ 0 → row.length ≤ 12 → ¬ Good (row ++ [z]) → ∃ H', f j [.ref i, .int z] H = some (.ok (.bool true), H') ∧ Pre H H'
theorem put_ref_ok {G : PG} (hG : G.clss = clssL) {kinds jm : Nat → Fn} (hk : KindsOk kinds) (hjm : JmoreOk jm) (k : Nat) {H : HP} {i d c : Nat} {row : List Int} {z : Int} (h : Jd H i d c row) (h0 : d ≠ 0) (hl : row.length ≤ 12) (hg : ¬ Good (row ++ [z])) : ∃ H', fnD 2 [0, 1] (g__law_put_refused G kinds jm k) [.ref i, .int z] H = some (.ok (.bool true), H') ∧ Pre H H' := by
  obtain ⟨H', e, hp⟩ := (hjm (k + 4) H i d c row z h h0 hl).2 hg
  obtain ⟨ext, he2⟩ := hk (k + 8) (H' ++ [.exc "NoRow"]) H'.length "NoRow" get_new (.inl rfl)
  refine ⟨H' ++ [.exc "NoRow"] ++ ext, fn1 rfl ?_, hp.app.app⟩
  unfold g__law_put_refused
  refine try_drop (e_methJ (e_var rfl) h.inst h.ns (e_cons (e_var rfl) e_nil) e) _ ?_
  refine hand_hitAs hG (as := ["NoRow", "CoinError", "ValueError"]) cls_row8 (by decide +kernel) (by decide +kernel) (ret_eq (e_andT (H1 := H' ++ [.exc "NoRow"]) (e_isIn (e_var upd_at) ?_) (e_andT (H1 := H' ++ [.exc "NoRow"]) (e_isIn (e_var upd_at) ?_) (e_boolE (e_cmp (e_call (e_cons (e_var upd_at) e_nil) he2) e_pure cmp_eq))))) ⟨rfl, rfl⟩
  · exact (isIn_exc hG get_new (as := ["NoRow", "CoinError", "ValueError"]) cls_row8 (.inr (by decide +kernel))).trans (by decide +kernel)
  · exact (isIn_exc hG get_new (as := ["NoRow", "CoinError", "ValueError"]) cls_row8 (.inl rfl)).trans (by decide +kernel)
noncomputable def OffRefOk (f : Nat → Fn) : Prop := ∀ j (H : HP) i d c row, Jd H i d c row → d ≠ 0 → row.length = 1 → f j [.ref i] H = some (.ok (.bool true), H)
theorem off_ref_ok {G : PG} (hG : G.clss = clssL) {jf : Nat → Fn} (hjf : JfewerOk jf) (k : Nat) {H : HP} {i d c : Nat} {row : List Int} (h : Jd H i d c row) (h0 : d ≠ 0) (hl : row.length = 1) : fnD 1 [0] (g__law_off_refused G jf k) [.ref i] H = some (.ok (.bool true), H) := by
  have hne : row ≠ [] := fun q => by rw [q] at hl; cases hl
  have e := (hjf (k + 4) H i d c row h h0 hne).1 hl
  refine fn1 rfl ?_
  unfold g__law_off_refused
  refine try_drop (e_methJ (e_var rfl) h.inst h.ns e_nil e) _ ?_
  exact hand_hit hG (as := ["NoRow", "CoinError", "ValueError"]) cls_row8 (by decide +kernel) (by decide +kernel) (ret_eq e_pure) ⟨rfl, rfl⟩

/-- what a deed leaves -/
noncomputable def Deed (H H' : HP) (i d c p : Nat) : Prop := PreL [d, p] H H' ∧ ∃ c' row', Jd H' i d c' row' ∧ Ints H' p row' ∧ Row row' ∧ row'.length ≤ 12 ∧ (c' = c ∨ H.length ≤ c')
noncomputable def DeedOk (f : Nat → Fn) : Prop := ∀ j (H : HP) i d c p row (n : Int), Jd H i d c row → Ints H p row → Row row → row.length ≤ 12 → d ≠ 0 → p ≠ 0 → p ≠ c → ∃ H', f j [.ref i, .ref p, .int n] H = some (.ok (.bool true), H') ∧ Deed H H' i d c p
theorem deed_ok {G : PG} {coin off put pref whole jf : Nat → Fn} (hcoin : CoinByOk coin) (hoff : OffRefOk off) (hput : PutOk put) (hpref : PutRefOk pref) (hwhole : WholeOk whole) (hjf : JfewerOk jf) (k : Nat) {H : HP} {i d c p : Nat} {row : List Int} {n : Int} (h : Jd H i d c row) (hp : Ints H p row) (hR : Row row) (hl : row.length ≤ 12) (hd0 : d ≠ 0) (hp0 : p ≠ 0) (hpc : p ≠ c) : ∃ H', fnD 3 [0, 1, 2] (g__law_deed G coin off put pref whole jf k) [.ref i, .ref p, .int n] H = some (.ok (.bool true), H') ∧ Deed H H' i d c p := by
  suffices q : SW (g__law_deed G coin off put pref whole jf k) (argM [0, 1, 2] [.ref i, .ref p, .int n]) H fun r _ H1 => ∃ v, r = .ok (.ret v) ∧ v = .bool true ∧ Deed H H1 i d c p by
    obtain ⟨v, H', e, rfl, q⟩ := fnE rfl q
    exact ⟨H', e, q⟩
  have hpos := List.length_pos_iff.mpr hR.ne
  have hn := h.ne
  have hip : p ≠ i := by
    rintro rfl
    have := hp.symm.trans h.inst
    cases this
  have hdp : p ≠ d := by
    rintro rfl
    have := hp.symm.trans h.ns
    cases this
  have hplt := hp.lt
  unfold g__law_deed
  refine s_if (e_cmp (e_bin (e_var rfl) e_pure (op_mod (by decide))) e_pure cmp_eq) (fun _ => ?_) (fun _ => ?_)
  · refine s_if (e_cmp (e_bi (e_cons (e_var rfl) e_nil) (len_ints hp)) e_pure cmp_eq) (fun q => ?_) (fun q => ?_)
    · have q := of_decide_eq_true q
      exact s_ret (e_call (e_cons (e_var rfl) e_nil) (hoff _ _ i d c row h hd0 (by omega))) ⟨_, rfl, rfl, Pre.refl.l, c, row, h, hp, hR, hl, .inl rfl⟩
    · have q := of_decide_eq_false q
      obtain ⟨H1, c1, e1, hp1, hj1, hc1⟩ := (hjf (k + 23) H i d c row h hd0 hR.ne).2 (by omega)
      refine s_next (s_set (e_methJ (e_var rfl) h.inst h.ns e_nil e1) ?_)
      have hpi : Ints H1 p row := hp1 _ _ (by simpa using hdp) hp
      refine s_ret (e_andT (e_call (e_cons (e_var rfl) e_nil) (hwhole _ _ _)) (e_boolE (e_cmp (e_var rfl) (e_pop (v := .int (row.getD (row.length - 1) 0)) (e_var rfl) hpi hp0 ?_) (cmp_eq.trans (dec_t rfl))))) ⟨_, rfl, rfl, (hp1.more (by simp)).set (by simp), c1, row.dropLast, ⟨?_, ?_, ?_⟩, ?_, row_fewer hR (by omega), by simp; omega, .inr hc1⟩
      · rw [List.getLast?_map, last_getD hR.ne]; rfl
      · rw [set_ne hip]; exact hj1.inst
      · rw [set_ne hdp]; exact hj1.ns
      · unfold Ints; rw [set_ne (by omega)]; exact hj1.row
      · unfold Ints; rw [set_get hpi, List.map_dropLast]
  · refine s_next ?_
    have hpos1 := hR.getD_pos (k := row.length - 1) (by omega)
    obtain ⟨z, ez⟩ := hcoin (k + 20) H (row.getD (row.length - 1) 0) n hpos1.1
    have il := last_ints hp hpos
    refine s_set (e_call (e_cons (e_item (e_var rfl) (e_un e_pure rfl) il) (e_cons (e_var rfl) e_nil)) ez) ?_
    have hgm := good_more (z := z) hR
    have refuse : ¬ Good (row ++ [z]) → ∃ H', pref (k + 2) [.ref i, .int z] H = some (.ok (.bool true), H') ∧ Pre H H' := hpref (k + 2) H i d c row z h hd0 hl
    have tail : ∀ {b : SD} {m : M}, m 0 = some (.ref i) → m 4 = some (.int z) → ¬ Good (row ++ [z]) → SW (seqS (retS (callD (pref (k + 2)) [varD 0, varD 4])) nextS) m H fun r m' H' => onN r (SW b m' H' fun r _ H1 => ∃ v, r = .ok (.ret v) ∧ v = .bool true ∧ Deed H H1 i d c p) (∃ v, r = .ok (.ret v) ∧ v = .bool true ∧ Deed H H' i d c p) := fun {b m} h0 h4 hg => by
      obtain ⟨H', e, hpr⟩ := refuse hg
      exact s_ret (e_call (e_cons (e_var h0) (e_cons (e_var h4) e_nil)) e) ⟨_, rfl, rfl, hpr.l, c, row, h.pre hpr, hpr.ints hp, hR, hl, .inl rfl⟩
    by_cases h12 : (row.length : Int) = 12
    · exact s_ifT (e_orT (e_cmp (e_bi (e_cons (e_var rfl) e_nil) (len_ints hp)) e_pure (cmp_eq.trans (dec_t h12)))) (tail rfl rfl (by rw [hgm]; omega))
    by_cases hle : z ≤ row.getD (row.length - 1) 0
    · exact s_ifT (e_orF (e_cmp (e_bi (e_cons (e_var rfl) e_nil) (len_ints hp)) e_pure (cmp_eq.trans (dec_f h12))) (e_orT (e_cmp (e_var rfl) (e_item (e_var rfl) (e_un e_pure rfl) il) (cmp_le.trans (dec_t hle))))) (tail rfl rfl (by rw [hgm]; omega))
    by_cases hgt : z > 10 ^ 60
    · exact s_ifT (e_orF (e_cmp (e_bi (e_cons (e_var rfl) e_nil) (len_ints hp)) e_pure (cmp_eq.trans (dec_f h12))) (e_orF (e_cmp (e_var rfl) (e_item (e_var rfl) (e_un e_pure rfl) il) (cmp_le.trans (dec_f hle))) (e_orT (e_cmp (e_var rfl) e_1060 (cmp_gt.trans (dec_t hgt)))))) (tail rfl rfl (by rw [hgm]; omega))
    have hg : Good (row ++ [z]) := by rw [hgm]; omega
    refine s_ifF (e_orF (e_cmp (e_bi (e_cons (e_var rfl) e_nil) (len_ints hp)) e_pure (cmp_eq.trans (dec_f h12))) (e_orF (e_cmp (e_var rfl) (e_item (e_var rfl) (e_un e_pure rfl) il) (cmp_le.trans (dec_f hle))) (e_orF (e_cmp (e_var rfl) e_1060 (cmp_gt.trans (dec_f hgt))) e_allT0))) ?_
    refine s_drop (e_append (e_var rfl) (e_var rfl) ⟨_, hp⟩ hp hp0 (by simp; omega)) ?_
    have h1 : Jd (H.set p (.list (row.map .int ++ [.int z]))) i d c row := ⟨by rw [set_ne hip]; exact h.inst, by rw [set_ne hdp]; exact h.ns, by unfold Ints; rw [set_ne hpc]; exact h.row⟩
    obtain ⟨H', c', e, hpr, hj, hc⟩ := hput (k + 2) _ i d c row z h1 hd0 hl hg
    have hrow := good_row_iff.mp hg
    rw [List.length_set] at hc
    refine s_ret (e_call (e_cons (e_var rfl) (e_cons (e_var rfl) e_nil)) e) ⟨_, rfl, rfl, (PreL.set Pre.refl.l (by simp)).trans (hpr.more (by simp)), c', row ++ [z], hj, ?_, hrow.1, hrow.2, .inr hc⟩
    refine hpr _ _ (by simpa using hdp) ?_
    rw [set_get hp]; simp
end Mine
namespace Mine
open PySem

noncomputable def RowIsOk (f : Nat → Fn) : Prop := ∀ j (H : HP) i d c p row, Jd H i d c row → Ints H p row → Row row → row.length ≤ 12 → ∃ H', f j [.ref i, .ref p] H = some (.ok (.bool true), H') ∧ Pre H H'
theorem set0_app {row : List Int} {x y : Int} (h : 0 < row.length) : (row ++ [y]).set 0 x = [x] ++ row.drop 1 ++ [y] := by
  cases row with
  | nil => simp at h
  | cons a r => simp
theorem row_is_ok {G : PG} {whole jr : Nat → Fn} (hwhole : WholeOk whole) (hjr : JrowOk jr) (k : Nat) {H : HP} {i d c p : Nat} {row : List Int} (h : Jd H i d c row) (hp : Ints H p row) (hR : Row row) (hl : row.length ≤ 12) : ∃ H', fnD 2 [0, 1] (g__law_row_is G whole jr k) [.ref i, .ref p] H = some (.ok (.bool true), H') ∧ Pre H H' := by
  suffices q : SW (g__law_row_is G whole jr k) (argM [0, 1] [.ref i, .ref p]) H fun r _ H1 => ∃ v, r = .ok (.ret v) ∧ v = .bool true ∧ Pre H H1 by
    obtain ⟨v, H', e, rfl, q⟩ := fnE rfl q
    exact ⟨H', e, q⟩
  have hpos := List.length_pos_iff.mpr hR.ne
  have hplt := hp.lt
  have hclt := h.row.lt
  unfold g__law_row_is
  refine s_set (e_methJ (e_var rfl) h.inst h.ns e_nil (hjr _ _ _ _ _ _ h)) ?_
  have hn1 : Ints (H ++ [.list (row.map .int)]) H.length row := ints_new
  have hp1 : Ints (H ++ [.list (row.map .int)]) p row := hp.app
  have j1 : Jd (H ++ [.list (row.map .int)]) i d c row := h.app
  have pr1 : Pre H (H ++ [.list (row.map .int)]) := Pre.refl.app
  have len1 : (H ++ [PO.list (row.map .int)]).length = H.length + 1 := by simp
  generalize H ++ [PO.list (row.map .int)] = H1 at hn1 hp1 j1 pr1 len1
  refine s_ifF (e_orF (e_not (b := true) (e_truth (e_isIn (e_var rfl) (isIn_list hn1)))) (e_orF (e_cmp (e_var rfl) (e_var rfl) ((cmp_ne_ints hn1 hp1).trans (ndec_f rfl))) e_allT0)) ?_
  refine sw_seq.mpr (sw_for (e_seqSrc (e_var rfl) hn1) (fun _ m H' => H' = H1 ∧ m 0 = some (.ref i) ∧ m 1 = some (.ref p) ∧ m 2 = some (.ref H.length)) (fun _ _ _ => False) ⟨rfl, rfl, rfl, rfl⟩ (fun s v m H' hv hP => ?_) (fun m' H' hP => ?_) (fun _ _ _ _ h => h.elim))
  · obtain ⟨rfl, p0, p1, p2⟩ := hP
    refine ⟨src_ok hn1, ?_⟩
    obtain ⟨z, rfl⟩ := ints_at hv
    unfold g__law_row_is_b1
    exact s_ifF (e_not (b := true) (e_truth (e_call (e_cons (e_var upd_at) e_nil) (hwhole _ _ _)))) (s_next (.inl ⟨rfl, rfl, by rw [upd_ne (by decide)]; exact p0, by rw [upd_ne (by decide)]; exact p1, by rw [upd_ne (by decide)]; exact p2⟩))
  · obtain ⟨rfl, p0, p1, p2⟩ := hP
    refine ⟨src_ok hn1, ?_⟩
    refine s_set (e_methJ (e_var p0) j1.inst j1.ns e_nil (hjr _ _ _ _ _ _ j1)) ?_
    have q0 : upd m' 4 (.ref H'.length) 0 = some (.ref i) := by rw [upd_ne (by decide)]; exact p0
    have q1 : upd m' 4 (.ref H'.length) 1 = some (.ref p) := by rw [upd_ne (by decide)]; exact p1
    have q2 : upd m' 4 (.ref H'.length) 2 = some (.ref H.length) := by rw [upd_ne (by decide)]; exact p2
    have q4 : upd m' 4 (.ref H'.length) 4 = some (.ref H'.length) := upd_at
    generalize upd m' 4 (.ref H'.length) = m4 at q0 q1 q2 q4 ⊢
    have hn2 : Ints (H' ++ [.list (row.map .int)]) H.length row := hn1.app
    have hc2 : Ints (H' ++ [.list (row.map .int)]) H'.length row := ints_new
    have pr2 : Pre H (H' ++ [.list (row.map .int)]) := pr1.app
    generalize H' ++ [PO.list (row.map .int)] = H2 at hn2 hc2 pr2
    refine s_drop (e_append (e_var q2) e_pure ⟨_, hn2⟩ hn2 (by omega) (by simp; omega)) ?_
    have hn3 : Ints (H2.set H.length (.list (row.map .int ++ [.int 0]))) H.length (row ++ [0]) := by unfold Ints; rw [set_get hn2]; simp
    have hc3 : Ints (H2.set H.length (.list (row.map .int ++ [.int 0]))) H'.length row := by unfold Ints; rw [set_ne (by omega)]; exact hc2
    have pr3 : Pre H (H2.set H.length (.list (row.map .int ++ [.int 0]))) := pr2.set (Nat.le_refl _)
    generalize H2.set H.length (.list (row.map .int ++ [.int 0])) = H3 at hn3 hc3 pr3
    refine s_setItem e_pure (e_var q2) e_pure (set_ints (k := 0) hn3 (by omega) (by simp) rfl) ?_
    have hn4 : Ints (H3.set H.length (.list (((row ++ [0]).set 0 5).map .int))) H.length ((row ++ [0]).set 0 5) := by unfold Ints; rw [set_get hn3]
    have hc4 : Ints (H3.set H.length (.list (((row ++ [0]).set 0 5).map .int))) H'.length row := by unfold Ints; rw [set_ne (by omega)]; exact hc3
    have pr4 : Pre H (H3.set H.length (.list (((row ++ [0]).set 0 5).map .int))) := pr3.set (Nat.le_refl _)
    generalize H3.set H.length (.list (((row ++ [0]).set 0 5).map .int)) = H4 at hn4 hc4 pr4
    rw [set0_app hpos] at hn4
    have hp4 := pr4.ints hp
    have j4 := h.pre pr4
    have e5 := hjr (k + 1) H4 i d c row j4
    have j5 : Ints (H4 ++ [.list (row.map .int)]) p row := hp4.app
    have pr5 : Pre H (H4 ++ [.list (row.map .int)]) := pr4.app
    have hn5 : Ints (H4 ++ [.list (row.map .int)]) H.length ([5] ++ row.drop 1 ++ [0]) := hn4.app
    refine s_ret (e_andT (e_boolE (e_cmp (e_var q4) (e_var q1) ((cmp_eq_ints hc4 hp4).trans (dec_t rfl)))) (e_andT (e_boolE (e_cmp (e_methJ (e_var q0) j4.inst j4.ns e_nil e5) (e_var q1) ((cmp_eq_ints ints_new j5).trans (dec_t rfl)))) (e_boolE (e_cmp (e_var q2) (e_bin (e_bin (e_mkList (e_cons e_pure e_nil) (by simp)) (e_slice (e_var q1) (e_some e_pure) e_none (slice_dn (a := 1) j5.app)) (add_ints (a := [5]) (ints_new (zs := [5])).app ints_new ?_)) (e_mkList (e_cons e_pure e_nil) (by simp)) (add_ints (b := [0]) ints_new.app (ints_new (zs := [0])) ?_)) ((cmp_eq_ints hn5.app.app.app.app.app ints_new).trans (dec_t ?_)))))) ⟨_, rfl, rfl, pr5.app.app.app.app.app⟩
    · simp; omega
    · simp; omega
    · rw [clip_in (by decide) (by omega)]; rfl
end Mine
namespace Mine
open PySem

theorem isIn_tup8 {G : PG} {H : HP} {i : Nat} {vs : List PV} (h : H[i]? = some (.tup vs)) : isIn G "tuple" (.ref i) H = some true := by
  unfold isIn isTy; rw [show tyOf "tuple" = some .tup by rfl]; simp only [h]
theorem data_ver {H : HP} {i r : Nat} {A : Int} {W : List Int} (h1 : H[i]? = some (.tup [.int A, .ref r])) (h2 : Ints H r W) : dataOf H 3 (.ref i) = some (.tuple [.int A, .list (W.map .int)]) := by
  have e : dataOf H 2 (.ref r) = some (.list (W.map .int)) := data_ints h2
  have e0 : dataOf H 2 (.int A) = some (.int A) := rfl
  rw [dataOf]
  simp only [h1, datasOf, e, e0, Option.map_some]
theorem eq_ver {H : HP} {i j r s : Nat} {A : Int} {W : List Int} (h1 : H[i]? = some (.tup [.int A, .ref r])) (h2 : Ints H r W) (h3 : H[j]? = some (.tup [.int A, .ref s])) (h4 : Ints H s W) : eqV H (.ref i) (.ref j) = some true := by
  show (match dataOf H 3 (.ref i), dataOf H 3 (.ref j) with | some a, some b => some (PyData.eqv a b) | _, _ => none) = _
  rw [data_ver h1 h2, data_ver h3 h4]
  have := eqv_ints W W
  simp only [PyData.eqv, PyData.eqvAll] at this ⊢
  simp [this]
theorem cmp_eq_ver {H : HP} {i j r s : Nat} {A : Int} {W : List Int} (h1 : H[i]? = some (.tup [.int A, .ref r])) (h2 : Ints H r W) (h3 : H[j]? = some (.tup [.int A, .ref s])) (h4 : Ints H s W) : cmpV .Eq (.ref i) (.ref j) H = some true := eq_ver h1 h2 h3 h4
theorem cmp_ne_ver {H : HP} {i j r s : Nat} {A : Int} {W : List Int} (h1 : H[i]? = some (.tup [.int A, .ref r])) (h2 : Ints H r W) (h3 : H[j]? = some (.tup [.int A, .ref s])) (h4 : Ints H s W) : cmpV .NotEq (.ref i) (.ref j) H = some false := by
  show (eqV H (.ref i) (.ref j)).map (!·) = _
  rw [eq_ver h1 h2 h3 h4]; rfl

theorem jstep_len {row : List Int} {b : Option (Int × List Int)} {p : Nat × Nat} (h : ∀ x, b = some x → x.2.length = row.length) (x : Int × List Int) (hx : jstep row b p = some x) : x.2.length = row.length := by
  unfold jstep at hx
  split at hx
  · cases b with
    | none => cases hx; exact trW_length (p := p)
    | some y =>
      obtain ⟨B, X⟩ := y
      simp only at hx
      split at hx
      · cases hx; exact trW_length (p := p)
      · cases hx; exact h _ rfl
  · exact h x hx
theorem steps_len {row : List Int} : ∀ (ps : List (Nat × Nat)) (b : Option (Int × List Int)), (∀ x, b = some x → x.2.length = row.length) → ∀ x, ps.foldl (jstep row) b = some x → x.2.length = row.length
  | [], _, h => h
  | _ :: ps, _, h => steps_len ps _ fun x hx => jstep_len h x hx
theorem best_len {row : List Int} {A : Int} {W : List Int} (h : best row = some (A, W)) : W.length = row.length := steps_len _ none (fun x hx => by cases hx) _ h
noncomputable def VerdictIsOk (f : Nat → Fn) : Prop := ∀ j (H : HP) i d c p row, Jd H i d c row → Ints H p row → Row row → row.length ≤ 12 → ∃ H', f j [.ref i, .ref p] H = some (.ok (.bool true), H') ∧ Pre H H'
theorem verdict_is_ok {G : PG} {jd jv : Nat → Fn} (hjd : JudgedOk jd) (hjv : JverdictOk jv) (k : Nat) {H : HP} {i d c p : Nat} {row : List Int} (h : Jd H i d c row) (hp : Ints H p row) (hR : Row row) (hl : row.length ≤ 12) : ∃ H', fnD 2 [0, 1] (g__law_verdict_is G jd jv k) [.ref i, .ref p] H = some (.ok (.bool true), H') ∧ Pre H H' := by
  suffices q : SW (g__law_verdict_is G jd jv k) (argM [0, 1] [.ref i, .ref p]) H fun r _ H1 => ∃ v, r = .ok (.ret v) ∧ v = .bool true ∧ Pre H H1 by
    obtain ⟨v, H', e, rfl, q⟩ := fnE rfl q
    exact ⟨H', e, q⟩
  have hplt := hp.lt
  unfold g__law_verdict_is
  obtain ⟨v, H1, e1, pr1, res1, fr1⟩ := hjv (k + 11) H i d c row h hR hl
  refine s_set (e_methJ (e_var rfl) h.inst h.ns e_nil e1) ?_
  have hp1 := pr1.ints hp
  obtain ⟨w, H2, e2, pr2, res2, fr2⟩ := hjd (k + 15) (H1 ++ [.list (row.map .int)]) H1.length row ints_new hR hl
  refine s_set (e_call (e_cons (e_bi (e_cons (e_var rfl) e_nil) (copy_ints hp1)) e_nil) e2) ?_
  have pr12 : Pre H1 H2 := Pre.trans Pre.refl.app pr2
  cases hb : best row with
  | none =>
    rw [hb] at res1 res2
    have hv : v = .none := res1
    have hw : w = .none := res2
    subst hv hw
    refine s_ifT (e_orT (e_cmp (e_var rfl) e_pure (cmp_is_none.trans (dec_t rfl)))) ?_
    exact s_ret (e_andT (e_boolE (e_cmp (e_var rfl) e_pure (cmp_is_none.trans (dec_t rfl)))) (e_boolE (e_cmp (e_var rfl) e_pure (cmp_is_none.trans (dec_t rfl))))) ⟨_, rfl, rfl, pr1.trans pr12⟩
  | some x =>
    obtain ⟨A, W⟩ := x
    have hWl : 0 < W.length ∧ W.length ≤ 12 := by
      rw [best_len hb]
      exact ⟨List.length_pos_iff.mpr hR.ne, hl⟩
    rw [hb] at res1 res2
    obtain ⟨t, r, rfl, ht, hr⟩ := res1
    obtain ⟨t2, r2, rfl, ht2, hr2⟩ := res2
    have f1 : H.length ≤ r := fr1 t _ r rfl ht
    have f2 := fr2 t2 _ r2 rfl ht2
    rw [List.length_append, List.length_singleton] at f2
    have hrlt := hr.lt
    have htr : r ≠ t := by rintro rfl; cases hr.symm.trans ht
    have ht' := pr12 _ _ ht
    have hr' := pr12.ints hr
    refine s_ifF (e_orF (e_cmp (e_var rfl) e_pure (cmp_is_none.trans (dec_f (by simp)))) (e_orF (e_cmp (e_var rfl) e_pure (cmp_is_none.trans (dec_f (by simp)))) e_allT0)) ?_
    refine s_ifF (e_orF (e_not (b := true) (e_truth (e_isIn (e_var rfl) (isIn_tup8 ht')))) (e_orF (e_cmp (e_var rfl) (e_var rfl) (cmp_ne_ver ht' hr' ht2 hr2)) e_allT0)) ?_
    have j2 := h.pre (pr1.trans pr12)
    obtain ⟨u, H3, e3, pr3, res3, fr3⟩ := hjv (k + 7) H2 i d c row j2 hR hl
    refine s_set (e_methJ (e_var rfl) j2.inst j2.ns e_nil e3) ?_
    rw [hb] at res3
    obtain ⟨t3, r3, rfl, ht3, hr3⟩ := res3
    have f3 := fr3 t3 _ r3 rfl ht3
    have hl12 := pr12.len
    have h3t := pr3 _ _ ht'
    have h3r := pr3.ints hr'
    have h3t2 := pr3 _ _ ht2
    have h3r2 := pr3.ints hr2
    have pr03 : Pre H H3 := (pr1.trans pr12).trans pr3
    have nt2 : r ≠ t2 := by rintro rfl; cases h3r.symm.trans h3t2
    have nt3 : r ≠ t3 := by rintro rfl; cases h3r.symm.trans ht3
    generalize hmm : upd (upd (upd (argM [0, 1] [.ref i, .ref p]) 2 (.ref t)) 3 (.ref t2)) 4 (.ref t3) = mm
    have q0 : mm 0 = some (.ref i) := by rw [← hmm]; rfl
    have q2 : mm 2 = some (.ref t) := by rw [← hmm]; rfl
    have q3 : mm 3 = some (.ref t2) := by rw [← hmm]; rfl
    have q4 : mm 4 = some (.ref t3) := by rw [← hmm]; rfl
    refine s_drop (e_append (e_item (e_var q2) e_pure (item_tup (k := 1) h3t rfl rfl)) e_pure ⟨_, h3r⟩ h3r (by omega) (by simp; omega)) ?_
    have h4r : Ints (H3.set r (.list (W.map .int ++ [.int 0]))) r (W ++ [0]) := by unfold Ints; rw [set_get h3r]; simp
    have h4 : ∀ x o, r ≠ x → H3[x]? = some o → (H3.set r (.list (W.map .int ++ [.int 0])))[x]? = some o := fun x o hx ho => by rw [set_ne hx]; exact ho
    have pr04 : Pre H (H3.set r (.list (W.map .int ++ [.int 0]))) := pr03.set f1
    generalize H3.set r (.list (W.map .int ++ [.int 0])) = H4 at h4r h4 pr04
    refine s_setItem e_pure (e_item (e_var q2) e_pure (item_tup (k := 1) (h4 _ _ htr h3t) rfl rfl)) e_pure (set_ints (k := 0) h4r (by omega) (by simp) rfl) ?_
    have h5r : Ints (H4.set r (.list (((W ++ [0]).set 0 9).map .int))) r ((W ++ [0]).set 0 9) := by unfold Ints; rw [set_get h4r]
    have h5 : ∀ x o, r ≠ x → H3[x]? = some o → (H4.set r (.list (((W ++ [0]).set 0 9).map .int)))[x]? = some o := fun x o hx ho => by rw [set_ne hx]; exact h4 x o hx ho
    have pr05 : Pre H (H4.set r (.list (((W ++ [0]).set 0 9).map .int))) := pr04.set f1
    generalize H4.set r (.list (((W ++ [0]).set 0 9).map .int)) = H5 at h5r h5 pr05
    rw [set0_app hWl.1] at h5r
    have h5t := h5 _ _ htr h3t
    have h5t2 := h5 _ _ nt2 h3t2
    have h5r2 : Ints H5 r2 W := h5 _ _ (by omega) h3r2
    have h5t3 := h5 _ _ nt3 ht3
    have h5r3 : Ints H5 r3 W := h5 _ _ (by omega) hr3
    have j5 := h.pre pr05
    obtain ⟨u4, H6, e6, pr6, res6, fr6⟩ := hjv (k + 0) H5 i d c row j5 hR hl
    rw [hb] at res6
    obtain ⟨t6, r6, rfl, ht6, hr6⟩ := res6
    have h6r := pr6.ints h5r
    refine s_ret (e_andT (e_boolE (e_cmp (e_var q4) (e_var q3) (cmp_eq_ver h5t3 h5r3 h5t2 h5r2))) (e_andT (e_boolE (e_cmp (e_methJ (e_var q0) j5.inst j5.ns e_nil e6) (e_var q3) (cmp_eq_ver ht6 hr6 (pr6 _ _ h5t2) (pr6.ints h5r2)))) (e_boolE (e_cmp (e_item (e_var q2) e_pure (item_tup (k := 1) (pr6 _ _ h5t) rfl rfl)) (e_bin (e_bin (e_mkList (e_cons e_pure e_nil) (by simp)) (e_slice (e_item (e_var q3) e_pure (item_tup (k := 1) (get_app (pr6 _ _ h5t2)) rfl rfl)) (e_some e_pure) e_none (slice_dn (a := 1) (pr6.ints h5r2).app)) (add_ints (a := [9]) (ints_new (zs := [9])).app ints_new ?_)) (e_mkList (e_cons e_pure e_nil) (by simp)) (add_ints (b := [0]) ints_new.app (ints_new (zs := [0])) ?_)) ((cmp_eq_ints h6r.app.app.app.app.app ints_new).trans (dec_t ?_)))))) ⟨_, rfl, rfl, (pr05.trans pr6).app.app.app.app.app⟩
    · simp; omega
    · simp; omega
    · rw [clip_in (by decide) (by omega)]; rfl
end Mine
namespace Mine
open PySem

/-- the two judges and the two rows -/
structure Wld (H : HP) (zs : List Int) (J P : Nat) (i d c p : Nat → Nat) (row : Nat → List Int) : Prop where
  script : Ints H 0 zs
  js : H[J]? = some (.list [.ref (i 0), .ref (i 1)])
  ps : H[P]? = some (.list [.ref (p 0), .ref (p 1)])
  jd : ∀ b, b < 2 → Jd H (i b) (d b) (c b) (row b)
  own : ∀ b, b < 2 → Ints H (p b) (row b)
  good : ∀ b, b < 2 → Row (row b) ∧ (row b).length ≤ 12
  nz : ∀ b, b < 2 → d b ≠ 0 ∧ p b ≠ 0
  pc : ∀ b b', b < 2 → b' < 2 → p b ≠ c b'
  pp : p 0 ≠ p 1
  dd : d 0 ≠ d 1
theorem Wld.pre {H H' : HP} {zs : List Int} {J P : Nat} {i d c p : Nat → Nat} {row : Nat → List Int} (w : Wld H zs J P i d c p row) (h : Pre H H') : Wld H' zs J P i d c p row :=
  ⟨h.ints w.script, h _ _ w.js, h _ _ w.ps, fun b hb => (w.jd b hb).pre h, fun b hb => h.ints (w.own b hb), w.good, w.nz, w.pc, w.pp, w.dd⟩
theorem list_ne {H : HP} {a b : Nat} {zs : List Int} {x : Nat} {vs : List PV} (ha : Ints H a zs) (hb : H[b]? = some (.list (.ref x :: vs))) : a ≠ b := by
  rintro rfl
  have h := ha.symm.trans hb
  cases zs with
  | nil => simp at h
  | cons z r => simp at h
theorem Wld.deed {H H' : HP} {zs : List Int} {J P : Nat} {i d c p : Nat → Nat} {row : Nat → List Int} (w : Wld H zs J P i d c p row) {e : Nat} (he : e < 2) (h : Deed H H' (i e) (d e) (c e) (p e)) : ∃ c' row', Wld H' zs J P i d c' p row' := by
  obtain ⟨hp, cn, rn, hj, hi, hR, hl, hc⟩ := h
  have hJe := w.jd e he
  have hns : ∀ {x : Nat} {vs : List PV}, H[x]? = some (.list vs) → x ≠ d e := fun {x vs} hx q => by
    subst q
    cases hx.symm.trans hJe.ns
  have hin : ∀ {x y : Nat}, H[x]? = some (.inst y) → x ≠ d e := fun {x y} hx q => by
    subst q
    cases hx.symm.trans hJe.ns
  have hin' : ∀ {x y : Nat}, H[x]? = some (.inst y) → x ≠ p e := fun {x y} hx q => by
    subst q
    cases hx.symm.trans (w.own e he)
  have hns' : ∀ {x : Nat} {y : Option PV}, H[x]? = some (.ns y) → x ≠ p e := fun {x y} hx q => by
    subst q
    cases hx.symm.trans (w.own e he)
  have nz := w.nz e he
  have keep : ∀ {x : Nat} {o : PO}, x ≠ d e → x ≠ p e → H[x]? = some o → H'[x]? = some o := fun {x o} h1 h2 hx => hp x o (by simp [h1, h2]) hx
  have other : ∀ b, b < 2 → b ≠ e → d b ≠ d e ∧ p b ≠ p e := fun b hb hbe => by
    have hpp := w.pp
    have hdd := w.dd
    rcases (show b = 0 ∧ e = 1 ∨ b = 1 ∧ e = 0 by omega) with ⟨rfl, rfl⟩ | ⟨rfl, rfl⟩
    · exact ⟨hdd, hpp⟩
    · exact ⟨Ne.symm hdd, Ne.symm hpp⟩
  refine ⟨fun b => if b = e then cn else c b, fun b => if b = e then rn else row b, ?_, ?_, ?_, ?_, ?_, ?_, w.nz, ?_, w.pp, w.dd⟩
  · exact keep (Ne.symm nz.1) (Ne.symm nz.2) w.script
  · exact keep (hns w.js) (Ne.symm (list_ne (w.own e he) w.js)) w.js
  · exact keep (hns w.ps) (Ne.symm (list_ne (w.own e he) w.ps)) w.ps
  · intro b hb
    by_cases hbe : b = e
    · subst hbe; simp only [if_true]; exact hj
    · simp only [if_neg hbe]
      have o := other b hb hbe
      have j := w.jd b hb
      exact ⟨keep (hin j.inst) (hin' j.inst) j.inst, keep o.1 (hns' j.ns) j.ns, keep (hns j.row) (Ne.symm (w.pc e b he hb)) j.row⟩
  · intro b hb
    by_cases hbe : b = e
    · subst hbe; simp only [if_true]; exact hi
    · simp only [if_neg hbe]
      have o := other b hb hbe
      exact keep (hns (w.own b hb)) o.2 (w.own b hb)
  · intro b hb
    by_cases hbe : b = e
    · subst hbe; simp only [if_true]; exact ⟨hR, hl⟩
    · simp only [if_neg hbe]; exact w.good b hb
  · intro b b' hb hb'
    by_cases hbe : b' = e
    · subst hbe
      simp only [if_true]
      rcases hc with rfl | hc
      · exact w.pc b b' hb hb'
      · have := (w.own b hb).lt
        omega
    · simp only [if_neg hbe]; exact w.pc b b' hb hb'
theorem Wld.item_j {H : HP} {zs : List Int} {J P : Nat} {i d c p : Nat → Nat} {row : Nat → List Int} (w : Wld H zs J P i d c p row) {e : Nat} (he : e < 2) {x : Int} (hx : x = e) : itemV (.ref J) (.int x) H = some (.ref (i e)) := by
  refine item_list (k := e) w.js ?_ hx
  rcases (show e = 0 ∨ e = 1 by omega) with rfl | rfl <;> rfl
theorem Wld.item_p {H : HP} {zs : List Int} {J P : Nat} {i d c p : Nat → Nat} {row : Nat → List Int} (w : Wld H zs J P i d c p row) {e : Nat} (he : e < 2) {x : Int} (hx : x = e) : itemV (.ref P) (.int x) H = some (.ref (p e)) := by
  refine item_list (k := e) w.ps ?_ hx
  rcases (show e = 0 ∨ e = 1 by omega) with rfl | rfl <;> rfl

theorem in_pair {m : M} {H : HP} {a : Int} {d : ED} (h : d m H = some (.ok (.int a), H)) : ∃ b, cmpD .In d (mkTupD [pureD (.int 0), pureD (.int 1)]) m H = some (.ok b, H ++ [.tup [.int 0, .int 1]]) := by
  have e : mkTupD [pureD (.int 0), pureD (.int 1)] m H = some (.ok (.ref H.length), H ++ [.tup [.int 0, .int 1]]) := e_mkTup (e_cons e_pure (e_cons e_pure e_nil)) (by simp)
  have g : (H ++ [PO.tup [.int 0, .int 1]])[H.length]? = some (.tup [.int 0, .int 1]) := get_new
  have q : dataOf (H ++ [PO.tup [.int 0, .int 1]]) 2 (.ref H.length) = some (.tuple [.int 0, .int 1]) := by
    rw [dataOf, g]; rfl
  refine ⟨_, e_cmp h e (t := [PyData.int 0, PyData.int 1].any fun y => PyData.eqv y (.int a)) ?_⟩
  show inV (.int a) (.ref H.length) _ = _
  unfold inV
  simp only [q]
  rfl

section
variable {G : PG} {cell deed rowis ver jinit : Nat → Fn}
theorem is_row {f : Nat → Fn} (hf : RowIsOk f) {m : M} {H : HP} {zs : List Int} {J P : Nat} {i d c p : Nat → Nat} {row : Nat → List Int} (w : Wld H zs J P i d c p row) (h1 : m 1 = some (.ref J)) (h2 : m 2 = some (.ref P)) {dd de : ED} {x : Int} {e : Nat} (he : e < 2) (hx : x = e) (hd : ∀ H, dd m H = some (.ok (.int x), H)) (j : Nat) : ∃ H', callD (f j) [itemD (varD 1) dd, itemD (varD 2) dd] m H = some (.ok (.bool true), H') ∧ Pre H H' := by
  obtain ⟨H', q, hp⟩ := hf j H (i e) (d e) (c e) (p e) (row e) (w.jd e he) (w.own e he) (w.good e he).1 (w.good e he).2
  exact ⟨H', e_call (e_cons (e_item (e_var h1) (hd H) (w.item_j he hx)) (e_cons (e_item (e_var h2) (hd H) (w.item_p he hx)) e_nil)) q, hp⟩

/-- one turn -/
theorem turn {k : Nat} {m : M} {H : HP} {zs : List Int} {J P : Nat} {i d c p : Nat → Nat} {row : Nat → List Int} (hcell : CellOk cell) (hdeed : DeedOk deed) (hrow : RowIsOk rowis) (hver : VerdictIsOk ver) (w : Wld H zs J P i d c p row) (h0 : m 0 = some (.ref 0)) (h1 : m 1 = some (.ref J)) (h2 : m 2 = some (.ref P)) {n q : Int} (h3 : m 3 = some (.int n)) (h4 : m 4 = some (.int q)) {t : Nat} (h5 : m 5 = some (.int t)) (ht : t + 1 < zs.length) : SW (g_law_08_b1 G cell deed rowis ver jinit k) m H fun r m' H' => r = .ok .next ∧ (∃ c' row', Wld H' zs J P i d c' p row') ∧ m' 0 = some (.ref 0) ∧ m' 1 = some (.ref J) ∧ m' 2 = some (.ref P) ∧ m' 3 = some (.int n) ∧ m' 4 = some (.int q) := by
  unfold g_law_08_b1
  have a0 := fmod_lo (a := zs.getD (0 : Int).toNat 0) (b := 2) (by decide)
  have b0 := fmod_hi (a := zs.getD (0 : Int).toNat 0) (b := 2) (by decide)
  have a1 := fmod_lo (a := (t : Int)) (b := 2) (by decide)
  have b1 := fmod_hi (a := (t : Int)) (b := 2) (by decide)
  refine s_set (e_bin (e_bin (e_call (e_cons (e_var h0) (e_cons e_pure e_nil)) (hcell _ _ _ _ _ w.script (by decide))) e_pure (op_mod (by decide))) (e_bin (e_var h5) e_pure (op_mod (by decide))) (op_mulR (by omega) (by omega))) ?_
  obtain ⟨e, he, hx⟩ : ∃ e : Nat, e < 2 ∧ (zs.getD (0 : Int).toNat 0).fmod 2 * (t : Int).fmod 2 = (e : Int) := by
    generalize (zs.getD (0 : Int).toNat 0).fmod 2 = x at a0 b0 ⊢
    generalize (t : Int).fmod 2 = y at a1 b1 ⊢
    rcases (show x = 0 ∨ x = 1 by omega) with rfl | rfl
    · exact ⟨0, by omega, by simp⟩
    · exact ⟨y.toNat, by omega, by omega⟩
  generalize (zs.getD (0 : Int).toNat 0).fmod 2 * (t : Int).fmod 2 = x at hx ⊢
  have u0 : upd m 6 (.int x) 0 = some (.ref 0) := by rw [upd_ne (by decide)]; exact h0
  have u1 : upd m 6 (.int x) 1 = some (.ref J) := by rw [upd_ne (by decide)]; exact h1
  have u2 : upd m 6 (.int x) 2 = some (.ref P) := by rw [upd_ne (by decide)]; exact h2
  have u3 : upd m 6 (.int x) 3 = some (.int n) := by rw [upd_ne (by decide)]; exact h3
  have u4 : upd m 6 (.int x) 4 = some (.int q) := by rw [upd_ne (by decide)]; exact h4
  have u5 : upd m 6 (.int x) 5 = some (.int t) := by rw [upd_ne (by decide)]; exact h5
  have u6 : upd m 6 (.int x) 6 = some (.int x) := upd_at
  generalize upd m 6 (.int x) = mm at u0 u1 u2 u3 u4 u5 u6 ⊢
  have nz := w.nz e he
  obtain ⟨H1, e1, hd1⟩ := hdeed (k + 27) H (i e) (d e) (c e) (p e) (row e) (zs.getD (t + 1) 0) (w.jd e he) (w.own e he) (w.good e he).1 (w.good e he).2 nz.1 nz.2 (w.pc e e he he)
  refine s_ifF (e_not (b := true) (e_truth (e_call (e_cons (e_item (e_var u1) (e_var u6) (w.item_j he hx)) (e_cons (e_item (e_var u2) (e_var u6) (w.item_p he hx)) (e_cons (e_item (e_var u0) (e_bin e_pure (e_var u5) op_add) (item_at w.script ht (by omega))) e_nil))) e1))) ?_
  obtain ⟨c', row', w1⟩ := w.deed he hd1
  obtain ⟨H2, e2, pr2⟩ := is_row hrow w1 u1 u2 (e := 0) (by omega) rfl (de := varD 0) (fun H => e_pure) (k + 39)
  have w2 := w1.pre pr2
  obtain ⟨H3, e3, pr3⟩ := is_row hrow w2 u1 u2 (e := 1) (by omega) rfl (de := varD 0) (fun H => e_pure) (k + 38)
  have w3 := w2.pre pr3
  refine s_ifF (e_orF (e_not (b := true) (e_truth e2)) (e_orF (e_not (b := true) (e_truth e3)) e_allT0)) ?_
  obtain ⟨b, eb⟩ := in_pair (m := mm) (H := H3) (d := binD .Sub (varD 5) (varD 4)) (e_bin (e_var u5) (e_var u4) op_sub)
  have w4 : Wld (H3 ++ [.tup [.int 0, .int 1]]) zs J P i d c' p row' := w3.pre Pre.refl.app
  cases b with
  | false => exact s_ifF (e_aaF eb) (s_next ⟨rfl, ⟨c', row', w4⟩, u0, u1, u2, u3, u4⟩)
  | true =>
    obtain ⟨H5, e5, pr5⟩ := is_row (f := ver) hver w4 u1 u2 he hx (de := varD 0) (fun H => e_var u6) (k + 2)
    exact s_ifF (e_aaT eb (e_aaF (e_not (b := true) (e_truth e5)))) (s_next ⟨rfl, ⟨c', row', w4.pre pr5⟩, u0, u1, u2, u3, u4⟩)

theorem law08_ok (hcell : CellOk cell) (hdeed : DeedOk deed) (hrow : RowIsOk rowis) (hver : VerdictIsOk ver) (hjinit : JinitOk jinit) (k : Nat) (zs : List Int) : ∃ H', fnD 1 [0] (g_law_08 G cell deed rowis ver jinit k) [.ref 0] [.list (zs.map .int)] = some (.ok (.bool true), H') := by
  suffices h : SW (g_law_08 G cell deed rowis ver jinit k) (argM [0] [.ref 0]) [.list (zs.map .int)] fun r _ H1 => ∃ v, r = .ok (.ret v) ∧ v = .bool true by
    obtain ⟨v, H', e, rfl⟩ := fnE rfl h
    exact ⟨H', e⟩
  unfold g_law_08
  have n1 : newJ (jinit (k + 64)) (argM [0] [.ref 0]) [.list (zs.map .int)] = some (.ok (.ref 2), [.list (zs.map .int), .ns (some (.ref 3)), .inst 1, .list [.int 1]]) := e_newJ (hjinit (k + 64) _ 2 1 rfl rfl (by decide))
  have n2 : newJ (jinit (k + 63)) (argM [0] [.ref 0]) [.list (zs.map .int), .ns (some (.ref 3)), .inst 1, .list [.int 1]] = some (.ok (.ref 5), [.list (zs.map .int), .ns (some (.ref 3)), .inst 1, .list [.int 1], .ns (some (.ref 6)), .inst 4, .list [.int 1]]) := e_newJ (hjinit (k + 63) _ 5 4 rfl rfl (by decide))
  refine s_set (e_mkList (e_cons n1 (e_cons n2 e_nil)) (by simp)) ?_
  have n3 : ∀ m : M, mkListD [mkListD [pureD (.int 1)], mkListD [pureD (.int 1)]] m ([PO.list (zs.map .int), .ns (some (.ref 3)), .inst 1, .list [.int 1], .ns (some (.ref 6)), .inst 4, .list [.int 1]] ++ [PO.list [.ref 2, .ref 5]]) = some (.ok (.ref 10), [PO.list (zs.map .int), .ns (some (.ref 3)), .inst 1, .list [.int 1], .ns (some (.ref 6)), .inst 4, .list [.int 1]] ++ [PO.list [.ref 2, .ref 5]] ++ [PO.list [.int 1]] ++ [PO.list [.int 1]] ++ [PO.list [.ref 8, .ref 9]]) := fun m => e_mkList (e_cons (e_mkList (e_cons e_pure e_nil) (by simp)) (e_cons (e_mkList (e_cons e_pure e_nil) (by simp)) e_nil)) (by simp)
  refine s_set (n3 _) ?_
  have w : Wld ([PO.list (zs.map .int), .ns (some (.ref 3)), .inst 1, .list [.int 1], .ns (some (.ref 6)), .inst 4, .list [.int 1]] ++ [PO.list [.ref 2, .ref 5]] ++ [PO.list [.int 1]] ++ [PO.list [.int 1]] ++ [PO.list [.ref 8, .ref 9]]) zs 7 10 (fun b => if b = 0 then 2 else 5) (fun b => if b = 0 then 1 else 4) (fun b => if b = 0 then 3 else 6) (fun b => if b = 0 then 8 else 9) (fun _ => [1]) := by
    have hR : Row [1] := ⟨by simp, rfl, by simp, fun x hx => by simp at hx; subst hx; decide⟩
    refine ⟨rfl, rfl, rfl, fun b hb => ?_, fun b hb => ?_, fun b hb => ⟨hR, by simp⟩, fun b hb => ?_, fun b b' hb hb' => ?_, by decide, by decide⟩
    · rcases (show b = 0 ∨ b = 1 by omega) with rfl | rfl <;> exact ⟨rfl, rfl, rfl⟩
    · rcases (show b = 0 ∨ b = 1 by omega) with rfl | rfl <;> rfl
    · rcases (show b = 0 ∨ b = 1 by omega) with rfl | rfl <;> decide
    · rcases (show b = 0 ∨ b = 1 by omega) with rfl | rfl <;> rcases (show b' = 0 ∨ b' = 1 by omega) with rfl | rfl <;> decide
  generalize hmm : upd (upd (argM [0] [.ref 0]) 1 (.ref _)) 2 (.ref _) = mm
  have m0 : mm 0 = some (.ref 0) := by rw [← hmm]; rfl
  have m1 : mm 1 = some (.ref 7) := by rw [← hmm]; rfl
  have m2 : mm 2 = some (.ref 10) := by rw [← hmm]; rfl
  clear hmm n1 n2 n3
  revert w
  generalize ([PO.list (zs.map .int), .ns (some (.ref 3)), .inst 1, .list [.int 1], .ns (some (.ref 6)), .inst 4, .list [.int 1]] ++ [PO.list [.ref 2, .ref 5]] ++ [PO.list [.int 1]] ++ [PO.list [.int 1]] ++ [PO.list [.ref 8, .ref 9]]) = H
  generalize (fun b : Nat => if b = 0 then 2 else 5) = i
  generalize (fun b : Nat => if b = 0 then 1 else 4) = d
  generalize (fun b : Nat => if b = 0 then 3 else 6) = c
  generalize (fun b : Nat => if b = 0 then 8 else 9) = p
  generalize (fun _ : Nat => [(1 : Int)]) = row
  intro w
  have hmax : biV .max [.int 0, .int ((zs.length : Int) - 1)] H = some (.int (if (0 : Int) < (zs.length : Int) - 1 then (zs.length : Int) - 1 else 0), H) := rfl
  generalize hM : (if (0 : Int) < (zs.length : Int) - 1 then (zs.length : Int) - 1 else 0) = mx at hmax
  have hmin : biV .min [.int 62, .int mx] H = some (.int (if mx < 62 then mx else 62), H) := rfl
  generalize hN : (if mx < 62 then mx else 62) = n at hmin
  have hn : 0 ≤ n ∧ n ≤ 62 ∧ (n : Int) ≤ zs.length - 1 ∨ n = 0 := by
    split at hM <;> split at hN <;> omega
  have hn0 : 0 ≤ n ∧ n ≤ 62 := by omega
  refine s_set (e_bi (e_cons e_pure (e_cons (e_bi (e_cons e_pure (e_cons (e_bin (e_bi (e_cons (e_var m0) e_nil) (len_ints w.script)) e_pure op_sub) e_nil)) hmax) e_nil)) hmin) ?_
  have u0 : upd mm 3 (.int n) 0 = some (.ref 0) := by rw [upd_ne (by decide)]; exact m0
  have u1 : upd mm 3 (.int n) 1 = some (.ref 7) := by rw [upd_ne (by decide)]; exact m1
  have u2 : upd mm 3 (.int n) 2 = some (.ref 10) := by rw [upd_ne (by decide)]; exact m2
  have u3 : upd mm 3 (.int n) 3 = some (.int n) := upd_at
  generalize upd mm 3 (.int n) = m3 at u0 u1 u2 u3 ⊢
  refine s_set (e_bin (e_bin (e_call (e_cons (e_var u0) (e_cons e_pure e_nil)) (hcell _ _ _ _ _ w.script (by decide))) e_pure (op_fdiv (by decide) (by decide))) (e_bin (e_var u3) e_pure op_add) (op_mod (by omega))) ?_
  generalize ((zs.getD (0 : Int).toNat 0).fdiv 2).fmod (n + 1) = q
  have v0 : upd m3 4 (.int q) 0 = some (.ref 0) := by rw [upd_ne (by decide)]; exact u0
  have v1 : upd m3 4 (.int q) 1 = some (.ref 7) := by rw [upd_ne (by decide)]; exact u1
  have v2 : upd m3 4 (.int q) 2 = some (.ref 10) := by rw [upd_ne (by decide)]; exact u2
  have v3 : upd m3 4 (.int q) 3 = some (.int n) := by rw [upd_ne (by decide)]; exact u3
  have v4 : upd m3 4 (.int q) 4 = some (.int q) := upd_at
  generalize upd m3 4 (.int q) = m4 at v0 v1 v2 v3 v4 ⊢
  refine sw_seq.mpr (sw_forRange (e_range1 (e_var v3) (by omega) (by omega))
    (fun t m H' => (∃ c' row', Wld H' zs 7 10 i d c' p row') ∧ m 0 = some (.ref 0) ∧ m 1 = some (.ref 7) ∧ m 2 = some (.ref 10) ∧ m 3 = some (.int n) ∧ m 4 = some (.int q)) (fun _ _ _ => False) ⟨⟨c, row, w⟩, v0, v1, v2, v3, v4⟩ (fun t m H' ht hP => ?_) (fun m' H' hP => ?_) (fun _ _ _ _ h => h.elim))
  · obtain ⟨⟨c', row', w'⟩, p0, p1, p2, p3, p4⟩ := hP
    rw [show (0 : Int) + (t : Int) * 1 = (t : Int) by omega]
    refine (turn (n := n) (q := q) (t := t) hcell hdeed hrow hver w' (by rw [upd_ne (by decide)]; exact p0) (by rw [upd_ne (by decide)]; exact p1) (by rw [upd_ne (by decide)]; exact p2) (by rw [upd_ne (by decide)]; exact p3) (by rw [upd_ne (by decide)]; exact p4) upd_at (by omega)).mono fun r m' H' hq => ?_
    exact .inl ⟨hq.1, hq.2⟩
  · obtain ⟨⟨c', row', w'⟩, p0, p1, p2, p3, p4⟩ := hP
    obtain ⟨H2, e2, pr2⟩ := is_row hrow w' p1 p2 (e := 0) (by omega) rfl (de := varD 0) (fun H => e_pure) (k + 42)
    have w2 := w'.pre pr2
    obtain ⟨H3, e3, pr3⟩ := is_row (f := ver) hver w2 p1 p2 (e := 1) (by omega) rfl (de := varD 0) (fun H => e_pure) (k + 6)
    have w3 := w2.pre pr3
    obtain ⟨H4, e4, pr4⟩ := is_row (f := ver) hver w3 p1 p2 (e := 0) (by omega) rfl (de := varD 0) (fun H => e_pure) (k + 10)
    refine s_ifF (e_orF (e_not (b := true) (e_truth e2)) (e_orF (e_not (b := true) (e_truth e3)) e_allT0)) ?_
    exact s_ret e4 ⟨_, rfl, rfl⟩
end
end Mine

open PySem PySem.W PyProof.Rows
namespace Mine
noncomputable def clL : List (Str × Addr) := [("CoinError", 24), ("NoRow", 37), ("NoWay", 49), ("NoAmount", 61), ("TooGreat", 73), ("NoText", 85)]
noncomputable def qL : Program := qOf PySem.Challenge.rw_uf060014_08.row.prog
noncomputable def lsL : List Str := ["MOST", "GREATEST", "MOST_AMOUNT"]
noncomputable def jsL : List JF := jfsOf PySem.Challenge.rw_uf060014_08.row.prog [155, 162, 169, 176, 183]
noncomputable def jOf (G : PG) (x : Str) : FnI := match G.jd.lookup x with | some q => q.2 | none => ⟨[], default, []⟩
noncomputable def G08 : PG := ⟨fnsOf (recsOf qL), [("MOST", .int 12), ("GREATEST", .int (10 ^ 60)), ("MOST_AMOUNT", .int (10 ^ 80))], clssL, jdOf jsL⟩
noncomputable def dLaw : DefRec := dOf qL "law"
theorem hd_said : PySem.Challenge.rw_uf060014_08.wellSaid = true := by kernel_rfl
theorem hd_open : opening PySem.Challenge.rw_uf060014_08.row.prog = plainProg PySem.Challenge.rw_uf060014_08.row.prog.main.scope.names := by kernel_rfl
theorem hd_fence (s : Shared) : fenceModules? PySem.Challenge.rw_uf060014_08.row.prog s = some s := by kernel_rfl
theorem hd_run (w : World) (os : OsState) : (topFrom treeTable PySem.Challenge.rw_uf060014_08.row.prog w 3800 ⟨boot_heap w.params, Array.mk [], boot_drawn, boot_toks, os⟩).map (fun s => ((openSeen qL lsL (importedModules PySem.Challenge.rw_uf060014_08.row.prog.main.body) (fun s => xlAt qL [] s && recOk (RowW.records PySem.Challenge.rw_uf060014_08.row.toRowW) s) true s, headObsJ qL clL G08 186 jsL s), fnsIn (fragAt (asJ clL 186 jsL) s.heap) jsL)) = some ((openGood qL lsL, true), fnGood jsL) := by
  unfold topFrom
  rw [PySem.W.Fast.te14082659384304107361, PySem.W.Fast.te14364793385576792824, PySem.W.Fast.te4187177175401517315]
  kernel_rfl
theorem hd_ok : (chainsOk qL && opensWell PySem.Challenge.rw_uf060014_08.row.prog && (frees PySem.Challenge.rw_uf060014_08.row.toRowW && PySem.Challenge.rw_uf060014_08.row.within.isEmpty)) = true := by kernel_rfl
theorem hd_bare : PySem.Challenge.rw_uf060014_08.row.prog.bare := ⟨rfl, rfl, rfl, rfl, rfl, by decide +kernel⟩
theorem hd_w : PySem.Challenge.rw_uf060014_08.row.toRowW.promised := by w_witness2
theorem hd_def : defOf qL PySem.Challenge.rw_uf060014_08.row.name = some (dLaw, []) := by kernel_rfl
theorem hd_the : PySem.Challenge.rw_uf060014_08.row.prog.theDef PySem.Challenge.rw_uf060014_08.row.name = some (dLaw.params, dLaw.body, dLaw.scope) := by kernel_rfl
theorem hd_kw : kwWritten? dLaw.params.kwonlyargs dLaw.params.kw_defaults = some [] := by kernel_rfl
noncomputable def p_good_row : Nat → Fn := fun j => fnDen G08 (j + 15) false (fOf G08 "good_row")
noncomputable def p_worth : Nat → Fn := fun j => fnDen G08 (j + 15) false (fOf G08 "worth")
noncomputable def p_pieces : Nat → Fn := fun j => fnDen G08 (j + 10) false (fOf G08 "pieces")
noncomputable def p_need_amount : Nat → Fn := fun j => fnDen G08 (j + 10) false (fOf G08 "need_amount")
noncomputable def p_first_way : Nat → Fn := fun j => fnDen G08 (j + 15) false (fOf G08 "first_way")
noncomputable def p_trial : Nat → Fn := fun j => fnDen G08 (j + 20) false (fOf G08 "trial")
noncomputable def p_trials : Nat → Fn := fun j => fnDen G08 (j + 30) false (fOf G08 "trials")
noncomputable def p_judged : Nat → Fn := fun j => fnDen G08 (j + 40) false (fOf G08 "judged")
noncomputable def p_jinit : Nat → Fn := fun j => fnDen G08 (j + 10) false (jOf G08 "__init__")
noncomputable def p_jrow : Nat → Fn := fun j => fnDen G08 (j + 10) false (jOf G08 "row")
noncomputable def p_jmore : Nat → Fn := fun j => fnDen G08 (j + 20) false (jOf G08 "more")
noncomputable def p_jfewer : Nat → Fn := fun j => fnDen G08 (j + 10) false (jOf G08 "fewer")
noncomputable def p_jverdict : Nat → Fn := fun j => fnDen G08 (j + 45) false (jOf G08 "verdict")
noncomputable def p__law_whole : Nat → Fn := fun j => fnDen G08 (j + 10) false (fOf G08 "_law_whole")
noncomputable def p__law_cell_at : Nat → Fn := fun j => fnDen G08 (j + 10) false (fOf G08 "_law_cell_at")
noncomputable def p__law_coin_by : Nat → Fn := fun j => fnDen G08 (j + 15) false (fOf G08 "_law_coin_by")
noncomputable def p__law_put : Nat → Fn := fun j => fnDen G08 (j + 30) false (fOf G08 "_law_put")
noncomputable def p__law_kinds : Nat → Fn := fun j => fnDen G08 (j + 10) false (fOf G08 "_law_kinds")
noncomputable def p__law_put_refused : Nat → Fn := fun j => fnDen G08 (j + 30) false (fOf G08 "_law_put_refused")
noncomputable def p__law_off_refused : Nat → Fn := fun j => fnDen G08 (j + 20) false (fOf G08 "_law_off_refused")
noncomputable def p__law_deed : Nat → Fn := fun j => fnDen G08 (j + 40) false (fOf G08 "_law_deed")
noncomputable def p__law_row_is : Nat → Fn := fun j => fnDen G08 (j + 25) false (fOf G08 "_law_row_is")
noncomputable def p__law_verdict_is : Nat → Fn := fun j => fnDen G08 (j + 60) false (fOf G08 "_law_verdict_is")
noncomputable def p_law : Nat → Fn := fun j => fnDen G08 (j + 80) false (fOf G08 "law")
noncomputable def p__law_kindsH : Nat → Fn := fun j => fnDen G08 (j + 10) true (fOf G08 "_law_kinds")
theorem s_good_row (k : Nat) : p_good_row k = fnD 1 [0] (g_good_row G08  k) := by kernel_rfl
theorem s_worth (k : Nat) : p_worth k = fnD 2 [0, 1] (g_worth G08  k) := by kernel_rfl
theorem s_pieces (k : Nat) : p_pieces k = fnD 1 [0] (g_pieces G08  k) := by kernel_rfl
theorem s_need_amount (k : Nat) : p_need_amount k = fnD 1 [0] (g_need_amount G08  k) := by kernel_rfl
theorem s_first_way (k : Nat) : p_first_way k = fnD 2 [0, 1] (g_first_way G08 p_need_amount k) := by kernel_rfl
theorem s_trial (k : Nat) : p_trial k = fnD 3 [0, 1, 2] (g_trial G08 p_first_way k) := by kernel_rfl
theorem s_trials (k : Nat) : p_trials k = fnD 1 [0] (g_trials G08 p_trial p_worth k) := by kernel_rfl
theorem s_judged (k : Nat) : p_judged k = fnD 1 [0] (g_judged G08 p_first_way p_pieces p_trials k) := by kernel_rfl
theorem s_jinit (k : Nat) : p_jinit k = fnD 1 [0] (g_jinit G08  k) := by kernel_rfl
theorem s_jrow (k : Nat) : p_jrow k = fnD 1 [0] (g_jrow G08  k) := by kernel_rfl
theorem s_jmore (k : Nat) : p_jmore k = fnD 2 [0, 1] (g_jmore G08 p_good_row k) := by kernel_rfl
theorem s_jfewer (k : Nat) : p_jfewer k = fnD 1 [0] (g_jfewer G08  k) := by kernel_rfl
theorem s_jverdict (k : Nat) : p_jverdict k = fnD 1 [0] (g_jverdict G08 p_judged k) := by kernel_rfl
theorem s__law_whole (k : Nat) : p__law_whole k = fnD 1 [0] (g__law_whole G08  k) := by kernel_rfl
theorem s__law_cell_at (k : Nat) : p__law_cell_at k = fnD 2 [0, 1] (g__law_cell_at G08  k) := by kernel_rfl
theorem s__law_coin_by (k : Nat) : p__law_coin_by k = fnD 2 [0, 1] (g__law_coin_by G08  k) := by kernel_rfl
theorem s__law_put (k : Nat) : p__law_put k = fnD 2 [0, 1] (g__law_put G08 p_jmore k) := by kernel_rfl
theorem s__law_kinds (k : Nat) : p__law_kinds k = fnD 1 [0] (g__law_kinds G08  k) := by kernel_rfl
theorem s__law_put_refused (k : Nat) : p__law_put_refused k = fnD 2 [0, 1] (g__law_put_refused G08 p__law_kindsH p_jmore k) := by kernel_rfl
theorem s__law_off_refused (k : Nat) : p__law_off_refused k = fnD 1 [0] (g__law_off_refused G08 p_jfewer k) := by kernel_rfl
theorem s__law_deed (k : Nat) : p__law_deed k = fnD 3 [0, 1, 2] (g__law_deed G08 p__law_coin_by p__law_off_refused p__law_put p__law_put_refused p__law_whole p_jfewer k) := by kernel_rfl
theorem s__law_row_is (k : Nat) : p__law_row_is k = fnD 2 [0, 1] (g__law_row_is G08 p__law_whole p_jrow k) := by kernel_rfl
theorem s__law_verdict_is (k : Nat) : p__law_verdict_is k = fnD 2 [0, 1] (g__law_verdict_is G08 p_judged p_jverdict k) := by kernel_rfl
theorem s_law (k : Nat) : p_law k = fnD 1 [0] (g_law_08 G08 p__law_cell_at p__law_deed p__law_row_is p__law_verdict_is p_jinit k) := by kernel_rfl
theorem s__law_kindsH (k : Nat) : p__law_kindsH k = fnD 1 [0] (g__law_kindsH G08  k) := by kernel_rfl
theorem ck1 : (recsOf qL).all fnCheck = true := by kernel_rfl
theorem ck3 : biNames.all (fun x => !startupNames.contains x && !(looseW qL lsL).contains x && !((recsOf qL).map (·.name)).contains x && !((litsOf qL).map (·.1)).contains x && !((clssOf qL (looseW qL lsL)).map (·.name)).contains x) = true := by kernel_rfl
theorem ckLaw : G08.fns.lookup ("law" : Str) = some (fOf G08 "law") := by kernel_rfl
theorem ckName : dLaw.name = "law" := by kernel_rfl

theorem ok_cell : CellOk p__law_cell_at := fun j i zs H c h h0 => by rw [s__law_cell_at]; exact cell_at_ok j h h0
theorem ok_whole : WholeOk p__law_whole := fun n H a => by rw [s__law_whole]; exact whole_ok n
theorem ok_need : NeedOk p_need_amount := fun j H a => by rw [s_need_amount]; exact need_ok rfl j
theorem ok_first : FirstOk p_first_way := fun j H i row a h1 h2 h3 => by rw [s_first_way]; exact first_ok ok_need j h1 h2 h3
theorem ok_trial : TrialOk p_trial := fun j H i row h l h1 h2 h3 => by rw [s_trial]; exact trial_ok ok_first j h1 h2 h3
theorem ok_worth : WorthOk p_worth := fun n H i j row way h1 h2 h3 h4 h5 => by rw [s_worth]; exact worth_ok n h1 h2 h3 h4 h5
theorem ok_sum : SumOk p_pieces := fun n H i zs h => by rw [s_pieces]; exact pieces_ok n h
theorem ok_trials : TrialsOk p_trials := fun j H i row h1 h2 h3 => by rw [s_trials]; exact trials_ok ok_trial ok_worth j h1 h2 h3
theorem ok_judged : JudgedOk p_judged := fun j H i row h1 h2 h3 => by rw [s_judged]; exact judged_ok ok_first ok_sum ok_trials j h1 h2 h3
theorem ok_gr : GoodRowOk p_good_row := fun j H i zs h => by rw [s_good_row]; exact good_row_ok rfl rfl j h
theorem ok_kinds : KindsOk p__law_kindsH := fun n H e c he hc => by rw [s__law_kindsH]; exact kinds_ok rfl n he hc
theorem ok_jinit : JinitOk p_jinit := fun j H i d h1 h2 h3 => by rw [s_jinit]; exact jinit_ok j h1 h2 h3
theorem ok_jrow : JrowOk p_jrow := fun j H i d c row h => by rw [s_jrow]; exact jrow_ok j h
theorem ok_jmore : JmoreOk p_jmore := fun j H i d c row z h1 h2 h3 => by rw [s_jmore]; exact jmore_ok ok_gr j h1 h2 h3
theorem ok_jfewer : JfewerOk p_jfewer := fun j H i d c row h1 h2 h3 => by rw [s_jfewer]; exact jfewer_ok j h1 h2 h3
theorem ok_jverdict : JverdictOk p_jverdict := fun j H i d c row h1 h2 h3 => by rw [s_jverdict]; exact jverdict_ok ok_judged j h1 h2 h3
theorem ok_coinby : CoinByOk p__law_coin_by := fun j H l n h => by rw [s__law_coin_by]; exact coin_by_ok j h
theorem ok_put : PutOk p__law_put := fun j H i d c row z h1 h2 h3 h4 => by rw [s__law_put]; exact put_ok ok_jmore j h1 h2 h3 h4
theorem ok_putref : PutRefOk p__law_put_refused := fun j H i d c row z h1 h2 h3 h4 => by rw [s__law_put_refused]; exact put_ref_ok rfl ok_kinds ok_jmore j h1 h2 h3 h4
theorem ok_offref : OffRefOk p__law_off_refused := fun j H i d c row h1 h2 h3 => by rw [s__law_off_refused]; exact off_ref_ok rfl ok_jfewer j h1 h2 h3
theorem ok_deed : DeedOk p__law_deed := fun j H i d c p row n h1 h2 h3 h4 h5 h6 h7 => by rw [s__law_deed]; exact deed_ok ok_coinby ok_offref ok_put ok_putref ok_whole ok_jfewer j h1 h2 h3 h4 h5 h6 h7
theorem ok_rowis : RowIsOk p__law_row_is := fun j H i d c p row h1 h2 h3 h4 => by rw [s__law_row_is]; exact row_is_ok ok_whole ok_jrow j h1 h2 h3 h4
theorem ok_verdictis : VerdictIsOk p__law_verdict_is := fun j H i d c p row h1 h2 h3 h4 => by rw [s__law_verdict_is]; exact verdict_is_ok ok_judged ok_jverdict j h1 h2 h3 h4
theorem pure08 (zs : List Int) (hz : zs.length ≤ 63) (hb : ∀ z ∈ zs, z.natAbs < 2 ^ 1100000) : ∃ H', fnDen G08 (299 + 1) false (fOf G08 "law") [.ref 0] [.list (zs.map .int)] = some (.ok (.bool true), H') := by
  have := law08_ok (G := G08) ok_cell ok_deed ok_rowis ok_verdictis ok_jinit 220 zs
  rw [← s_law] at this
  exact this
end Mine
theorem PySem.Challenge.cw_uf060014_08_holds : PySem.Challenge.rw_uf060014_08.Holds := by
  refine Mine.head_openJ (q := Mine.qL) (loose := Mine.lsL) (cl := Mine.clL) (G := Mine.G08) (jc := 186) (js := Mine.jsL) (d := Mine.dLaw) Mine.hd_said rfl Mine.hd_open Mine.hd_fence Mine.hd_run Mine.hd_def Mine.hd_the Mine.hd_kw rfl Mine.hd_ok Mine.hd_bare Mine.hd_w ?_
  intro w s₀ s₁ mg mb G Y fa o pm cd doc dV kV ho hd hcd hD hmg hg args vals as hpre hlay hrd hwl hlo
  obtain ⟨K, KX, c1, c2, c3, c4⟩ := Y
  refine Ground.open G ?_
  intro T B D TE TW
  have Z : Mine.Glo ⟨PySem.Challenge.rw_uf060014_08.row.prog, w, s₁.heap, mg, mb, fun x => Mine.clL.lookup x⟩ Mine.G08 := Mine.glo_of T KX rfl Mine.ck1 c1 Mine.ck3 c2 (Mine.jdOk_of T.g KX c3 c4)
  rw [Mine.ckName] at hmg
  exact Mine.law_final (l := PySem.Challenge.rw_uf060014_08) rfl rfl Z (n := 299) (fi := Mine.fOf Mine.G08 "law") Mine.ckLaw (by decide) hmg hg hpre hlay hwl Mine.pure08
