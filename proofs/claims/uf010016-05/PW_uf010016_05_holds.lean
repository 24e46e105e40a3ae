import PyProof.Rows.All
import Wide.All
import OpenK.AllK
import Wide.FinOn
import PySem.Eval
import PyProof.P3Statements
import PyProof.ReprReads
import PyProof.Cells
import PyProof.Seq
import PyProof.Rows.Nodes
import PyProof.Rows.Chain
import PyProof.Rows.TupSub
import PyProof.Rows.StrTemp
import PyProof.Rows.Exc
import PyProof.CallRoads
import PyProof.SliceSyntax
import PyProof.Rows.RuleB_small
import PyProof.Rows.RuleB_floordiv
import PyProof.Rows.RuleB_mod
import PyProof.Rows.RuleB_mul
import PyProof.Rows.RuleU_int
import PyProof.Rows.RuleN_isinstance
import PyProof.Rows.IntRules
import PyProof.Rows.StrRules
import PyProof.Rows.TupMore
import PyProof.Rows.Lst
import PyProof.ListOps
import PyProof.TupleOps
import PyProof.TupleIter
import PyProof.ListIndexNeg
import PyProof.ListTruth
import PyProof.Truth
import PyProof.Rows.FactsC_int_ge
import PyProof.Rows.FactsC_int_le
import PyProof.NeData
import PyProof.EqAt
import PyProof.ConsumeWalk
import PyProof.TupleOfSeq
import PyProof.WalkInts
import PyProof.ListCopy
import PyProof.Conv_int_bool
import PyProof.PlainList
import PyProof.Rows.RuleC_int
import PyProof.IsRules
import PyProof.P3In
import PyProof.ReprRoads
import PyProof.CallFns
import PyProof.IsiPairs
import PyProof.IsiHeapPairs
import PyProof.IsiNone
import PyProof.ForAppend
import PyProof.SliceList
import KE.KSliceW
import KE.KRevSl
import PyProof.RangeFor
import PyProof.CompFree
import KE.KRevIter
import PyProof.ZipIter
import KE.KPairComp
import KE.KItem
import OpenK.KLine
import PyProof.Rows.Top
import PyProof.Rows.TupIn
import Wide.BridgeG
import PyProof.ReprLen
import PySem.Challenge.RW_uf010016_05
set_option Elab.async false
/- The abstract layer: values, heaps, a small tree language, its weakest preconditions. -/
namespace Mine
open PySem

inductive Ty where
  | int | bool | str | tuple | list | range | reversed | zip

noncomputable def Ty.name : Ty → String
  | .int => "int" | .bool => "bool" | .str => "str" | .tuple => "tuple" | .list => "list" | .range => "range" | .reversed => "reversed" | .zip => "zip"
inductive Bi where
  | len | isinstance | all | max | min | repr

noncomputable def Bi.name : Bi → String
  | .len => "len" | .isinstance => "isinstance" | .all => "all" | .max => "max" | .min => "min" | .repr => "repr"
inductive Mt where
  | append | clear | index | pop

noncomputable def Mt.name : Mt → Str
  | .append => "append" | .clear => "clear" | .index => "index" | .pop => "pop"

inductive V where
  | none
  | bool (b : Bool)
  | int (i : Int)
  | str (s : Str)
  | opq (s : Str)
  | tup (l : List V)
  | ref (i : Nat)
  | fn (x : Str)
  | ty (n : Ty)
  | bi (n : Bi)
  | scr (ns : List Int)


inductive O where
  | list (xs : List V)

noncomputable abbrev Hp := List O
noncomputable abbrev Lc := List (Option V)
structure Exc where
  cls : Str

inductive SrcK where
  | val | range | rev | zip

inductive IE where
  | lit (v : V)
  | loc (i : Nat)
  | bin (op : Operator) (a b : IE)
  | neg (a : IE)
  | not (a : IE)
  | and (a b : IE)
  | or (a b : IE)
  | cmp (a : IE) (op : CmpOp) (b : IE)
  | cmp2 (a : IE) (op : CmpOp) (b : IE) (op' : CmpOp) (c : IE)
  | ite (t a b : IE)
  | tup (es : List IE)
  | lst (es : List IE)
  | call (f : V) (args : List IE)
  | meth (o : IE) (name : Mt) (args : List IE)
  | sub (o i : IE)
  | slice (o : IE) (lo hi : Option IE)
  | rev (o : IE)
  | comp (elt : IE) (vars : List Nat) (k : SrcK) (srcs : List IE) (ifs : List IE)

inductive IS where
  | expr (e : IE)
  | assign (i : Nat) (e : IE)
  | setItem (o k v : IE)
  | ret (e : IE)
  | retNone
  | ite (t : IE) (a b : List IS)
  | while (t : IE) (b : List IS)
  | for (vars : List Nat) (k : SrcK) (srcs : List IE) (b : List IS)
  | pass
  | brk
  | cont

inductive Fl where
  | next | brk | cont
  | ret (v : V)

/- pure helpers -/
noncomputable def idx {α : Type} (l : List α) (k : Int) : Option α :=
  if 0 ≤ k then l[k.toNat]? else if 0 ≤ k + (l.length : Int) then l[(k + (l.length : Int)).toNat]? else none

noncomputable def clampI (n : Nat) (k : Int) : Nat := if 0 ≤ k then min k.toNat n else (k + (n : Int)).toNat
noncomputable def sliceL {α : Type} (l : List α) (lo hi : Option Int) : List α :=
  let a := match lo with | some k => clampI l.length k | none => 0
  let b := match hi with | some k => clampI l.length k | none => l.length
  (l.drop a).take (b - a)

mutual
noncomputable def toPy : V → Option PyData
  | .none => some .none
  | .bool b => some (.bool b)
  | .int i => some (.int i)
  | .str x => some (.str x)
  | .tup l => (toPys l).map .tuple
  | _ => none
noncomputable def toPys : List V → Option (List PyData)
  | [] => some []
  | v :: r => match toPy v, toPys r with
    | some d, some ds => some (d :: ds)
    | _, _ => none
end

noncomputable def listAt (H : Hp) (i : Nat) : Option (List V) := match H[i]? with
  | some (.list xs) => some xs
  | _ => none

noncomputable def truthV (H : Hp) : V → Option Bool
  | .none => some false
  | .bool b => some b
  | .int i => some (decide (i ≠ 0))
  | .str s => some (s.length != 0)
  | .tup l => some (!l.isEmpty)
  | .ref i => (listAt H i).map fun l => !l.isEmpty
  | _ => none

noncomputable def toPyH (H : Hp) : V → Option PyData
  | .ref i => ((listAt H i).bind toPys).map .list
  | v => toPy v

mutual
noncomputable def toPyT (H : Hp) : V → Option PyData
  | .none => some .none
  | .bool b => some (.bool b)
  | .int i => some (.int i)
  | .str x => some (.str x)
  | .ref i => ((listAt H i).bind toPys).map .list
  | .tup l => (toPysT H l).map .tuple
  | _ => none
noncomputable def toPysT (H : Hp) : List V → Option (List PyData)
  | [] => some []
  | v :: r => match toPyT H v, toPysT H r with
    | some d, some ds => some (d :: ds)
    | _, _ => none
end

noncomputable def eqH (H : Hp) (a b : V) : Option Bool :=
  match toPyH H a, toPyH H b with
  | some d, some e => if d.depth ≤ 60 then some (PyData.eqv d e) else none
  | _, _ => none

noncomputable def memV (x : V) (l : List V) : Option Bool :=
  match toPy x, toPys l with
  | some d, some ds => if d.depth ≤ 60 then some (ds.any fun e => PyData.eqv e d) else none
  | _, _ => none

/- what is worked out by unfolding -/
noncomputable def oK {α : Type} (t : Option α) (P : α → Prop) : Prop := match t with | some v => P v | none => False
theorem oK_elim {α : Type} {t : Option α} {P : α → Prop} (h : oK t P) : ∃ v, t = some v ∧ P v := by cases t with | some v => exact ⟨v, rfl, h⟩ | none => exact h.elim
noncomputable def oKK {α : Type} (t : Option (Option α)) (P : α → Prop) : Prop := match t with | some (some v) => P v | _ => False
theorem oKK_elim {α : Type} {t : Option (Option α)} {P : α → Prop} (h : oKK t P) : ∃ v, t = some (some v) ∧ P v := by
  cases t with
  | none => exact h.elim
  | some u => cases u with | some v => exact ⟨v, rfl, h⟩ | none => exact h.elim
noncomputable def tX (H : Hp) (v : V) (P : Bool → Prop) : Prop := match v with | .bool b => P b | v => oK (truthV H v) P
theorem tX_elim {H : Hp} {v : V} {P : Bool → Prop} (h : tX H v P) : ∃ c, truthV H v = some c ∧ P c := by
  cases v with
  | bool b => exact ⟨b, rfl, h⟩
  | _ => exact oK_elim h

/- primitive operations as transformers -/
noncomputable def pBin (op : Operator) (a b : V) (H : Hp) (Q : V → Hp → Prop) : Prop :=
  match op, a, b with
  | .Add, .int i, .int j => Q (.int (i + j)) H
  | .Sub, .int i, .int j => Q (.int (i - j)) H
  | .Mult, .int i, .int j => ((-(2 ^ 64) < i ∧ i < 2 ^ 64) ∨ (-(2 ^ 64) < j ∧ j < 2 ^ 64)) ∧ Q (.int (i * j)) H
  | .FloorDiv, .int i, .int j => (0 < j ∧ j < 2 ^ 128) ∧ Q (.int (i / j)) H
  | .Mod, .int i, .int j => (0 < j ∧ j < 2 ^ 128) ∧ Q (.int (i % j)) H
  | .Pow, .int i, .int j => (0 ≤ j ∧ j ≤ 1000000 ∧ i.natAbs < 2 ^ 64) ∧ Q (.int (i ^ j.toNat)) H
  | .Add, .str x, .str y => x.length + y.length ≤ 1000000 ∧ Q (.str (x ++ y)) H
  | .Add, .tup x, .tup y => x.length + y.length ≤ 1000000 ∧ Q (.tup (x ++ y)) H
  | .Add, .ref i, .ref j => oK (listAt H i) fun xs => oK (listAt H j) fun ys => xs.length + ys.length ≤ 1000000 ∧ Q (.ref H.length) (H ++ [.list (xs ++ ys)])
  | _, _, _ => False

noncomputable def isNoneV : V → Bool
  | .none => true
  | _ => false

noncomputable def pCmp (op : CmpOp) (a b : V) (H : Hp) (Q : V → Hp → Prop) : Prop :=
  match op with
  | .Eq => (match a, b with
    | .int i, .int j => Q (.bool (decide (i = j))) H
    | .str x, .str y => Q (.bool (x == y)) H
    | .bool x, .bool y => Q (.bool (x == y)) H
    | .opq x, .opq y => Q (.bool (x == y)) H
    | a, b => oK (eqH H a b) fun c => Q (.bool c) H)
  | .NotEq => (match a, b with
    | .int i, .int j => Q (.bool (decide (i ≠ j))) H
    | .str x, .str y => Q (.bool (!(x == y))) H
    | a, b => oK (eqH H a b) fun c => Q (.bool (!c)) H)
  | .Lt => match a, b with | .int i, .int j => Q (.bool (decide (i < j))) H | _, _ => False
  | .LtE => match a, b with | .int i, .int j => Q (.bool (decide (i ≤ j))) H | _, _ => False
  | .Gt => match a, b with | .int i, .int j => Q (.bool (decide (j < i))) H | _, _ => False
  | .GtE => match a, b with | .int i, .int j => Q (.bool (decide (j ≤ i))) H | _, _ => False
  | .In => match b with
    | .tup l => oK (memV a l) fun c => Q (.bool c) H
    | .ref i => oK (listAt H i) fun l => oK (memV a l) fun c => Q (.bool c) H
    | _ => False
  | .NotIn => match b with
    | .tup l => oK (memV a l) fun c => Q (.bool (!c)) H
    | .ref i => oK (listAt H i) fun l => oK (memV a l) fun c => Q (.bool (!c)) H
    | _ => False
  | .Is => match b with
    | .none => Q (.bool (isNoneV a)) H
    | _ => False
  | .IsNot => match b with
    | .none => Q (.bool (!isNoneV a)) H
    | _ => False
theorem eqv_int {i j : Int} : PyData.eqv (.int i) (.int j) = decide (i = j) := rfl
theorem pCmp_eq {a b : V} {H : Hp} {Q : V → Hp → Prop} (h : pCmp .Eq a b H Q) : (∃ x y, a = .opq x ∧ b = .opq y ∧ Q (.bool (x == y)) H) ∨ ∃ c, eqH H a b = some c ∧ Q (.bool c) H := by
  simp only [pCmp] at h
  split at h
  · rename_i i j
    refine .inr ⟨_, ?_, h⟩
    have e : eqH H (.int i) (.int j) = some (PyData.eqv (.int i) (.int j)) := rfl
    rw [e, eqv_int]
  · exact .inr ⟨_, rfl, h⟩
  · rename_i x y
    refine .inr ⟨_, ?_, h⟩
    cases x <;> cases y <;> rfl
  · exact .inl ⟨_, _, rfl, rfl, h⟩
  · exact .inr (oK_elim h)
theorem pCmp_ne {a b : V} {H : Hp} {Q : V → Hp → Prop} (h : pCmp .NotEq a b H Q) : ∃ c, eqH H a b = some c ∧ Q (.bool (!c)) H := by
  simp only [pCmp] at h
  split at h
  · rename_i i j
    refine ⟨decide (i = j), ?_, by simpa using h⟩
    have e : eqH H (.int i) (.int j) = some (PyData.eqv (.int i) (.int j)) := rfl
    rw [e, eqv_int]
  · exact ⟨_, rfl, h⟩
  · exact oK_elim h

noncomputable def pSub (o i : V) (H : Hp) (Q : V → Hp → Prop) : Prop :=
  match i with
  | .int k => (match o with
    | .tup l => oK (idx l k) fun v => Q v H
    | .ref j => oK (listAt H j) fun l => oK (idx l k) fun v => Q v H
    | .scr ns => oK (idx ns k) fun v => Q (.int v) H
    | _ => False)
  | _ => False

noncomputable def optInt : V → Option (Option Int)
  | .none => some .none
  | .int i => some (.some i)
  | _ => .none

noncomputable def pSlice (o lo hi : V) (H : Hp) (Q : V → Hp → Prop) : Prop :=
  match o with
  | .ref i => oK (listAt H i) fun xs => oK (optInt lo) fun l => oK (optInt hi) fun h => Q (.ref H.length) (H ++ [.list (sliceL xs l h)])
  | .tup xs => oK (optInt lo) fun l => oK (optInt hi) fun h => Q (.tup (sliceL xs l h)) H
  | _ => False

noncomputable def pRev (o : V) (H : Hp) (Q : V → Hp → Prop) : Prop :=
  match o with
  | .ref i => oK (listAt H i) fun xs => Q (.ref H.length) (H ++ [.list xs.reverse])
  | .tup xs => Q (.tup xs.reverse) H
  | _ => False

noncomputable def pSet (o k v : V) (H : Hp) (Q : Hp → Prop) : Prop :=
  match o with
  | .ref i => (match k with
    | .int j => oK (listAt H i) fun l => (0 ≤ j ∧ j < (l.length : Int)) ∧ Q (H.set i (.list (l.set j.toNat v)))
    | _ => False)
  | _ => False

noncomputable def tyOf (H : Hp) : V → Option Ty
  | .bool _ => some .bool
  | .int _ => some .int
  | .str _ => some .str
  | .tup _ => some .tuple
  | .ref i => (listAt H i).map fun _ => .list
  | _ => none

noncomputable def subTy : Ty → Ty → Bool
  | .bool, .int => true
  | .int, .int => true
  | .bool, .bool => true
  | .str, .str => true
  | .tuple, .tuple => true
  | .list, .list => true
  | _, _ => false

noncomputable def isInstH (H : Hp) (v : V) (n : Ty) : Option Bool :=
  match n with
  | .range | .reversed | .zip => none
  | _ => match v with
    | .none => some false
    | v => (tyOf H v).map fun t => subTy t n

noncomputable def allBools : List V → Option (List Bool)
  | [] => some []
  | .bool b :: r => (allBools r).map (b :: ·)
  | _ => none

noncomputable abbrev Orc := Str → List V → Hp → (V → Hp → Prop) → (Exc → Hp → Prop) → Prop

noncomputable def pBi (b : Bi) (args : List V) (H : Hp) (Q : V → Hp → Prop) : Prop :=
  match b with
  | .len => (match args with
    | [v] => (match v with
      | .tup l => Q (.int (l.length : Int)) H
      | .ref i => oK (listAt H i) fun l => Q (.int (l.length : Int)) H
      | .scr ns => Q (.int (ns.length : Int)) H
      | _ => False)
    | _ => False)
  | .isinstance => (match args with
    | [v, w] => (match w with
      | .ty t => oK (isInstH H v t) fun c => Q (.bool c) H
      | _ => False)
    | _ => False)
  | .all => (match args with
    | [v] => (match v with
      | .ref i => oK (listAt H i) fun l => oK (allBools l) fun bs => Q (.bool (bs.all id)) H
      | _ => False)
    | _ => False)
  | .max => (match args with
    | [v, w] => (match v, w with
      | .int a, .int b => Q (.int (max a b)) H
      | _, _ => False)
    | _ => False)
  | .min => (match args with
    | [v, w] => (match v, w with
      | .int a, .int b => Q (.int (min a b)) H
      | _, _ => False)
    | _ => False)
  | .repr => (match args with
    | [v] => oK (toPyT H v) fun d => (d.showable = true ∧ d.depth ≤ 60 ∧ d.shown.length ≤ 1000000) ∧ Q (.opq d.shown) H
    | _ => False)
noncomputable def pTy (b : Ty) (args : List V) (H : Hp) (Q : V → Hp → Prop) : Prop :=
  match b with
  | .int => (match args with
    | [v] => (match v with
      | .bool b => Q (.int (if b then 1 else 0)) H
      | _ => False)
    | _ => False)
  | .tuple => (match args with
    | [v] => (match v with
      | .ref i => oK (listAt H i) fun l => Q (.tup l) H
      | _ => False)
    | _ => False)
  | .list => (match args with
    | [v] => (match v with
      | .ref i => oK (listAt H i) fun l => Q (.ref H.length) (H ++ [.list l])
      | .tup l => Q (.ref H.length) (H ++ [.list l])
      | _ => False)
    | _ => False)
  | _ => False
noncomputable def pCall (Φ : Orc) (f : V) (args : List V) (H : Hp) (Q : V → Hp → Prop) (X : Exc → Hp → Prop) : Prop :=
  match f with
  | .fn x => Φ x args H Q X
  | .bi b => pBi b args H Q
  | .ty t => pTy t args H Q
  | _ => False

noncomputable def okMeth (H : Hp) (o : V) : Prop := match o with
  | .ref i => ∃ l, listAt H i = some l
  | _ => False

noncomputable def idxV (x : V) (l : List V) : Option Nat :=
  match toPy x, toPys l with
  | some d, some ds => if d.depth ≤ 60 then ds.findIdx? (fun e => PyData.eqv e d) else none
  | _, _ => none

noncomputable def pMethL (name : Mt) (i : Nat) (l : List V) (args : List V) (H : Hp) (Q : V → Hp → Prop) : Prop :=
  match name with
  | .append => (match args with
    | [v] => l.length ≤ 1000000 ∧ Q .none (H.set i (.list (l ++ [v])))
    | _ => False)
  | .clear => (match args with
    | [] => Q .none (H.set i (.list []))
    | _ => False)
  | .pop => (match args with
    | [] => oK l.getLast? fun v => Q v (H.set i (.list l.dropLast))
    | _ => False)
  | .index => (match args with
    | [v] => oK (idxV v l) fun j => Q (.int (j : Int)) H
    | _ => False)
noncomputable def pMeth (o : V) (name : Mt) (args : List V) (H : Hp) (Q : V → Hp → Prop) : Prop :=
  match o with
  | .ref i => oK (listAt H i) fun l => pMethL name i l args H Q
  | _ => False

/- what is iterated over -/
noncomputable def rangeL (a b : Int) : List V := (List.range (b - a).toNat).map fun (k : Nat) => V.int (a + (k : Int))
noncomputable def zipL (a b : List V) : List V := (a.zip b).map fun p => V.tup [p.1, p.2]

noncomputable def pSrc (k : SrcK) (vs : List V) (H : Hp) (Q : List V → (Hp → Prop) → Prop) : Prop :=
  match k, vs with
  | .val, [.tup l] => Q l (fun _ => True)
  | .val, [.ref i] => oK (listAt H i) fun l => Q l (fun H' => listAt H' i = some l)
  | .range, [.int b] => (-(2 ^ 62) ≤ b ∧ b ≤ 1000000) ∧ Q (rangeL 0 b) (fun _ => True)
  | .range, [.int a, .int b] => (-(2 ^ 62) ≤ a ∧ a < 2 ^ 62 ∧ -(2 ^ 62) ≤ b ∧ b < 2 ^ 62 ∧ b - a ≤ 1000000) ∧ Q (rangeL a b) (fun _ => True)
  | .rev, [.ref i] => oK (listAt H i) fun l => Q l.reverse (fun H' => listAt H' i = some l)
  | .zip, [.tup a, .tup b] => Q (zipL a b) (fun _ => True)
  | _, _ => False

noncomputable def bindVars : List Nat → V → Lc → Option Lc
  | [i], x, L => some (L.set i (some x))
  | [i, j], .tup [u, v], L => some ((L.set i (some u)).set j (some v))
  | _, _, _ => none

noncomputable abbrev XL := Exc → Hp → Prop
noncomputable def ifP (c : Bool) (A B : Prop) : Prop := match c with | true => A | false => B

noncomputable def compGo (tst : Lc → Hp → (Bool → Hp → Prop) → Prop) (el : Lc → Hp → (V → Hp → Prop) → Prop) (st : Hp → Prop) (vars : List Nat) (L : Lc) :
    List V → List V → Hp → (List V → Hp → Prop) → Prop
  | [], acc, H, Q => Q acc H
  | x :: r, acc, H, Q => oK (bindVars vars x L) fun L' => tst L' H (fun c H1 =>
      ifP c (el L' H1 (fun y H2 => st H2 ∧ compGo tst el st vars L r (acc ++ [y]) H2 Q)) (st H1 ∧ compGo tst el st vars L r acc H1 Q))

structure ET where
  E : Lc → Hp → (V → Hp → Prop) → XL → Prop
  T : Lc → Hp → (Bool → Hp → Prop) → XL → Prop

noncomputable def ET.of (E : Lc → Hp → (V → Hp → Prop) → XL → Prop) : ET :=
  ⟨E, fun L H Q X => E L H (fun v H1 => tX H1 v fun c => Q c H1) X⟩

mutual
noncomputable def wp2 (Φ : Orc) : IE → ET
  | .lit v => .of fun _ H Q _ => Q v H
  | .loc i => .of fun L H Q _ => oKK L[i]? fun v => Q v H
  | .bin op a b => .of fun L H Q X => (wp2 Φ a).E L H (fun va H1 => (wp2 Φ b).E L H1 (fun vb H2 => pBin op va vb H2 Q) X) X
  | .neg a => .of fun L H Q X => (wp2 Φ a).E L H (fun v H1 => match v with | .int i => Q (.int (-i)) H1 | _ => False) X
  | .not a => ⟨fun L H Q X => (wp2 Φ a).E L H (fun v H1 => tX H1 v fun c => Q (.bool (!c)) H1) X,
      fun L H Q X => (wp2 Φ a).T L H (fun c H1 => Q (!c) H1) X⟩
  | .and a b => ⟨fun L H Q X => (wp2 Φ a).E L H (fun v H1 => tX H1 v fun c => ifP c ((wp2 Φ b).E L H1 Q X) (Q v H1)) X,
      fun L H Q X => (wp2 Φ a).T L H (fun c H1 => ifP c ((wp2 Φ b).T L H1 Q X) (Q false H1)) X⟩
  | .or a b => ⟨fun L H Q X => (wp2 Φ a).E L H (fun v H1 => tX H1 v fun c => ifP c (Q v H1) ((wp2 Φ b).E L H1 Q X)) X,
      fun L H Q X => (wp2 Φ a).T L H (fun c H1 => ifP c (Q true H1) ((wp2 Φ b).T L H1 Q X)) X⟩
  | .cmp a op b => .of fun L H Q X => (wp2 Φ a).E L H (fun va H1 => (wp2 Φ b).E L H1 (fun vb H2 => pCmp op va vb H2 Q) X) X
  | .cmp2 a op b op' c => .of fun L H Q X => (wp2 Φ a).E L H (fun va H1 => (wp2 Φ b).E L H1 (fun vb H2 => pCmp op va vb H2 (fun r H3 =>
      tX H3 r fun t => ifP t ((wp2 Φ c).E L H3 (fun vc H4 => pCmp op' vb vc H4 Q) X) (Q r H3))) X) X
  | .ite t a b => ⟨fun L H Q X => (wp2 Φ t).T L H (fun c H1 => ifP c ((wp2 Φ a).E L H1 Q X) ((wp2 Φ b).E L H1 Q X)) X,
      fun L H Q X => (wp2 Φ t).T L H (fun c H1 => ifP c ((wp2 Φ a).T L H1 Q X) ((wp2 Φ b).T L H1 Q X)) X⟩
  | .tup es => .of fun L H Q X => wpEs Φ es L H (fun vs H1 => vs.length ≤ 1000000 ∧ Q (.tup vs) H1) X
  | .lst es => .of fun L H Q X => wpEs Φ es L H (fun vs H1 => vs.length ≤ 1000000 ∧ Q (.ref H1.length) (H1 ++ [.list vs])) X
  | .call f args => .of fun L H Q X => wpEs Φ args L H (fun vs H1 => pCall Φ f vs H1 Q X) X
  | .meth o name args => .of fun L H Q X => (wp2 Φ o).E L H (fun vo H1 => okMeth H1 vo ∧ wpEs Φ args L H1 (fun vs H2 => pMeth vo name vs H2 Q) X) X
  | .sub o i => .of fun L H Q X => (wp2 Φ o).E L H (fun vo H1 => (wp2 Φ i).E L H1 (fun vi H2 => pSub vo vi H2 Q) X) X
  | .slice o lo hi => .of fun L H Q X => (wp2 Φ o).E L H (fun vo H1 => wpO Φ lo L H1 (fun vl H2 => wpO Φ hi L H2 (fun vh H3 => pSlice vo vl vh H3 Q) X) X) X
  | .rev o => .of fun L H Q X => (wp2 Φ o).E L H (fun vo H1 => pRev vo H1 Q) X
  | .comp elt vars k srcs ifs => .of fun L H Q X => wpEs Φ srcs L H (fun vs H1 => pSrc k vs H1 fun items st =>
      compGo (fun L' H' K => wpIfs Φ ifs L' H' K X) (fun L' H' K => (wp2 Φ elt).E L' H' K X) st vars L items [] H1
        (fun ys H2 => ys.length ≤ 1000000 ∧ Q (.ref H2.length) (H2 ++ [.list ys]))) X
noncomputable def wpEs (Φ : Orc) : List IE → Lc → Hp → (List V → Hp → Prop) → XL → Prop
  | [], _, H, Q, _ => Q [] H
  | e :: r, L, H, Q, X => (wp2 Φ e).E L H (fun v H1 => wpEs Φ r L H1 (fun vs H2 => Q (v :: vs) H2) X) X
noncomputable def wpO (Φ : Orc) : Option IE → Lc → Hp → (V → Hp → Prop) → XL → Prop
  | none, _, H, Q, _ => Q .none H
  | some e, L, H, Q, X => (wp2 Φ e).E L H Q X
noncomputable def wpIfs (Φ : Orc) : List IE → Lc → Hp → (Bool → Hp → Prop) → XL → Prop
  | [], _, H, Q, _ => Q true H
  | e :: r, L, H, Q, X => (wp2 Φ e).T L H (fun c H1 => ifP c (wpIfs Φ r L H1 Q X) (Q false H1)) X
end

noncomputable abbrev QS := Fl → Lc → Hp → Prop
noncomputable abbrev XS := Exc → Lc → Hp → Prop

noncomputable def forGo (body : Lc → Hp → QS → Prop) (st : Hp → Prop) (vars : List Nat) : List V → Lc → Hp → QS → Prop
  | [], L, H, Q => Q .next L H
  | x :: r, L, H, Q => oK (bindVars vars x L) fun L' => body L' H (fun fl L1 H1 => match fl with
      | .next => st H1 ∧ forGo body st vars r L1 H1 Q
      | .cont => st H1 ∧ forGo body st vars r L1 H1 Q
      | .brk => Q .next L1 H1
      | .ret v => Q (.ret v) L1 H1)

noncomputable def whileGo (test : Lc → Hp → (Bool → Hp → Prop) → Prop) (body : Lc → Hp → QS → Prop) : Nat → Lc → Hp → QS → Prop
  | 0, _, _, _ => False
  | n + 1, L, H, Q => test L H (fun c H1 => ifP c (body L H1 (fun fl L1 H2 => match fl with
      | .next => whileGo test body n L1 H2 Q
      | .cont => whileGo test body n L1 H2 Q
      | .brk => Q .next L1 H2
      | .ret v => Q (.ret v) L1 H2)) (Q .next L H1))

mutual
noncomputable def wpS (Φ : Orc) : IS → Lc → Hp → QS → XS → Prop
  | .expr e, L, H, Q, X => (wp2 Φ e).E L H (fun _ H1 => Q .next L H1) (fun x => X x L)
  | .assign i e, L, H, Q, X => (wp2 Φ e).E L H (fun v H1 => Q .next (L.set i (some v)) H1) (fun x => X x L)
  | .setItem o k v, L, H, Q, X => (wp2 Φ v).E L H (fun vv H1 => (wp2 Φ o).E L H1 (fun vo H2 => (wp2 Φ k).E L H2 (fun vk H3 => pSet vo vk vv H3 (Q .next L)) (fun x => X x L)) (fun x => X x L)) (fun x => X x L)
  | .ret e, L, H, Q, X => (wp2 Φ e).E L H (fun v H1 => Q (.ret v) L H1) (fun x => X x L)
  | .retNone, L, H, Q, _ => Q (.ret .none) L H
  | .ite t a b, L, H, Q, X => (wp2 Φ t).T L H (fun c H1 => ifP c (wpSs Φ a L H1 Q X) (wpSs Φ b L H1 Q X)) (fun x => X x L)
  | .while t b, L, H, Q, X => ∃ n, whileGo (fun L' H' K => (wp2 Φ t).T L' H' K (fun x => X x L')) (fun L' H' K => wpSs Φ b L' H' K X) n L H Q
  | .for vars k srcs b, L, H, Q, X => wpEs Φ srcs L H (fun vs H1 => pSrc k vs H1 fun items st =>
      forGo (fun L' H' K => wpSs Φ b L' H' K X) st vars items L H1 Q) (fun x => X x L)
  | .pass, L, H, Q, _ => Q .next L H
  | .brk, L, H, Q, _ => Q .brk L H
  | .cont, L, H, Q, _ => Q .cont L H
noncomputable def wpSs (Φ : Orc) : List IS → Lc → Hp → QS → XS → Prop
  | [], L, H, Q, _ => Q .next L H
  | s :: r, L, H, Q, X => wpS Φ s L H (fun fl L1 H1 => match fl with
      | .next => wpSs Φ r L1 H1 Q X
      | .brk => Q .brk L1 H1
      | .cont => Q .cont L1 H1
      | .ret v => Q (.ret v) L1 H1) X
end

/- a function: how many names it has, its parameters are the first ones -/
structure Fn where
  names : Nat
  params : Nat
  body : List IS

noncomputable def initL (f : Fn) (vs : List V) : Lc := vs.map some ++ List.replicate (f.names - f.params) none

noncomputable def retV : Fl → V
  | .ret v => v
  | _ => .none

noncomputable def wpFn (Φ : Orc) (f : Fn) (vs : List V) (H : Hp) (Q : V → Hp → Prop) (X : XL) : Prop :=
  vs.length = f.params ∧ wpSs Φ f.body (initL f vs) H (fun fl _ H1 => Q (retV fl) H1) (fun x _ H1 => X x H1)

end Mine

/- From the program's own trees to the small trees. -/
namespace Mine
open PySem

structure CC where
  G : List (Str × V)
  scope : Scope
  slots : List (Str × Nat)
  nxt : Nat

noncomputable def mapO {α β : Type} (f : α → Option β) : List α → Option (List β)
  | [] => some []
  | a :: r => match f a, mapO f r with
    | some b, some bs => some (b :: bs)
    | _, _ => none

noncomputable def constV : Const → Option V
  | .none => some .none
  | .bool b => some (.bool b)
  | .int i => some (.int i)
  | .str s => if s.length ≤ 2000000 ∧ PyData.strOk s = true then some (.str s) else none
  | _ => none

noncomputable def relab (scope outer : Scope) : Scope :=
  { scope with names := scope.names.map fun (n, k) => if (k == .free && outer.kind == .function && outer.names.lookup n == some .cell) then (n, .cell) else (n, k) }

noncomputable def okComp (scope outer : Scope) : Bool :=
  scope.kind == .function && (scope.names.all fun x => x.2 != .cell && (x.2 != .local || scope.names.lookup x.1 == some .local) && (x.2 != .free || (outer.kind == .function && outer.names.lookup x.1 == some .cell)))

noncomputable def isComp : Expr → Bool
  | .ListComp .. | .SetComp .. | .DictComp .. => true
  | _ => false
noncomputable def isStar : Expr → Bool
  | .Starred .. => true
  | _ => false
noncomputable def plainBase : Expr → Bool
  | .Call .. => false
  | _ => true

noncomputable def mtOf (x : Str) : Option Mt := if x == Mt.append.name then some .append else if x == Mt.clear.name then some .clear else if x == Mt.index.name then some .index else if x == Mt.pop.name then some .pop else none
theorem mtOf_some {x : Str} {m : Mt} (h : mtOf x = some m) : x = m.name := by
  unfold mtOf at h
  split at h
  · rename_i q; cases h; exact eq_of_beq q
  · split at h
    · rename_i q; cases h; exact eq_of_beq q
    · split at h
      · rename_i q; cases h; exact eq_of_beq q
      · split at h
        · rename_i q; cases h; exact eq_of_beq q
        · cases h

noncomputable def nameV (c : CC) (x : Str) : Option IE :=
  if x == ("__debug__" : Str) then none else match c.scope.names.lookup x with
    | some .globalImplicit => (c.G.lookup x).map .lit
    | some .local | some .cell => (c.slots.lookup x).map .loc
    | _ => none

noncomputable def globV (c : CC) (x : Str) : Option V :=
  if x == ("__debug__" : Str) then none else match c.scope.names.lookup x with
    | some .globalImplicit => c.G.lookup x
    | _ => none

noncomputable def boolGo (mk : IE → IE → IE) : List IE → Option IE
  | [] => none
  | [a] => some a
  | a :: r => (boolGo mk r).map (mk a)

noncomputable def srcK : V → Option SrcK
  | .ty .range => some .range
  | .ty .reversed => some .rev
  | _ => none

noncomputable def compSrc (f : Expr → Option IE) (c : CC) (e : Expr) : Option (SrcK × List IE) :=
  match e with
  | .Call (.Name g _) args [] _ => if args.any isStar || args.length > 20 then none else match (globV c g).bind srcK, mapO f args with
    | some k, some as => some (k, as)
    | _, _ => (f e).map fun v => (SrcK.val, [v])
  | _ => (f e).map fun v => (SrcK.val, [v])

noncomputable def onlyIf {α : Type} (b : Bool) (x : Option α) : Option α := match b with | true => x | false => none
theorem onlyIf_some {α : Type} {b : Bool} {x : Option α} {y : α} (h : onlyIf b x = some y) : b = true ∧ x = some y := by cases b with | true => exact ⟨rfl, h⟩ | false => cases h
noncomputable def oTwo {α β γ : Type} (f : α → β → γ) (x : Option α) (y : Option β) : Option γ := match x with | some a => (match y with | some b => some (f a b) | none => none) | none => none
theorem oTwo_some {α β γ : Type} {f : α → β → γ} {x : Option α} {y : Option β} {z : γ} (h : oTwo f x y = some z) : ∃ a b, x = some a ∧ y = some b ∧ z = f a b := by
  cases x with
  | none => cases h
  | some a => cases y with
    | none => cases h
    | some b => cases h; exact ⟨a, b, rfl, rfl, rfl⟩
noncomputable def oThree {α β γ δ : Type} (f : α → β → γ → δ) (x : Option α) (y : Option β) (z : Option γ) : Option δ := match x with | some a => oTwo (f a) y z | none => none
theorem oThree_some {α β γ δ : Type} {f : α → β → γ → δ} {x : Option α} {y : Option β} {z : Option γ} {u : δ} (h : oThree f x y z = some u) : ∃ a b c, x = some a ∧ y = some b ∧ z = some c ∧ u = f a b c := by
  cases x with
  | none => cases h
  | some a => obtain ⟨b, c, h1, h2, h3⟩ := oTwo_some h; exact ⟨a, b, c, rfl, h1, h2, h3⟩
noncomputable def methA (f : Expr → Option IE) (args : List Expr) : Option (List IE) := match args with
  | [] => some []
  | [a] => (f a).map fun i => [i]
  | _ => none
noncomputable def methN : Mt → Nat
  | .clear => 0
  | .pop => 0
  | _ => 1
noncomputable def methE (f : Expr → Option IE) (m : Option Mt) (args : List Expr) (o : Option IE) : Option IE := match m with
  | some m => onlyIf (args.length.beq (methN m)) (oTwo (fun v as => .meth v m as) o (methA f args))
  | none => none
noncomputable def innerC (c : CC) (scope : Scope) (x : Str) : CC := { c with scope := relab scope c.scope, slots := (x, c.nxt) :: c.slots, nxt := c.nxt + 1 }

noncomputable def optE (f : Expr → Option IE) : Option Expr → Option (Option IE)
  | none => some none
  | some e => (f e).map some
noncomputable def sliceKind : Expr → Option (Option Expr × Option Expr × Bool)
  | .Slice lo hi none _ => some (lo, hi, false)
  | .Slice none none (some (.UnaryOp .USub (.Constant (.int 1) _ _) _)) _ => some (none, none, true)
  | _ => none
theorem sliceKind_f {i : Expr} {lo hi : Option Expr} (h : sliceKind i = some (lo, hi, false)) : ∃ p, i = .Slice lo hi none p := by
  unfold sliceKind at h
  split at h
  · cases h; exact ⟨_, rfl⟩
  · cases h
  · cases h
theorem sliceKind_t {i : Expr} {lo hi : Option Expr} (h : sliceKind i = some (lo, hi, true)) : ∃ kk p1 p2 p, i = .Slice none none (some (.UnaryOp .USub (.Constant (.int 1) kk p1) p2)) p := by
  unfold sliceKind at h
  split at h
  · cases h
  · exact ⟨_, _, _, _, rfl⟩
  · cases h
noncomputable def subE (f : Expr → Option IE) (o i : Expr) : Option IE := match sliceKind i with
  | some (lo, hi, false) => oThree IE.slice (f o) (optE f lo) (optE f hi)
  | some (_, _, true) => (f o).map .rev
  | none => oTwo IE.sub (f o) (f i)

/- [x < y for x, y in zip(a, b)] -/
noncomputable def zipPat (elt : Expr) (gens : List Comprehension) : Option (Str × Str × Str × Expr × Expr) := match elt with
  | .Compare (.Name x1 _) [.Lt] [.Name y1 _] _ => (match gens with
    | [⟨.Tuple [.Name x _, .Name y _] _ _, .Call (.Name g _) [a, b] [] _, [], k⟩] => onlyIf (k == 0 && x1 == x && y1 == y && !(x == y) && !(x == ("__debug__" : Str)) && !(y == ("__debug__" : Str)) && ![a, b].any isStar) (some (x, y, g, a, b))
    | _ => none)
  | _ => none
noncomputable def isZipV : Option V → Bool
  | some (.ty .zip) => true
  | _ => false
noncomputable def zipE (f : Expr → Option IE) (c : CC) (elt : Expr) (gens : List Comprehension) (scope : Scope) : Option IE := match zipPat elt gens with
  | some (x, y, g, a, b) => onlyIf (isZipV (globV c g) && okComp scope c.scope && scope.names.lookup x == some .local && scope.names.lookup y == some .local) ((mapO f [a, b]).map fun ss => .comp (.cmp (.loc c.nxt) .Lt (.loc (c.nxt + 1))) [c.nxt, c.nxt + 1] .zip ss [])
  | none => none
noncomputable def isZipC : Expr → Bool
  | .ListComp elt gens _ _ => (zipPat elt gens).isSome
  | _ => false

noncomputable def compE : Nat → CC → Expr → Option IE
  | 0, _, _ => none
  | n + 1, c, e => match e with
    | .Constant k _ _ => (constV k).map .lit
    | .Name x _ => nameV c x
    | .BinOp l op r _ => oTwo (IE.bin op) (compE n c l) (compE n c r)
    | .UnaryOp .USub x _ => (compE n c x).map .neg
    | .UnaryOp .Not x _ => (compE n c x).map .not
    | .BoolOp .And vs _ => (mapO (compE n c) vs).bind (boolGo .and)
    | .BoolOp .Or vs _ => (mapO (compE n c) vs).bind (boolGo .or)
    | .IfExp t a b _ => oThree IE.ite (compE n c t) (compE n c a) (compE n c b)
    | .Compare l [op] [r] _ => oTwo (fun a b => .cmp a op b) (compE n c l) (compE n c r)
    | .Compare l [op, op'] [r, r'] _ => oThree (fun a b d => .cmp2 a op b op' d) (compE n c l) (compE n c r) (compE n c r')
    | .Tuple es _ _ => onlyIf (!es.any isStar) ((mapO (compE n c) es).map .tup)
    | .List es _ => onlyIf (!es.any isStar) ((mapO (compE n c) es).map .lst)
    | .Call (.Name f _) args [] _ => onlyIf (!args.any isStar && args.length.ble 20) (oTwo IE.call (globV c f) (mapO (compE n c) args))
    | .Call (.Attribute o name apos) args [] pos => onlyIf (!args.any isStar && args.length.ble 20 && plainBase o && apos.endLine.beq pos.line) (methE (compE n c) (mtOf name) args (compE n c o))
    | .Subscript o i _ => subE (compE n c) o i
    | .ListComp elt [⟨.Name x _, iter, ifs, a⟩] scope _ =>
      onlyIf (a == 0 && okComp scope c.scope && scope.names.lookup x == some .local && (scope.names.all fun y => y.2 != .local || y.1 == x || (c.slots.lookup y.1).isNone) && (c.slots.all fun p => p.2 < c.nxt))
        (oThree (fun ks e fs => .comp e [c.nxt] ks.1 ks.2 fs) (compSrc (compE n c) c iter) (compE n (innerC c scope x) elt) (mapO (compE n (innerC c scope x)) ifs))
    | .ListComp elt gens scope _ => zipE (compE n c) c elt gens scope
    | _ => none

noncomputable def slotV (c : CC) (x : Str) : Option Nat := match c.scope.names.lookup x with
  | some .local | some .cell => c.slots.lookup x
  | _ => none

noncomputable def compS : Nat → CC → Stmt → Option IS
  | 0, _, _ => none
  | n + 1, c, st => match st with
    | .Expr e _ => onlyIf (!isComp e) ((compE n c e).map .expr)
    | .Assign [.Name x _] e _ => onlyIf (!isZipC e) (oTwo IS.assign (slotV c x) (compE n c e))
    | .Assign [.Subscript o i _] e _ => onlyIf (!isComp e) (oThree (fun v o i => IS.setItem o i v) (compE n c e) (compE n c o) (compE n c i))
    | .Return none _ => some .retNone
    | .Return (some e) _ => (compE n c e).map .ret
    | .If t a b _ => oThree IS.ite (compE n c t) (mapO (compS n c) a) (mapO (compS n c) b)
    | .While t b [] _ => oTwo IS.while (compE n c t) (mapO (compS n c) b)
    | .For (.Name x _) iter b [] _ => oThree (fun i ks b => .for [i] ks.1 ks.2 b) (slotV c x) (compSrc (compE n c) c iter) (mapO (compS n c) b)
    | .Pass _ => some .pass
    | .Break _ => some .brk
    | .Continue _ => some .cont
    | _ => none

noncomputable def slotsGo : List Str → Nat → List (Str × Nat)
  | [], _ => []
  | x :: r, k => (x, k) :: slotsGo r (k + 1)

noncomputable def ownNames (params : List Str) (scope : Scope) : List Str :=
  params ++ ((scope.names.filter fun x => (x.2 == .local || x.2 == .cell) && !params.contains x.1).map (·.1))

noncomputable def compFn (G : List (Str × V)) (params : List Str) (body : List Stmt) (scope : Scope) : Option Fn :=
  let ns := ownNames params scope
  let c : CC := { G, scope, slots := slotsGo ns 0, nxt := ns.length }
  (mapO (compS 40 c) body).map fun b => { names := ns.length + 3, params := params.length, body := b }

/- the defs of a program -/
noncomputable def defOf (p : Program) (x : Str) : Option (List Str × List Stmt × Scope) :=
  match p.main.body.find? (fun | .FunctionDef n .. => n == x | _ => false) with
  | some (.FunctionDef _ a body _ _ _ scope _ _ _) => some (a.args.map (·.arg), body, scope)
  | _ => none
noncomputable def fnOf? (G : List (Str × V)) (p : Program) (x : Str) : Option Fn :=
  match defOf p x with
  | some (ps, body, scope) => compFn G ps body scope
  | none => none
end Mine

set_option autoImplicit false
namespace Mine
open PySem
section
variable {Φ : Orc} {L : Lc} {H : Hp} {Q : V → Hp → Prop} {P : Bool → Hp → Prop} {X : XL} {QF : QS} {XF : XS}
theorem X_lit {v : V} : (wp2 Φ (.lit v)).E L H Q X = Q v H := rfl
theorem X_loc {i : Nat} : (wp2 Φ (.loc i)).E L H Q X = oKK L[i]? fun v => Q v H := rfl
theorem X_bin {op : Operator} {a b : IE} : (wp2 Φ (.bin op a b)).E L H Q X = (wp2 Φ a).E L H (fun va H1 => (wp2 Φ b).E L H1 (fun vb H2 => pBin op va vb H2 Q) X) X := rfl
noncomputable def negX (v : V) (Q : V → Prop) : Prop := match v with | .int i => Q (.int (-i)) | _ => False
theorem negX_int {i : Int} {Q : V → Prop} : negX (.int i) Q = Q (.int (-i)) := rfl
theorem X_neg {a : IE} : (wp2 Φ (.neg a)).E L H Q X = (wp2 Φ a).E L H (fun v H1 => negX v fun u => Q u H1) X := rfl
theorem X_not {a : IE} : (wp2 Φ (.not a)).E L H Q X = (wp2 Φ a).E L H (fun v H1 => tX H1 v fun c => Q (.bool (!c)) H1) X := rfl
theorem Y_not {a : IE} : (wp2 Φ (.not a)).T L H P X = (wp2 Φ a).T L H (fun c H1 => P (!c) H1) X := rfl
theorem X_and {a b : IE} : (wp2 Φ (.and a b)).E L H Q X = (wp2 Φ a).E L H (fun v H1 => tX H1 v fun c => ifP c ((wp2 Φ b).E L H1 Q X) (Q v H1)) X := rfl
theorem Y_and {a b : IE} : (wp2 Φ (.and a b)).T L H P X = (wp2 Φ a).T L H (fun c H1 => ifP c ((wp2 Φ b).T L H1 P X) (P false H1)) X := rfl
theorem X_or {a b : IE} : (wp2 Φ (.or a b)).E L H Q X = (wp2 Φ a).E L H (fun v H1 => tX H1 v fun c => ifP c (Q v H1) ((wp2 Φ b).E L H1 Q X)) X := rfl
theorem Y_or {a b : IE} : (wp2 Φ (.or a b)).T L H P X = (wp2 Φ a).T L H (fun c H1 => ifP c (P true H1) ((wp2 Φ b).T L H1 P X)) X := rfl
theorem X_cmp {a b : IE} {op : CmpOp} : (wp2 Φ (.cmp a op b)).E L H Q X = (wp2 Φ a).E L H (fun va H1 => (wp2 Φ b).E L H1 (fun vb H2 => pCmp op va vb H2 Q) X) X := rfl
theorem X_cmp2 {a b c : IE} {op op' : CmpOp} : (wp2 Φ (.cmp2 a op b op' c)).E L H Q X = (wp2 Φ a).E L H (fun va H1 => (wp2 Φ b).E L H1 (fun vb H2 => pCmp op va vb H2 (fun r H3 =>
      tX H3 r fun t => ifP t ((wp2 Φ c).E L H3 (fun vc H4 => pCmp op' vb vc H4 Q) X) (Q r H3))) X) X := rfl
theorem X_ite {t a b : IE} : (wp2 Φ (.ite t a b)).E L H Q X = (wp2 Φ t).T L H (fun c H1 => ifP c ((wp2 Φ a).E L H1 Q X) ((wp2 Φ b).E L H1 Q X)) X := rfl
theorem Y_ite {t a b : IE} : (wp2 Φ (.ite t a b)).T L H P X = (wp2 Φ t).T L H (fun c H1 => ifP c ((wp2 Φ a).T L H1 P X) ((wp2 Φ b).T L H1 P X)) X := rfl
theorem X_tup {es : List IE} : (wp2 Φ (.tup es)).E L H Q X = wpEs Φ es L H (fun vs H1 => vs.length ≤ 1000000 ∧ Q (.tup vs) H1) X := rfl
theorem X_lst {es : List IE} : (wp2 Φ (.lst es)).E L H Q X = wpEs Φ es L H (fun vs H1 => vs.length ≤ 1000000 ∧ Q (.ref H1.length) (H1 ++ [.list vs])) X := rfl
theorem X_call {f : V} {args : List IE} : (wp2 Φ (.call f args)).E L H Q X = wpEs Φ args L H (fun vs H1 => pCall Φ f vs H1 Q X) X := rfl
theorem X_meth {o : IE} {name : Mt} {args : List IE} : (wp2 Φ (.meth o name args)).E L H Q X = (wp2 Φ o).E L H (fun vo H1 => okMeth H1 vo ∧ wpEs Φ args L H1 (fun vs H2 => pMeth vo name vs H2 Q) X) X := rfl
theorem X_sub {o i : IE} : (wp2 Φ (.sub o i)).E L H Q X = (wp2 Φ o).E L H (fun vo H1 => (wp2 Φ i).E L H1 (fun vi H2 => pSub vo vi H2 Q) X) X := rfl
noncomputable def coTX (Φ : Orc) (ifs : List IE) (X : XL) : Lc → Hp → (Bool → Hp → Prop) → Prop := fun L' H' K => wpIfs Φ ifs L' H' K X
noncomputable def coEX (Φ : Orc) (elt : IE) (X : XL) : Lc → Hp → (V → Hp → Prop) → Prop := fun L' H' K => (wp2 Φ elt).E L' H' K X
theorem X_comp {elt : IE} {vars : List Nat} {k : SrcK} {srcs ifs : List IE} : (wp2 Φ (.comp elt vars k srcs ifs)).E L H Q X = wpEs Φ srcs L H (fun vs H1 => pSrc k vs H1 fun items st =>
      compGo (coTX Φ ifs X) (coEX Φ elt X) st vars L items [] H1 (fun ys H2 => ys.length ≤ 1000000 ∧ Q (.ref H2.length) (H2 ++ [.list ys]))) X := rfl
theorem Y_lit {v : V} : (wp2 Φ (.lit v)).T L H P X = tX H v fun c => P c H := rfl
theorem Y_loc {i : Nat} : (wp2 Φ (.loc i)).T L H P X = oKK L[i]? fun v => tX H v fun c => P c H := rfl
theorem Y_cmp {a b : IE} {op : CmpOp} : (wp2 Φ (.cmp a op b)).T L H P X = (wp2 Φ (.cmp a op b)).E L H (fun v H1 => tX H1 v fun c => P c H1) X := rfl
theorem Y_cmp2 {a b c : IE} {op op' : CmpOp} : (wp2 Φ (.cmp2 a op b op' c)).T L H P X = (wp2 Φ (.cmp2 a op b op' c)).E L H (fun v H1 => tX H1 v fun c => P c H1) X := rfl
theorem Y_call {f : V} {args : List IE} : (wp2 Φ (.call f args)).T L H P X = (wp2 Φ (.call f args)).E L H (fun v H1 => tX H1 v fun c => P c H1) X := rfl
theorem Y_sub {o i : IE} : (wp2 Φ (.sub o i)).T L H P X = (wp2 Φ (.sub o i)).E L H (fun v H1 => tX H1 v fun c => P c H1) X := rfl
theorem XEs_nil {R : List V → Hp → Prop} : wpEs Φ [] L H R X = R [] H := rfl
theorem XEs_cons {e : IE} {r : List IE} {R : List V → Hp → Prop} : wpEs Φ (e :: r) L H R X = (wp2 Φ e).E L H (fun v H1 => wpEs Φ r L H1 (fun vs H2 => R (v :: vs) H2) X) X := rfl
theorem XIfs_nil : wpIfs Φ [] L H P X = P true H := rfl
theorem XIfs_cons {e : IE} {r : List IE} : wpIfs Φ (e :: r) L H P X = (wp2 Φ e).T L H (fun c H1 => ifP c (wpIfs Φ r L H1 P X) (P false H1)) X := rfl
theorem Z_expr {e : IE} : wpS Φ (.expr e) L H QF XF = (wp2 Φ e).E L H (fun _ H1 => QF .next L H1) (fun x => XF x L) := rfl
theorem Z_assign {i : Nat} {e : IE} : wpS Φ (.assign i e) L H QF XF = (wp2 Φ e).E L H (fun v H1 => QF .next (L.set i (some v)) H1) (fun x => XF x L) := rfl
theorem Z_ret {e : IE} : wpS Φ (.ret e) L H QF XF = (wp2 Φ e).E L H (fun v H1 => QF (.ret v) L H1) (fun x => XF x L) := rfl
theorem Z_retNone : wpS Φ .retNone L H QF XF = QF (.ret .none) L H := rfl
theorem Z_ite {t : IE} {a b : List IS} : wpS Φ (.ite t a b) L H QF XF = (wp2 Φ t).T L H (fun c H1 => ifP c (wpSs Φ a L H1 QF XF) (wpSs Φ b L H1 QF XF)) (fun x => XF x L) := rfl
noncomputable def whTX (Φ : Orc) (t : IE) (XF : XS) : Lc → Hp → (Bool → Hp → Prop) → Prop := fun L' H' K => (wp2 Φ t).T L' H' K (fun x => XF x L')
noncomputable def whBX (Φ : Orc) (b : List IS) (XF : XS) : Lc → Hp → QS → Prop := fun L' H' K => wpSs Φ b L' H' K XF
theorem Z_while {t : IE} {b : List IS} : wpS Φ (.while t b) L H QF XF = ∃ n, whileGo (whTX Φ t XF) (whBX Φ b XF) n L H QF := rfl
theorem Z_for {vars : List Nat} {k : SrcK} {srcs : List IE} {b : List IS} : wpS Φ (.for vars k srcs b) L H QF XF = wpEs Φ srcs L H (fun vs H1 => pSrc k vs H1 fun items st =>
      forGo (whBX Φ b XF) st vars items L H1 QF) (fun x => XF x L) := rfl
theorem Z_pass : wpS Φ .pass L H QF XF = QF .next L H := rfl
theorem Z_brk : wpS Φ .brk L H QF XF = QF .brk L H := rfl
theorem Z_cont : wpS Φ .cont L H QF XF = QF .cont L H := rfl
theorem Zs_nil : wpSs Φ [] L H QF XF = QF .next L H := rfl
noncomputable def sqX (Φ : Orc) (r : List IS) (QF : QS) (XF : XS) : QS := fun fl L1 H1 => match fl with
      | .next => wpSs Φ r L1 H1 QF XF
      | .brk => QF .brk L1 H1
      | .cont => QF .cont L1 H1
      | .ret v => QF (.ret v) L1 H1
theorem sqX_next {r : List IS} : sqX Φ r QF XF .next L H = wpSs Φ r L H QF XF := rfl
theorem sqX_brk {r : List IS} : sqX Φ r QF XF .brk L H = QF .brk L H := rfl
theorem sqX_cont {r : List IS} : sqX Φ r QF XF .cont L H = QF .cont L H := rfl
theorem sqX_ret {r : List IS} {v : V} : sqX Φ r QF XF (.ret v) L H = QF (.ret v) L H := rfl
theorem Zs_cons {s : IS} {r : List IS} : wpSs Φ (s :: r) L H QF XF = wpS Φ s L H (sqX Φ r QF XF) XF := rfl
theorem zs_cons {s : IS} {r : List IS} (h : wpS Φ s L H (sqX Φ r QF XF) XF) : wpSs Φ (s :: r) L H QF XF := h
noncomputable def wkX (test : Lc → Hp → (Bool → Hp → Prop) → Prop) (body : Lc → Hp → QS → Prop) (n : Nat) (Q : QS) : QS := fun fl L1 H2 => match fl with
      | .next => whileGo test body n L1 H2 Q
      | .cont => whileGo test body n L1 H2 Q
      | .brk => Q .next L1 H2
      | .ret v => Q (.ret v) L1 H2
noncomputable def fkX (body : Lc → Hp → QS → Prop) (st : Hp → Prop) (vars : List Nat) (r : List V) (Q : QS) : QS := fun fl L1 H1 => match fl with
      | .next => st H1 ∧ forGo body st vars r L1 H1 Q
      | .cont => st H1 ∧ forGo body st vars r L1 H1 Q
      | .brk => Q .next L1 H1
      | .ret v => Q (.ret v) L1 H1
end
section
variable {Φ : Orc} {t : IE} {b : List IS} {XF : XS} {X : XL} {test : Lc → Hp → (Bool → Hp → Prop) → Prop} {body : Lc → Hp → QS → Prop} {n : Nat} {Q : QS} {L : Lc} {H : Hp} {st : Hp → Prop} {vars : List Nat} {x : V} {r : List V} {v : V} {acc : List V} {QL : List V → Hp → Prop} {ifs : List IE} {elt : IE}
theorem whX_s : whileGo (whTX Φ t XF) (whBX Φ b XF) (n + 1) L H Q = (wp2 Φ t).T L H (fun c H1 => ifP c (wpSs Φ b L H1 (wkX (whTX Φ t XF) (whBX Φ b XF) n Q) XF) (Q .next L H1)) (fun x => XF x L) := rfl
theorem wkX_next : wkX test body n Q .next L H = whileGo test body n L H Q := rfl
theorem wkX_cont : wkX test body n Q .cont L H = whileGo test body n L H Q := rfl
theorem wkX_brk : wkX test body n Q .brk L H = Q .next L H := rfl
theorem wkX_ret : wkX test body n Q (.ret v) L H = Q (.ret v) L H := rfl
theorem foX_nil : forGo body st vars [] L H Q = Q .next L H := rfl
theorem foX_cons : forGo (whBX Φ b XF) st vars (x :: r) L H Q = oK (bindVars vars x L) fun L' => wpSs Φ b L' H (fkX (whBX Φ b XF) st vars r Q) XF := rfl
theorem fkX_next : fkX body st vars r Q .next L H = (st H ∧ forGo body st vars r L H Q) := rfl
theorem fkX_cont : fkX body st vars r Q .cont L H = (st H ∧ forGo body st vars r L H Q) := rfl
theorem fkX_brk : fkX body st vars r Q .brk L H = Q .next L H := rfl
theorem fkX_ret : fkX body st vars r Q (.ret v) L H = Q (.ret v) L H := rfl
theorem coX_nil {tst : Lc → Hp → (Bool → Hp → Prop) → Prop} {el : Lc → Hp → (V → Hp → Prop) → Prop} : compGo tst el st vars L [] acc H QL = QL acc H := rfl
theorem coX_cons : compGo (coTX Φ ifs X) (coEX Φ elt X) st vars L (x :: r) acc H QL = oK (bindVars vars x L) fun L' => wpIfs Φ ifs L' H (fun c H1 =>
      ifP c ((wp2 Φ elt).E L' H1 (fun y H2 => st H2 ∧ compGo (coTX Φ ifs X) (coEX Φ elt X) st vars L r (acc ++ [y]) H2 QL) X) (st H1 ∧ compGo (coTX Φ ifs X) (coEX Φ elt X) st vars L r acc H1 QL)) X := rfl
theorem xb_one {i : Nat} : bindVars [i] x L = some (L.set i (some x)) := rfl
theorem oKK_some {α : Type} {a : α} {P : α → Prop} : oKK (some (some a)) P = P a := rfl
theorem oK_some {α : Type} {a : α} {P : α → Prop} : oK (some a) P = P a := rfl
theorem tX_bool {b : Bool} {P : Bool → Prop} : tX H (.bool b) P = P b := rfl
theorem iX_t {A B : Prop} : ifP true A B = A := rfl
theorem iX_f {A B : Prop} : ifP false A B = B := rfl
theorem iX_d {p : Prop} [Decidable p] {A B : Prop} : ifP (decide p) A B = ((p → A) ∧ (¬ p → B)) := by by_cases h : p <;> simp [ifP, h]
theorem iX_p {p : Prop} [Decidable p] {A B : Prop} (h1 : p → A) (h2 : ¬ p → B) : ifP (decide p) A B := by by_cases h : p <;> simp only [h, decide_true, decide_false, ifP]; exact h1 h; exact h2 h
theorem iX_b {c : Bool} {A B : Prop} (h1 : c = true → A) (h2 : c = false → B) : ifP c A B := by cases c; exact h2 rfl; exact h1 rfl
end
section
variable {Φ : Orc} {H : Hp} {Q : V → Hp → Prop} {X : XL} {i j : Int} {m n : Nat} {x y : Str} {l : List V} {ns : List Int} {a v : V} {b c : Bool}
theorem q_add : pBin .Add (.int i) (.int j) H Q = Q (.int (i + j)) H := rfl
theorem q_sub : pBin .Sub (.int i) (.int j) H Q = Q (.int (i - j)) H := rfl
theorem q_mul : pBin .Mult (.int i) (.int j) H Q = (((-(2 ^ 64) < i ∧ i < 2 ^ 64) ∨ (-(2 ^ 64) < j ∧ j < 2 ^ 64)) ∧ Q (.int (i * j)) H) := rfl
theorem q_div : pBin .FloorDiv (.int i) (.int j) H Q = ((0 < j ∧ j < 2 ^ 128) ∧ Q (.int (i / j)) H) := rfl
theorem q_mod : pBin .Mod (.int i) (.int j) H Q = ((0 < j ∧ j < 2 ^ 128) ∧ Q (.int (i % j)) H) := rfl
theorem q_pow : pBin .Pow (.int i) (.int j) H Q = ((0 ≤ j ∧ j ≤ 1000000 ∧ i.natAbs < 2 ^ 64) ∧ Q (.int (i ^ j.toNat)) H) := rfl
theorem q_list : pBin .Add (.ref m) (.ref n) H Q = oK (listAt H m) fun xs => oK (listAt H n) fun ys => xs.length + ys.length ≤ 1000000 ∧ Q (.ref H.length) (H ++ [.list (xs ++ ys)]) := rfl
theorem q_eq : pCmp .Eq (.int i) (.int j) H Q = Q (.bool (decide (i = j))) H := rfl
theorem q_ne : pCmp .NotEq (.int i) (.int j) H Q = Q (.bool (decide (i ≠ j))) H := rfl
theorem q_eqs : pCmp .Eq (.str x) (.str y) H Q = Q (.bool (x == y)) H := rfl
theorem q_nes : pCmp .NotEq (.str x) (.str y) H Q = Q (.bool (!(x == y))) H := rfl
theorem q_eqb : pCmp .Eq (.bool b) (.bool c) H Q = Q (.bool (b == c)) H := rfl
theorem q_lt : pCmp .Lt (.int i) (.int j) H Q = Q (.bool (decide (i < j))) H := rfl
theorem q_le : pCmp .LtE (.int i) (.int j) H Q = Q (.bool (decide (i ≤ j))) H := rfl
theorem q_gt : pCmp .Gt (.int i) (.int j) H Q = Q (.bool (decide (j < i))) H := rfl
theorem q_ge : pCmp .GtE (.int i) (.int j) H Q = Q (.bool (decide (j ≤ i))) H := rfl
theorem q_in : pCmp .In a (.tup l) H Q = oK (memV a l) fun c => Q (.bool c) H := rfl
theorem q_inl : pCmp .In a (.ref n) H Q = oK (listAt H n) fun l => oK (memV a l) fun c => Q (.bool c) H := rfl
theorem q_nin : pCmp .NotIn a (.tup l) H Q = oK (memV a l) fun c => Q (.bool (!c)) H := rfl
theorem q_is : pCmp .Is a .none H Q = Q (.bool (isNoneV a)) H := rfl
theorem q_isnot : pCmp .IsNot a .none H Q = Q (.bool (!isNoneV a)) H := rfl
theorem q_stup : pSub (.tup l) (.int i) H Q = oK (idx l i) fun v => Q v H := rfl
theorem q_sref : pSub (.ref n) (.int i) H Q = oK (listAt H n) fun l => oK (idx l i) fun v => Q v H := rfl
theorem q_sscr : pSub (.scr ns) (.int i) H Q = oK (idx ns i) fun v => Q (.int v) H := rfl
theorem q_fn {vs : List V} : pCall Φ (.fn x) vs H Q X = Φ x vs H Q X := rfl
theorem q_lentup : pCall Φ (.bi .len) [.tup l] H Q X = Q (.int (l.length : Int)) H := rfl
theorem q_lenref : pCall Φ (.bi .len) [.ref n] H Q X = oK (listAt H n) fun l => Q (.int (l.length : Int)) H := rfl
theorem q_lenscr : pCall Φ (.bi .len) [.scr ns] H Q X = Q (.int (ns.length : Int)) H := rfl
theorem q_isi {t : Ty} : pCall Φ (.bi .isinstance) [v, .ty t] H Q X = oK (isInstH H v t) fun c => Q (.bool c) H := rfl
theorem q_all : pCall Φ (.bi .all) [.ref n] H Q X = oK (listAt H n) fun l => oK (allBools l) fun bs => Q (.bool (bs.all id)) H := rfl
theorem q_max : pCall Φ (.bi .max) [.int i, .int j] H Q X = Q (.int (max i j)) H := rfl
theorem q_min : pCall Φ (.bi .min) [.int i, .int j] H Q X = Q (.int (min i j)) H := rfl
theorem q_int : pCall Φ (.ty .int) [.bool b] H Q X = Q (.int (if b then 1 else 0)) H := rfl
theorem q_tuple : pCall Φ (.ty .tuple) [.ref n] H Q X = oK (listAt H n) fun l => Q (.tup l) H := rfl
theorem q_listc : pCall Φ (.ty .list) [.ref n] H Q X = oK (listAt H n) fun l => Q (.ref H.length) (H ++ [.list l]) := rfl
theorem q_append : pMeth (.ref n) .append [v] H Q = oK (listAt H n) fun l => l.length ≤ 1000000 ∧ Q .none (H.set n (.list (l ++ [v]))) := rfl
theorem q_clear : pMeth (.ref n) .clear [] H Q = oK (listAt H n) fun _ => Q .none (H.set n (.list [])) := rfl
theorem q_index : pMeth (.ref n) .index [v] H Q = oK (listAt H n) fun l => oK (idxV v l) fun j => Q (.int (j : Int)) H := rfl
theorem q_pop : pMeth (.ref n) .pop [] H Q = oK (listAt H n) fun l => oK l.getLast? fun v => Q v (H.set n (.list l.dropLast)) := rfl
theorem q_slicet {lo hi : V} : pSlice (.tup l) lo hi H Q = oK (optInt lo) fun a => oK (optInt hi) fun b => Q (.tup (sliceL l a b)) H := rfl
theorem q_revt : pRev (.tup l) H Q = Q (.tup l.reverse) H := rfl
theorem q_revl : pRev (.ref n) H Q = oK (listAt H n) fun xs => Q (.ref H.length) (H ++ [.list xs.reverse]) := rfl
theorem q_set {QH : Hp → Prop} : pSet (.ref n) (.int i) v H QH = oK (listAt H n) fun l => (0 ≤ i ∧ i < (l.length : Int)) ∧ QH (H.set n (.list (l.set i.toNat v))) := rfl
theorem q_repr : pCall Φ (.bi .repr) [v] H Q X = oK (toPyT H v) fun d => (d.showable = true ∧ d.depth ≤ 60 ∧ d.shown.length ≤ 1000000) ∧ Q (.opq d.shown) H := rfl
theorem q_eqo : pCmp .Eq (.opq x) (.opq y) H Q = Q (.bool (x == y)) H := rfl
theorem X_rev {L : Lc} {o : IE} : (wp2 Φ (.rev o)).E L H Q X = (wp2 Φ o).E L H (fun vo H1 => pRev vo H1 Q) X := rfl
theorem Z_set {L : Lc} {QF : QS} {XF : XS} {o k e : IE} : wpS Φ (.setItem o k e) L H QF XF = (wp2 Φ e).E L H (fun vv H1 => (wp2 Φ o).E L H1 (fun vo H2 => (wp2 Φ k).E L H2 (fun vk H3 => pSet vo vk vv H3 (QF .next L)) (fun x => XF x L)) (fun x => XF x L)) (fun x => XF x L) := rfl
theorem q_addt {l2 : List V} : pBin .Add (.tup l) (.tup l2) H Q = (l.length + l2.length ≤ 1000000 ∧ Q (.tup (l ++ l2)) H) := rfl
theorem q_listt : pCall Φ (.ty .list) [.tup l] H Q X = Q (.ref H.length) (H ++ [.list l]) := rfl
theorem q_ninl : pCmp .NotIn a (.ref n) H Q = oK (listAt H n) fun l => oK (memV a l) fun c => Q (.bool (!c)) H := rfl
theorem u_tup {R : List V → (Hp → Prop) → Prop} : pSrc .val [.tup l] H R = R l (fun _ => True) := rfl
theorem u_ref {R : List V → (Hp → Prop) → Prop} : pSrc .val [.ref n] H R = oK (listAt H n) fun l => R l (fun H' => listAt H' n = some l) := rfl
theorem q_slice {lo hi : V} : pSlice (.ref n) lo hi H Q = oK (listAt H n) fun xs => oK (optInt lo) fun l => oK (optInt hi) fun h => Q (.ref H.length) (H ++ [.list (sliceL xs l h)]) := rfl
theorem oi_none : optInt .none = some none := rfl
theorem oi_int : optInt (.int i) = some (some i) := rfl
theorem X_slice {L : Lc} {o : IE} {lo hi : Option IE} : (wp2 Φ (.slice o lo hi)).E L H Q X = (wp2 Φ o).E L H (fun vo H1 => wpO Φ lo L H1 (fun vl H2 => wpO Φ hi L H2 (fun vh H3 => pSlice vo vl vh H3 Q) X) X) X := rfl
theorem XO_none {L : Lc} : wpO Φ none L H Q X = Q .none H := rfl
theorem XO_some {L : Lc} {e : IE} : wpO Φ (some e) L H Q X = (wp2 Φ e).E L H Q X := rfl
theorem u_zip {l2 : List V} {R : List V → (Hp → Prop) → Prop} : pSrc .zip [.tup l, .tup l2] H R = R (zipL l l2) (fun _ => True) := rfl
theorem xb_two {L : Lc} {i j : Nat} {u v : V} : bindVars [i, j] (.tup [u, v]) L = some ((L.set i (some u)).set j (some v)) := rfl
theorem u_rev {R : List V → (Hp → Prop) → Prop} : pSrc .rev [.ref n] H R = oK (listAt H n) fun l => R l.reverse (fun H' => listAt H' n = some l) := rfl
theorem u_range {R : List V → (Hp → Prop) → Prop} : pSrc .range [.int i] H R = ((-(2 ^ 62) ≤ i ∧ i ≤ 1000000) ∧ R (rangeL 0 i) (fun _ => True)) := rfl
theorem u_range2 {R : List V → (Hp → Prop) → Prop} : pSrc .range [.int i, .int j] H R = ((-(2 ^ 62) ≤ i ∧ i < 2 ^ 62 ∧ -(2 ^ 62) ≤ j ∧ j < 2 ^ 62 ∧ j - i ≤ 1000000) ∧ R (rangeL i j) (fun _ => True)) := rfl
end
theorem fn_of {Φ : Orc} {f : Fn} {vs : List V} {H : Hp} {Q : V → Hp → Prop} {X : XL} (h1 : vs.length = f.params) (h : wpSs Φ f.body (initL f vs) H (fun fl _ H1 => Q (retV fl) H1) (fun x _ H1 => X x H1)) : wpFn Φ f vs H Q X := ⟨h1, h⟩
theorem retV_ret {v : V} : retV (.ret v) = v := rfl
theorem retV_next : retV .next = .none := rfl
theorem idx_0 {α : Type} {l : List α} : idx l 0 = l[0]? := rfl
theorem idx_1 {α : Type} {l : List α} : idx l 1 = l[1]? := rfl
theorem idx_2 {α : Type} {l : List α} : idx l 2 = l[2]? := rfl
theorem idx_3 {α : Type} {l : List α} : idx l 3 = l[3]? := rfl
theorem idx_4 {α : Type} {l : List α} : idx l 4 = l[4]? := rfl
theorem idx_5 {α : Type} {l : List α} : idx l 5 = l[5]? := rfl
/- the oracle grows -/
noncomputable def ext (n : Str) (C : List V → Hp → (V → Hp → Prop) → XL → Prop) (Φ : Orc) : Orc := fun x vs H Q X => if x == n then C vs H Q X else Φ x vs H Q X
noncomputable def noΦ : Orc := fun _ _ _ _ _ => False
theorem listAt_pre {H H' : Hp} {i : Nat} {l : List V} (p : H <+: H') (h : listAt H i = some l) : listAt H' i = some l := by
  obtain ⟨Δ, rfl⟩ := p
  unfold listAt at h ⊢
  split at h
  · rename_i xs e
    rw [List.getElem?_append_left (List.getElem?_eq_some_iff.mp e).1, e]
    exact h
  · cases h
theorem listAt_new {H : Hp} {l : List V} : listAt (H ++ [.list l]) H.length = some l := by simp [listAt]
theorem set_new {H : Hp} {l m : List V} : (H ++ [O.list l]).set H.length (.list m) = H ++ [.list m] := by simp
theorem pre_new {H : Hp} {o : O} : H <+: H ++ [o] := List.prefix_append _ _
theorem idx_nat {α : Type} {l : List α} {k : Nat} : idx l (k : Int) = l[k]? := by simp [idx]
end Mine

set_option autoImplicit false
/- How the abstract values and heaps lie in the machine's heap; steps. -/
namespace Mine
open PySem

structure Wd where
  prog : Program
  w : World
  hB : Heap
  mg : Str → Option Value
  mb : Str → Option Value

noncomputable def TupAt (h : Heap) (a : Addr) (vs : List Value) : Prop := ∃ n, h.get? a = some { cls := .type "tuple", data := .seq vs.toArray n } ∧ vs.length ≤ 2000000

noncomputable def StrFine (x : Str) : Prop := x.length ≤ 2000000 ∧ PyData.strOk x = true

mutual
noncomputable def Rep (mg : Wd) (γ : List Addr) (h : Heap) (v : Value) : V → Prop
  | .none => v = .none
  | .bool b => v = .bool b
  | .int i => ∃ t, v = .int i t
  | .str s => ∃ t, v = .str s t ∧ StrFine s
  | .opq s => ∃ t, v = .str s t
  | .tup l => ∃ a vs, v = .ref a ∧ TupAt h a vs ∧ Reps mg γ h vs l
  | .ref i => ∃ a, γ[i]? = some a ∧ v = .ref a
  | .fn x => ∃ a, v = .ref a ∧ mg.mg x = some (.ref a)
  | .ty n => v = .type n.name
  | .bi n => v = .builtin n.name
  | .scr ns => ∃ (a : Addr) (vs : List Value), v = .ref a ∧ mg.hB.IsList a vs.toArray ∧ vs.length ≤ 2000000 ∧ vs.length = ns.length ∧ ∀ (k : Nat) (i : Int), ns[k]? = some i → ∃ t, vs[k]? = some (.int i t)
noncomputable def Reps (mg : Wd) (γ : List Addr) (h : Heap) (vs : List Value) : List V → Prop
  | [] => vs = []
  | V :: l => ∃ v r, vs = v :: r ∧ Rep mg γ h v V ∧ Reps mg γ h r l
end

noncomputable def ORep (mg : Wd) (γ : List Addr) (h : Heap) (a : Addr) : O → Prop
  | .list xs => ∃ vs n, h.get? a = some { cls := .type "list", data := .seq vs.toArray n } ∧ Reps mg γ h vs xs ∧ vs.length ≤ 2000000

structure HRel (D : Wd) (γ : List Addr) (H : Hp) (h : Heap) : Prop where
  len : γ.length = H.length
  nodup : γ.Nodup
  objs : ∀ (i : Nat) (a : Addr) (o : O), γ[i]? = some a → H[i]? = some o → ORep D γ h a o
  fresh : ∀ a ∈ γ, D.hB.get? a = none
  base : ∀ b o, D.hB.get? b = some o → h.get? b = some o

structure Stp (wr γ γ' : List Addr) (s s' : Shared) : Prop where
  same : ∃ h' tk, s' = { s with heap := h', toks := tk }
  keep : ∀ b o, b ∉ γ → b ∉ wr → s.heap.get? b = some o → s'.heap.get? b = some o
  ext : ∃ δ, γ' = γ ++ δ ∧ ∀ a ∈ δ, s.heap.get? a = none

theorem HRel.alive {D : Wd} {γ : List Addr} {H : Hp} {h : Heap} (R : HRel D γ H h) {a : Addr} (ha : a ∈ γ) : ∃ o, h.get? a = some o ∧ o.cls ≠ .type "tuple" ∧ (∀ es n, o.data ≠ .dict es n) ∧ (∀ v, o.data ≠ .cell v) := by
  obtain ⟨i, hi, rfl⟩ := List.getElem_of_mem ha
  have hH : i < H.length := R.len ▸ hi
  have := R.objs i γ[i] H[i] (by simp [hi]) (by simp [hH])
  cases ho : H[i] with
  | list xs =>
    rw [ho] at this
    obtain ⟨vs, n, e, _⟩ := this
    exact ⟨_, e, (by simp), (by intro es n q; cases q), (by intro v q; cases q)⟩

theorem Stp.refl {wr γ : List Addr} {s : Shared} : Stp wr γ γ s s := ⟨⟨s.heap, s.toks, rfl⟩, fun _ _ _ _ e => e, ⟨[], by simp, by simp⟩⟩

theorem Stp.trans {D : Wd} {wr γ γ1 γ2 : List Addr} {s s1 s2 : Shared} {H1 : Hp} (R1 : HRel D γ1 H1 s1.heap) (a : Stp wr γ γ1 s s1) (b : Stp wr γ1 γ2 s1 s2)
    (hw : ∀ x ∈ wr, ∀ o, s.heap.get? x = some o → ∃ o', s1.heap.get? x = some o') : Stp wr γ γ2 s s2 := by
  obtain ⟨δ1, rfl, f1⟩ := a.ext
  obtain ⟨δ2, rfl, f2⟩ := b.ext
  refine ⟨?_, ?_, ⟨δ1 ++ δ2, by simp, ?_⟩⟩
  · obtain ⟨h1, t1, rfl⟩ := a.same
    obtain ⟨h2, t2, rfl⟩ := b.same
    exact ⟨h2, t2, rfl⟩
  · intro x o hx hxw e
    refine b.keep x o ?_ hxw (a.keep x o hx hxw e)
    intro hm
    rcases List.mem_append.mp hm with q | q
    · exact hx q
    · rw [f1 x q] at e; cases e
  · intro x hx
    rcases List.mem_append.mp hx with q | q
    · exact f1 x q
    · cases e : s.heap.get? x with
      | none => rfl
      | some o =>
        have hn := f2 x q
        by_cases hg : x ∈ γ
        · obtain ⟨o', e', _⟩ := R1.alive (List.mem_append_left _ hg)
          rw [e'] at hn; cases hn
        · by_cases hxw : x ∈ wr
          · obtain ⟨o', e'⟩ := hw x hxw o e
            rw [e'] at hn; cases hn
          · rw [a.keep x o hg hxw e] at hn; cases hn

theorem Stp.trans0 {D : Wd} {γ γ1 γ2 : List Addr} {s s1 s2 : Shared} {H1 : Hp} (R1 : HRel D γ1 H1 s1.heap) (a : Stp [] γ γ1 s s1) (b : Stp [] γ1 γ2 s1 s2) : Stp [] γ γ2 s s2 :=
  a.trans R1 b (by simp)

theorem Stp.weak {wr γ γ' : List Addr} {s s' : Shared} (a : Stp [] γ γ' s s') : Stp wr γ γ' s s' := ⟨a.same, fun b o h1 _ e => a.keep b o h1 (by simp) e, a.ext⟩

theorem getElem?_ext {γ γ' : List Addr} {i : Nat} {a : Addr} (h : ∃ δ, γ' = γ ++ δ) (e : γ[i]? = some a) : γ'[i]? = some a := by
  obtain ⟨δ, rfl⟩ := h
  rw [List.getElem?_append_left]
  · exact e
  · obtain ⟨h1, _⟩ := List.getElem?_eq_some_iff.mp e; exact h1

theorem nodup_inj {l : List Addr} (hn : l.Nodup) {i j : Nat} (hi : i < l.length) (hj : j < l.length) (e : l[i] = l[j]) : i = j := by
  have p := List.pairwise_iff_getElem.mp hn
  rcases Nat.lt_trichotomy i j with q | q | q
  · exact absurd e (p i j hi hj q)
  · exact q
  · exact absurd e.symm (p j i hj hi q)

mutual
theorem Rep.mono {mg : Wd} {γ γ' : List Addr} {h h' : Heap} (hg : ∃ δ, γ' = γ ++ δ) (hk : ∀ a vs, TupAt h a vs → TupAt h' a vs) {v : Value} : ∀ {V : V}, Rep mg γ h v V → Rep mg γ' h' v V
  | .none, x => by simpa only [Rep] using x
  | .bool _, x => by simpa only [Rep] using x
  | .int _, x => by simpa only [Rep] using x
  | .str _, x => by simpa only [Rep] using x
  | .opq _, x => by simpa only [Rep] using x
  | .tup l, x => by
    simp only [Rep] at x ⊢
    obtain ⟨a, vs, e, t, r⟩ := x
    exact ⟨a, vs, e, hk _ _ t, Reps.mono hg hk r⟩
  | .ref _, x => by
    simp only [Rep] at x ⊢
    obtain ⟨a, e, r⟩ := x
    exact ⟨a, getElem?_ext hg e, r⟩
  | .fn _, x => by simpa only [Rep] using x
  | .ty _, x => by simpa only [Rep] using x
  | .bi _, x => by simpa only [Rep] using x
  | .scr _, x => by simpa only [Rep] using x
theorem Reps.mono {mg : Wd} {γ γ' : List Addr} {h h' : Heap} (hg : ∃ δ, γ' = γ ++ δ) (hk : ∀ a vs, TupAt h a vs → TupAt h' a vs) {vs : List Value} : ∀ {l : List V}, Reps mg γ h vs l → Reps mg γ' h' vs l
  | [], x => by simpa only [Reps] using x
  | V :: l, x => by
    simp only [Reps] at x ⊢
    obtain ⟨v, r, e, a, b⟩ := x
    exact ⟨v, r, e, Rep.mono hg hk a, Reps.mono hg hk b⟩
end

theorem Reps.length {mg : Wd} {γ : List Addr} {h : Heap} : ∀ {vs : List Value} {l : List V}, Reps mg γ h vs l → vs.length = l.length
  | vs, [], x => by simp only [Reps] at x; simp [x]
  | vs, V :: l, x => by
    simp only [Reps] at x
    obtain ⟨v, r, rfl, _, b⟩ := x
    simp [Reps.length b]

theorem Reps.get {mg : Wd} {γ : List Addr} {h : Heap} : ∀ {vs : List Value} {l : List V} {k : Nat} {V : V}, Reps mg γ h vs l → l[k]? = some V → ∃ v, vs[k]? = some v ∧ Rep mg γ h v V
  | vs, [], _, _, _, e => by simp at e
  | vs, V :: l, k, W, x, e => by
    simp only [Reps] at x
    obtain ⟨v, r, rfl, a, b⟩ := x
    cases k with
    | zero => simp at e; subst e; exact ⟨v, by simp, a⟩
    | succ k => simp at e; obtain ⟨u, hu, ru⟩ := Reps.get b e; exact ⟨u, by simpa using hu, ru⟩

theorem Reps.append {mg : Wd} {γ : List Addr} {h : Heap} : ∀ {vs : List Value} {l : List V} {ws : List Value} {m : List V}, Reps mg γ h vs l → Reps mg γ h ws m → Reps mg γ h (vs ++ ws) (l ++ m)
  | vs, [], ws, m, x, y => by simp only [Reps] at x; subst x; simpa using y
  | vs, V :: l, ws, m, x, y => by
    simp only [Reps] at x
    obtain ⟨v, r, rfl, a, b⟩ := x
    simp only [List.cons_append, Reps]
    exact ⟨v, r ++ ws, rfl, a, Reps.append b y⟩

theorem Reps.drop {mg : Wd} {γ : List Addr} {h : Heap} : ∀ {vs : List Value} {l : List V} (n : Nat), Reps mg γ h vs l → Reps mg γ h (vs.drop n) (l.drop n)
  | vs, l, 0, x => by simpa using x
  | vs, [], n + 1, x => by simp only [Reps] at x; subst x; simp only [List.drop_nil, Reps]
  | vs, V :: l, n + 1, x => by
    simp only [Reps] at x
    obtain ⟨v, r, rfl, a, b⟩ := x
    simpa using Reps.drop n b
theorem Reps.take {mg : Wd} {γ : List Addr} {h : Heap} : ∀ {vs : List Value} {l : List V} (n : Nat), Reps mg γ h vs l → Reps mg γ h (vs.take n) (l.take n)
  | vs, l, 0, x => by simp only [List.take_zero, Reps]
  | vs, [], n + 1, x => by simp only [Reps] at x; subst x; simp only [List.take_nil, Reps]
  | vs, V :: l, n + 1, x => by
    simp only [Reps] at x
    obtain ⟨v, r, rfl, a, b⟩ := x
    simp only [List.take_succ_cons, Reps]
    exact ⟨v, _, rfl, a, Reps.take n b⟩
theorem Reps.one {mg : Wd} {γ : List Addr} {h : Heap} {v : Value} {V : V} (x : Rep mg γ h v V) : Reps mg γ h [v] [V] := by
  simp only [Reps]; exact ⟨v, [], rfl, x, rfl⟩

theorem Reps.of_get {mg : Wd} {γ : List Addr} {h : Heap} : ∀ {vs : List Value} {l : List V}, vs.length = l.length → (∀ (k : Nat) (v : Value) (V : V), vs[k]? = some v → l[k]? = some V → Rep mg γ h v V) → Reps mg γ h vs l
  | [], [], _, _ => by simp only [Reps]
  | [], _ :: _, e, _ => by simp at e
  | _ :: _, [], e, _ => by simp at e
  | v :: vs, V :: l, e, f => by
    simp only [Reps]
    exact ⟨v, vs, rfl, f 0 v V (by simp) (by simp), Reps.of_get (by simpa using e) fun k u U h1 h2 => f (k + 1) u U (by simpa using h1) (by simpa using h2)⟩

section
variable {D : Wd} {wr γ γ' : List Addr} {H : Hp} {s s' : Shared}

theorem TupAt.stp (R : HRel D γ H s.heap) (t : Stp wr γ γ' s s') (hw : ∀ x ∈ wr, ∀ ws, ¬ TupAt s.heap x ws) {a : Addr} {vs : List Value} (x : TupAt s.heap a vs) : TupAt s'.heap a vs := by
  obtain ⟨n, e, f⟩ := id x
  refine ⟨n, t.keep a _ ?_ ?_ e, f⟩
  · intro hm
    obtain ⟨o', e', nt, _⟩ := R.alive hm
    rw [e] at e'; cases e'; exact nt rfl
  · intro hm; exact hw a hm _ x

theorem Rep.stp (R : HRel D γ H s.heap) (t : Stp wr γ γ' s s') (hw : ∀ x ∈ wr, ∀ ws, ¬ TupAt s.heap x ws) {v : Value} {V : V} (x : Rep D γ s.heap v V) : Rep D γ' s'.heap v V :=
  Rep.mono (let ⟨δ, e, _⟩ := t.ext; ⟨δ, e⟩) (fun _ _ q => q.stp R t hw) x
theorem Reps.stp (R : HRel D γ H s.heap) (t : Stp wr γ γ' s s') (hw : ∀ x ∈ wr, ∀ ws, ¬ TupAt s.heap x ws) {vs : List Value} {l : List V} (x : Reps D γ s.heap vs l) : Reps D γ' s'.heap vs l :=
  Reps.mono (let ⟨δ, e, _⟩ := t.ext; ⟨δ, e⟩) (fun _ _ q => q.stp R t hw) x
theorem Rep.stp0 (R : HRel D γ H s.heap) (t : Stp [] γ γ' s s') {v : Value} {V : V} (x : Rep D γ s.heap v V) : Rep D γ' s'.heap v V := x.stp R t (by simp)
theorem Reps.stp0 (R : HRel D γ H s.heap) (t : Stp [] γ γ' s s') {vs : List Value} {l : List V} (x : Reps D γ s.heap vs l) : Reps D γ' s'.heap vs l := x.stp R t (by simp)

/- a step that only adds objects, and keeps every object there was -/
theorem stp_grow {h' : Heap} {tk : Nat} (hk : ∀ b o, s.heap.get? b = some o → h'.get? b = some o) : Stp wr γ γ s { s with heap := h', toks := tk } :=
  ⟨⟨h', tk, rfl⟩, fun b o _ _ e => hk b o e, ⟨[], by simp, by simp⟩⟩

theorem tupAt_grow {h h' : Heap} (hk : ∀ b o, h.get? b = some o → h'.get? b = some o) {a : Addr} {vs : List Value} (x : TupAt h a vs) : TupAt h' a vs := by
  obtain ⟨n, e, r⟩ := x; exact ⟨n, hk _ _ e, r⟩

theorem HRel.grow {h h' : Heap} (R : HRel D γ H h) (hk : ∀ b o, h.get? b = some o → h'.get? b = some o) : HRel D γ H h' where
  len := R.len
  nodup := R.nodup
  objs := fun i a o e1 e2 => by
    have := R.objs i a o e1 e2
    cases o with
    | list xs =>
      obtain ⟨vs, n, e, r, z⟩ := this
      exact ⟨vs, n, hk _ _ e, Reps.mono ⟨[], by simp⟩ (fun _ _ => tupAt_grow hk) r, z⟩
  fresh := R.fresh
  base := fun b o e => hk _ _ (R.base b o e)

/- a new list at the end of the abstract heap -/
theorem HRel.newList {vs : List Value} {l : List V} {h : Heap} (R : HRel D γ H h) (r : Reps D γ h vs l) (hz : l.length ≤ 2000000) :
    HRel D (γ ++ [h.objs.size]) (H ++ [.list l]) (h.push { cls := .type "list", data := .seq vs.toArray }) where
  len := by simp [R.len]
  nodup := by
    refine List.nodup_append.mpr ⟨R.nodup, by simp, ?_⟩
    intro a ha b hb
    simp at hb; subst hb
    intro e; subst e
    obtain ⟨o, e, _⟩ := R.alive ha
    exact absurd (Heap.lt_size e) (Nat.lt_irrefl _)
  objs := fun i a o e1 e2 => by
    have hk : ∀ b o, h.get? b = some o → (h.push { cls := .type "list", data := .seq vs.toArray }).get? b = some o := fun b o e => Heap.get?_push_of_some _ e
    have ht : ∀ a vs', TupAt h a vs' → TupAt (h.push { cls := .type "list", data := .seq vs.toArray }) a vs' := fun _ _ => tupAt_grow hk
    rcases Nat.lt_trichotomy i γ.length with hi | hi | hi
    · rw [List.getElem?_append_left hi] at e1
      rw [List.getElem?_append_left (R.len ▸ hi)] at e2
      have := R.objs i a o e1 e2
      cases o with
      | list xs =>
        obtain ⟨ws, n, e, q, z⟩ := this
        exact ⟨ws, n, hk _ _ e, Reps.mono ⟨_, rfl⟩ ht q, z⟩
    · subst hi
      rw [List.getElem?_append_right (Nat.le_refl _)] at e1
      rw [R.len, List.getElem?_append_right (Nat.le_refl _)] at e2
      simp at e1 e2; subst e1; subst e2
      exact ⟨vs, 0, Heap.get?_push_size _ rfl, Reps.mono ⟨_, rfl⟩ ht r, by rw [r.length]; exact hz⟩
    · exfalso
      have : (γ ++ [h.objs.size]).length ≤ i := by simp; omega
      rw [List.getElem?_eq_none this] at e1; cases e1
  fresh := by
    intro a ha
    rcases List.mem_append.mp ha with q | q
    · exact R.fresh a q
    · simp at q; subst q
      cases e : D.hB.get? h.objs.size with
      | none => rfl
      | some o => exact absurd (Heap.lt_size (R.base _ _ e)) (Nat.lt_irrefl _)
  base := fun b o e => Heap.get?_push_of_some _ (R.base b o e)

theorem HRel.addList {vs : List Value} {l : List V} {h h' : Heap} {a : Addr} {n : Nat} (R : HRel D γ H h) (r : Reps D γ h vs l) (hz : l.length ≤ 2000000)
    (hk : ∀ b o, h.get? b = some o → h'.get? b = some o) (hn : h.get? a = none) (ha : h'.get? a = some { cls := .type "list", data := .seq vs.toArray n }) :
    HRel D (γ ++ [a]) (H ++ [.list l]) h' where
  len := by simp [R.len]
  nodup := by
    refine List.nodup_append.mpr ⟨R.nodup, by simp, ?_⟩
    intro b hb c hc
    simp at hc; subst hc
    intro e; subst e
    obtain ⟨o, e, _⟩ := R.alive hb
    rw [hn] at e; cases e
  objs := fun i b o e1 e2 => by
    have ht : ∀ a vs', TupAt h a vs' → TupAt h' a vs' := fun _ _ => tupAt_grow hk
    rcases Nat.lt_trichotomy i γ.length with hi | hi | hi
    · rw [List.getElem?_append_left hi] at e1
      rw [List.getElem?_append_left (R.len ▸ hi)] at e2
      have := R.objs i b o e1 e2
      cases o with
      | list xs =>
        obtain ⟨ws, n, e, q, z⟩ := this
        exact ⟨ws, n, hk _ _ e, Reps.mono ⟨_, rfl⟩ ht q, z⟩
    · subst hi
      rw [List.getElem?_append_right (Nat.le_refl _)] at e1
      rw [R.len, List.getElem?_append_right (Nat.le_refl _)] at e2
      simp at e1 e2; subst e1; subst e2
      exact ⟨vs, n, ha, Reps.mono ⟨_, rfl⟩ ht r, by rw [r.length]; exact hz⟩
    · exfalso
      have : (γ ++ [a]).length ≤ i := by simp; omega
      rw [List.getElem?_eq_none this] at e1; cases e1
  fresh := by
    intro b hb
    rcases List.mem_append.mp hb with q | q
    · exact R.fresh b q
    · simp at q; subst q
      cases e : D.hB.get? b with
      | none => rfl
      | some o => have := R.base _ _ e; rw [hn] at this; cases this
  base := fun b o e => hk _ _ (R.base b o e)

theorem Stp.newList {o : Obj} {h : Heap} (e : s.heap = h) : Stp wr γ (γ ++ [h.objs.size]) s { s with heap := h.push o } :=
  ⟨⟨_, s.toks, rfl⟩, fun b o' _ _ q => Heap.get?_push_of_some _ (e ▸ q), ⟨[h.objs.size], rfl, fun a ha => by
    simp at ha; subst ha; subst e
    cases q : s.heap.get? s.heap.objs.size with
    | none => rfl
    | some o => exact absurd (Heap.lt_size q) (Nat.lt_irrefl _)⟩⟩

/- a list of the abstract heap changed -/
theorem HRel.setList {i : Nat} {a : Addr} {vs : List Value} {l : List V} {n : Nat} {h h' : Heap} (R : HRel D γ H h) (hi : γ[i]? = some a) (r : Reps D γ h vs l) (hz : l.length ≤ 2000000)
    (e : h'.get? a = some { cls := .type "list", data := .seq vs.toArray n }) (hk : ∀ b o, b ≠ a → h.get? b = some o → h'.get? b = some o) :
    HRel D γ (H.set i (.list l)) h' := by
  have ha : a ∈ γ := List.mem_of_getElem? hi
  have ht : ∀ b ws, TupAt h b ws → TupAt h' b ws := fun b ws x => by
    obtain ⟨m, q, d⟩ := x
    refine ⟨m, hk _ _ ?_ q, d⟩
    rintro rfl
    obtain ⟨o', e', nt, _⟩ := R.alive ha
    rw [q] at e'; cases e'; exact nt rfl
  refine ⟨by simp [R.len], R.nodup, ?_, R.fresh, ?_⟩
  · intro j b o e1 e2
    by_cases hj : i = j
    · subst hj
      rw [hi] at e1; cases e1
      have hlt : i < H.length := R.len ▸ (List.getElem?_eq_some_iff.mp hi).1
      rw [List.getElem?_set_self hlt] at e2; cases e2
      exact ⟨vs, n, e, Reps.mono ⟨[], by simp⟩ ht r, by rw [r.length]; exact hz⟩
    · rw [List.getElem?_set_ne hj] at e2
      have hb : b ≠ a := by
        rintro rfl
        obtain ⟨h1, q1⟩ := List.getElem?_eq_some_iff.mp hi
        obtain ⟨h2, q2⟩ := List.getElem?_eq_some_iff.mp e1
        exact hj (nodup_inj R.nodup h1 h2 (q1.trans q2.symm))
      have := R.objs j b o e1 e2
      cases o with
      | list xs =>
        obtain ⟨ws, m, q, z, y⟩ := this
        exact ⟨ws, m, hk _ _ hb q, Reps.mono ⟨[], by simp⟩ ht z, y⟩
  · intro b o q
    refine hk b o ?_ (R.base b o q)
    rintro rfl
    rw [R.fresh _ ha] at q; cases q
end
end Mine

set_option autoImplicit false
/- Posts, locals, and how trees go on. -/
namespace Mine
open PySem

noncomputable def XRep (_D : Wd) (_γ : List Addr) (_s : Shared) (_e : Value) (_x : Exc) : Prop := False

noncomputable def PostV (D : Wd) (γ : List Addr) (s : Shared) (Q : V → Hp → Prop) (v : Value) (s' : Shared) : Prop :=
  ∃ γ' V H', Stp [] γ γ' s s' ∧ HRel D γ' H' s'.heap ∧ Rep D γ' s'.heap v V ∧ Q V H'
noncomputable def PostL (D : Wd) (γ : List Addr) (s : Shared) (Q : List V → Hp → Prop) (vs : List Value) (s' : Shared) : Prop :=
  ∃ γ' Vs H', Stp [] γ γ' s s' ∧ HRel D γ' H' s'.heap ∧ Reps D γ' s'.heap vs Vs ∧ Q Vs H'
noncomputable def PostB (D : Wd) (γ : List Addr) (s : Shared) (Q : Bool → Hp → Prop) (c : Bool) (s' : Shared) : Prop :=
  ∃ γ' H', Stp [] γ γ' s s' ∧ HRel D γ' H' s'.heap ∧ Q c H'
noncomputable def PostX (D : Wd) (γ : List Addr) (s : Shared) (X : XL) (e : Value) (s' : Shared) : Prop :=
  ∃ γ' H' x, Stp [] γ γ' s s' ∧ HRel D γ' H' s'.heap ∧ XRep D γ' s' e x ∧ X x H'

noncomputable abbrev Wd.M (D : Wd) : Model := model D.prog D.w

structure AOk (k : Nat) (A : Around) : Prop where
  handled : A.handled = none
  depth : A.depth + k < 900
  units : A.units + 4 * k < 9000
  guards : A.guards = some []

theorem AOk.mono {k k' : Nat} {A : Around} (h : AOk k A) (hk : k' ≤ k) : AOk k' A := ⟨h.handled, by have := h.depth; omega, by have := h.units; omega, h.guards⟩
theorem AOk.deeper {k : Nat} {A : Around} (h : AOk (k + 1) A) (env : Env) : AOk k (A.deeper env) :=
  ⟨h.handled, by have := h.depth; show A.depth + 1 + k < 900; omega, by have := h.units; show A.units + 3 + 4 * k < 9000; omega, h.guards⟩

section
variable {D : Wd} {γ γ1 : List Addr} {H H1 : Hp} {s s1 : Shared} {A : Around}

theorem PostV.back {Q : V → Hp → Prop} {v : Value} {s' : Shared} (t : Stp [] γ γ1 s s1) (R : HRel D γ1 H1 s1.heap) (h : PostV D γ1 s1 Q v s') : PostV D γ s Q v s' := by
  obtain ⟨γ', V, H', a, b, c, d⟩ := h
  exact ⟨γ', V, H', t.trans0 R a, b, c, d⟩
theorem PostL.back {Q : List V → Hp → Prop} {v : List Value} {s' : Shared} (t : Stp [] γ γ1 s s1) (R : HRel D γ1 H1 s1.heap) (h : PostL D γ1 s1 Q v s') : PostL D γ s Q v s' := by
  obtain ⟨γ', V, H', a, b, c, d⟩ := h
  exact ⟨γ', V, H', t.trans0 R a, b, c, d⟩
theorem PostB.back {Q : Bool → Hp → Prop} {v : Bool} {s' : Shared} (t : Stp [] γ γ1 s s1) (R : HRel D γ1 H1 s1.heap) (h : PostB D γ1 s1 Q v s') : PostB D γ s Q v s' := by
  obtain ⟨γ', H', a, b, d⟩ := h
  exact ⟨γ', H', t.trans0 R a, b, d⟩
theorem PostX.back {X : XL} {v : Value} {s' : Shared} (t : Stp [] γ γ1 s s1) (R : HRel D γ1 H1 s1.heap) (h : PostX D γ1 s1 X v s') : PostX D γ s X v s' := by
  obtain ⟨γ', V, H', a, b, c, d⟩ := h
  exact ⟨γ', V, H', t.trans0 R a, b, c, d⟩

theorem backV {t : Sem Value} {Q : V → Hp → Prop} {X : XL} (st : Stp [] γ γ1 s s1) (R : HRel D γ1 H1 s1.heap) (h : wpAny D.M A t (PostV D γ1 s1 Q) (PostX D γ1 s1 X) s1) :
    wpAny D.M A t (PostV D γ s Q) (PostX D γ s X) s1 := wpAny_mono h (fun _ _ x => x.back st R) (fun _ _ x => x.back st R)
theorem backB {t : Sem Bool} {Q : Bool → Hp → Prop} {X : XL} (st : Stp [] γ γ1 s s1) (R : HRel D γ1 H1 s1.heap) (h : wpAny D.M A t (PostB D γ1 s1 Q) (PostX D γ1 s1 X) s1) :
    wpAny D.M A t (PostB D γ s Q) (PostX D γ s X) s1 := wpAny_mono h (fun _ _ x => x.back st R) (fun _ _ x => x.back st R)
theorem backL {t : Sem (List Value)} {Q : List V → Hp → Prop} {X : XL} (st : Stp [] γ γ1 s s1) (R : HRel D γ1 H1 s1.heap) (h : wpAny D.M A t (PostL D γ1 s1 Q) (PostX D γ1 s1 X) s1) :
    wpAny D.M A t (PostL D γ s Q) (PostX D γ s X) s1 := wpAny_mono h (fun _ _ x => x.back st R) (fun _ _ x => x.back st R)

/- the first tree of several -/
theorem andThen {t : Sem Value} {Q : V → Hp → Prop} {P : Value → Shared → Prop} {X : XL} (h : wpAny D.M A t (PostV D γ s Q) (PostX D γ s X) s)
    (k : ∀ v s1 γ1 V H1, Stp [] γ γ1 s s1 → HRel D γ1 H1 s1.heap → Rep D γ1 s1.heap v V → Q V H1 → P v s1) : wpAny D.M A t P (PostX D γ s X) s :=
  wpAny_mono h (fun v s1 ⟨γ1, V, H1, a, b, c, d⟩ => k v s1 γ1 V H1 a b c d) (fun _ _ x => x)
theorem andThenL {t : Sem (List Value)} {Q : List V → Hp → Prop} {P : List Value → Shared → Prop} {X : XL} (h : wpAny D.M A t (PostL D γ s Q) (PostX D γ s X) s)
    (k : ∀ v s1 γ1 V H1, Stp [] γ γ1 s s1 → HRel D γ1 H1 s1.heap → Reps D γ1 s1.heap v V → Q V H1 → P v s1) : wpAny D.M A t P (PostX D γ s X) s :=
  wpAny_mono h (fun v s1 ⟨γ1, V, H1, a, b, c, d⟩ => k v s1 γ1 V H1 a b c d) (fun _ _ x => x)
theorem andThenB {t : Sem Bool} {Q : Bool → Hp → Prop} {P : Bool → Shared → Prop} {X : XL} (h : wpAny D.M A t (PostB D γ s Q) (PostX D γ s X) s)
    (k : ∀ v s1 γ1 H1, Stp [] γ γ1 s s1 → HRel D γ1 H1 s1.heap → Q v H1 → P v s1) : wpAny D.M A t P (PostX D γ s X) s :=
  wpAny_mono h (fun v s1 ⟨γ1, H1, a, b, d⟩ => k v s1 γ1 H1 a b d) (fun _ _ x => x)
/- a later one: what it raises is told from the start -/
theorem thenV {t : Sem Value} {Q : V → Hp → Prop} {P : Value → Shared → Prop} {X : XL} (st : Stp [] γ γ1 s s1) (R : HRel D γ1 H1 s1.heap) (h : wpAny D.M A t (PostV D γ1 s1 Q) (PostX D γ1 s1 X) s1)
    (k : ∀ v s2 γ2 V H2, Stp [] γ1 γ2 s1 s2 → HRel D γ2 H2 s2.heap → Rep D γ2 s2.heap v V → Q V H2 → P v s2) : wpAny D.M A t P (PostX D γ s X) s1 :=
  wpAny_mono h (fun v s2 ⟨γ2, V, H2, a, b, c, d⟩ => k v s2 γ2 V H2 a b c d) (fun _ _ x => x.back st R)
theorem thenL {t : Sem (List Value)} {Q : List V → Hp → Prop} {P : List Value → Shared → Prop} {X : XL} (st : Stp [] γ γ1 s s1) (R : HRel D γ1 H1 s1.heap) (h : wpAny D.M A t (PostL D γ1 s1 Q) (PostX D γ1 s1 X) s1)
    (k : ∀ v s2 γ2 V H2, Stp [] γ1 γ2 s1 s2 → HRel D γ2 H2 s2.heap → Reps D γ2 s2.heap v V → Q V H2 → P v s2) : wpAny D.M A t P (PostX D γ s X) s1 :=
  wpAny_mono h (fun v s2 ⟨γ2, V, H2, a, b, c, d⟩ => k v s2 γ2 V H2 a b c d) (fun _ _ x => x.back st R)
theorem thenB {t : Sem Bool} {Q : Bool → Hp → Prop} {P : Bool → Shared → Prop} {X : XL} (st : Stp [] γ γ1 s s1) (R : HRel D γ1 H1 s1.heap) (h : wpAny D.M A t (PostB D γ1 s1 Q) (PostX D γ1 s1 X) s1)
    (k : ∀ v s2 γ2 H2, Stp [] γ1 γ2 s1 s2 → HRel D γ2 H2 s2.heap → Q v H2 → P v s2) : wpAny D.M A t P (PostX D γ s X) s1 :=
  wpAny_mono h (fun v s2 ⟨γ2, H2, a, b, d⟩ => k v s2 γ2 H2 a b d) (fun _ _ x => x.back st R)

/- ends without a change of the heap -/
theorem PostV.now {Q : V → Hp → Prop} {v : Value} {V : V} (R : HRel D γ H s.heap) (r : Rep D γ s.heap v V) (h : Q V H) {tk : Nat} : PostV D γ s Q v { s with toks := tk } :=
  ⟨γ, V, H, stp_grow fun _ _ e => e, R, r, h⟩
theorem PostV.here {Q : V → Hp → Prop} {v : Value} {V : V} (R : HRel D γ H s.heap) (r : Rep D γ s.heap v V) (h : Q V H) : PostV D γ s Q v s :=
  ⟨γ, V, H, Stp.refl, R, r, h⟩
theorem PostB.now {Q : Bool → Hp → Prop} {c : Bool} (R : HRel D γ H s.heap) (h : Q c H) {tk : Nat} : PostB D γ s Q c { s with toks := tk } :=
  ⟨γ, H, stp_grow fun _ _ e => e, R, h⟩
theorem PostB.here {Q : Bool → Hp → Prop} {c : Bool} (R : HRel D γ H s.heap) (h : Q c H) : PostB D γ s Q c s := ⟨γ, H, Stp.refl, R, h⟩
/- ends where objects were added that nothing names -/
theorem PostV.grown {Q : V → Hp → Prop} {v : Value} {V : V} {h' : Heap} {tk : Nat} (R : HRel D γ H s.heap) (hk : ∀ b o, s.heap.get? b = some o → h'.get? b = some o) (r : Rep D γ h' v V) (h : Q V H) :
    PostV D γ s Q v { s with heap := h', toks := tk } := ⟨γ, V, H, stp_grow hk, R.grow hk, r, h⟩
/- a new list -/
theorem PostV.newList {Q : V → Hp → Prop} {vs : List Value} {l : List V} (R : HRel D γ H s.heap) (r : Reps D γ s.heap vs l) (hz : l.length ≤ 2000000) (h : Q (.ref H.length) (H ++ [.list l])) :
    PostV D γ s Q (.ref s.heap.objs.size) { s with heap := s.heap.push { cls := .type "list", data := .seq vs.toArray } } :=
  ⟨γ ++ [s.heap.objs.size], .ref H.length, H ++ [.list l], Stp.newList rfl, R.newList r hz, by
    simp only [Rep]; exact ⟨_, by rw [List.getElem?_append_right (by rw [R.len]; exact Nat.le_refl _)]; simp [R.len], rfl⟩, h⟩
theorem PostV.addList {Q : V → Hp → Prop} {vs : List Value} {l : List V} {h' : Heap} {a : Addr} {n tk : Nat} (R : HRel D γ H s.heap) (r : Reps D γ s.heap vs l) (hz : l.length ≤ 2000000)
    (hk : ∀ b o, s.heap.get? b = some o → h'.get? b = some o) (hn : s.heap.get? a = none) (ha : h'.get? a = some { cls := .type "list", data := .seq vs.toArray n }) (h : Q (.ref H.length) (H ++ [.list l])) :
    PostV D γ s Q (.ref a) { s with heap := h', toks := tk } :=
  ⟨γ ++ [a], .ref H.length, H ++ [.list l], ⟨⟨_, _, rfl⟩, fun b o _ _ e => hk b o e, ⟨[a], rfl, fun b hb => by simp at hb; subst hb; exact hn⟩⟩, R.addList r hz hk hn ha, by
    simp only [Rep]; exact ⟨_, by rw [List.getElem?_append_right (by rw [R.len]; exact Nat.le_refl _)]; simp [R.len], rfl⟩, h⟩
theorem none_end (h : Heap) : h.get? h.objs.size = none := by
  cases e : h.get? h.objs.size with
  | none => rfl
  | some o => exact absurd (Heap.lt_size e) (Nat.lt_irrefl _)
/- a list of the abstract heap changed -/
theorem PostV.setList {Q : V → Hp → Prop} {vs : List Value} {l : List V} {h' : Heap} {i : Nat} {a : Addr} {n tk : Nat} {v : Value} {V : V} (R : HRel D γ H s.heap) (hi : γ[i]? = some a) (r : Reps D γ s.heap vs l) (hz : l.length ≤ 2000000)
    (hk : ∀ b o, b ≠ a → s.heap.get? b = some o → h'.get? b = some o) (ha : h'.get? a = some { cls := .type "list", data := .seq vs.toArray n }) (rv : Rep D γ h' v V) (h : Q V (H.set i (.list l))) :
    PostV D γ s Q v { s with heap := h', toks := tk } :=
  ⟨γ, V, H.set i (.list l), ⟨⟨_, _, rfl⟩, fun b o hb _ e => hk b o (fun q => hb (q ▸ List.mem_of_getElem? hi)) e, ⟨[], by simp, by simp⟩⟩, R.setList hi r hz ha hk, rv, h⟩
/- a new tuple -/
theorem PostV.newTuple {Q : V → Hp → Prop} {vs : List Value} {l : List V} (R : HRel D γ H s.heap) (r : Reps D γ s.heap vs l) (hz : l.length ≤ 2000000) (h : Q (.tup l) H) :
    PostV D γ s Q (.ref s.heap.objs.size) { s with heap := s.heap.push { cls := .type "tuple", data := .seq vs.toArray } } :=
  have hk : ∀ b o, s.heap.get? b = some o → (s.heap.push { cls := .type "tuple", data := .seq vs.toArray }).get? b = some o := fun _ _ e => Heap.get?_push_of_some _ e
  ⟨γ, .tup l, H, ⟨⟨_, s.toks, rfl⟩, fun b o _ _ e => hk b o e, ⟨[], by simp, by simp⟩⟩, R.grow hk, by
    simp only [Rep]
    exact ⟨_, vs, rfl, ⟨0, Heap.get?_push_size _ rfl, by rw [r.length]; exact hz⟩, Reps.mono ⟨[], by simp⟩ (fun _ _ => tupAt_grow hk) r⟩, h⟩
end

/- names -/
structure LRel (D : Wd) (γ : List Addr) (env : Env) (slots : List (Str × Nat)) (h : Heap) (L : Lc) : Prop where
  ns : ∃ m, h.Ns env.locals m ∧ ∀ (x : Str) (i : Nat) (V : V), env.kindOf x = some .local → slots.lookup x = some i → L[i]? = some (some V) → ∃ v, m x = some v ∧ Rep D γ h v V
  cel : ∀ (x : Str), env.kindOf x = some .cell → ∃ c u, env.cells.lookup x = some c ∧ h.IsCell c u ∧ c ∉ γ ∧
    ∀ (i : Nat) (V : V), slots.lookup x = some i → L[i]? = some (some V) → ∃ v, u = some v ∧ Rep D γ h v V
  nin : env.locals ∉ γ

structure EnvOk (c : CC) (env : Env) : Prop where
  scope : env.scope = c.scope
  kind : c.scope.kind = .function
  globals : env.globals = mainGlobals
  builtins : env.builtins = builtinsNs

structure GOk (D : Wd) (G : List (Str × V)) : Prop where
  gns : D.hB.Ns mainGlobals D.mg
  bns : D.hB.Ns builtinsNs D.mb
  val : ∀ (x : Str) (V : V), G.lookup x = some V → ∃ v, (D.mg x = some v ∨ (D.mg x = none ∧ D.mb x = some v)) ∧ ∀ γ, Rep D γ D.hB v V
  lim : D.hB.NoLimit

section
variable {D : Wd} {γ γ1 : List Addr} {H H1 : Hp} {s s1 : Shared} {env : Env} {slots : List (Str × Nat)} {L : Lc}

theorem notin_ext (t : Stp [] γ γ1 s s1) {a : Addr} {o : Obj} (h : a ∉ γ) (e : s.heap.get? a = some o) : a ∉ γ1 := by
  obtain ⟨δ, rfl, f⟩ := t.ext
  intro q
  rcases List.mem_append.mp q with q | q
  · exact h q
  · rw [f a q] at e; cases e

theorem LRel.stp (l : LRel D γ env slots s.heap L) (R : HRel D γ H s.heap) (t : Stp [] γ γ1 s s1) : LRel D γ1 env slots s1.heap L where
  ns := by
    obtain ⟨m, ⟨o, es, ep, ho, r⟩, f⟩ := l.ns
    refine ⟨m, ⟨o, es, ep, t.keep _ _ l.nin (by simp) ho, r⟩, fun x i V a b c => ?_⟩
    obtain ⟨v, e, q⟩ := f x i V a b c
    exact ⟨v, e, q.stp0 R t⟩
  cel := fun x hx => by
    obtain ⟨c, u, a, ⟨o, ho, hd⟩, hc, f⟩ := l.cel x hx
    refine ⟨c, u, a, ⟨o, t.keep _ _ hc (by simp) ho, hd⟩, notin_ext t hc ho, fun i V b d => ?_⟩
    obtain ⟨v, e, q⟩ := f i V b d
    exact ⟨v, e, q.stp0 R t⟩
  nin := by
    obtain ⟨m, ⟨o, es, ep, ho, r⟩, f⟩ := l.ns
    exact notin_ext t l.nin ho

theorem LRel.grow {h h' : Heap} (l : LRel D γ env slots h L) (hk : ∀ b o, h.get? b = some o → h'.get? b = some o) : LRel D γ env slots h' L where
  ns := by
    obtain ⟨m, n, f⟩ := l.ns
    refine ⟨m, n.keeps hk, fun x i V a b c => ?_⟩
    obtain ⟨v, e, q⟩ := f x i V a b c
    exact ⟨v, e, Rep.mono ⟨[], by simp⟩ (fun _ _ => tupAt_grow hk) q⟩
  cel := fun x hx => by
    obtain ⟨c, u, a, q, hc, f⟩ := l.cel x hx
    refine ⟨c, u, a, q.keeps hk, hc, fun i V b d => ?_⟩
    obtain ⟨v, e, q⟩ := f i V b d
    exact ⟨v, e, Rep.mono ⟨[], by simp⟩ (fun _ _ => tupAt_grow hk) q⟩
  nin := l.nin
end

/- what a def answers, by the oracle -/
noncomputable def OrcOk (D : Wd) (k : Nat) (Φ : Orc) : Prop := ∀ x vs H Q X, Φ x vs H Q X → ∀ A γ s vals a, AOk k A → HRel D γ H s.heap → Reps D γ s.heap vals vs → D.mg x = some (.ref a) →
  (∃ o fd, D.hB.get? a = some o ∧ o.data = .func fd) ∧ wpAny D.M A (call (.ref a) vals) (PostV D γ s Q) (PostX D γ s X) s

noncomputable def SE (D : Wd) (Φ : Orc) (k : Nat) (c : CC) (e : Expr) (ie : IE) : Prop := ∀ env A γ H s L Q X, EnvOk c env → AOk k A → HRel D γ H s.heap → LRel D γ env c.slots s.heap L →
  (wp2 Φ ie).E L H Q X → wpAny D.M A (eval e env) (PostV D γ s Q) (PostX D γ s X) s
noncomputable def ST (D : Wd) (Φ : Orc) (k : Nat) (c : CC) (e : Expr) (ie : IE) : Prop := ∀ env A γ H s L Q X, EnvOk c env → AOk k A → HRel D γ H s.heap → LRel D γ env c.slots s.heap L →
  (wp2 Φ ie).T L H Q X → wpAny D.M A (isTrue e env (eval e env)) (PostB D γ s Q) (PostX D γ s X) s
end Mine

set_option autoImplicit false
/- The primitive operations. -/
namespace Mine
open PySem PyProof.Rows

section
variable {D : Wd} {γ : List Addr} {H : Hp} {s : Shared} {A : Around} {E : Value → Shared → Prop}

theorem TupAt.isTup {h : Heap} {a : Addr} {vs : List Value} (x : TupAt h a vs) : IsTup h a vs.toArray := by
  obtain ⟨n, e, _⟩ := x; exact ⟨_, e, rfl, n, rfl⟩
theorem TupAt.isTuple {h : Heap} {a : Addr} {vs : List Value} (x : TupAt h a vs) : h.IsTuple a vs.toArray := by
  obtain ⟨n, e, _⟩ := x; exact ⟨_, e, rfl, n, rfl⟩
theorem TupAt.size {h : Heap} {a : Addr} {vs : List Value} (x : TupAt h a vs) : vs.length ≤ 2000000 := by
  obtain ⟨n, e, z⟩ := x; exact z

/- a list of the abstract heap -/
theorem HRel.list (R : HRel D γ H s.heap) {i : Nat} {a : Addr} {l : List V} (hi : γ[i]? = some a) (hl : listAt H i = some l) :
    ∃ vs n, s.heap.get? a = some { cls := .type "list", data := .seq vs.toArray n } ∧ Reps D γ s.heap vs l ∧ vs.length ≤ 2000000 := by
  unfold listAt at hl
  split at hl
  · rename_i xs e
    cases hl
    exact R.objs i a _ hi e
  · cases hl

theorem strFine_append {x y : Str} (f : StrFine x) (g : StrFine y) (h : x.length + y.length ≤ 1000000) : StrFine (x ++ y) := by
  refine ⟨by rw [strLen_append]; omega, ?_⟩
  have a := f.2; have b := g.2
  unfold PyData.strOk at a b ⊢
  show (x.cps ++ y.cps).all _ = true
  rw [Array.all_append, a, b]; rfl

theorem truth_ok {v : Value} {V : V} {c : Bool} {Q : Bool → Hp → Prop} (R : HRel D γ H s.heap) (r : Rep D γ s.heap v V) (h : truthV H V = some c) (q : Q c H) :
    wpAny D.M A (truthy v) (PostB D γ s Q) E s := by
  cases V with
  | none => simp only [Rep] at r; subst r; cases h; exact truthy_none (PostB.here R q)
  | bool b => simp only [Rep] at r; subst r; cases h; exact wpAny_truthy_bool (PostB.here R q)
  | int i =>
    simp only [Rep] at r; obtain ⟨t, rfl⟩ := r; cases h
    refine truthy_int (PostB.here R ?_)
    have e : (i != 0) = decide (i ≠ 0) := by by_cases hi : i = 0 <;> simp [hi]
    rw [e]; exact q
  | str x =>
    simp only [Rep] at r; obtain ⟨t, rfl, f⟩ := r; cases h
    refine P.truthy_str (by have := f.1; omega) (PostB.now R ?_)
    have e : ((x.length : Int) != 0) = (x.length != 0) := by rw [Bool.eq_iff_iff]; simp only [bne_iff_ne, ne_eq]; omega
    rw [e]; exact q
  | tup l =>
    simp only [Rep] at r; obtain ⟨a, vs, rfl, t, rs⟩ := r; cases h
    refine truthy_tuple t.isTup (by have := t.size; simp; omega) (PostB.now R ?_)
    have := rs.length
    cases vs <;> cases l <;> simp_all
  | ref i =>
    simp only [Rep] at r; obtain ⟨a, hi, rfl⟩ := r
    simp only [truthV, Option.map_eq_some_iff] at h
    obtain ⟨l, hl, rfl⟩ := h
    obtain ⟨vs, n, e, rs, z⟩ := R.list hi hl
    refine wpAny_truthy_list (items := vs.toArray) ⟨_, e, rfl, n, rfl⟩ (by simp; omega) (PostB.now R ?_)
    have := rs.length
    cases vs <;> cases l <;> simp_all
  | opq x => cases h
  | fn x => cases h
  | ty n => cases h
  | bi n => cases h
  | scr n => cases h

theorem neg_ok {v : Value} {i : Int} {Q : V → Hp → Prop} (R : HRel D γ H s.heap) (r : Rep D γ s.heap v (.int i)) (q : Q (.int (-i)) H) :
    wpAny D.M A (unaryOp .USub v) (PostV D γ s Q) E s := by
  simp only [Rep] at r; obtain ⟨t, rfl⟩ := r
  exact neg_int (PostV.now R (by simp only [Rep]; exact ⟨_, rfl⟩) q)

theorem bin_ok {op : Operator} {a b : Value} {Va Vb : V} {Q : V → Hp → Prop} (R : HRel D γ H s.heap) (ra : Rep D γ s.heap a Va) (rb : Rep D γ s.heap b Vb) (h : pBin op Va Vb H Q) :
    wpAny D.M A (binaryOp op a b) (PostV D γ s Q) E s := by
  unfold pBin at h
  split at h
  · simp only [Rep] at ra rb; obtain ⟨t, rfl⟩ := ra; obtain ⟨u, rfl⟩ := rb
    exact add_int (PostV.now R (by simp only [Rep]; exact ⟨_, rfl⟩) h)
  · simp only [Rep] at ra rb; obtain ⟨t, rfl⟩ := ra; obtain ⟨u, rfl⟩ := rb
    exact sub_int (PostV.now R (by simp only [Rep]; exact ⟨_, rfl⟩) h)
  · simp only [Rep] at ra rb; obtain ⟨t, rfl⟩ := ra; obtain ⟨u, rfl⟩ := rb
    refine mul_int (PostV.now R (by simp only [Rep]; exact ⟨_, rfl⟩) h.2) ?_
    rcases h.1 with q | q
    · exact IntMulOk.of_left (intBits_le_64 q.1 q.2)
    · exact IntMulOk.of_right (intBits_le_64 q.1 q.2)
  · rename_i i j
    simp only [Rep] at ra rb; obtain ⟨t, rfl⟩ := ra; obtain ⟨u, rfl⟩ := rb
    have hj : j ≠ 0 := by have := h.1.1; omega
    refine floordiv_int hj (PostV.now (V := .int (i.fdiv j)) R (by simp only [Rep]; exact ⟨_, rfl⟩) ?_) (.inl (PyProof.noPylong_of_log2 ?_))
    · rw [Int.fdiv_eq_ediv_of_nonneg _ (by omega)]; exact h.2
    · have h1 := h.1
      have h2 : j.natAbs < 2 ^ 128 := by omega
      have h3 : j.natAbs ≠ 0 := by omega
      have := (Nat.log2_lt h3).mpr h2
      omega
  · rename_i i j
    simp only [Rep] at ra rb; obtain ⟨t, rfl⟩ := ra; obtain ⟨u, rfl⟩ := rb
    have hj : j ≠ 0 := by have := h.1.1; omega
    refine mod_int' hj (PostV.now (V := .int (i.fmod j)) R (by simp only [Rep]; exact ⟨_, rfl⟩) ?_)
    rw [Int.fmod_eq_emod_of_nonneg _ (by omega)]; exact h.2
  · simp only [Rep] at ra rb; obtain ⟨t, rfl⟩ := ra; obtain ⟨u, rfl⟩ := rb
    exact pow_int_small h.1.1 h.1.2.1 h.1.2.2 (PostV.now R (by simp only [Rep]; exact ⟨_, rfl⟩) h.2)
  · simp only [Rep] at ra rb; obtain ⟨t, rfl, f⟩ := ra; obtain ⟨u, rfl, g⟩ := rb
    refine PyProof.Rows.add_str (fun t' tk => PostV.now R (by simp only [Rep]; exact ⟨_, rfl, strFine_append f g h.1⟩) h.2) (by rw [sizeLine_eq]; omega)
  · rename_i x y
    simp only [Rep] at ra rb; obtain ⟨t, vs, rfl, ta, rs⟩ := ra; obtain ⟨u, ws, rfl, tb, rs'⟩ := rb
    obtain ⟨n, e, z⟩ := id ta
    obtain ⟨m, e', z'⟩ := id tb
    have h1 := rs.length; have h2 := rs'.length
    by_cases hv : vs = []
    · subst hv
      have hx : x = [] := by cases x <;> simp_all
      subst hx
      refine concat_meets ⟨_, e, rfl⟩ ⟨_, e', rfl⟩ noFill_tuple_add seq_tuple_add PySem.F.slot_tuple_add PySem.F.entry_tuple_add (PySem.F.args_tuple_add_2 _ _) (AutoSeq1.tuple___add___tuple_tuple_0 t ([] : List Value).toArray n u ws.toArray m rfl) ⟨e, e', ?_⟩
      exact PostV.here (V := .tup y) R (by simp only [Rep]; exact ⟨u, ws, rfl, tb, rs'⟩) (by simpa using h.2)
    · by_cases hw : ws = []
      · subst hw
        have hy : y = [] := by cases y <;> simp_all
        subst hy
        refine concat_meets ⟨_, e, rfl⟩ ⟨_, e', rfl⟩ noFill_tuple_add seq_tuple_add PySem.F.slot_tuple_add PySem.F.entry_tuple_add (PySem.F.args_tuple_add_2 _ _) (AutoSeq1.tuple___add___tuple_tuple_1 t vs.toArray n u ([] : List Value).toArray m (by simpa using hv) rfl) ⟨e, e', ?_⟩
        exact PostV.here (V := .tup x) R (by simp only [Rep]; exact ⟨t, vs, rfl, ta, rs⟩) (by simpa using h.2)
      · refine P.add_tuple (items := vs.toArray) (items2 := ws.toArray) (n := n) (n2 := m) e e' (by simpa using hv) (by simpa using hw) ?_ (by simp [sizeLine_eq]; omega)
        rw [List.append_toArray]
        exact PostV.newTuple R (rs.append rs') (by simp; omega) h.2
  · rename_i i j
    simp only [Rep] at ra rb; obtain ⟨x, hx, rfl⟩ := ra; obtain ⟨y, hy, rfl⟩ := rb
    obtain ⟨xs, h1, h⟩ := oK_elim h
    obtain ⟨ys, h2, h3, h4⟩ := oK_elim h
    obtain ⟨vs, n, e, rs, z⟩ := R.list hx h1
    obtain ⟨ws, m, e', rs', z'⟩ := R.list hy h2
    have := rs.length; have := rs'.length
    refine P.add_list (items := vs.toArray) (items2 := ws.toArray) (n := n) (n2 := m) e e' ?_ (by simp [sizeLine_eq]; omega)
    rw [List.append_toArray]
    exact PostV.newList R (rs.append rs') (by simp; omega) h4
  · exact h.elim

theorem sub_ok {value slice : Expr} {a b : Value} {Va Vb : V} {Q : V → Hp → Prop} (R : HRel D γ H s.heap) (ra : Rep D γ s.heap a Va) (rb : Rep D γ s.heap b Vb) (h : pSub Va Vb H Q)
    (hs : ∀ lo hi st p, slice ≠ .Slice lo hi st p) : wpAny D.M A (subscriptTail value slice a b) (PostV D γ s Q) E s := by
  have hs' : ∀ o i, subscripted slice false o i = operate [o, i] (getItem o i) := fun o i => by
    unfold subscripted
    split
    · rename_i lo hi p _ _; exact absurd rfl (hs _ _ _ _)
    · rename_i h1; cases h1
    · rfl
  have hi : ∃ k, Vb = .int k := by
    cases Vb with
    | int k => exact ⟨k, rfl⟩
    | _ => exact h.elim
  obtain ⟨k, rfl⟩ := hi
  cases Va with
  | tup l =>
    simp only [Rep] at ra rb; obtain ⟨t, vs, rfl, ta, rs⟩ := ra; obtain ⟨u, rfl⟩ := rb
    obtain ⟨v, hv, q⟩ := oK_elim h
    have hl := rs.length
    have hz := ta.size
    unfold idx at hv
    split at hv
    · rename_i h0
      obtain ⟨w, hw, rw_⟩ := rs.get hv
      have hlt : k.toNat < vs.length := (List.getElem?_eq_some_iff.mp hw).1
      refine item_tupleT (j := k.toNat) ta.isTup (by omega) (by omega) ?_ hw (PostV.here R rw_ q) (hs' _ _)
      unfold seqIndex?
      have : ¬ k < 0 := by omega
      have h1 : (0 ≤ k && decide (k < (vs.length : Int))) = true := by simp; omega
      simp only [this, if_false]
      rw [if_pos h1]
    · split at hv
      · rename_i h0 h1
        obtain ⟨w, hw, rw_⟩ := rs.get hv
        have hlt := (List.getElem?_eq_some_iff.mp hw).1
        refine item_tupleT (j := (k + (l.length : Int)).toNat) ta.isTup (by omega) (by omega) ?_ hw (PostV.here R rw_ q) (hs' _ _)
        unfold seqIndex?
        have h3 : k < 0 := by omega
        have h4 : (0 ≤ k + (vs.length : Int) && decide (k + (vs.length : Int) < (vs.length : Int))) = true := by simp; omega
        simp only [h3, if_true]
        rw [if_pos h4, hl]
      · cases hv
  | ref i =>
    simp only [Rep] at ra rb; obtain ⟨x, hx, rfl⟩ := ra; obtain ⟨u, rfl⟩ := rb
    obtain ⟨l, hl, h⟩ := oK_elim h
    obtain ⟨v, hv, q⟩ := oK_elim h
    obtain ⟨vs, n, e, rs, hz⟩ := R.list hx hl
    have hlen := rs.length
    have hL : s.heap.IsList x vs.toArray := ⟨_, e, rfl, n, rfl⟩
    refine tail_any hL.typeIs slot_list_getitem.lookup ?_ (hs' _ _)
    unfold idx at hv
    split at hv
    · rename_i h0
      obtain ⟨w, hw, rw_⟩ := rs.get hv
      have hlt := (List.getElem?_eq_some_iff.mp hw).1
      exact wpAny_getItem_list hL h0 (by omega) (by simpa using hw) (PostV.here R rw_ q)
    · split at hv
      · rename_i h0 h1
        obtain ⟨w, hw, rw_⟩ := rs.get hv
        have hlt := (List.getElem?_eq_some_iff.mp hw).1
        refine wpAny_getItem_list_neg hL (by omega) (by simp; omega) (by omega) ?_ (PostV.here R rw_ q)
        simpa [hlen] using hw
      · cases hv
  | scr ns =>
    simp only [Rep] at ra rb; obtain ⟨x, vs, rfl, e, hz, hlen, hI⟩ := ra; obtain ⟨u, rfl⟩ := rb
    obtain ⟨v, hv, q⟩ := oK_elim h
    have hL : s.heap.IsList x vs.toArray := let ⟨o, h1, h2, n, h3⟩ := e; ⟨o, R.base _ _ h1, h2, n, h3⟩
    refine tail_any hL.typeIs slot_list_getitem.lookup ?_ (hs' _ _)
    unfold idx at hv
    split at hv
    · rename_i h0
      obtain ⟨t, hw⟩ := hI _ _ hv
      have hlt := (List.getElem?_eq_some_iff.mp hw).1
      exact wpAny_getItem_list hL h0 (by omega) (by simpa using hw) (PostV.here (v := .int v t) (V := .int v) R (by simp only [Rep]; exact ⟨t, rfl⟩) q)
    · split at hv
      · rename_i h0 h1
        obtain ⟨t, hw⟩ := hI _ _ hv
        have hlt := (List.getElem?_eq_some_iff.mp hw).1
        refine wpAny_getItem_list_neg hL (by omega) (by simp; omega) (by omega) ?_ (PostV.here (v := .int v t) (V := .int v) R (by simp only [Rep]; exact ⟨t, rfl⟩) q)
        simpa [hlen] using hw
      · cases hv
  | _ => exact h.elim
end
end Mine

set_option autoImplicit false
/- Comparisons, built-in calls, methods. -/
namespace Mine
open PySem PyProof.Rows PySem.SeqAt

mutual
theorem toPy_reads {mg : Wd} {γ : List Addr} {h : Heap} {v : Value} : ∀ {V : V} {d : PyData}, Rep mg γ h v V → toPy V = some d → ∃ as, Reads h v d as ∧ d.canLay0 = true
  | .none, d, r, e => by simp only [Rep] at r; subst r; cases e; exact ⟨_, .none, rfl⟩
  | .bool b, d, r, e => by simp only [Rep] at r; subst r; cases e; exact ⟨_, .bool b, rfl⟩
  | .int i, d, r, e => by simp only [Rep] at r; obtain ⟨t, rfl⟩ := r; cases e; exact ⟨_, .int i t, rfl⟩
  | .str x, d, r, e => by simp only [Rep] at r; obtain ⟨t, rfl, f⟩ := r; cases e; exact ⟨_, .str x t, f.2⟩
  | .tup l, d, r, e => by
    simp only [Rep] at r; obtain ⟨a, vs, rfl, ⟨n, q, z⟩, rs⟩ := r
    simp only [toPy, Option.map_eq_some_iff] at e
    obtain ⟨ds, hd, rfl⟩ := e
    obtain ⟨as, ra, c⟩ := toPys_reads rs hd
    exact ⟨as, .tuple q rfl rfl (by simpa using ra), c⟩
  | .opq i, d, r, e => by cases e
  | .ref i, d, r, e => by cases e
  | .fn i, d, r, e => by cases e
  | .ty i, d, r, e => by cases e
  | .bi i, d, r, e => by cases e
  | .scr i, d, r, e => by cases e
theorem toPys_reads {mg : Wd} {γ : List Addr} {h : Heap} {vs : List Value} : ∀ {l : List V} {ds : List PyData}, Reps mg γ h vs l → toPys l = some ds → ∃ as, ReadsAll h vs ds as ∧ PyData.canLayAll0 ds = true
  | [], ds, r, e => by simp only [Reps] at r; subst r; cases e; exact ⟨_, .nil, rfl⟩
  | V :: l, ds, r, e => by
    simp only [Reps] at r; obtain ⟨v, r', rfl, a, b⟩ := r
    simp only [toPys] at e
    split at e
    · rename_i d ds' h1 h2
      cases e
      obtain ⟨as, q1, c1⟩ := toPy_reads a h1
      obtain ⟨bs, q2, c2⟩ := toPys_reads b h2
      exact ⟨_, .cons q1 q2, by simp only [PyData.canLayAll0, c1, c2, Bool.and_self]⟩
    · cases e
end

section
variable {D : Wd} {γ : List Addr} {H : Hp} {s : Shared} {A : Around} {E : Value → Shared → Prop} {k : Nat}

theorem toPyH_reads {v : Value} {V : V} {d : PyData} (R : HRel D γ H s.heap) (r : Rep D γ s.heap v V) (e : toPyH H V = some d) : ∃ as, Reads s.heap v d as ∧ d.canLay0 = true := by
  cases V with
  | ref i =>
    simp only [toPyH, Option.map_eq_some_iff, Option.bind_eq_some_iff] at e
    obtain ⟨ds, ⟨l, hl, hd⟩, rfl⟩ := e
    simp only [Rep] at r; obtain ⟨a, hi, rfl⟩ := r
    obtain ⟨vs, n, q, rs, z⟩ := R.list hi hl
    obtain ⟨as, ra, c⟩ := toPys_reads rs hd
    exact ⟨_, .list q rfl rfl (by simpa using ra), c⟩
  | _ => exact toPy_reads r e

theorem room (hA : AOk k A) {n m : Nat} (h : n ≤ 60) : A.units + min n m < cLine := by
  have := hA.units
  have : min n m ≤ n := Nat.min_le_left _ _
  show _ < 9900
  omega

theorem room1 (hA : AOk k A) {n m : Nat} (h : n ≤ 60) : A.units + 1 + min m n < cLine := by
  have := hA.units
  have : min m n ≤ n := Nat.min_le_right _ _
  show _ < 9900
  omega

theorem rep_none {v : Value} {V : V} (r : Rep D γ s.heap v V) : (v == Value.none) = isNoneV V := by
  cases V <;> simp only [Rep] at r
  · subst r; rfl
  · subst r; rfl
  · obtain ⟨t, rfl⟩ := r; rfl
  · obtain ⟨t, rfl, _⟩ := r; rfl
  · obtain ⟨t, rfl⟩ := r; rfl
  · obtain ⟨a, vs, rfl, _⟩ := r; rfl
  · obtain ⟨a, _, rfl⟩ := r; rfl
  · obtain ⟨a, rfl, _⟩ := r; rfl
  · subst r; rfl
  · subst r; rfl
  · obtain ⟨a, vs, rfl, _⟩ := r; rfl
theorem isnot_none {M : Model} {v : Value} {Q : Value → Shared → Prop} (h : Q (.bool (!(v == .none))) s) : wpAny M A (compareOp .IsNot v .none) Q E s := by
  show wpAny M A (do return .bool (!(← isSame v .none))) Q E s
  rw [isSame_none]; exact wpAny_bind (wpAny_pure (wpAny_pure h))

theorem cmp_ok {op : CmpOp} {a b : Value} {Va Vb : V} {Q : V → Hp → Prop} (hA : AOk k A) (R : HRel D γ H s.heap) (ra : Rep D γ s.heap a Va) (rb : Rep D γ s.heap b Vb) (h : pCmp op Va Vb H Q) :
    wpAny D.M A (compareOp op a b) (PostV D γ s Q) E s := by
  have bl : ∀ c, Rep D γ s.heap (.bool c) (.bool c) := fun c => by simp only [Rep]
  cases op with
  | Eq =>
    rcases pCmp_eq h with ⟨x, y, rfl, rfl, q⟩ | ⟨c, hc, q⟩
    · simp only [Rep] at ra rb; obtain ⟨t, rfl⟩ := ra; obtain ⟨u, rfl⟩ := rb
      exact eq_str (PostV.here R (bl _) q)
    unfold eqH at hc
    split at hc
    · rename_i d e h1 h2
      split at hc
      · rename_i hd
        cases hc
        obtain ⟨as, r1, c1⟩ := toPyH_reads R ra h1
        obtain ⟨bs, r2, c2⟩ := toPyH_reads R rb h2
        exact compareEq_reads r1 r2 c1 c2 (room hA hd) (PostV.here R (bl _) q)
      · cases hc
    · cases hc
  | NotEq =>
    obtain ⟨c, hc, q⟩ := pCmp_ne h
    unfold eqH at hc
    split at hc
    · rename_i d e h1 h2
      split at hc
      · rename_i hd
        cases hc
        obtain ⟨as, r1, c1⟩ := toPyH_reads R ra h1
        obtain ⟨bs, r2, c2⟩ := toPyH_reads R rb h2
        exact compareNe_reads r1 r2 c1 c2 (room hA hd) (PostV.here R (bl _) q)
      · cases hc
    · cases hc
  | Lt =>
    simp only [pCmp] at h
    split at h
    · simp only [Rep] at ra rb; obtain ⟨t, rfl⟩ := ra; obtain ⟨u, rfl⟩ := rb
      exact lt_int (PostV.here R (bl _) h)
    · exact h.elim
  | LtE =>
    simp only [pCmp] at h
    split at h
    · simp only [Rep] at ra rb; obtain ⟨t, rfl⟩ := ra; obtain ⟨u, rfl⟩ := rb
      exact le_int (PostV.here R (bl _) h)
    · exact h.elim
  | Gt =>
    simp only [pCmp] at h
    split at h
    · simp only [Rep] at ra rb; obtain ⟨t, rfl⟩ := ra; obtain ⟨u, rfl⟩ := rb
      exact gt_int (PostV.here R (bl _) h)
    · exact h.elim
  | GtE =>
    simp only [pCmp] at h
    split at h
    · simp only [Rep] at ra rb; obtain ⟨t, rfl⟩ := ra; obtain ⟨u, rfl⟩ := rb
      exact ge_int (PostV.here R (bl _) h)
    · exact h.elim
  | In =>
    simp only [pCmp] at h
    split at h
    · rename_i l
      obtain ⟨c, hc, q⟩ := oK_elim h
      unfold memV at hc
      split at hc
      · rename_i d ds h1 h2
        split at hc
        · rename_i hd
          cases hc
          obtain ⟨as, r1, c1⟩ := toPy_reads ra h1
          obtain ⟨bs, r2, c2⟩ := toPy_reads (d := .tuple ds) rb (by simp [toPy, h2])
          exact in_tuple_reads r2 r1 c2 c1 (room1 hA hd) (PostV.here R (bl _) q)
        · cases hc
      · cases hc
    · rename_i i
      obtain ⟨l, hl, h⟩ := oK_elim h
      obtain ⟨c, hc, q⟩ := oK_elim h
      unfold memV at hc
      split at hc
      · rename_i d ds h1 h2
        split at hc
        · rename_i hd
          cases hc
          obtain ⟨as, r1, c1⟩ := toPy_reads ra h1
          obtain ⟨bs, r2, c2⟩ := toPyH_reads (d := .list ds) R rb (by simp [toPyH, hl, h2])
          exact in_list_reads r2 r1 c2 c1 (room1 hA hd) (PostV.here R (bl _) q)
        · cases hc
      · cases hc
    · exact h.elim
  | NotIn =>
    simp only [pCmp] at h
    split at h
    · rename_i l
      obtain ⟨c, hc, q⟩ := oK_elim h
      unfold memV at hc
      split at hc
      · rename_i d ds h1 h2
        split at hc
        · rename_i hd
          cases hc
          obtain ⟨as, r1, c1⟩ := toPy_reads ra h1
          obtain ⟨bs, r2, c2⟩ := toPy_reads (d := .tuple ds) rb (by simp [toPy, h2])
          exact notIn_tuple_reads r2 r1 c2 c1 (room1 hA hd) (PostV.here R (bl _) q)
        · cases hc
      · cases hc
    · rename_i i
      obtain ⟨l, hl, h⟩ := oK_elim h
      obtain ⟨c, hc, q⟩ := oK_elim h
      unfold memV at hc
      split at hc
      · rename_i d ds h1 h2
        split at hc
        · rename_i hd
          cases hc
          obtain ⟨as, r1, c1⟩ := toPy_reads ra h1
          obtain ⟨bs, r2, c2⟩ := toPyH_reads (d := .list ds) R rb (by simp [toPyH, hl, h2])
          exact notIn_list_reads r2 r1 c2 c1 (room1 hA hd) (PostV.here R (bl _) q)
        · cases hc
      · cases hc
    · exact h.elim
  | Is =>
    simp only [pCmp] at h
    split at h
    · simp only [Rep] at rb; subst rb
      refine is_none (PostV.here R (bl _) ?_)
      rw [rep_none ra]; exact h
    · exact h.elim
  | IsNot =>
    simp only [pCmp] at h
    split at h
    · simp only [Rep] at rb; subst rb
      refine isnot_none (PostV.here R (bl _) ?_)
      rw [rep_none ra]; exact h
    · exact h.elim

theorem len_ok {v : Value} {n : Int} {Q : V → Hp → Prop} {V : V} (R : HRel D γ H s.heap) (r : Rep D γ s.heap v V)
    (h : (∃ l, V = .tup l ∧ n = (l.length : Int)) ∨ (∃ i l, V = .ref i ∧ listAt H i = some l ∧ n = (l.length : Int))) (q : Q (.int n) H) :
    wpAny D.M A (call (.builtin "len") [v]) (PostV D γ s Q) E s := by
  rcases h with ⟨l, rfl, rfl⟩ | ⟨i, l, rfl, hl, rfl⟩
  · simp only [Rep] at r; obtain ⟨a, vs, rfl, t, rs⟩ := r
    have := t.size; have hlen := rs.length
    refine len_tuple t.isTup (by simp; omega) (PostV.now R ?_ q)
    simp only [Rep]; exact ⟨s.toks + 1, by simp [hlen]⟩
  · simp only [Rep] at r; obtain ⟨a, hi, rfl⟩ := r
    obtain ⟨vs, n, e, rs, z⟩ := R.list hi hl
    have hlen := rs.length
    refine len_list (items := vs.toArray) ⟨_, e, rfl, n, rfl⟩ (by simp; omega) (PostV.now R ?_ q)
    simp only [Rep]; exact ⟨s.toks + 1, by simp [hlen]⟩
end
end Mine

set_option autoImplicit false
/- Built-in calls and methods. -/
namespace Mine
open PySem PyProof.Rows PySem.SeqAt

section
variable {D : Wd} {γ : List Addr} {H : Hp} {s : Shared} {A : Around} {E : Value → Shared → Prop} {k : Nat}

theorem isi_ok {v : Value} {t : Ty} {c : Bool} {Q : V → Hp → Prop} {W : V} (R : HRel D γ H s.heap) (r : Rep D γ s.heap v W) (h : isInstH H W t = some c) (q : Q (.bool c) H) :
    wpAny D.M A (call (.builtin "isinstance") [v, .type t.name]) (PostV D γ s Q) E s := by
  have bl : ∀ c, Rep D γ s.heap (.bool c) (.bool c) := fun c => by simp only [Rep]
  cases W with
  | none =>
    simp only [Rep] at r; subst r
    cases t <;> simp [isInstH] at h <;> subst h
    · exact IsiPair.NoneType_int (PostV.now R (bl _) q)
    · exact IsiPair.NoneType_bool (PostV.now R (bl _) q)
    · exact IsiPair.NoneType_str (PostV.now R (bl _) q)
    · exact IsiPair.NoneType_tuple (PostV.now R (bl _) q)
    · exact IsiPair.NoneType_list (PostV.now R (bl _) q)
  | bool b =>
    simp only [Rep] at r; subst r
    cases t <;> simp [isInstH, tyOf, subTy] at h <;> subst h
    · exact IsiPair.bool_int (PostV.here R (bl _) q)
    · exact IsiPair.bool_bool (PostV.here R (bl _) q)
    · exact IsiPair.bool_str (PostV.now R (bl _) q)
    · exact IsiPair.bool_tuple (PostV.now R (bl _) q)
    · exact IsiPair.bool_list (PostV.now R (bl _) q)
  | int i =>
    simp only [Rep] at r; obtain ⟨u, rfl⟩ := r
    cases t <;> simp [isInstH, tyOf, subTy] at h <;> subst h
    · exact IsiPair.int_int (PostV.here R (bl _) q)
    · exact IsiPair.int_bool (PostV.now R (bl _) q)
    · exact IsiPair.int_str (PostV.now R (bl _) q)
    · exact IsiPair.int_tuple (PostV.now R (bl _) q)
    · exact IsiPair.int_list (PostV.now R (bl _) q)
  | str x =>
    simp only [Rep] at r; obtain ⟨u, rfl, _⟩ := r
    cases t <;> simp [isInstH, tyOf, subTy] at h <;> subst h
    · exact IsiPair.str_int (PostV.now R (bl _) q)
    · exact IsiPair.str_bool (PostV.now R (bl _) q)
    · exact IsiPair.str_str (PostV.here R (bl _) q)
    · exact IsiPair.str_tuple (PostV.now R (bl _) q)
    · exact IsiPair.str_list (PostV.now R (bl _) q)
  | tup l =>
    simp only [Rep] at r; obtain ⟨a, vs, rfl, ⟨n, e, _⟩, _⟩ := r
    cases t <;> simp [isInstH, tyOf, subTy] at h <;> subst h
    · exact IsiPair.tuple_int e rfl (PostV.now R (bl _) q)
    · exact IsiPair.tuple_bool e rfl (PostV.now R (bl _) q)
    · exact IsiPair.tuple_str e rfl (PostV.now R (bl _) q)
    · exact IsiPair.tuple_tuple e rfl (PostV.here R (bl _) q)
    · exact IsiPair.tuple_list e rfl (PostV.now R (bl _) q)
  | ref i =>
    simp only [Rep] at r; obtain ⟨a, hi, rfl⟩ := r
    have hl : ∃ l, listAt H i = some l := by
      cases e : listAt H i with
      | some l => exact ⟨l, rfl⟩
      | none => cases t <;> simp [isInstH, tyOf, e] at h
    obtain ⟨l, hl⟩ := hl
    obtain ⟨vs, n, e, rs, z⟩ := R.list hi hl
    cases t <;> simp [isInstH, tyOf, subTy, hl] at h <;> subst h
    · exact IsiPair.list_int e rfl (PostV.now R (bl _) q)
    · exact IsiPair.list_bool e rfl (PostV.now R (bl _) q)
    · exact IsiPair.list_str e rfl (PostV.now R (bl _) q)
    · exact IsiPair.list_tuple e rfl (PostV.now R (bl _) q)
    · exact IsiPair.list_list e rfl (PostV.here R (bl _) q)
  | fn x => cases t <;> simp [isInstH, tyOf] at h
  | ty n => cases t <;> simp [isInstH, tyOf] at h
  | bi n => cases t <;> simp [isInstH, tyOf] at h
  | opq n => cases t <;> simp [isInstH, tyOf] at h
  | scr n => cases t <;> simp [isInstH, tyOf] at h

theorem allBools_reps {mg : Wd} {h : Heap} : ∀ {l : List V} {bs : List Bool} {vs : List Value}, allBools l = some bs → Reps mg γ h vs l → vs = bs.map Value.bool
  | [], bs, vs, e, r => by cases e; simp only [Reps] at r; simpa using r
  | .bool b :: l, bs, vs, e, r => by
    simp only [allBools, Option.map_eq_some_iff] at e
    obtain ⟨cs, hc, rfl⟩ := e
    simp only [Reps] at r
    obtain ⟨v, w, rfl, a, b'⟩ := r
    simp only [Rep] at a; subst a
    rw [allBools_reps hc b']; rfl
  | .none :: l, bs, vs, e, r => by cases e
  | .int _ :: l, bs, vs, e, r => by cases e
  | .str _ :: l, bs, vs, e, r => by cases e
  | .tup _ :: l, bs, vs, e, r => by cases e
  | .ref _ :: l, bs, vs, e, r => by cases e
  | .fn _ :: l, bs, vs, e, r => by cases e
  | .ty _ :: l, bs, vs, e, r => by cases e
  | .bi _ :: l, bs, vs, e, r => by cases e
  | .scr _ :: l, bs, vs, e, r => by cases e

theorem all_ok {i : Nat} {v : Value} {l : List V} {bs : List Bool} {Q : V → Hp → Prop} (hA : AOk k A) (R : HRel D γ H s.heap) (r : Rep D γ s.heap v (.ref i)) (hl : listAt H i = some l) (hb : allBools l = some bs)
    (q : Q (.bool (bs.all id)) H) : wpAny D.M A (call (.builtin "all") [v]) (PostV D γ s Q) E s := by
  simp only [Rep] at r; obtain ⟨a, hi, rfl⟩ := r
  obtain ⟨vs, n, e, rs, z⟩ := R.list hi hl
  have hvs := allBools_reps hb rs
  subst hvs
  have hL : s.heap.IsList a (bs.map Value.bool).toArray := ⟨_, e, rfl, n, rfl⟩
  refine call_all_walk (wpAny_pyIter_list hL ?_)
  have ha : a ≠ s.heap.objs.size := Nat.ne_of_lt (Heap.lt_size e)
  refine ⟨_, _, _, _, _, _, fun j => bs.getD j true, rfl, Walks.list (by exact hA.handled) s.heap.objs.size a ha (bs.map Value.bool).toArray, ?_, ?_, ?_⟩
  · refine ⟨⟨_, Heap.get?_push_size _ rfl, rfl, rfl⟩, ⟨_, Heap.get?_push_of_some _ e, rfl, n, rfl⟩⟩
  · intro j v s' Q' E' hv hq
    have : v = .bool (bs.getD j true) := by
      rw [List.getElem?_toArray, List.getElem?_map, Option.map_eq_some_iff] at hv
      obtain ⟨b, hb1, rfl⟩ := hv
      simp [List.getD, hb1]
    subst this
    exact wpAny_truthy_bool hq
  · intro h' tk hk
    have e1 : (List.range (bs.map Value.bool).toArray.size).all (fun j => bs.getD j true) = bs.all id := by
      simp only [List.size_toArray, List.length_map]
      rw [Bool.eq_iff_iff]
      simp only [List.all_eq_true, List.mem_range, id]
      constructor
      · intro hx b hb'
        obtain ⟨j, hj, rfl⟩ := List.getElem_of_mem hb'
        have := hx j hj
        simpa [List.getD, hj] using this
      · intro hx j hj
        have := hx bs[j] (List.getElem_mem hj)
        simpa [List.getD, hj] using this
    have hkk : ∀ b o, s.heap.get? b = some o → h'.get? b = some o := fun b o eb => hk b o (by
      intro hm; simp at hm; subst hm; exact absurd (Heap.lt_size eb) (Nat.lt_irrefl _)) (Heap.get?_push_of_some _ eb)
    rw [e1]
    exact PostV.grown R hkk (by simp only [Rep]) q

theorem int_of_bool_ok {v : Value} {b : Bool} {Q : V → Hp → Prop} (R : HRel D γ H s.heap) (r : Rep D γ s.heap v (.bool b)) (q : Q (.int (if b then 1 else 0)) H) :
    wpAny D.M A (call (.type "int") [v]) (PostV D γ s Q) E s := by
  simp only [Rep] at r; subst r
  exact call_int_bool (PostV.now R (by simp only [Rep]; exact ⟨_, rfl⟩) q)

theorem tuple_of_list_ok {v : Value} {i : Nat} {l : List V} {Q : V → Hp → Prop} (R : HRel D γ H s.heap) (r : Rep D γ s.heap v (.ref i)) (hl : listAt H i = some l) (q : Q (.tup l) H) :
    wpAny D.M A (call (.type "tuple") [v]) (PostV D γ s Q) E s := by
  simp only [Rep] at r; obtain ⟨a, hi, rfl⟩ := r
  obtain ⟨vs, n, e, rs, z⟩ := R.list hi hl
  refine call_tuple_list (items := vs.toArray) ⟨_, e, rfl, n, rfl⟩ (fun h' hk => ?_) (by simp [sizeLine_eq]; omega)
  have hk' : ∀ b o, s.heap.get? b = some o → (h'.push { cls := .type "tuple", data := .seq vs.toArray }).get? b = some o := fun b o eb => Heap.get?_push_of_some _ (hk b o eb)
  refine PostV.grown (V := .tup l) (tk := s.toks) R hk' ?_ q
  simp only [Rep]
  exact ⟨_, vs, rfl, ⟨0, Heap.get?_push_size _ rfl, z⟩, Reps.mono ⟨[], by simp⟩ (fun _ _ => tupAt_grow hk') rs⟩

theorem list_of_ok {v : Value} {l : List V} {Q : V → Hp → Prop} {W : V} (R : HRel D γ H s.heap) (r : Rep D γ s.heap v W) (h : W = .tup l ∨ ∃ i, W = .ref i ∧ listAt H i = some l) (q : Q (.ref H.length) (H ++ [.list l])) :
    wpAny D.M A (call (.type "list") [v]) (PostV D γ s Q) E s := by
  rcases h with rfl | ⟨i, rfl, hl⟩
  · simp only [Rep] at r; obtain ⟨a, vs, rfl, ⟨n, e, z⟩, rs⟩ := r
    refine call_list_seq a (T := "tuple") (items := vs.toArray) (.inr rfl) e rfl rfl (fun h' c' hk hn => ?_) (by simp [sizeLine_eq]; omega)
    exact PostV.addList (tk := s.toks) R rs (by rw [← rs.length]; exact z) hk (none_end _) hn q
  · simp only [Rep] at r; obtain ⟨a, hi, rfl⟩ := r
    obtain ⟨vs, n, e, rs, z⟩ := R.list hi hl
    refine call_list_seq a (T := "list") (items := vs.toArray) (.inl rfl) e rfl rfl (fun h' c' hk hn => ?_) (by simp [sizeLine_eq]; omega)
    exact PostV.addList (tk := s.toks) R rs (by rw [← rs.length]; exact z) hk (none_end _) hn q

theorem max_ok {a b : Int} {v u : Value} {Q : V → Hp → Prop} (hA : AOk k A) (R : HRel D γ H s.heap) (r : Rep D γ s.heap v (.int a)) (r' : Rep D γ s.heap u (.int b)) (q : Q (.int (max a b)) H) :
    wpAny D.M A (call (.builtin "max") [v, u]) (PostV D γ s Q) E s := by
  simp only [Rep] at r r'; obtain ⟨t, rfl⟩ := r; obtain ⟨t', rfl⟩ := r'
  refine max_two_ints hA.handled fun h' tk hk => ?_
  by_cases c : b > a
  · rw [if_pos c]
    have e : max a b = b := by omega
    rw [e] at q
    exact PostV.grown R hk (by simp only [Rep]; exact ⟨_, rfl⟩) q
  · rw [if_neg c]
    have e : max a b = a := by omega
    rw [e] at q
    exact PostV.grown R hk (by simp only [Rep]; exact ⟨_, rfl⟩) q
theorem min_ok {a b : Int} {v u : Value} {Q : V → Hp → Prop} (hA : AOk k A) (R : HRel D γ H s.heap) (r : Rep D γ s.heap v (.int a)) (r' : Rep D γ s.heap u (.int b)) (q : Q (.int (min a b)) H) :
    wpAny D.M A (call (.builtin "min") [v, u]) (PostV D γ s Q) E s := by
  simp only [Rep] at r r'; obtain ⟨t, rfl⟩ := r; obtain ⟨t', rfl⟩ := r'
  refine min_two_ints hA.handled fun h' tk hk => ?_
  by_cases c : b < a
  · rw [if_pos c]
    have e : min a b = b := by omega
    rw [e] at q
    exact PostV.grown R hk (by simp only [Rep]; exact ⟨_, rfl⟩) q
  · rw [if_neg c]
    have e : min a b = a := by omega
    rw [e] at q
    exact PostV.grown R hk (by simp only [Rep]; exact ⟨_, rfl⟩) q

/- every call of what is no def of the text's own -/
mutual
theorem toPyT_reads {v : Value} (R : HRel D γ H s.heap) : ∀ {V : V} {d : PyData}, Rep D γ s.heap v V → toPyT H V = some d → ∃ as, Reads s.heap v d as ∧ d.canLay0 = true
  | .none, d, r, e => toPy_reads r e
  | .bool b, d, r, e => toPy_reads r e
  | .int i, d, r, e => toPy_reads r e
  | .str x, d, r, e => toPy_reads r e
  | .ref i, d, r, e => toPyH_reads R r e
  | .tup l, d, r, e => by
    simp only [Rep] at r; obtain ⟨a, vs, rfl, ⟨n, q, z⟩, rs⟩ := r
    simp only [toPyT, Option.map_eq_some_iff] at e
    obtain ⟨ds, hd, rfl⟩ := e
    obtain ⟨as, ra, c⟩ := toPysT_reads R rs hd
    exact ⟨as, .tuple q rfl rfl (by simpa using ra), c⟩
  | .opq i, d, r, e => by cases e
  | .fn i, d, r, e => by cases e
  | .ty i, d, r, e => by cases e
  | .bi i, d, r, e => by cases e
  | .scr i, d, r, e => by cases e
theorem toPysT_reads {vs : List Value} (R : HRel D γ H s.heap) : ∀ {l : List V} {ds : List PyData}, Reps D γ s.heap vs l → toPysT H l = some ds → ∃ as, ReadsAll s.heap vs ds as ∧ PyData.canLayAll0 ds = true
  | [], ds, r, e => by simp only [Reps] at r; subst r; cases e; exact ⟨_, .nil, rfl⟩
  | V :: l, ds, r, e => by
    simp only [Reps] at r; obtain ⟨v, r', rfl, a, b⟩ := r
    simp only [toPysT] at e
    split at e
    · rename_i d ds' h1 h2
      cases e
      obtain ⟨as, q1, c1⟩ := toPyT_reads R a h1
      obtain ⟨bs, q2, c2⟩ := toPysT_reads R b h2
      exact ⟨_, .cons q1 q2, by simp only [PyData.canLayAll0, c1, c2, Bool.and_self]⟩
    · cases e
end
theorem repr_ok {v : Value} {W : V} {d : PyData} {Q : V → Hp → Prop} (hA : AOk k A) (R : HRel D γ H s.heap) (r : Rep D γ s.heap v W) (hd : toPyT H W = some d) (h1 : d.showable = true) (h2 : d.depth ≤ 60) (h3 : d.shown.length ≤ 1000000) (q : Q (.opq d.shown) H) :
    wpAny D.M A (call (.builtin "repr") [v]) (PostV D γ s Q) E s := by
  have ho : ∀ (x : Str) (t : Tok), Rep D γ s.heap (.str x t) (.opq x) := fun x t => by simp only [Rep]; exact ⟨t, rfl⟩
  have big : ∀ a, v = .ref a → wpAny D.M A (call (.builtin "repr") [v]) (PostV D γ s Q) E s := by
    rintro a rfl
    obtain ⟨as, rd, c⟩ := toPyT_reads R r hd
    refine repr_of_reads' rd h1 (fun h => by rw [PyData.hasDict_of_canLay d c] at h; cases h) hA.guards (by have := hA.units; show _ < 9900; omega) (fun _ _ e => e) (fun h' u tk hk => ?_) (by rw [sizeLine_eq]; omega)
    exact PostV.grown R hk (by simp only [Rep]; exact ⟨u, rfl⟩) q
  cases W with
  | none => simp only [Rep] at r; subst r; cases hd; exact P.repr_of_none (PostV.now R (ho _ _) q)
  | bool b => simp only [Rep] at r; subst r; cases hd; exact P.repr_of_bool (PostV.now R (ho _ _) q)
  | int i => simp only [Rep] at r; obtain ⟨t, rfl⟩ := r; cases hd; exact P.repr_of_int (of_decide_eq_true h1) (PostV.now R (ho _ _) q)
  | str x => simp only [Rep] at r; obtain ⟨t, rfl, f⟩ := r; cases hd; exact P.repr_of_str (PostV.now R (ho _ _) q) (by rw [sizeLine_eq]; show (PyData.shown (.str x)).length ≤ _; omega)
  | tup l => obtain ⟨a, vs, rfl, _⟩ := r; exact big a rfl
  | ref i => obtain ⟨a, _, rfl⟩ := r; exact big a rfl
  | opq x => cases hd
  | fn x => cases hd
  | ty n => cases hd
  | bi n => cases hd
  | scr n => cases hd
theorem call_ok {Φ : Orc} {f : Value} {vals : List Value} {vs : List V} {Q : V → Hp → Prop} {X : XL} {W : V} (hA : AOk k A) (R : HRel D γ H s.heap) (rf : Rep D γ s.heap f W) (rv : Reps D γ s.heap vals vs)
    (h : pCall Φ W vs H Q X) (hn : ∀ x, W ≠ .fn x) : wpAny D.M A (call f vals) (PostV D γ s Q) (PostX D γ s X) s := by
  cases W with
  | fn x => exact absurd rfl (hn _)
  | bi b =>
    simp only [Rep] at rf; subst rf
    change pBi b vs H Q at h
    cases b with
    | len =>
      simp only [pBi] at h
      split at h
      · rename_i W
        simp only [Reps] at rv
        obtain ⟨v, r, rfl, a, rfl⟩ := rv
        cases W with
        | tup l => exact len_ok R a (.inl ⟨_, rfl, rfl⟩) h
        | ref i =>
          obtain ⟨l, hl, q⟩ := oK_elim h
          exact len_ok R a (.inr ⟨_, l, rfl, hl, rfl⟩) q
        | scr ns =>
          simp only [Rep] at a; obtain ⟨x, ws, rfl, e, hz, hlen, hI⟩ := a
          refine len_list (items := ws.toArray) (let ⟨o, h1, h2, n, h3⟩ := e; ⟨o, R.base _ _ h1, h2, n, h3⟩) (by simp; omega) (PostV.now R ?_ h)
          simp only [Rep]; exact ⟨s.toks + 1, by simp [hlen]⟩
        | _ => exact h.elim
      · exact h.elim
    | isinstance =>
      simp only [pBi] at h
      split at h
      · rename_i W W'
        simp only [Reps] at rv
        obtain ⟨v, r, rfl, a, u, r', rfl, b, rfl⟩ := rv
        cases W' with
        | ty t =>
          simp only [Rep] at b; subst b
          obtain ⟨c, hc, q⟩ := oK_elim h
          exact isi_ok R a hc q
        | _ => exact h.elim
      · exact h.elim
    | all =>
      simp only [pBi] at h
      split at h
      · rename_i W
        simp only [Reps] at rv
        obtain ⟨v, r, rfl, a, rfl⟩ := rv
        cases W with
        | ref i =>
          obtain ⟨l, hl, h⟩ := oK_elim h
          obtain ⟨bs, hb, q⟩ := oK_elim h
          exact all_ok hA R a hl hb q
        | _ => exact h.elim
      · exact h.elim
    | max =>
      simp only [pBi] at h
      split at h
      · rename_i W W'
        simp only [Reps] at rv
        obtain ⟨v, r, rfl, a, u, r', rfl, b, rfl⟩ := rv
        split at h
        · exact max_ok hA R a b h
        · exact h.elim
      · exact h.elim
    | min =>
      simp only [pBi] at h
      split at h
      · rename_i W W'
        simp only [Reps] at rv
        obtain ⟨v, r, rfl, a, u, r', rfl, b, rfl⟩ := rv
        split at h
        · exact min_ok hA R a b h
        · exact h.elim
      · exact h.elim
    | repr =>
      simp only [pBi] at h
      split at h
      · rename_i W
        simp only [Reps] at rv
        obtain ⟨v, r, rfl, a, rfl⟩ := rv
        obtain ⟨d, hd, h1, q⟩ := oK_elim h
        exact repr_ok hA R a hd h1.1 h1.2.1 h1.2.2 q
      · exact h.elim
  | ty b =>
    simp only [Rep] at rf; subst rf
    change pTy b vs H Q at h
    cases b with
    | int =>
      simp only [pTy] at h
      split at h
      · rename_i W
        simp only [Reps] at rv
        obtain ⟨v, r, rfl, a, rfl⟩ := rv
        cases W with
        | bool b => exact int_of_bool_ok R a h
        | _ => exact h.elim
      · exact h.elim
    | tuple =>
      simp only [pTy] at h
      split at h
      · rename_i W
        simp only [Reps] at rv
        obtain ⟨v, r, rfl, a, rfl⟩ := rv
        cases W with
        | ref i =>
          obtain ⟨l, hl, q⟩ := oK_elim h
          exact tuple_of_list_ok R a hl q
        | _ => exact h.elim
      · exact h.elim
    | list =>
      simp only [pTy] at h
      split at h
      · rename_i W
        simp only [Reps] at rv
        obtain ⟨v, r, rfl, a, rfl⟩ := rv
        cases W with
        | ref i =>
          obtain ⟨l, hl, q⟩ := oK_elim h
          exact list_of_ok R a (.inr ⟨_, rfl, hl⟩) q
        | tup l => exact list_of_ok R a (.inl rfl) h
        | _ => exact h.elim
      · exact h.elim
    | _ => exact h.elim
  | _ => exact h.elim

theorem append_ok {i : Nat} {o v : Value} {l : List V} {Q : V → Hp → Prop} {W : V} (R : HRel D γ H s.heap) (ro : Rep D γ s.heap o (.ref i)) (r : Rep D γ s.heap v W) (hl : listAt H i = some l) (hz : l.length ≤ 1000000)
    (q : Q .none (H.set i (.list (l ++ [W])))) : wpAny D.M A (call (.builtin "list.append") [o, v]) (PostV D γ s Q) E s := by
  simp only [Rep] at ro; obtain ⟨a, hi, rfl⟩ := ro
  obtain ⟨vs, n, e, rs, z⟩ := R.list hi hl
  have hlen := rs.length
  refine wpAny_list_append_plain (items := vs.toArray) ⟨n, e⟩ (fun h' hp hs => ?_) (by simp [sizeLine_eq]; omega)
  obtain ⟨m, hm⟩ := hp
  have em : vs.toArray.push v = (vs ++ [v]).toArray := by simp
  rw [em] at hm
  exact PostV.setList (tk := s.toks) R hi (rs.append (Reps.one r)) (by simp; omega) (fun b o' hb e' => hs.extBut b o' hb e') hm (by simp only [Rep]) q
theorem clear_ok {i : Nat} {o : Value} {l : List V} {Q : V → Hp → Prop} {pos : Pos} (R : HRel D γ H s.heap) (ro : Rep D γ s.heap o (.ref i)) (hl : listAt H i = some l) (q : Q .none (H.set i (.list []))) :
    wpAny D.M A (callWith pos (.builtin "list.clear") [o] [] []) (PostV D γ s Q) E s := by
  simp only [Rep] at ro; obtain ⟨a, hi, rfl⟩ := ro
  obtain ⟨vs, n, e, rs, z⟩ := R.list hi hl
  refine P.clear_list (items := vs.toArray) (n := n) e ?_ (by simp [sizeLine_eq]; omega)
  exact PostV.setList (tk := s.toks) (vs := []) (l := []) R hi (by simp only [Reps]) (Nat.zero_le _) (fun b o' hb e' => (Heap.SameBut.update ..).extBut b o' hb e') (IsL.update e fun _ => #[]) (by simp only [Rep]) q

theorem index_ok {i j : Nat} {o v : Value} {l : List V} {Q : V → Hp → Prop} {W : V} (hA : AOk k A) (R : HRel D γ H s.heap) (ro : Rep D γ s.heap o (.ref i)) (r : Rep D γ s.heap v W) (hl : listAt H i = some l) (hj : idxV W l = some j)
    (q : Q (.int (j : Int)) H) : wpAny D.M A (call (.builtin "list.index") [o, v]) (PostV D γ s Q) E s := by
  unfold idxV at hj
  split at hj
  · rename_i d ds h1 h2
    split at hj
    · rename_i hd
      obtain ⟨as, r1, c1⟩ := toPy_reads r h1
      obtain ⟨bs, r2, c2⟩ := toPyH_reads (d := .list ds) R ro (by simp [toPyH, hl, h2])
      simp only [Rep] at ro; obtain ⟨a, hi, rfl⟩ := ro
      obtain ⟨vs, n, e, rs, z⟩ := R.list hi hl
      have hlen := rs.length
      cases r2 with
      | list h3 h4 h5 h6 =>
        rw [e] at h3
        cases h3
        cases h5
        have hm := SeqAt.readsAll_map _ _ _ c2 h6
        simp only at hm
        obtain ⟨hj1, hj2, hj3⟩ := List.findIdx?_eq_some_iff_getElem.mp hj
        have hj4 : j < vs.length := by rw [← hm] at hj1; simpa using hj1
        refine call_meets F.slot_list_index ⟨_, e, rfl⟩ F.entry_list_index (F.args_list_index_2 _ _)
          (SeqAt.list_indexAt a vs.toArray n none #[] v (fun y => PyData.eqv (SeqAt.readOf s.heap y) d) j (by simpa using hj4) (by omega) ?_ ?_)
          ⟨e, SeqAt.items_eqAt h6 r1 c2 c1 (room1 hA hd), PostV.now R (by simp only [Rep]; exact ⟨_, rfl⟩) q⟩
        · subst hm; simpa using hj2
        · intro m hm1 hm2
          subst hm
          have := hj3 m hm2
          simpa using this
    · cases hj
  · cases hj
theorem pop_ok {i : Nat} {o : Value} {l : List V} {W : V} {Q : V → Hp → Prop} {pos : Pos} (R : HRel D γ H s.heap) (ro : Rep D γ s.heap o (.ref i)) (hl : listAt H i = some l) (hw : l.getLast? = some W) (q : Q W (H.set i (.list l.dropLast))) :
    wpAny D.M A (callWith pos (.builtin "list.pop") [o] [] []) (PostV D γ s Q) E s := by
  simp only [Rep] at ro; obtain ⟨a, hi, rfl⟩ := ro
  obtain ⟨vs, n, e, rs, z⟩ := R.list hi hl
  have hlen := rs.length
  have hne : l ≠ [] := by rintro rfl; cases hw
  have hpos : 0 < l.length := List.length_pos_iff.mpr hne
  rw [List.getLast?_eq_getElem?] at hw
  obtain ⟨v, hv, rv⟩ := rs.get hw
  have hv' : vs.toArray[vs.toArray.size - 1]? = some v := by simpa [hlen] using hv
  have he : vs.toArray.eraseIdxIfInBounds (vs.toArray.size - 1) = vs.dropLast.toArray := by
    have hb : vs.toArray.size - 1 < vs.toArray.size := by simp; omega
    unfold Array.eraseIdxIfInBounds
    rw [dif_pos hb]
    apply Array.toList_inj.mp
    rw [Array.toList_eraseIdx]
    simp only [List.size_toArray]
    rw [List.eraseIdx_eq_take_drop_succ]
    simp [List.dropLast_eq_take]
    omega
  refine P.pop_list (items := vs.toArray) (n := n) e hv' ?_ (by simp [sizeLine_eq]; omega)
  have e' := IsL.update e fun xs => xs.eraseIdxIfInBounds (vs.toArray.size - 1)
  simp only [he] at e'
  have hk : ∀ b o', b ≠ a → s.heap.get? b = some o' → (s.heap.update a (Obj.mapSeq fun xs => xs.eraseIdxIfInBounds (vs.toArray.size - 1))).get? b = some o' := fun b o' hb q => (Heap.SameBut.update ..).extBut b o' hb q
  have ht : ∀ b ws, TupAt s.heap b ws → TupAt (s.heap.update a (Obj.mapSeq fun xs => xs.eraseIdxIfInBounds (vs.toArray.size - 1))) b ws := fun b ws x => by
    obtain ⟨m, q, d⟩ := x
    refine ⟨m, hk _ _ ?_ q, d⟩
    rintro rfl
    rw [e] at q; simp at q
  refine PostV.setList (tk := s.toks) (vs := vs.dropLast) (l := l.dropLast) R hi ?_ (by simp; omega) hk e' (Rep.mono ⟨[], by simp⟩ ht rv) q
  rw [List.dropLast_eq_take, List.dropLast_eq_take, hlen]
  exact rs.take _
end
end Mine

set_option autoImplicit false
/- The expressions' trees. -/
namespace Mine
open PySem PyProof.Rows

section
variable {D : Wd} {Φ : Orc} {k : Nat}

theorem mapO_cons {α β : Type} {f : α → Option β} {a : α} {r : List α} {l : List β} (h : mapO f (a :: r) = some l) : ∃ b bs, l = b :: bs ∧ f a = some b ∧ mapO f r = some bs := by
  simp only [mapO] at h
  split at h
  · rename_i b bs h1 h2; cases h; exact ⟨b, bs, rfl, h1, h2⟩
  · cases h
theorem mapO_nil {α β : Type} {f : α → Option β} {l : List β} (h : mapO f ([] : List α) = some l) : l = [] := by cases h; rfl

theorem starEach_of {env : Env} {pos : Pos} : ∀ {args : List Expr}, args.any isStar = false → backTo pos (starEach args env) = args.map fun e => (false, eval e env)
  | [], _ => rfl
  | e :: r, h => by
    simp only [List.any_cons, Bool.or_eq_false_iff] at h
    have ih := starEach_of (env := env) (pos := pos) h.2
    have e1 : starEach (e :: r) env = (false, eval e env) :: starEach r env := by
      cases e <;> first | rfl | (simp [isStar] at h)
    rw [e1]
    show ((false, eval e env) :: backTo pos (starEach r env)) = _
    rw [ih]; rfl

theorem spliced_ok {c : CC} {n : Nat} (ih : ∀ e ie, compE n c e = some ie → SE D Φ k c e ie) {env : Env} {A : Around} {X : XL} (he : EnvOk c env) (hA : AOk k A) {L : Lc} : ∀ (args : List Expr) (ies : List IE) (γ : List Addr) (H : Hp) (s : Shared) (Q : List V → Hp → Prop),
    mapO (compE n c) args = some ies → HRel D γ H s.heap → LRel D γ env c.slots s.heap L → wpEs Φ ies L H Q X →
    wpAny D.M A (spliced (args.map fun e => (false, eval e env))) (PostL D γ s Q) (PostX D γ s X) s
  | [], ies, γ, H, s, Q, hm, R, _, h => by
    rw [mapO_nil hm] at h
    exact Calls.spliced_nil ⟨γ, [], H, Stp.refl, R, by simp only [Reps], h⟩
  | e :: r, ies, γ, H, s, Q, hm, R, l, h => by
    obtain ⟨b, bs, rfl, h1, h2⟩ := mapO_cons hm
    refine Calls.spliced_cons (andThen (ih e b h1 env A γ H s L _ X he hA R l h) ?_)
    intro v s1 γ1 V H1 st R1 rv q
    refine wpAny_mono (spliced_ok ih he hA r bs γ1 H1 s1 _ h2 R1 (l.stp R st) q) (fun vs s2 p => ?_) (fun _ _ x => x.back st R1)
    obtain ⟨γ2, Vs, H2, st2, R2, rvs, q2⟩ := p
    exact ⟨γ2, V :: Vs, H2, st.trans0 R1 st2, R2, by simp only [Reps]; exact ⟨v, vs, rfl, rv.stp0 R1 st2, rvs⟩, q2⟩

theorem evalArgs_ok {c : CC} {n : Nat} (ih : ∀ e ie, compE n c e = some ie → SE D Φ k c e ie) {env : Env} {A : Around} {X : XL} (he : EnvOk c env) (hA : AOk k A) {L : Lc} {args : List Expr} {ies : List IE} {γ : List Addr} {H : Hp} {s : Shared} {Q : List V → Hp → Prop} {f : Value}
    (hm : mapO (compE n c) args = some ies) (R : HRel D γ H s.heap) (l : LRel D γ env c.slots s.heap L) (h : wpEs Φ ies L H Q X) :
    wpAny D.M A (evalArgs f true (args.map fun e => (false, eval e env)) []) (fun a s' => a.kw = [] ∧ PostL D γ s Q a.pos s') (PostX D γ s X) s := by
  have hs := spliced_ok ih he hA args ies γ H s Q hm R l h
  cases args with
  | nil =>
    rw [mapO_nil hm] at h
    exact evalArgs_nil3 ⟨rfl, γ, [], H, Stp.refl, R, by simp only [Reps], h⟩
  | cons e r => exact Calls.evalArgs_plain (wpAny_mono hs (fun vs s' p => ⟨rfl, p⟩) fun _ _ x => x)

theorem name_ok {c : CC} {env : Env} {A : Around} {γ : List Addr} {H : Hp} {s : Shared} {L : Lc} {Q : V → Hp → Prop} {X : XL} {x : Str} {pos : Pos} {ie : IE} (g : GOk D c.G) (he : EnvOk c env) (R : HRel D γ H s.heap) (l : LRel D γ env c.slots s.heap L)
    (hc : nameV c x = some ie) (h : (wp2 Φ ie).E L H Q X) : wpAny D.M A (eval (.Name x pos) env) (PostV D γ s Q) (PostX D γ s X) s := by
  unfold nameV at hc
  split at hc
  · cases hc
  · rename_i hd
    have hd' : (x == ("__debug__" : Str)) = false := by simpa using hd
    have hkf : env.scope.kind = .function := by rw [he.scope]; exact he.kind
    split at hc
    · rename_i hk
      rw [Option.map_eq_some_iff] at hc
      obtain ⟨V, hV, rfl⟩ := hc
      have hk' : env.kindOf x = some .globalImplicit := by unfold Env.kindOf; rw [he.scope]; exact hk
      obtain ⟨v, hv, rv⟩ := g.val x V hV
      refine Calls.Name_function_global hkf hk' ?_ hd'
      have rr : Rep D γ s.heap v V := Rep.mono ⟨[], by simp⟩ (fun _ _ => tupAt_grow R.base) (rv γ)
      rcases hv with hv | ⟨hv1, hv2⟩
      · exact Calls.loadGlobal_global (by rw [he.globals]; exact g.gns.keeps R.base) hv (PostV.here R rr h)
      · exact Calls.loadGlobal_builtin (by rw [he.globals]; exact g.gns.keeps R.base) hv1 (by rw [he.builtins]; exact g.bns.keeps R.base) hv2 (PostV.here R rr h)
    · rename_i hk
      rw [Option.map_eq_some_iff] at hc
      obtain ⟨i, hi, rfl⟩ := hc
      have hk' : env.kindOf x = some .local := by unfold Env.kindOf; rw [he.scope]; exact hk
      obtain ⟨V, hL, q⟩ := oKK_elim h
      obtain ⟨m, hn, f⟩ := l.ns
      obtain ⟨v, hv, rv⟩ := f x i V hk' hi hL
      exact wpAny_Name (wpAny_loadName_local hkf hk' hn hv (PostV.here R rv q)) hd'
    · rename_i hk
      rw [Option.map_eq_some_iff] at hc
      obtain ⟨i, hi, rfl⟩ := hc
      have hk' : env.kindOf x = some .cell := by unfold Env.kindOf; rw [he.scope]; exact hk
      obtain ⟨V, hL, q⟩ := oKK_elim h
      obtain ⟨ca, u, hca, hcell, _, f⟩ := l.cel x hk'
      obtain ⟨v, rfl, rv⟩ := f i V hi hL
      exact wpAny_Name (wpAny_loadName_cell hkf hk' hca hcell (PostV.here R rv q)) hd'
    · cases hc

theorem globV_lit {c : CC} {x : Str} {V : V} (h : globV c x = some V) : nameV c x = some (.lit V) := by
  unfold globV at h
  unfold nameV
  split at h
  · cases h
  · rename_i hd
    rw [if_neg hd]
    split at h
    · rename_i hk; rw [hk]; simp [h]
    · cases h

theorem const_ok {env : Env} {A : Around} {γ : List Addr} {H : Hp} {s : Shared} {Q : V → Hp → Prop} {X : XL} {kk : Const} {n : Nat} {pos : Pos} {W : V} (R : HRel D γ H s.heap) (hc : constV kk = some W) (q : Q W H) :
    wpAny D.M A (eval (.Constant kk n pos) env) (PostV D γ s Q) (PostX D γ s X) s := by
  cases kk with
  | none => cases hc; exact Constant_none (PostV.here R (by simp only [Rep]) q)
  | bool b => cases hc; exact Constant_bool (PostV.here R (by simp only [Rep]) q)
  | int i => cases hc; exact wpAny_Constant_int (PostV.now R (by simp only [Rep]; exact ⟨_, rfl⟩) q)
  | str x =>
    simp only [constV] at hc
    split at hc
    · rename_i hf
      cases hc; exact Calls.Constant_str (PostV.now R (by simp only [Rep]; exact ⟨_, rfl, hf⟩) q)
    · cases hc
  | float x => cases hc
  | complex a b => cases hc
  | bytes b => cases hc
  | ellipsis => cases hc

theorem orc_call {D : Wd} {A : Around} {γ : List Addr} {H : Hp} {s : Shared} {Q : V → Hp → Prop} {X : XL} {pos : Pos} {f : Value} {W : V} {trees : List (Bool × Sem Value)} {QL : List V → Hp → Prop} (hO : OrcOk D k Φ) (hA : AOk k A)
    (R : HRel D γ H s.heap) (rf : Rep D γ s.heap f W) (hp : trees.any (·.1) = false)
    (ha : wpAny D.M A (evalArgs f true trees []) (fun a s' => a.kw = [] ∧ PostL D γ s QL a.pos s') (PostX D γ s X) s)
    (hq : ∀ vs H1, QL vs H1 → pCall Φ W vs H1 Q X) : wpAny D.M A (callWith pos f [] trees []) (PostV D γ s Q) (PostX D γ s X) s := by
  have nonfn : (∀ x, W ≠ .fn x) → ∀ (a : Args) (s1 : Shared), (a.kw = [] ∧ PostL D γ s QL a.pos s1) → wpAny D.M A (call f ([] ++ a.pos) a.kw) (PostV D γ s Q) (PostX D γ s X) s1 := by
    rintro hn ⟨ps, kw⟩ s1 ⟨hk, γ1, Vs, H1, st, R1, rv, q⟩
    simp only at hk; subst hk
    exact backV st R1 (call_ok hA R1 (rf.stp0 R st) rv (hq _ _ q) hn)
  have noway : (∀ vs H1, pCall Φ W vs H1 Q X → False) → wpAny D.M A (callWith pos f [] trees []) (PostV D γ s Q) (PostX D γ s X) s := fun hn => by
    unfold callWith
    refine wpAny_bind (wpAny_holding (wpAny_mono ha (fun b s1 hb => ?_) fun _ _ x => x))
    obtain ⟨_, γ1, Vs, H1, _, _, _, q⟩ := hb
    exact (hn _ _ (hq _ _ q)).elim
  cases W with
  | fn x =>
    simp only [Rep] at rf
    obtain ⟨a, rfl, hx⟩ := rf
    have hfun : ∀ (b : Args) (s1 : Shared), (b.kw = [] ∧ PostL D γ s QL b.pos s1) → (∃ o fd, s1.heap.get? a = some o ∧ o.data = .func fd) ∧ wpAny D.M A (call (.ref a) ([] ++ b.pos) b.kw) (PostV D γ s Q) (PostX D γ s X) s1 := by
      rintro ⟨ps, kw⟩ s1 ⟨hk, γ1, Vs, H1, st, R1, rv, q⟩
      simp only at hk; subst hk
      obtain ⟨⟨o, fd, e1, e2⟩, hc⟩ := hO x Vs H1 Q X (hq _ _ q) A γ1 s1 ps a hA R1 rv hx
      exact ⟨⟨o, fd, R1.base _ _ e1, e2⟩, backV st R1 hc⟩
    unfold callWith
    refine wpAny_bind (wpAny_holding (wpAny_mono ha (fun b s1 hb => wpAny_bind (wpAny_standAt ?_)) fun _ _ x => x))
    obtain ⟨⟨o, fd, e1, e2⟩, hc⟩ := hfun b s1 hb
    have tail : ∀ {t : Sem Value}, wpAny D.M A t (PostV D γ s Q) (PostX D γ s X) s1 → wpAny D.M A (t >>= fun r => holding [r] point >>= fun _ => pure r) (PostV D γ s Q) (PostX D γ s X) s1 :=
      fun ht => wpAny_bind (wpAny_mono ht (fun r s₂ hr => wpAny_bind (wpAny_holding (wpAny_point (wpAny_pure hr)))) fun _ _ x => x)
    simp only [hp, List.any_nil, Bool.or_false]
    refine wpAny_bind (m := keeperOf (.ref a)) ?_
    unfold keeperOf
    refine wpAny_bind (wpAny_load e1 ?_)
    rw [e2]
    refine wpAny_pure ?_
    refine wpAny_ite ?_
    split
    · exact tail hc
    · exact tail (by unfold callMarked; exact Calls.wpAny_keep hc)
  | ty n =>
    simp only [Rep] at rf; subst rf
    exact PyProof.Rows.callWith_type hp (wpAny_mono ha (nonfn (by intro x h; cases h)) fun _ _ x => x)
  | bi n =>
    simp only [Rep] at rf; subst rf
    exact Calls.callWith_builtin hp (wpAny_mono ha (nonfn (by intro x h; cases h)) fun _ _ x => x)
  | _ => exact noway fun _ _ q => q

theorem noSlice {i : Expr} {n : Nat} {c : CC} {ie : IE} (h : compE n c i = some ie) : ∀ lo hi st p, i ≠ .Slice lo hi st p := by
  rintro lo hi st p rfl
  cases n <;> exact nomatch (show (none : Option IE) = some ie from h)

theorem noMarks {r : Expr} {n : Nat} {c : CC} {ie : IE} {op : CmpOp} (h : compE n c r = some ie) : behindInMarks op r = false := by
  cases r <;> first | rfl | (cases n <;> exact nomatch (show (none : Option IE) = some ie from h))

theorem ifP_true {A B : Prop} (h : ifP true A B) : A := h
theorem ifP_false {A B : Prop} (h : ifP false A B) : B := h

/- the truth of a tree by its value -/
theorem st_plain {c : CC} {e : Expr} {ie : IE} (h : SE D Φ k c e ie) (hT : (wp2 Φ ie).T = fun L H Q X => (wp2 Φ ie).E L H (fun v H1 => tX H1 v fun c => Q c H1) X)
    (he : ∀ env whole, isTrue e env whole = (do let v ← whole; standAt e.pos; holding [v] (truthy v))) : ST D Φ k c e ie := by
  intro env A γ H s L Q X hE hA R l w
  rw [hT] at w
  refine isTrue_plain (andThen (h env A γ H s L _ X hE hA R l w) ?_) (he _ _)
  intro v s1 γ1 V H1 st R1 rv q
  obtain ⟨b, hb, q⟩ := tX_elim q
  exact backB st R1 (truth_ok R1 rv hb q)
end
end Mine

set_option autoImplicit false
/- The expressions, one tree at a time. -/
namespace Mine
open PySem PyProof.Rows

noncomputable def Both (D : Wd) (Φ : Orc) (k : Nat) (c : CC) (e : Expr) (ie : IE) : Prop := SE D Φ k c e ie ∧ ST D Φ k c e ie

section
variable {D : Wd} {Φ : Orc} {k : Nat} {c : CC}

theorem both_plain {e : Expr} {ie : IE} (h : SE D Φ k c e ie) (hT : (wp2 Φ ie).T = fun L H Q X => (wp2 Φ ie).E L H (fun v H1 => tX H1 v fun c => Q c H1) X)
    (he : ∀ env whole, isTrue e env whole = (do let v ← whole; standAt e.pos; holding [v] (truthy v))) : Both D Φ k c e ie := ⟨h, st_plain h hT he⟩

theorem e_name (g : GOk D c.G) {x : Str} {pos : Pos} {ie : IE} (hc : nameV c x = some ie) : Both D Φ k c (.Name x pos) ie := by
  have hT : (wp2 Φ ie).T = fun L H Q X => (wp2 Φ ie).E L H (fun v H1 => tX H1 v fun c => Q c H1) X := by
    unfold nameV at hc
    split at hc
    · cases hc
    · split at hc <;> first | (rw [Option.map_eq_some_iff] at hc; obtain ⟨_, _, rfl⟩ := hc; rfl) | cases hc
  exact both_plain (fun env A γ H s L Q X hE hA R l w => name_ok g hE R l hc w) hT (fun _ _ => rfl)

theorem e_const {kk : Const} {n : Nat} {pos : Pos} {W : V} (hc : constV kk = some W) : Both D Φ k c (.Constant kk n pos) (.lit W) :=
  both_plain (fun _ _ _ _ _ _ _ _ _ _ R _ w => const_ok R hc w) rfl (fun _ _ => rfl)

theorem e_bin {l r : Expr} {op : Operator} {pos : Pos} {a b : IE} (ha : SE D Φ k c l a) (hb : SE D Φ k c r b) : Both D Φ k c (.BinOp l op r pos) (.bin op a b) := by
  refine both_plain (fun env A γ H s L Q X hE hA R lr w => ?_) rfl (fun _ _ => rfl)
  refine wpAny_BinOp (andThen (ha env A γ H s L _ X hE hA R lr w) ?_)
  intro va s1 γ1 Va H1 st R1 ra q
  refine thenV st R1 (hb env A γ1 H1 s1 L _ X hE hA R1 (lr.stp R st) q) ?_
  intro vb s2 γ2 Vb H2 st2 R2 rb q2
  exact backV (st.trans0 R1 st2) R2 (bin_ok R2 (ra.stp0 R1 st2) rb q2)

theorem e_neg {x : Expr} {pos : Pos} {a : IE} (ha : SE D Φ k c x a) : Both D Φ k c (.UnaryOp .USub x pos) (.neg a) := by
  refine both_plain (fun env A γ H s L Q X hE hA R lr w => ?_) rfl (fun _ _ => rfl)
  refine UnaryOp_ (andThen (ha env A γ H s L _ X hE hA R lr w) ?_)
  intro va s1 γ1 Va H1 st R1 ra q
  split at q
  · exact backV st R1 (neg_ok R1 ra q)
  · exact q.elim

theorem e_not {x : Expr} {pos : Pos} {a : IE} (ha : Both D Φ k c x a) : Both D Φ k c (.UnaryOp .Not x pos) (.not a) := by
  refine ⟨fun env A γ H s L Q X hE hA R lr w => ?_, fun env A γ H s L Q X hE hA R lr w => ?_⟩
  · refine UnaryOp_ (andThen (ha.1 env A γ H s L _ X hE hA R lr w) ?_)
    intro va s1 γ1 Va H1 st R1 ra q
    obtain ⟨b, hb, q⟩ := tX_elim q
    refine not_of (wpAny_mono (truth_ok (Q := fun d H' => d = b ∧ Q (.bool (!b)) H') (E := PostX D γ s X) R1 ra hb ⟨rfl, q⟩) (fun d s2 p => ?_) fun _ _ x => x)
    obtain ⟨γ2, H2, st2, R2, rfl, q2⟩ := p
    exact ⟨γ2, _, H2, st.trans0 R1 st2, R2, by simp only [Rep], q2⟩
  · refine isTrue_not (wpAny_mono (ha.2 env A γ H s L _ X hE hA R lr w) (fun d s2 p => ?_) fun _ _ x => x)
    obtain ⟨γ2, H2, st2, R2, q2⟩ := p
    exact ⟨γ2, H2, st2, R2, q2⟩

theorem e_cmp {l r : Expr} {op : CmpOp} {pos : Pos} {a b : IE} (ha : SE D Φ k c l a) (hb : SE D Φ k c r b) (hm : behindInMarks op r = false) : Both D Φ k c (.Compare l [op] [r] pos) (.cmp a op b) := by
  have key : ∀ env A γ H s L Q X, EnvOk c env → AOk k A → HRel D γ H s.heap → LRel D γ env c.slots s.heap L → (wp2 Φ (.cmp a op b)).E L H Q X →
      wpAny D.M A (eval l env) (fun va s₁ => wpAny D.M A (eval r env) (fun vb s₂ => wpAny D.M A (compareOp op va vb) (PostV D γ s Q) (PostX D γ s X) s₂) (PostX D γ s X) s₁) (PostX D γ s X) s := by
    intro env A γ H s L Q X hE hA R lr w
    refine andThen (ha env A γ H s L _ X hE hA R lr w) ?_
    intro va s1 γ1 Va H1 st R1 ra q
    refine thenV st R1 (hb env A γ1 H1 s1 L _ X hE hA R1 (lr.stp R st) q) ?_
    intro vb s2 γ2 Vb H2 st2 R2 rb q2
    exact backV (st.trans0 R1 st2) R2 (cmp_ok hA R2 (ra.stp0 R1 st2) rb q2)
  refine ⟨fun env A γ H s L Q X hE hA R lr w => wpAny_Compare1 (key env A γ H s L Q X hE hA R lr w) hm, fun env A γ H s L Q X hE hA R lr w => wpAny_isTrue_Compare1 ?_ hm⟩
  refine wpAny_mono (key env A γ H s L _ X hE hA R lr w) (fun va s1 p => wpAny_mono p (fun vb s2 p2 => wpAny_mono p2 (fun v s3 p3 => ?_) fun _ _ x => x) fun _ _ x => x) fun _ _ x => x
  obtain ⟨γ3, V, H3, st3, R3, rv, q⟩ := p3
  obtain ⟨d, hd, q⟩ := tX_elim q
  exact backB st3 R3 (truth_ok R3 rv hd q)

theorem cmp2_head {l r : Expr} {op op' : CmpOp} {a b d : IE} (ha : SE D Φ k c l a) (hb : SE D Φ k c r b) {env : Env} {A : Around} {γ : List Addr} {H : Hp} {s : Shared} {L : Lc} {Q : V → Hp → Prop} {X : XL}
    (hE : EnvOk c env) (hA : AOk k A) (R : HRel D γ H s.heap) (lr : LRel D γ env c.slots s.heap L) (w : (wp2 Φ (.cmp2 a op b op' d)).E L H Q X) :
    wpAny D.M A (eval l env) (fun va s₁ => wpAny D.M A (eval r env) (fun vb s₂ => wpAny D.M A (compareOp op va vb) (fun cv s₃ => wpAny D.M A (truthy cv) (fun t s₄ =>
      ∃ γ4 Vb Vc H4, Stp [] γ γ4 s s₄ ∧ HRel D γ4 H4 s₄.heap ∧ LRel D γ4 env c.slots s₄.heap L ∧ Rep D γ4 s₄.heap vb Vb ∧ Rep D γ4 s₄.heap cv Vc ∧ truthV H4 Vc = some t ∧ ifP t ((wp2 Φ d).E L H4 (fun vc H4 => pCmp op' Vb vc H4 Q) X) (Q Vc H4))
        (PostX D γ s X) s₃) (PostX D γ s X) s₂) (PostX D γ s X) s₁) (PostX D γ s X) s := by
  refine andThen (ha env A γ H s L _ X hE hA R lr w) ?_
  intro va s1 γ1 Va H1 st R1 ra q
  refine thenV st R1 (hb env A γ1 H1 s1 L _ X hE hA R1 (lr.stp R st) q) ?_
  intro vb s2 γ2 Vb H2 st2 R2 rb q2
  have st02 := st.trans0 R1 st2
  refine thenV st02 R2 (cmp_ok (Q := _) (E := PostX D γ2 s2 X) hA R2 (ra.stp0 R1 st2) rb q2) ?_
  intro cv s3 γ3 Vc H3 st3 R3 rc q3
  obtain ⟨t, ht, q3⟩ := tX_elim q3
  have st03 := st02.trans0 R2 st3
  refine wpAny_mono (truth_ok (Q := fun t' H' => t' = t ∧ H' = H3) (E := PostX D γ s X) R3 rc ht ⟨rfl, rfl⟩) (fun t' s4 p => ?_) fun _ _ x => x
  obtain ⟨γ4, H4, st4, R4, rfl, rfl⟩ := p
  exact ⟨γ4, Vb, Vc, _, st03.trans0 R3 st4, R4, (lr.stp R st03).stp R3 st4, (rb.stp0 R2 st3).stp0 R3 st4, rc.stp0 R3 st4, ht, q3⟩

theorem e_cmp2 {l r r' : Expr} {op op' : CmpOp} {pos : Pos} {a b d : IE} (ha : SE D Φ k c l a) (hb : SE D Φ k c r b) (hd : SE D Φ k c r' d) (hm : behindInMarks op' r' = false) :
    Both D Φ k c (.Compare l [op, op'] [r, r'] pos) (.cmp2 a op b op' d) := by
  have hm' : lastMarks [op, op'] [r, r'] = false := hm
  refine ⟨fun env A γ H s L Q X hE hA R lr w => ?_, fun env A γ H s L Q X hE hA R lr w => ?_⟩
  · refine Compare_chain (wpAny_mono (cmp2_head ha hb hE hA R lr w) (fun va s1 h1 => ?_) fun _ _ x => x) hm'
    refine chain_link (wpAny_mono h1 (fun vb s2 h2 => wpAny_mono h2 (fun cv s3 h3 => wpAny_mono h3 (fun t s4 h4 => ?_) fun _ _ x => x) fun _ _ x => x) fun _ _ x => x)
    obtain ⟨γ4, Vb, Vc, H4, st, R4, l4, rb, rc, ht, q⟩ := h4
    cases t with
    | true =>
      refine chain_last (thenV st R4 (hd env A γ4 _ s4 L _ X hE hA R4 l4 q) ?_)
      intro vd s5 γ5 Vd H5 st5 R5 rd q5
      exact backV (st.trans0 R4 st5) R5 (cmp_ok hA R5 (rb.stp0 R4 st5) rd q5)
    | false => exact ⟨γ4, Vc, H4, st, R4, rc, q⟩
  · refine isTrue_chain (wpAny_mono (cmp2_head ha hb hE hA R lr w) (fun va s1 h1 => ?_) fun _ _ x => x) hm'
    refine test_link (wpAny_mono h1 (fun vb s2 h2 => wpAny_mono h2 (fun cv s3 h3 => wpAny_mono h3 (fun t s4 h4 => ?_) fun _ _ x => x) fun _ _ x => x) fun _ _ x => x)
    obtain ⟨γ4, Vb, Vc, H4, st, R4, l4, rb, rc, ht, q⟩ := h4
    cases t with
    | true =>
      refine test_last (thenV st R4 (hd env A γ4 _ s4 L _ X hE hA R4 l4 q) ?_)
      intro vd s5 γ5 Vd H5 st5 R5 rd q5
      refine thenV (st.trans0 R4 st5) R5 (cmp_ok (Q := _) (E := PostX D γ5 s5 X) hA R5 (rb.stp0 R4 st5) rd q5) ?_
      intro v s6 γ6 V6 H6 st6 R6 r6 q6
      obtain ⟨t6, ht6, q6⟩ := tX_elim q6
      exact backB ((st.trans0 R4 st5).trans0 R5 st6) R6 (truth_ok R6 r6 ht6 q6)
    | false =>
      obtain ⟨t', ht', q'⟩ := tX_elim q
      rw [ht] at ht'; cases ht'
      exact ⟨γ4, H4, st, R4, q'⟩

theorem e_ite {t a b : Expr} {pos : Pos} {it ia ib : IE} (ht : Both D Φ k c t it) (ha : Both D Φ k c a ia) (hb : Both D Φ k c b ib) : Both D Φ k c (.IfExp t a b pos) (.ite it ia ib) := by
  refine ⟨fun env A γ H s L Q X hE hA R lr w => ?_, fun env A γ H s L Q X hE hA R lr w => ?_⟩
  · refine IfExp_ (andThenB (ht.2 env A γ H s L _ X hE hA R lr w) ?_)
    intro v s1 γ1 H1 st R1 q
    cases v with
    | true => exact backV st R1 (ha.1 env A γ1 H1 s1 L Q X hE hA R1 (lr.stp R st) q)
    | false => exact backV st R1 (hb.1 env A γ1 H1 s1 L Q X hE hA R1 (lr.stp R st) q)
  · refine isTrue_IfExp (andThenB (ht.2 env A γ H s L _ X hE hA R lr w) ?_)
    intro v s1 γ1 H1 st R1 q
    cases v with
    | true => exact backB st R1 (ha.2 env A γ1 H1 s1 L Q X hE hA R1 (lr.stp R st) q)
    | false => exact backB st R1 (hb.2 env A γ1 H1 s1 L Q X hE hA R1 (lr.stp R st) q)

theorem e_and : ∀ {vs : List Expr} {ies : List IE} {pos : Pos} {ie : IE} {n : Nat}, (∀ e ie, compE n c e = some ie → Both D Φ k c e ie) → mapO (compE n c) vs = some ies → boolGo .and ies = some ie → Both D Φ k c (.BoolOp .And vs pos) ie
  | [], ies, pos, ie, n, ih, hm, hb => by rw [mapO_nil hm] at hb; cases hb
  | [e], ies, pos, ie, n, ih, hm, hb => by
    obtain ⟨b, bs, rfl, h1, h2⟩ := mapO_cons hm
    rw [mapO_nil h2] at hb
    cases hb
    have := ih e ie h1
    refine ⟨fun env A γ H s L Q X hE hA R lr w => BoolOp_one (this.1 env A γ H s L Q X hE hA R lr w), fun env A γ H s L Q X hE hA R lr w => ?_⟩
    refine isTrue_and (wpAny_mono (this.2 env A γ H s L Q X hE hA R lr w) (fun t s1 p => ?_) fun _ _ x => x)
    cases t with
    | true => exact isTrue_and_nil p
    | false => exact p
  | e :: e2 :: r, ies, pos, ie, n, ih, hm, hb => by
    obtain ⟨b, bs, rfl, h1, h2⟩ := mapO_cons hm
    obtain ⟨b2, bs2, rfl, h3, h4⟩ := mapO_cons h2
    simp only [boolGo, Option.map_eq_some_iff] at hb
    obtain ⟨i2, hi2, rfl⟩ := hb
    have rest := e_and (vs := e2 :: r) (pos := pos) ih h2 hi2
    have one := ih e b h1
    refine ⟨fun env A γ H s L Q X hE hA R lr w => ?_, fun env A γ H s L Q X hE hA R lr w => ?_⟩
    · refine BoolOp_and (andThen (one.1 env A γ H s L _ X hE hA R lr w) ?_)
      intro va s1 γ1 Va H1 st R1 ra q
      obtain ⟨t, ht, q⟩ := tX_elim q
      refine wpAny_mono (truth_ok (Q := fun t' H' => t' = t ∧ H' = H1) (E := PostX D γ s X) R1 ra ht ⟨rfl, rfl⟩) (fun t' s4 p => ?_) fun _ _ x => x
      obtain ⟨γ4, H4, st4, R4, rfl, rfl⟩ := p
      have st04 := st.trans0 R1 st4
      cases t' with
      | true => exact backV st04 R4 (rest.1 env A γ4 _ s4 L Q X hE hA R4 (lr.stp R st04) q)
      | false => exact ⟨γ4, Va, _, st04, R4, ra.stp0 R1 st4, q⟩
    · refine isTrue_and (andThenB (one.2 env A γ H s L _ X hE hA R lr w) ?_)
      intro v s1 γ1 H1 st R1 q
      cases v with
      | true => exact backB st R1 (rest.2 env A γ1 H1 s1 L Q X hE hA R1 (lr.stp R st) q)
      | false => exact ⟨γ1, H1, st, R1, q⟩

theorem e_or : ∀ {vs : List Expr} {ies : List IE} {pos : Pos} {ie : IE} {n : Nat}, (∀ e ie, compE n c e = some ie → Both D Φ k c e ie) → mapO (compE n c) vs = some ies → boolGo .or ies = some ie → Both D Φ k c (.BoolOp .Or vs pos) ie
  | [], ies, pos, ie, n, ih, hm, hb => by rw [mapO_nil hm] at hb; cases hb
  | [e], ies, pos, ie, n, ih, hm, hb => by
    obtain ⟨b, bs, rfl, h1, h2⟩ := mapO_cons hm
    rw [mapO_nil h2] at hb
    cases hb
    have := ih e ie h1
    refine ⟨fun env A γ H s L Q X hE hA R lr w => BoolOp_one (this.1 env A γ H s L Q X hE hA R lr w), fun env A γ H s L Q X hE hA R lr w => ?_⟩
    refine isTrue_or (wpAny_mono (this.2 env A γ H s L Q X hE hA R lr w) (fun t s1 p => ?_) fun _ _ x => x)
    cases t with
    | true => exact p
    | false => exact isTrue_or_nil p
  | e :: e2 :: r, ies, pos, ie, n, ih, hm, hb => by
    obtain ⟨b, bs, rfl, h1, h2⟩ := mapO_cons hm
    obtain ⟨b2, bs2, rfl, h3, h4⟩ := mapO_cons h2
    simp only [boolGo, Option.map_eq_some_iff] at hb
    obtain ⟨i2, hi2, rfl⟩ := hb
    have rest := e_or (vs := e2 :: r) (pos := pos) ih h2 hi2
    have one := ih e b h1
    refine ⟨fun env A γ H s L Q X hE hA R lr w => ?_, fun env A γ H s L Q X hE hA R lr w => ?_⟩
    · refine BoolOp_or (andThen (one.1 env A γ H s L _ X hE hA R lr w) ?_)
      intro va s1 γ1 Va H1 st R1 ra q
      obtain ⟨t, ht, q⟩ := tX_elim q
      refine wpAny_mono (truth_ok (Q := fun t' H' => t' = t ∧ H' = H1) (E := PostX D γ s X) R1 ra ht ⟨rfl, rfl⟩) (fun t' s4 p => ?_) fun _ _ x => x
      obtain ⟨γ4, H4, st4, R4, rfl, rfl⟩ := p
      have st04 := st.trans0 R1 st4
      cases t' with
      | false => exact backV st04 R4 (rest.1 env A γ4 _ s4 L Q X hE hA R4 (lr.stp R st04) q)
      | true => exact ⟨γ4, Va, _, st04, R4, ra.stp0 R1 st4, q⟩
    · refine isTrue_or (andThenB (one.2 env A γ H s L _ X hE hA R lr w) ?_)
      intro v s1 γ1 H1 st R1 q
      cases v with
      | false => exact backB st R1 (rest.2 env A γ1 H1 s1 L Q X hE hA R1 (lr.stp R st) q)
      | true => exact ⟨γ1, H1, st, R1, q⟩

theorem e_tup {es : List Expr} {kk : Nat} {pos : Pos} {ies : List IE} {n : Nat} (ih : ∀ e ie, compE n c e = some ie → SE D Φ k c e ie) (hs : es.any isStar = false) (hm : mapO (compE n c) es = some ies) :
    Both D Φ k c (.Tuple es kk pos) (.tup ies) := by
  refine both_plain (fun env A γ H s L Q X hE hA R lr w => ?_) rfl (fun _ _ => rfl)
  refine wpAny_Tuple (wpAny_mono (by rw [starEach_of hs]; exact spliced_ok ih hE hA es ies γ H s _ hm R lr w) (fun vs s1 p => ?_) fun _ _ x => x)
  obtain ⟨γ1, Vs, H1, st, R1, rv, hz, q⟩ := p
  have hl := rv.length
  exact ⟨by rw [sizeLine_eq]; omega, (PostV.newTuple R1 rv (by omega) q).back st R1⟩

theorem e_lst {es : List Expr} {pos : Pos} {ies : List IE} {n : Nat} (ih : ∀ e ie, compE n c e = some ie → SE D Φ k c e ie) (hs : es.any isStar = false) (hm : mapO (compE n c) es = some ies) :
    Both D Φ k c (.List es pos) (.lst ies) := by
  refine both_plain (fun env A γ H s L Q X hE hA R lr w => ?_) rfl (fun _ _ => rfl)
  refine wpAny_List (wpAny_mono (by rw [starEach_of hs]; exact spliced_ok ih hE hA es ies γ H s _ hm R lr w) (fun vs s1 p => ?_) fun _ _ x => x)
  obtain ⟨γ1, Vs, H1, st, R1, rv, hz, q⟩ := p
  have hl := rv.length
  exact ⟨by rw [sizeLine_eq]; omega, (PostV.newList R1 rv (by omega) q).back st R1⟩

theorem e_sub {o i : Expr} {pos : Pos} {a b : IE} (ha : SE D Φ k c o a) (hb : SE D Φ k c i b) (hs : ∀ lo hi st p, i ≠ .Slice lo hi st p) : Both D Φ k c (.Subscript o i pos) (.sub a b) := by
  refine both_plain (fun env A γ H s L Q X hE hA R lr w => ?_) rfl (fun _ _ => rfl)
  refine Subscript_ (andThen (ha env A γ H s L _ X hE hA R lr w) ?_)
  intro va s1 γ1 Va H1 st R1 ra q
  refine thenV st R1 (hb env A γ1 H1 s1 L _ X hE hA R1 (lr.stp R st) q) ?_
  intro vb s2 γ2 Vb H2 st2 R2 rb q2
  exact backV (st.trans0 R1 st2) R2 (sub_ok R2 (ra.stp0 R1 st2) rb q2 hs)

theorem e_call {f : Str} {fp pos : Pos} {args : List Expr} {W : V} {ies : List IE} {n : Nat} (g : GOk D c.G) (hO : OrcOk D k Φ) (ih : ∀ e ie, compE n c e = some ie → SE D Φ k c e ie) (hs : args.any isStar = false) (hf : globV c f = some W)
    (hm : mapO (compE n c) args = some ies) : Both D Φ k c (.Call (.Name f fp) args [] pos) (.call W ies) := by
  refine both_plain (fun env A γ H s L Q X hE hA R lr w => ?_) rfl (fun _ _ => rfl)
  refine wpAny_Call_ofName (andThen (name_ok (Φ := Φ) (Q := fun V H' => V = W ∧ H' = H) g hE R lr (globV_lit hf) ⟨rfl, rfl⟩) ?_)
  intro vf s1 γ1 Vf H1 st R1 rf q
  obtain ⟨rfl, rfl⟩ := q
  refine backV st R1 ?_
  rw [starEach_of hs]
  refine orc_call (QL := fun vs H' => pCall Φ Vf vs H' Q X) hO hA R1 rf (by simp) (evalArgs_ok ih hE hA hm R1 (lr.stp R st) w) (fun _ _ q => q)

theorem e_append {o a : Expr} {apos pos : Pos} {io ia : IE} (ho : SE D Φ k c o io) (ha : SE D Φ k c a ia) (hb : plainBase o = true) (hl : apos.endLine = pos.line) (hs : isStar a = false) :
    Both D Φ k c (.Call (.Attribute o "append" apos) [a] [] pos) (.meth io .append [ia]) := by
  refine both_plain (fun env A γ H s L Q X hE hA R lr w => ?_) rfl (fun _ _ => rfl)
  have e1 : backTo pos (starEach [a] env) = [(false, eval a env)] := by
    rw [starEach_of (by simp [hs])]; rfl
  refine wpAny_Call_append (by cases o <;> first | rfl | (simp [plainBase] at hb)) (by rw [e1]; rfl) (by simp [hl]) e1 (andThen (ho env A γ H s L _ X hE hA R lr w) ?_)
  intro vo s1 γ1 Vo H1 st R1 ro q
  obtain ⟨hm, q⟩ := q
  cases Vo <;> simp only [okMeth] at hm
  rename_i i
  obtain ⟨l0, hl0⟩ := hm
  have ro' := ro
  simp only [Rep] at ro'
  obtain ⟨x, hx, rfl⟩ := ro'
  obtain ⟨vs, n, e, rs, z⟩ := R1.list hx hl0
  refine ⟨x, vs.toArray, rfl, ?_, thenV st R1 (ha env A γ1 H1 s1 L _ X hE hA R1 (lr.stp R st) q) ?_⟩
  · exact ⟨_, n, e, rfl, rfl, rfl⟩
  intro va s2 γ2 Va H2 st2 R2 ra q2
  obtain ⟨l, hl', hz, q2⟩ := oK_elim q2
  exact backV (st.trans0 R1 st2) R2 (append_ok R2 (ro.stp0 R1 st2) ra hl' hz q2)
theorem listTy {D : Wd} {γ : List Addr} {H : Hp} {s : Shared} {i : Nat} {o : Value} {l : List V} (R : HRel D γ H s.heap) (ro : Rep D γ s.heap o (.ref i)) (hl : listAt H i = some l) :
    s.TypeIs o "list" ∧ ∀ a, o = .ref a → ∃ ob, s.heap.get? a = some ob ∧ ob.dict = none := by
  simp only [Rep] at ro
  obtain ⟨x, hx, rfl⟩ := ro
  obtain ⟨vs, n, e, rs, z⟩ := R.list hx hl
  exact ⟨⟨_, e, rfl⟩, fun a ha => by cases ha; exact ⟨_, e, rfl⟩⟩
theorem attrBase {o : Expr} {name : Str} {env : Env} (hb : plainBase o = true) : attributeBase o name env (eval o env) = eval o env := by cases o <;> first | rfl | (simp [plainBase] at hb)
theorem e_clear {o : Expr} {apos pos : Pos} {io : IE} (ho : SE D Φ k c o io) (hb : plainBase o = true) (hl : apos.endLine = pos.line) :
    Both D Φ k c (.Call (.Attribute o "clear" apos) [] [] pos) (.meth io .clear []) := by
  refine both_plain (fun env A γ H s L Q X hE hA R lr w => ?_) rfl (fun _ _ => rfl)
  refine wpAny_Call_method (attrBase hb) rfl (by simp [hl]) F.plainAttrs_list F.slot_list_clear F.type_list_clear (andThen (ho env A γ H s L _ X hE hA R lr w) ?_)
  intro vo s1 γ1 Vo H1 st R1 ro q
  obtain ⟨hm, q⟩ := q
  cases Vo <;> simp only [okMeth] at hm
  rename_i i
  obtain ⟨l, hl'⟩ := hm
  obtain ⟨l2, hl2, q⟩ := oK_elim q
  obtain ⟨h1, h2⟩ := listTy R1 ro hl'
  exact ⟨h1, h2, backV st R1 (clear_ok R1 ro hl2 q)⟩
theorem e_index {o a : Expr} {apos pos : Pos} {io ia : IE} (ho : SE D Φ k c o io) (ha : SE D Φ k c a ia) (hb : plainBase o = true) (hl : apos.endLine = pos.line) (hs : isStar a = false) :
    Both D Φ k c (.Call (.Attribute o "index" apos) [a] [] pos) (.meth io .index [ia]) := by
  refine both_plain (fun env A γ H s L Q X hE hA R lr w => ?_) rfl (fun _ _ => rfl)
  have e1 : backTo pos (starEach [a] env) = [(false, eval a env)] := by
    rw [starEach_of (by simp [hs])]; rfl
  refine wpAny_Call_method (attrBase hb) (by rw [e1]; rfl) (by simp [hl]) F.plainAttrs_list F.slot_list_index F.type_list_index (andThen (ho env A γ H s L _ X hE hA R lr w) ?_)
  intro vo s1 γ1 Vo H1 st R1 ro q
  obtain ⟨hm, q⟩ := q
  cases Vo <;> simp only [okMeth] at hm
  rename_i i
  obtain ⟨l, hl'⟩ := hm
  obtain ⟨h1, h2⟩ := listTy R1 ro hl'
  refine ⟨h1, h2, ?_⟩
  rw [e1]
  refine Calls.callWith_builtin rfl (Calls.evalArgs_plain (Calls.spliced_cons (thenV st R1 (ha env A γ1 H1 s1 L _ X hE hA R1 (lr.stp R st) q) ?_)))
  intro va s2 γ2 Va H2 st2 R2 ra q2
  obtain ⟨l2, hl2, q2⟩ := oK_elim q2
  obtain ⟨j, hj, q2⟩ := oK_elim q2
  exact Calls.spliced_nil (backV (st.trans0 R1 st2) R2 (index_ok hA R2 (ro.stp0 R1 st2) ra hl2 hj q2))
theorem e_pop {o : Expr} {apos pos : Pos} {io : IE} (ho : SE D Φ k c o io) (hb : plainBase o = true) (hl : apos.endLine = pos.line) :
    Both D Φ k c (.Call (.Attribute o "pop" apos) [] [] pos) (.meth io .pop []) := by
  refine both_plain (fun env A γ H s L Q X hE hA R lr w => ?_) rfl (fun _ _ => rfl)
  refine wpAny_Call_method (attrBase hb) rfl (by simp [hl]) F.plainAttrs_list F.slot_list_pop F.type_list_pop (andThen (ho env A γ H s L _ X hE hA R lr w) ?_)
  intro vo s1 γ1 Vo H1 st R1 ro q
  obtain ⟨hm, q⟩ := q
  cases Vo <;> simp only [okMeth] at hm
  rename_i i
  obtain ⟨l, hl'⟩ := hm
  obtain ⟨l2, hl2, q⟩ := oK_elim q
  obtain ⟨v, hv, q⟩ := oK_elim q
  obtain ⟨h1, h2⟩ := listTy R1 ro hl'
  exact ⟨h1, h2, backV st R1 (pop_ok R1 ro hl2 hv q)⟩
end
end Mine

set_option autoImplicit false
/- Slices of lists and tuples. -/
namespace Mine
open PySem PyProof.Rows

section
variable {prog : Program} {w : World} {A : Around} {E : Value → Shared → Prop} {s : Shared}

theorem part_at {v : Value} {k : Option Int} {Q : Option Int → Shared → Prop} (p : IsPart v k) (h : Q k s) : wpAny (model prog w) A (Builtin.Slice.slicePartIndex v) Q E s := by
  cases p with
  | none => exact slicePart_none h
  | int i t => exact slicePart_int h
theorem applied_at {sl : Addr} {vl vu vt : Value} {lo hi st : Option Int} {n : Nat} {Q : Int × Int × Nat → Shared → Prop} (hs : s.heap.IsSliceOf sl vl vu vt) (pl : IsPart vl lo) (pu : IsPart vu hi) (pt : IsPart vt st) (h0 : (st.getD 1 == 0) = false)
    (h : Q ((Builtin.Slice.sliceAdjust lo hi (st.getD 1) (n : Int)).1, st.getD 1, Builtin.Slice.slicePlaces (Builtin.Slice.sliceAdjust lo hi (st.getD 1) (n : Int)).1 (Builtin.Slice.sliceAdjust lo hi (st.getD 1) (n : Int)).2 (st.getD 1)) s) :
    wpAny (model prog w) A (Builtin.Slice.sliceApplied (.ref sl) (pure (n : Int))) Q E s := by
  obtain ⟨os, hos, hcs, hds⟩ := id hs
  unfold Builtin.Slice.sliceApplied Builtin.Slice.sliceFields
  refine wpAny_bind (wpAny_bind (wpAny_field hos hds (x := vl) rfl (wpAny_bind (wpAny_field hos hds (x := vu) rfl (wpAny_bind (wpAny_field hos hds (x := vt) rfl (wpAny_pure ?_)))))))
  refine wpAny_bind (part_at pt ?_)
  show wpAny _ _ (if (st.getD 1 == 0) = true then _ else _) _ _ s
  rw [h0, if_neg (by decide)]
  exact wpAny_bind (part_at pl (wpAny_bind (part_at pu (wpAny_bind (wpAny_pure (wpAny_pure h))))))

noncomputable def pickT (xs : Array Value) (lo step : Int) (n : Nat) : List Value := (List.range n).filterMap fun (k : Nat) => xs[(lo + (k : Int) * step).toNat]?
theorem getItem_tup {t sl : Addr} {items : Array Value} {vl vu vt : Value} {lo hi st : Option Int} {zs : List Value} {Q : Value → Shared → Prop} (ht : IsTup s.heap t items) (hs : s.heap.IsSliceOf sl vl vu vt) (pl : IsPart vl lo) (pu : IsPart vu hi) (pt : IsPart vt st) (h0 : (st.getD 1 == 0) = false)
    (hz : pickT items (Builtin.Slice.sliceAdjust lo hi (st.getD 1) (items.size : Int)).1 (st.getD 1) (Builtin.Slice.slicePlaces (Builtin.Slice.sliceAdjust lo hi (st.getD 1) (items.size : Int)).1 (Builtin.Slice.sliceAdjust lo hi (st.getD 1) (items.size : Int)).2 (st.getD 1)) = zs)
    (hsz : zs.length ≤ sizeLine) (h1 : zs = items.toList → Q (.ref t) s) (h2 : Q (.ref s.heap.objs.size) { s with heap := s.heap.push { cls := .type "tuple", data := .seq zs.toArray } }) :
    wpAny (model prog w) A (getItem (.ref t) (.ref sl)) Q E s := by
  have hdrop : sizeOk (.seq zs.toArray) := by
    show zs.toArray.size ≤ sizeLine
    rw [List.size_toArray]; exact hsz
  obtain ⟨os, hos, hcs, hds⟩ := id hs
  have hTs : s.TypeIs (.ref sl) "slice" := ⟨os, hos, hcs⟩
  unfold getItem
  try with_reducible refine wpAny_holding ?_
  first | refine wpAny_bind (wpAny_pure ?_) | skip
  refine wpAny_bind (wpAny_sequenceKey ht.typeIs (by decide) ?_)
  refine wpAny_bind (wpAny_callSpecial?_slot (name := Str.ofString "__getitem__") ht.typeIs slot_tuple_getitem
    (wpAny_call_entry slot_tuple_getitem ht.typeIs entry_tuple_getitem ?_ (args_tuple_getitem _ _)))
  show wpAny _ _ (Builtin.Tuple.tupleItemsOf (.ref t) >>= _) _ _ s
  refine wpAny_bind (tupleItemsOf_ ht ?_)
  refine wpAny_bind (wpAny_typeOf hTs ?_)
  rw [if_pos (by decide)]
  refine wpAny_bind (applied_at hs pl pu pt h0 ?_)
  generalize (Builtin.Slice.sliceAdjust lo hi (st.getD 1) (items.size : Int)).1 = a at *
  generalize hb : Builtin.Slice.slicePlaces a (Builtin.Slice.sliceAdjust lo hi (st.getD 1) (items.size : Int)).2 (st.getD 1) = b at *
  show wpAny _ _ (if (a == 0 && st.getD 1 == 1 && b == items.size) = true then _ else _) _ _ s
  by_cases hc : (a == 0 && st.getD 1 == 1 && b == items.size) = true
  · rw [if_pos hc]
    simp only [Bool.and_eq_true, beq_iff_eq] at hc
    obtain ⟨⟨ha, hs1⟩, hn⟩ := hc
    have hw : zs = items.toList := by
      rw [← hz, ha, hs1, hn]
      have := pick_run items 0 items.size
      rw [List.filterMap_map] at this
      unfold pickT
      have e : (fun (k : Nat) => items[((0 : Int) + (k : Int) * 1).toNat]?) = ((fun x => items[x]?) ∘ fun x => 0 + x) := by
        funext k
        have : ((0 : Int) + (k : Int) * 1).toNat = 0 + k := by omega
        show items[((0 : Int) + (k : Int) * 1).toNat]? = items[0 + k]?
        rw [this]
      rw [e, this, List.drop_zero, List.take_of_length_le (by simp)]
    refine wpAny_bind ?_
    unfold Builtin.Tuple.tupleIsExact
    refine wpAny_bind (wpAny_typeOf ht.typeIs (wpAny_pure ?_))
    show wpAny _ _ (if (Value.type "tuple" == Value.type "tuple") = true then _ else _) _ _ s
    rw [if_pos (by decide)]
    exact wpAny_bind (wpAny_rule (wpAny_pure ⟨_, rfl, wpAny_pure (h1 hw)⟩))
  · rw [if_neg hc]
    have hz' : ((List.range b).filterMap fun (k : Nat) => items[(a + (k : Int) * st.getD 1).toNat]?) = zs := hz
    rw [hz']
    first
      | exact wpAny_bind (m := Builtin.Tuple.tupleExact _) (wpAny_newObj_type (wpAny_pure ⟨_, rfl, wpAny_pure h2⟩) hdrop)
      | exact wpAny_bind (m := Builtin.Tuple.tupleExact _) (wpAny_newObj_type (wpAny_bind (wpAny_pure (wpAny_pure ⟨_, rfl, wpAny_pure h2⟩))) hdrop)
      | exact wpAny_bind (wpAny_bind (m := Builtin.Tuple.tupleExact _) (wpAny_newObj_type (wpAny_pure (wpAny_pure ⟨_, rfl, wpAny_pure h2⟩)) hdrop))
      | exact wpAny_bind (wpAny_bind (m := Builtin.Tuple.tupleExact _) (wpAny_newObj_type (wpAny_pure ⟨_, rfl, wpAny_pure h2⟩) hdrop))
end

theorem adjust_one (lo hi : Option Int) (n : Nat) : Builtin.Slice.sliceAdjust lo hi 1 (n : Int) = (((PySem.W.kms_lo lo n : Nat) : Int), ((PySem.W.kms_hi hi n : Nat) : Int)) := by
  have h1 : ¬ ((1 : Int) < 0) := by decide
  have e1 : (Builtin.Slice.sliceAdjust lo hi 1 (n : Int)).1 = ((PySem.W.kms_lo lo n : Nat) : Int) := by
    cases lo with
    | none => rfl
    | some x =>
      simp only [Builtin.Slice.sliceAdjust, PySem.W.kms_lo, h1, if_false]
      split <;> omega
  have e2 : (Builtin.Slice.sliceAdjust lo hi 1 (n : Int)).2 = ((PySem.W.kms_hi hi n : Nat) : Int) := by
    cases hi with
    | none => rfl
    | some x =>
      simp only [Builtin.Slice.sliceAdjust, PySem.W.kms_hi, h1, if_false]
      split <;> omega
  exact Prod.ext e1 e2
theorem places_one (a b : Nat) : Builtin.Slice.slicePlaces (a : Int) (b : Int) 1 = b - a := by
  unfold Builtin.Slice.slicePlaces
  have h1 : (1 : Int) > 0 := by omega
  simp only [h1, if_true, Int.ediv_one]
  split <;> omega
theorem fm_congr {α β : Type} {f g : α → Option β} : ∀ {l : List α}, (∀ x ∈ l, f x = g x) → l.filterMap f = l.filterMap g
  | [], _ => rfl
  | a :: r, h => by
    rw [List.filterMap_cons, List.filterMap_cons, h a List.mem_cons_self, fm_congr fun x hx => h x (List.mem_cons_of_mem _ hx)]
theorem pick_one (xs : List Value) (lo hi : Option Int) :
    pickT xs.toArray (Builtin.Slice.sliceAdjust lo hi ((none : Option Int).getD 1) (xs.toArray.size : Int)).1 ((none : Option Int).getD 1) (Builtin.Slice.slicePlaces (Builtin.Slice.sliceAdjust lo hi ((none : Option Int).getD 1) (xs.toArray.size : Int)).1 (Builtin.Slice.sliceAdjust lo hi ((none : Option Int).getD 1) (xs.toArray.size : Int)).2 ((none : Option Int).getD 1)) = PySem.W.kms_pick xs lo hi := by
  show pickT xs.toArray (Builtin.Slice.sliceAdjust lo hi 1 (xs.length : Int)).1 1 (Builtin.Slice.slicePlaces (Builtin.Slice.sliceAdjust lo hi 1 (xs.length : Int)).1 (Builtin.Slice.sliceAdjust lo hi 1 (xs.length : Int)).2 1) = _
  rw [adjust_one]
  simp only
  rw [places_one]
  unfold PySem.W.kms_pick
  generalize PySem.W.kms_lo lo xs.length = a
  have := pick_run xs.toArray a (PySem.W.kms_hi hi xs.length - a)
  rw [List.filterMap_map] at this
  refine (fm_congr fun k _ => ?_).trans this
  have : ((a : Int) + (k : Int) * 1).toNat = a + k := by omega
  rw [this]; rfl
theorem pick_rev (xs : List Value) :
    pickT xs.toArray (Builtin.Slice.sliceAdjust none none ((some (-1) : Option Int).getD 1) (xs.toArray.size : Int)).1 ((some (-1) : Option Int).getD 1) (Builtin.Slice.slicePlaces (Builtin.Slice.sliceAdjust none none ((some (-1) : Option Int).getD 1) (xs.toArray.size : Int)).1 (Builtin.Slice.sliceAdjust none none ((some (-1) : Option Int).getD 1) (xs.toArray.size : Int)).2 ((some (-1) : Option Int).getD 1)) = xs.reverse := by
  have e1 : Builtin.Slice.sliceAdjust none none ((some (-1) : Option Int).getD 1) (xs.toArray.size : Int) = ((xs.length : Int) - 1, -1) := rfl
  rw [e1]
  have e2 : Builtin.Slice.slicePlaces ((xs.length : Int) - 1) (-1) ((some (-1) : Option Int).getD 1) = xs.length := by
    unfold Builtin.Slice.slicePlaces
    have h1 : ¬ ((-1 : Int) > 0) := by decide
    show (if (-1 : Int) > 0 then _ else _ : Int).toNat = _
    rw [if_neg h1]
    split
    · have : (- (-1) : Int) = 1 := by decide
      rw [show (-((some (-1) : Option Int).getD 1) : Int) = 1 from rfl, Int.ediv_one]; omega
    · omega
  simp only
  rw [e2]
  have h := PySem.W.krv_all xs.toArray
  have h2 := congrArg List.reverse h
  rw [← List.filterMap_reverse, List.size_toArray, ← PySem.W.krv_range, List.filterMap_map] at h2
  have e3 : xs.toArray.toList.reverse = xs.reverse := rfl
  rw [e3] at h2
  rw [← h2]
  unfold pickT
  refine fm_congr fun k hk => ?_
  have hk := List.mem_range.mp hk
  have : (((xs.length : Int) - 1) + (k : Int) * ((some (-1) : Option Int).getD 1)).toNat = xs.length - 1 - k := by
    show (((xs.length : Int) - 1) + (k : Int) * (-1)).toNat = _
    omega
  rw [this]; rfl

section
variable {D : Wd} {γ : List Addr} {H : Hp} {s : Shared} {A : Around} {E : Value → Shared → Prop}
theorem part_of {h : Heap} {v : Value} {W : V} {l : Option Int} (r : Rep D γ h v W) (e : optInt W = some l) : IsPart v l := by
  cases W with
  | none => simp only [Rep] at r; subst r; cases e; exact .none
  | int i => simp only [Rep] at r; obtain ⟨t, rfl⟩ := r; cases e; exact .int i t
  | _ => cases e
theorem slice_same {lo hi : Option Int} {vs : List Value} {xs : List V} {h : Heap} (r : Reps D γ h vs xs) : Reps D γ h (PySem.W.kms_pick vs lo hi) (sliceL xs lo hi) := by
  have hl := r.length
  have e1 : PySem.W.kms_lo lo vs.length = (match lo with | some k => clampI xs.length k | none => 0) := by
    rw [hl]
    cases lo with
    | none => rfl
    | some x => simp only [PySem.W.kms_lo, clampI]; split <;> split <;> omega
  have e2 : PySem.W.kms_hi hi vs.length = (match hi with | some k => clampI xs.length k | none => xs.length) := by
    rw [hl]
    cases hi with
    | none => rfl
    | some x => simp only [PySem.W.kms_hi, clampI]; split <;> split <;> omega
  unfold PySem.W.kms_pick sliceL
  rw [e1, e2]
  exact (r.drop _).take _
theorem Reps.reverse {h : Heap} {vs : List Value} {l : List V} (r : Reps D γ h vs l) : Reps D γ h vs.reverse l.reverse := by
  refine Reps.of_get (by simp [r.length]) fun k v V h1 h2 => ?_
  have hl := r.length
  have hk : k < vs.length := by have := (List.getElem?_eq_some_iff.mp h1).1; simpa using this
  rw [List.getElem?_reverse hk] at h1
  rw [List.getElem?_reverse (by omega)] at h2
  rw [hl] at h1
  obtain ⟨u, hu, ru⟩ := r.get h2
  rw [h1] at hu; cases hu; exact ru
/- a slice behind the slice object: a list or a tuple is made -/
theorem post_list {vl vu vt : Value} {zs : List Value} {l : List V} {Q : V → Hp → Prop} (R : HRel D γ H s.heap) (rs : Reps D γ s.heap zs l) (hz : l.length ≤ 2000000) (q : Q (.ref H.length) (H ++ [.list l])) :
    PostV D γ s Q (.ref (s.heap.objs.size + 1)) { s with heap := (s.heap.push { cls := .type "slice", data := .fields #[vl, vu, vt] }).push { cls := .type "list", data := .seq zs.toArray } } := by
  have e1 := Heap.get?_push_size (s.heap.push { cls := .type "slice", data := .fields #[vl, vu, vt] }) (o := { cls := .type "list", data := .seq zs.toArray }) rfl
  rw [Heap.size_push] at e1
  have hn1 : s.heap.get? (s.heap.objs.size + 1) = none := by
    cases q : s.heap.get? (s.heap.objs.size + 1) with
    | none => rfl
    | some o => exact absurd (Heap.lt_size q) (Nat.not_lt.mpr (Nat.le_succ _))
  exact PostV.addList (tk := s.toks) R rs hz (fun b o e => Heap.get?_push_of_some _ (Heap.get?_push_of_some _ e)) hn1 e1 q
theorem post_tup {vl vu vt : Value} {zs : List Value} {l : List V} {Q : V → Hp → Prop} (R : HRel D γ H s.heap) (rs : Reps D γ s.heap zs l) (hz : l.length ≤ 2000000) (q : Q (.tup l) H) :
    PostV D γ s Q (.ref (s.heap.objs.size + 1)) { s with heap := (s.heap.push { cls := .type "slice", data := .fields #[vl, vu, vt] }).push { cls := .type "tuple", data := .seq zs.toArray } } := by
  have e1 := Heap.get?_push_size (s.heap.push { cls := .type "slice", data := .fields #[vl, vu, vt] }) (o := { cls := .type "tuple", data := .seq zs.toArray }) rfl
  rw [Heap.size_push] at e1
  have hk : ∀ b o, s.heap.get? b = some o → ((s.heap.push { cls := .type "slice", data := .fields #[vl, vu, vt] }).push { cls := .type "tuple", data := .seq zs.toArray }).get? b = some o := fun b o e => Heap.get?_push_of_some _ (Heap.get?_push_of_some _ e)
  refine PostV.grown (tk := s.toks) R hk ?_ q
  simp only [Rep]
  exact ⟨_, zs, rfl, ⟨0, e1, by rw [rs.length]; exact hz⟩, Reps.mono ⟨[], by simp⟩ (fun _ _ => tupAt_grow hk) rs⟩
theorem slice_ok {value : Expr} {lo hi : Option Expr} {p : Pos} {o vl vh : Value} {Vo Vl Vh : V} {Q : V → Hp → Prop} (R : HRel D γ H s.heap) (ro : Rep D γ s.heap o Vo) (rl : Rep D γ s.heap vl Vl) (rh : Rep D γ s.heap vh Vh) (h : pSlice Vo Vl Vh H Q) :
    wpAny D.M A (subscriptTail value (.Slice lo hi none p) o (.ref s.heap.objs.size)) (PostV D γ s Q) E { s with heap := s.heap.push { cls := .type "slice", data := .fields #[vl, vh, .none] } } := by
  cases Vo with
  | ref i =>
    obtain ⟨xs, h1, h⟩ := oK_elim h
    obtain ⟨l, h2, h⟩ := oK_elim h
    obtain ⟨h', h3, q⟩ := oK_elim h
    simp only [Rep] at ro
    obtain ⟨a, hi3, rfl⟩ := ro
    obtain ⟨vs, m, e, rs, z⟩ := R.list hi3 h1
    have hL : s.heap.IsList a vs.toArray := ⟨_, e, rfl, m, rfl⟩
    have hz : (sliceL xs l h').length ≤ 2000000 := by
      have := rs.length
      unfold sliceL
      simp only [List.length_take, List.length_drop]
      omega
    refine tail_any (ops := [.ref s.heap.objs.size, .ref a]) (s := { s with heap := s.heap.push { cls := .type "slice", data := .fields #[vl, vh, .none] } }) (hL.push _).typeIs slot_list_getitem.lookup (wpAny_getItem_list_slice (hL.push _) (Heap.IsSliceOf.new ..) (part_of rl h2) (part_of rh h3) .none (by simp) ?_ (by simp [sizeLine_eq]; omega)) rfl
    rw [Heap.size_push, PySem.W.kms_pick_eq]
    exact post_list R (slice_same rs) hz q
  | tup xs =>
    obtain ⟨l, h2, h⟩ := oK_elim h
    obtain ⟨h', h3, q⟩ := oK_elim h
    simp only [Rep] at ro
    obtain ⟨a, vs, rfl, ta, rs⟩ := ro
    have hz : (sliceL xs l h').length ≤ 2000000 := by
      have := rs.length
      have := ta.size
      unfold sliceL
      simp only [List.length_take, List.length_drop]
      omega
    have sm := slice_same (lo := l) (hi := h') rs
    have tp := tupAt_grow (h' := s.heap.push { cls := .type "slice", data := .fields #[vl, vh, .none] }) (fun _ _ e => Heap.get?_push_of_some _ e) ta
    refine tail_any (ops := [.ref s.heap.objs.size, .ref a]) (s := { s with heap := s.heap.push { cls := .type "slice", data := .fields #[vl, vh, .none] } }) tp.isTup.typeIs slot_tuple_getitem.lookup (getItem_tup tp.isTup (Heap.IsSliceOf.new ..) (part_of rl h2) (part_of rh h3) .none rfl (pick_one vs l h') (by rw [sm.length, sizeLine_eq]; omega) (fun hw => ?_) ?_) rfl
    · have hw : PySem.W.kms_pick vs l h' = vs := hw
      rw [hw] at sm
      exact PostV.grown (tk := s.toks) R (fun _ _ e => Heap.get?_push_of_some _ e) (by simp only [Rep]; exact ⟨a, vs, rfl, tp, Reps.mono ⟨[], by simp⟩ (fun _ _ => tupAt_grow fun _ _ e => Heap.get?_push_of_some _ e) sm⟩) q
    · rw [Heap.size_push]
      exact post_tup R sm hz q
  | _ => exact h.elim
theorem rev_ok {value : Expr} {st : Expr} {p : Pos} {o vt : Value} {Vo : V} {Q : V → Hp → Prop} (R : HRel D γ H s.heap) (ro : Rep D γ s.heap o Vo) (rt : Rep D γ s.heap vt (.int (-1))) (h : pRev Vo H Q) :
    wpAny D.M A (subscriptTail value (.Slice none none (some st) p) o (.ref s.heap.objs.size)) (PostV D γ s Q) E { s with heap := s.heap.push { cls := .type "slice", data := .fields #[.none, .none, vt] } } := by
  have pt : IsPart vt (some (-1)) := part_of rt rfl
  cases Vo with
  | ref i =>
    obtain ⟨xs, h1, q⟩ := oK_elim h
    simp only [Rep] at ro
    obtain ⟨a, hi3, rfl⟩ := ro
    obtain ⟨vs, m, e, rs, z⟩ := R.list hi3 h1
    have hL : s.heap.IsList a vs.toArray := ⟨_, e, rfl, m, rfl⟩
    have := rs.length
    refine tail_any (ops := [.ref a, .ref s.heap.objs.size]) (s := { s with heap := s.heap.push { cls := .type "slice", data := .fields #[.none, .none, vt] } }) (hL.push _).typeIs slot_list_getitem.lookup (wpAny_getItem_list_slice (hL.push _) (Heap.IsSliceOf.new ..) .none .none pt (by decide) ?_ (by simp [sizeLine_eq]; omega)) rfl
    rw [Heap.size_push, PySem.W.krv_pick]
    exact post_list R rs.reverse (by simp; omega) q
  | tup xs =>
    simp only [Rep] at ro
    obtain ⟨a, vs, rfl, ta, rs⟩ := ro
    have := rs.length
    have := ta.size
    have sm := rs.reverse
    have tp := tupAt_grow (h' := s.heap.push { cls := .type "slice", data := .fields #[.none, .none, vt] }) (fun _ _ e => Heap.get?_push_of_some _ e) ta
    refine tail_any (ops := [.ref a, .ref s.heap.objs.size]) (s := { s with heap := s.heap.push { cls := .type "slice", data := .fields #[.none, .none, vt] } }) tp.isTup.typeIs slot_tuple_getitem.lookup (getItem_tup tp.isTup (Heap.IsSliceOf.new ..) .none .none pt rfl (pick_rev vs) (by rw [sm.length, sizeLine_eq]; simp; omega) (fun hw => ?_) ?_) rfl
    · have hw : vs.reverse = vs := hw
      rw [hw] at sm
      exact PostV.grown (tk := s.toks) R (fun _ _ e => Heap.get?_push_of_some _ e) (by simp only [Rep]; exact ⟨a, vs, rfl, tp, Reps.mono ⟨[], by simp⟩ (fun _ _ => tupAt_grow fun _ _ e => Heap.get?_push_of_some _ e) sm⟩) h
    · rw [Heap.size_push]
      exact post_tup R sm (by simp; omega) h
  | _ => exact h.elim
end
end Mine

set_option autoImplicit false
/- What is iterated over: the iterator's state, abstractly. -/
namespace Mine
open PySem PyProof.Rows

structure Itr (D : Wd) (A : Around) (I : Addr) (fp : List Addr) (l : List V) (st : Hp → Prop) (Inv : List Addr → Nat → Heap → Prop) : Prop where
  mem : I ∈ fp
  frame : ∀ γ γ' i h h', Inv γ i h → (∃ δ, γ' = γ ++ δ) → (∀ b ∈ fp, ∀ o, h.get? b = some o → h'.get? b = some o) → (∀ a ws, TupAt h a ws → TupAt h' a ws) → Inv γ' i h'
  notTup : ∀ γ i h ws, Inv γ i h → ¬ TupAt h I ws
  next : ∀ γ H (s : Shared) (i : Nat) (W : V) (Q : Option Value → Shared → Prop) (E : Value → Shared → Prop), l[i]? = some W → HRel D γ H s.heap → I ∉ γ → st H → Inv γ i s.heap →
    (∀ v h' tk, (∃ o, h'.get? I = some o) → (∀ b o, b ≠ I → s.heap.get? b = some o → h'.get? b = some o) → Inv γ (i + 1) h' → Rep D γ h' v W → Q (some v) { s with heap := h', toks := tk }) → wpAny D.M A (pyNext (.ref I)) Q E s
  done : ∀ γ H (s : Shared) (Q : Option Value → Shared → Prop) (E : Value → Shared → Prop), HRel D γ H s.heap → st H → Inv γ l.length s.heap →
    (∀ h' tk, (∀ b o, b ≠ I → s.heap.get? b = some o → h'.get? b = some o) → Q none { s with heap := h', toks := tk }) → wpAny D.M A (pyNext (.ref I)) Q E s
  self : ∀ γ i (s : Shared) (Q : Value → Shared → Prop) (E : Value → Shared → Prop), Inv γ i s.heap → Q (.ref I) s → wpAny D.M A (pyIter (.ref I)) Q E s

section
variable {D : Wd} {A : Around} {k : Nat}

theorem tupAt_but {h h' : Heap} {I : Addr} (hk : ∀ b o, b ≠ I → h.get? b = some o → h'.get? b = some o) (hn : ∀ ws, ¬ TupAt h I ws) {a : Addr} {ws : List Value} (x : TupAt h a ws) : TupAt h' a ws := by
  obtain ⟨n, e, z⟩ := id x
  exact ⟨n, hk _ _ (by rintro rfl; exact hn _ x) e, z⟩

theorem HRel.but {γ : List Addr} {H : Hp} {h h' : Heap} {I : Addr} (R : HRel D γ H h) (hk : ∀ b o, b ≠ I → h.get? b = some o → h'.get? b = some o) (hI : I ∉ γ) (hB : D.hB.get? I = none) (hn : ∀ ws, ¬ TupAt h I ws) : HRel D γ H h' where
  len := R.len
  nodup := R.nodup
  objs := fun i a o e1 e2 => by
    have := R.objs i a o e1 e2
    have ha : a ≠ I := by rintro rfl; exact hI (List.mem_of_getElem? e1)
    cases o with
    | list xs =>
      obtain ⟨vs, n, e, r, z⟩ := this
      exact ⟨vs, n, hk _ _ ha e, Reps.mono ⟨[], by simp⟩ (fun _ _ => tupAt_but hk hn) r, z⟩
  fresh := R.fresh
  base := fun b o e => hk _ _ (by rintro rfl; rw [hB] at e; cases e) (R.base b o e)

noncomputable def rangeInv (I : Addr) (a : Int) (n : Nat) (_ : List Addr) (i : Nat) (h : Heap) : Prop := IsRangeIter h I (a + (i : Int)) ((n : Int) - (i : Int)) 1

theorem itr_range (hA : AOk k A) (I : Addr) (a : Int) (n : Nat) : Itr D A I [I] ((List.range n).map fun (j : Nat) => V.int (a + (j : Int))) (fun _ => True) (rangeInv I a n) where
  mem := by simp
  frame := fun γ γ' i h h' iv _ hk _ => hk I (by simp) _ iv
  notTup := fun γ i h ws iv t => by
    obtain ⟨m, e, _⟩ := t
    have iv' : h.get? I = some _ := iv
    rw [iv'] at e; simp at e
  next := fun γ H s i W Q E hl R hI _ iv hQ => by
    have hi : i < n := by
      have := (List.getElem?_eq_some_iff.mp hl).1; simpa using this
    rw [List.getElem?_map, List.getElem?_range hi] at hl
    simp at hl
    refine wpAny_pyNext_range_item iv (by omega) fun h' hit hs => hQ _ h' _ ⟨_, hit⟩ (fun b o hb e => hs.extBut b o hb e) ?_ ?_
    · show IsRangeIter h' I (a + ((i + 1 : Nat) : Int)) ((n : Int) - ((i + 1 : Nat) : Int)) 1
      have e1 : a + ((i + 1 : Nat) : Int) = a + (i : Int) + 1 := by omega
      have e2 : (n : Int) - ((i + 1 : Nat) : Int) = (n : Int) - (i : Int) - 1 := by omega
      rw [e1, e2]; exact hit
    · subst hl; simp only [Rep]; exact ⟨_, rfl⟩
  done := fun γ H s Q E R _ iv hQ => by
    have iv' : IsRangeIter s.heap I (a + (n : Int)) ((n : Int) - (n : Int)) 1 := by
      have : ((List.range n).map fun (j : Nat) => V.int (a + (j : Int))).length = n := by simp
      rw [this] at iv; exact iv
    exact wpAny_pyNext_range_end hA.handled iv' (by omega) fun h' he => hQ h' s.toks fun b o hb e => he b o hb e
  self := fun γ i s Q E iv q => (Walks.range (prog := D.prog) (w := D.w) (A := A) hA.handled I a 1 n).self i s Q E (by
    show IsRangeIter s.heap I (a + (i : Nat) * 1) ((n : Int) - (i : Nat)) 1
    rw [Int.mul_one]; exact iv) q

noncomputable def tupInv (mg : Wd) (I t : Addr) (vs : List Value) (l : List V) (γ : List Addr) (i : Nat) (h : Heap) : Prop :=
  h.IsTupleIter I t i ∧ TupAt h t vs ∧ Reps mg γ h vs l

theorem itr_tup (hA : AOk k A) (I t : Addr) (hne : t ≠ I) (vs : List Value) (l : List V) : Itr D A I [I, t] l (fun _ => True) (tupInv D I t vs l) where
  mem := by simp
  frame := fun γ γ' i h h' iv hg hk ht => by
    obtain ⟨⟨o, e, c, d⟩, b, r⟩ := iv
    exact ⟨⟨o, hk I (by simp) o e, c, d⟩, ht _ _ b, Reps.mono hg ht r⟩
  notTup := fun γ i h ws iv x => by
    obtain ⟨⟨o, e, c, d⟩, _⟩ := iv
    obtain ⟨m, e', _⟩ := x
    rw [e] at e'; cases e'; simp at c
  next := fun γ H s i W Q E hl R hI _ iv hQ => by
    obtain ⟨it, ta, rs⟩ := iv
    have hnt : ∀ ws, ¬ TupAt s.heap I ws := fun ws x => by
      obtain ⟨o, e, c, d⟩ := it
      obtain ⟨m, e', _⟩ := x
      rw [e] at e'; cases e'; simp at c
    obtain ⟨v, hv, rv⟩ := rs.get hl
    refine wpAny_pyNext_tuple_item it ta.isTuple (x := v) (by simpa using hv) fun h' hit hs => ?_
    have hk : ∀ b o, b ≠ I → s.heap.get? b = some o → h'.get? b = some o := fun b o hb e => hs.extBut b o hb e
    have ht : ∀ a ws, TupAt s.heap a ws → TupAt h' a ws := fun _ _ => tupAt_but hk hnt
    exact hQ v h' s.toks (let ⟨o, e, _⟩ := hit; ⟨o, e⟩) hk ⟨hit, ht _ _ ta, Reps.mono ⟨[], by simp⟩ ht rs⟩ (Rep.mono ⟨[], by simp⟩ ht rv)
  done := fun γ H s Q E R _ iv hQ => by
    obtain ⟨it, ta, rs⟩ := iv
    exact wpAny_pyNext_tuple_end hA.handled it ta.isTuple (by simp [rs.length]) fun h' he => hQ h' s.toks fun b o hb e => he b o hb e
  self := fun γ i s Q E iv q => (Walks.tuple (prog := D.prog) (w := D.w) (A := A) hA.handled I t hne vs.toArray).self i s Q E ⟨iv.1, iv.2.1.isTuple⟩ q

noncomputable def lstInv (I a : Addr) (j : Nat) (γ : List Addr) (i : Nat) (h : Heap) : Prop := h.IsListIter I a i ∧ γ[j]? = some a

theorem itr_list (hA : AOk k A) (I a : Addr) (j : Nat) (l : List V) : Itr D A I [I] l (fun H => listAt H j = some l) (lstInv I a j) where
  mem := by simp
  frame := fun γ γ' i h h' iv hg hk ht => by
    obtain ⟨⟨o, e, c, d⟩, b⟩ := iv
    exact ⟨⟨o, hk I (by simp) o e, c, d⟩, getElem?_ext hg b⟩
  notTup := fun γ i h ws iv x => by
    obtain ⟨⟨o, e, c, d⟩, _⟩ := iv
    obtain ⟨m, e', _⟩ := x
    rw [e] at e'; cases e'; simp at c
  next := fun γ H s i W Q E hl R hI hst iv hQ => by
    obtain ⟨it, hj⟩ := iv
    have hnt : ∀ ws, ¬ TupAt s.heap I ws := fun ws x => by
      obtain ⟨o, e, c, d⟩ := it
      obtain ⟨m, e', _⟩ := x
      rw [e] at e'; cases e'; simp at c
    obtain ⟨vs, n, e, rs, z⟩ := R.list hj hst
    obtain ⟨v, hv, rv⟩ := rs.get hl
    refine wpAny_pyNext_list_item it (items := vs.toArray) ⟨_, e, rfl, n, rfl⟩ (x := v) (by simpa using hv) fun h' hit hs => ?_
    have hk : ∀ b o, b ≠ I → s.heap.get? b = some o → h'.get? b = some o := fun b o hb e => hs.extBut b o hb e
    have ht : ∀ a ws, TupAt s.heap a ws → TupAt h' a ws := fun _ _ => tupAt_but hk hnt
    exact hQ v h' s.toks (let ⟨o, e, _⟩ := hit; ⟨o, e⟩) hk ⟨hit, hj⟩ (Rep.mono ⟨[], by simp⟩ ht rv)
  done := fun γ H s Q E R hst iv hQ => by
    obtain ⟨it, hj⟩ := iv
    obtain ⟨vs, n, e, rs, z⟩ := R.list hj hst
    exact wpAny_pyNext_list_end hA.handled it (items := vs.toArray) ⟨_, e, rfl, n, rfl⟩ (by simp [rs.length]) fun h' he => hQ h' s.toks fun b o hb e => he b o hb e
  self := fun γ i s Q E iv q => wpAny_pyIter_listiter iv.1 q

noncomputable def revInv (I a : Addr) (j : Nat) (l : List V) (γ : List Addr) (i : Nat) (h : Heap) : Prop := h.IsRevIter I a ((l.length : Int) - 1 - (i : Int)) ∧ γ[j]? = some a

theorem itr_rev (hA : AOk k A) (I a : Addr) (j : Nat) (l : List V) : Itr D A I [I] l.reverse (fun H => listAt H j = some l) (revInv I a j l) where
  mem := by simp
  frame := fun γ γ' i h h' iv hg hk ht => by
    obtain ⟨⟨o, e, c, d⟩, b⟩ := iv
    exact ⟨⟨o, hk I (by simp) o e, c, d⟩, getElem?_ext hg b⟩
  notTup := fun γ i h ws iv x => by
    obtain ⟨⟨o, e, c, d⟩, _⟩ := iv
    obtain ⟨m, e', _⟩ := x
    rw [e] at e'; cases e'; simp at c
  next := fun γ H s i W Q E hl R hI hst iv hQ => by
    obtain ⟨it, hj⟩ := iv
    have hnt : ∀ ws, ¬ TupAt s.heap I ws := fun ws x => by
      obtain ⟨o, e, c, d⟩ := it
      obtain ⟨m, e', _⟩ := x
      rw [e] at e'; cases e'; simp at c
    obtain ⟨vs, n, e, rs, z⟩ := R.list hj hst
    have hi : i < l.length := by have := (List.getElem?_eq_some_iff.mp hl).1; simpa using this
    rw [List.getElem?_reverse hi] at hl
    obtain ⟨v, hv, rv⟩ := rs.get hl
    have e1 : (l.length : Int) - 1 - (i : Int) = ((l.length - 1 - i : Nat) : Int) := by omega
    rw [e1] at it
    refine wpAny_pyNext_rev_item it (items := vs.toArray) ⟨_, e, rfl, n, rfl⟩ (x := v) (by simpa using hv) fun h' hit hs => ?_
    have hk : ∀ b o, b ≠ I → s.heap.get? b = some o → h'.get? b = some o := fun b o hb e => hs.extBut b o hb e
    have ht : ∀ a ws, TupAt s.heap a ws → TupAt h' a ws := fun _ _ => tupAt_but hk hnt
    refine hQ v h' s.toks (let ⟨o, e, _⟩ := hit; ⟨o, e⟩) hk ⟨?_, hj⟩ (Rep.mono ⟨[], by simp⟩ ht rv)
    have e2 : (l.length : Int) - 1 - ((i + 1 : Nat) : Int) = ((l.length - 1 - i : Nat) : Int) - 1 := by omega
    rw [e2]; exact hit
  done := fun γ H s Q E R hst iv hQ => by
    obtain ⟨it, hj⟩ := iv
    have e1 : (l.length : Int) - 1 - ((l.reverse.length : Nat) : Int) = -1 := by simp; omega
    rw [e1] at it
    exact wpAny_pyNext_rev_end hA.handled it fun h' he => hQ h' s.toks fun b o hb e => he b o hb e
  self := fun γ i s Q E iv q => wpAny_pyIter_revIter iv.1 q

/- what a source hands to a loop -/
noncomputable def SrcPost (D : Wd) (A : Around) (γ : List Addr) (s : Shared) (K : List V → (Hp → Prop) → Hp → Prop) (it : Value) (s2 : Shared) : Prop :=
  ∃ γ2 H2 I fp l st Inv, it = .ref I ∧ Stp [] γ γ2 s s2 ∧ HRel D γ2 H2 s2.heap ∧ Itr D A I fp l st Inv ∧ Inv γ2 0 s2.heap ∧ (∀ b ∈ fp, b ∉ γ2 ∧ (∃ o, s2.heap.get? b = some o) ∧ (b = I ∨ ∃ ws, TupAt s2.heap b ws)) ∧ s.heap.get? I = none ∧ st H2 ∧ l.length ≤ 2000000 ∧ K l st H2

theorem val_src {γ : List Addr} {H : Hp} {s : Shared} {v : Value} {W : V} {K : List V → (Hp → Prop) → Hp → Prop} {E : Value → Shared → Prop} (hA : AOk k A) (R : HRel D γ H s.heap) (r : Rep D γ s.heap v W)
    (h : pSrc .val [W] H (fun l st => K l st H)) : wpAny D.M A (pyIter v) (SrcPost D A γ s K) E s := by
  have grow : ∀ (o : Obj) b o', s.heap.get? b = some o' → (s.heap.push o).get? b = some o' := fun o b o' e => Heap.get?_push_of_some _ e
  have nin : s.heap.objs.size ∉ γ := fun hm => by
    obtain ⟨o, e, _⟩ := R.alive hm
    exact absurd (Heap.lt_size e) (Nat.lt_irrefl _)
  cases W <;> simp only [pSrc] at h
  case tup l =>
    simp only [Rep] at r; obtain ⟨t, vs, rfl, ta, rs⟩ := r
    have hlt : t < s.heap.objs.size := by obtain ⟨n, e, _⟩ := ta; exact Heap.lt_size e
    have htg : t ∉ γ := fun hm => by
      obtain ⟨o, e, nt, _⟩ := R.alive hm
      obtain ⟨n, e', _⟩ := ta
      rw [e'] at e; cases e; exact nt rfl
    refine wpAny_pyIter_tuple ta.isTuple ?_
    refine ⟨γ, H, s.heap.objs.size, [s.heap.objs.size, t], l, fun _ => True, tupInv D s.heap.objs.size t vs l, rfl, ⟨⟨_, s.toks, rfl⟩, fun b o _ _ e => grow _ b o e, ⟨[], by simp, by simp⟩⟩, R.grow (grow _), itr_tup hA _ t (Nat.ne_of_lt hlt) vs l, ?_, ?_, none_end _, trivial, by rw [← rs.length]; exact ta.size, h⟩
    · exact ⟨⟨_, Heap.get?_push_size _ rfl, rfl, rfl⟩, tupAt_grow (grow _) ta, Reps.mono ⟨[], by simp⟩ (fun _ _ => tupAt_grow (grow _)) rs⟩
    · intro b hb
      simp at hb
      rcases hb with rfl | rfl
      · exact ⟨nin, ⟨_, Heap.get?_push_size _ rfl⟩, .inl rfl⟩
      · have ta' := tupAt_grow (grow { cls := .type "tuple_iterator", data := .fields #[.ref b, .int 0 0] }) ta
        obtain ⟨n, e, _⟩ := id ta'
        exact ⟨htg, ⟨_, e⟩, .inr ⟨vs, ta'⟩⟩
  case ref j =>
    obtain ⟨l, hl, h⟩ := oK_elim h
    simp only [Rep] at r; obtain ⟨a, hj, rfl⟩ := r
    obtain ⟨vs, n, e, rs, z⟩ := R.list hj hl
    refine wpAny_pyIter_list (items := vs.toArray) ⟨_, e, rfl, n, rfl⟩ ?_
    refine ⟨γ, H, s.heap.objs.size, [s.heap.objs.size], l, fun H' => listAt H' j = some l, lstInv s.heap.objs.size a j, rfl, ⟨⟨_, s.toks, rfl⟩, fun b o _ _ e => grow _ b o e, ⟨[], by simp, by simp⟩⟩, R.grow (grow _), itr_list hA _ a j l, ?_, ?_, none_end _, hl, by rw [← rs.length]; exact z, h⟩
    · exact ⟨⟨_, Heap.get?_push_size _ rfl, rfl, rfl⟩, hj⟩
    · intro b hb
      simp at hb; subst hb
      exact ⟨nin, ⟨_, Heap.get?_push_size _ rfl⟩, .inl rfl⟩

theorem range_src {γ : List Addr} {H : Hp} {s s0 : Shared} {r : Addr} {a b : Int} {t u v : Tok} {K : List V → (Hp → Prop) → Hp → Prop} {E : Value → Shared → Prop} {γ0 : List Addr} (hA : AOk k A) (st : Stp [] γ0 γ s0 s) (R : HRel D γ H s.heap)
    (hr : IsRange s.heap r a b 1 t u v) (ha : -(2 ^ 62) ≤ a) (ha' : a < 2 ^ 62) (hb : -(2 ^ 62) ≤ b) (hb' : b < 2 ^ 62) (hz : b - a ≤ 1000000) (h : K (rangeL a b) (fun _ => True) H) : wpAny D.M A (pyIter (.ref r)) (SrcPost D A γ0 s0 K) E s := by
  have grow : ∀ (o : Obj) b o', s.heap.get? b = some o' → (s.heap.push o).get? b = some o' := fun o b o' e => Heap.get?_push_of_some _ e
  have nin : s.heap.objs.size ∉ γ := fun hm => by
    obtain ⟨o, e, _⟩ := R.alive hm
    exact absurd (Heap.lt_size e) (Nat.lt_irrefl _)
  refine wpAny_pyIter_range hr (small_one ha ha' hb hb') ?_
  have hsz : Builtin.Range.rangeSize a b 1 = (((b - a).toNat : Nat) : Int) := by rw [rangeSize_one]; split <;> omega
  have hn0 : s0.heap.get? s.heap.objs.size = none := by
    cases q : s0.heap.get? s.heap.objs.size with
    | none => rfl
    | some o =>
      by_cases hg : s.heap.objs.size ∈ γ0
      · obtain ⟨δ, e, _⟩ := st.ext
        exact absurd (by rw [e]; exact List.mem_append_left _ hg) nin
      · exact absurd (Heap.lt_size (st.keep _ _ hg (by simp) q)) (Nat.lt_irrefl _)
  have st' : Stp [] γ γ s { s with heap := s.heap.push { cls := .type "range_iterator", data := .fields #[rawInt a, rawInt (Builtin.Range.rangeSize a b 1), rawInt 1] } } := ⟨⟨_, s.toks, rfl⟩, fun b o _ _ e => grow _ b o e, ⟨[], by simp, by simp⟩⟩
  refine ⟨γ, H, s.heap.objs.size, [s.heap.objs.size], rangeL a b, fun _ => True, rangeInv s.heap.objs.size a (b - a).toNat, rfl, st.trans0 R st', R.grow (grow _), itr_range hA _ a _, ?_, ?_, hn0, trivial, by simp [rangeL]; omega, h⟩
  · show (s.heap.push _).get? s.heap.objs.size = some _
    rw [Heap.get?_push_size _ rfl, hsz]
    simp
  · intro b hb
    simp at hb; subst hb
    exact ⟨nin, ⟨_, Heap.get?_push_size _ rfl⟩, .inl rfl⟩

theorem rev_src {γ : List Addr} {H : Hp} {s s0 : Shared} {ps : List Value} {Vs : List V} {K : List V → (Hp → Prop) → Hp → Prop} {E : Value → Shared → Prop} {γ0 : List Addr} (hA : AOk k A) (st : Stp [] γ0 γ s0 s) (R : HRel D γ H s.heap)
    (rv : Reps D γ s.heap ps Vs) (q : pSrc .rev Vs H (fun l st => K l st H)) : wpAny D.M A (call (.type "reversed") ps) (fun x s1 => wpAny D.M A (pyIter x) (SrcPost D A γ0 s0 K) E s1) E s := by
  have hV : ∃ j l, Vs = [.ref j] ∧ listAt H j = some l ∧ K l.reverse (fun H' => listAt H' j = some l) H := by
    cases Vs with
    | nil => exact q.elim
    | cons W Vs =>
      cases Vs with
      | cons W2 Vs => cases W <;> exact q.elim
      | nil =>
        cases W with
        | ref j => obtain ⟨l, hl, h⟩ := oK_elim q; exact ⟨j, l, rfl, hl, h⟩
        | _ => exact q.elim
  obtain ⟨j, l, rfl, hl, h⟩ := hV
  simp only [Reps, Rep] at rv
  obtain ⟨x, r, rfl, ⟨a, hj, rfl⟩, rfl⟩ := rv
  obtain ⟨vs, n, e, rs, z⟩ := R.list hj hl
  have grow : ∀ (o : Obj) b o', s.heap.get? b = some o' → (s.heap.push o).get? b = some o' := fun o b o' e => Heap.get?_push_of_some _ e
  have nin : s.heap.objs.size ∉ γ := fun hm => by
    obtain ⟨o, e, _⟩ := R.alive hm
    exact absurd (Heap.lt_size e) (Nat.lt_irrefl _)
  have hn0 : s0.heap.get? s.heap.objs.size = none := by
    cases q : s0.heap.get? s.heap.objs.size with
    | none => rfl
    | some o =>
      by_cases hg : s.heap.objs.size ∈ γ0
      · obtain ⟨δ, e, _⟩ := st.ext
        exact absurd (by rw [e]; exact List.mem_append_left _ hg) nin
      · exact absurd (Heap.lt_size (st.keep _ _ hg (by simp) q)) (Nat.lt_irrefl _)
  refine call_reversed_list (items := vs.toArray) ⟨_, e, rfl, n, rfl⟩ ?_
  have hit : (s.heap.push (revObj a ((vs.toArray.size : Int) - 1))).IsRevIter s.heap.objs.size a ((l.length : Int) - 1 - ((0 : Nat) : Int)) := by
    refine ⟨_, Heap.get?_push_size _ rfl, rfl, ?_⟩
    simp [revObj, rs.length]
  refine wpAny_pyIter_revIter hit ?_
  have st' : Stp [] γ γ s { s with heap := s.heap.push (revObj a ((vs.toArray.size : Int) - 1)) } := ⟨⟨_, s.toks, rfl⟩, fun b o _ _ e => grow _ b o e, ⟨[], by simp, by simp⟩⟩
  refine ⟨γ, H, s.heap.objs.size, [s.heap.objs.size], l.reverse, fun H' => listAt H' j = some l, revInv s.heap.objs.size a j l, rfl, st.trans0 R st', R.grow (grow _), itr_rev hA _ a j l, ⟨hit, hj⟩, ?_, hn0, hl, by rw [List.length_reverse, ← rs.length]; exact z, h⟩
  intro b hb
  simp at hb; subst hb
  exact ⟨nin, ⟨_, Heap.get?_push_size _ rfl⟩, .inl rfl⟩

theorem SrcPost.back {γ γ1 : List Addr} {H1 : Hp} {s s1 s2 : Shared} {K : List V → (Hp → Prop) → Hp → Prop} {it : Value} (t : Stp [] γ γ1 s s1) (R : HRel D γ1 H1 s1.heap) (h : SrcPost D A γ1 s1 K it s2) : SrcPost D A γ s K it s2 := by
  obtain ⟨γ2, H2, I, fp, l, st, Inv, e, t2, R2, it, iv, hf, hn, hs, hK⟩ := h
  refine ⟨γ2, H2, I, fp, l, st, Inv, e, t.trans0 R t2, R2, it, iv, hf, ?_, hs, hK⟩
  cases q : s.heap.get? I with
  | none => rfl
  | some o =>
    by_cases hg : I ∈ γ
    · obtain ⟨δ, e1, _⟩ := (t.trans0 R t2).ext
      exact absurd (by rw [e1]; exact List.mem_append_left _ hg) (hf I it.mem).1
    · have := t.keep _ _ hg (by simp) q
      rw [hn] at this; cases this
end

section
variable {D : Wd} {Φ : Orc} {k : Nat} {c : CC}

theorem src_val {n : Nat} {iter : Expr} {ie : IE} {env : Env} {A : Around} {γ : List Addr} {H : Hp} {s : Shared} {L : Lc} {X : XL} {K : List V → (Hp → Prop) → Hp → Prop} (ih : SE D Φ k c iter ie) (hE : EnvOk c env) (hA : AOk k A) (R : HRel D γ H s.heap)
    (lr : LRel D γ env c.slots s.heap L) (w : wpEs Φ [ie] L H (fun vs H1 => pSrc .val vs H1 (fun l st => K l st H1)) X) :
    wpAny D.M A (eval iter env) (fun x s1 => wpAny D.M A (pyIter x) (SrcPost D A γ s K) (PostX D γ s X) s1) (PostX D γ s X) s := by
  refine andThen (ih env A γ H s L _ X hE hA R lr w) ?_
  intro v s1 γ1 V H1 st R1 rv q
  exact wpAny_mono (val_src hA R1 rv q) (fun it s2 p => p.back st R1) fun _ _ x => x

theorem src_ok {n : Nat} {iter : Expr} {kk : SrcK} {ss : List IE} {env : Env} {A : Around} {γ : List Addr} {H : Hp} {s : Shared} {L : Lc} {X : XL} {K : List V → (Hp → Prop) → Hp → Prop} (g : GOk D c.G) (ih : ∀ e ie, compE n c e = some ie → SE D Φ k c e ie)
    (hc : compSrc (compE n c) c iter = some (kk, ss)) (hE : EnvOk c env) (hA : AOk k A) (R : HRel D γ H s.heap)
    (lr : LRel D γ env c.slots s.heap L) (w : wpEs Φ ss L H (fun vs H1 => pSrc kk vs H1 (fun l st => K l st H1)) X) :
    wpAny D.M A (eval iter env) (fun x s1 => wpAny D.M A (pyIter x) (SrcPost D A γ s K) (PostX D γ s X) s1) (PostX D γ s X) s := by
  unfold compSrc at hc
  split at hc
  · rename_i f fp args pos
    split at hc
    · cases hc
    · rename_i hst
      have hs : args.any isStar = false := by
        cases h : args.any isStar <;> simp_all
      split at hc
      · rename_i k' as hk hm
        cases hc
        obtain ⟨W, hW, hk⟩ := Option.bind_eq_some_iff.mp hk
        unfold srcK at hk
        split at hk
        · cases hk
          refine wpAny_Call_ofName (andThen (name_ok (Φ := Φ) (Q := fun V H' => V = .ty .range ∧ H' = H) g hE R lr (globV_lit hW) ⟨rfl, rfl⟩) ?_)
          intro vf s1 γ1 Vf H1 st R1 rf q
          obtain ⟨rfl, rfl⟩ := q
          simp only [Rep] at rf; subst rf
          rw [starEach_of hs]
          refine PyProof.Rows.callWith_type (by simp) (wpAny_mono (evalArgs_ok ih hE hA hm R1 (lr.stp R st) w) (fun b s2 hb => ?_) fun _ _ x => x.back st R1)
          obtain ⟨ps, kw⟩ := b
          obtain ⟨hkw, γ2, Vs, H2, st2, R2, rv, q⟩ := hb
          simp only at hkw rv; subst hkw
          have st02 := st.trans0 R1 st2
          have grow : ∀ (o : Obj) b o', s2.heap.get? b = some o' → (s2.heap.push o).get? b = some o' := fun o b o' e => Heap.get?_push_of_some _ e
          unfold pSrc at q
          split at q
          · cases ‹SrcK.range = SrcK.val›
          · cases ‹SrcK.range = SrcK.val›
          · rename_i b0 _
            simp only [Reps, Rep] at rv
            obtain ⟨x, r, rfl, ⟨t, rfl⟩, rfl⟩ := rv
            refine call_range_1 ?_
            refine range_src (s0 := s) (γ0 := γ) (γ := γ2) (H := H2) hA ?_ (R2.grow (grow _)) (IsRange.new _ _ _ _ _ _ _) (by omega) (by omega) (by omega) (by omega) (by omega) q.2
            exact st02.trans0 R2 ⟨⟨_, _, rfl⟩, fun b o _ _ e => grow _ b o e, ⟨[], by simp, by simp⟩⟩
          · rename_i a0 b0 _
            simp only [Reps, Rep] at rv
            obtain ⟨x, r, rfl, ⟨t, rfl⟩, y, r', rfl, ⟨t', rfl⟩, rfl⟩ := rv
            refine call_range_2 ?_
            refine range_src (s0 := s) (γ0 := γ) (γ := γ2) (H := H2) hA ?_ (R2.grow (grow _)) (IsRange.new _ _ _ _ _ _ _) (by omega) (by omega) (by omega) (by omega) (by omega) q.2
            exact st02.trans0 R2 ⟨⟨_, _, rfl⟩, fun b o _ _ e => grow _ b o e, ⟨[], by simp, by simp⟩⟩
          · cases ‹SrcK.range = SrcK.rev›
          · cases ‹SrcK.range = SrcK.zip›
          · exact q.elim
        · cases hk
          refine wpAny_Call_ofName (andThen (name_ok (Φ := Φ) (Q := fun V H' => V = .ty .reversed ∧ H' = H) g hE R lr (globV_lit hW) ⟨rfl, rfl⟩) ?_)
          intro vf s1 γ1 Vf H1 st R1 rf q
          obtain ⟨rfl, rfl⟩ := q
          simp only [Rep] at rf; subst rf
          rw [starEach_of hs]
          refine PyProof.Rows.callWith_type (by simp) (wpAny_mono (evalArgs_ok ih hE hA hm R1 (lr.stp R st) w) (fun b s2 hb => ?_) fun _ _ x => x.back st R1)
          obtain ⟨ps, kw⟩ := b
          obtain ⟨hkw, γ2, Vs, H2, st2, R2, rv, q⟩ := hb
          simp only at hkw rv; subst hkw
          exact rev_src hA (st.trans0 R1 st2) R2 rv q
        · cases hk
      · rw [Option.map_eq_some_iff] at hc
        obtain ⟨v, hv, he⟩ := hc
        cases he
        exact src_val (n := n) (ih _ _ hv) hE hA R lr w
  · rw [Option.map_eq_some_iff] at hc
    obtain ⟨v, hv, he⟩ := hc
    cases he
    exact src_val (n := n) (ih _ _ hv) hE hA R lr w
end
end Mine

set_option autoImplicit false
/- Comprehensions. -/
namespace Mine
open PySem PyProof.Rows

theorem PostX.no {D : Wd} {γ : List Addr} {s : Shared} {X : XL} {e : Value} {s' : Shared} (h : PostX D γ s X e s') : False := by
  obtain ⟨_, _, _, _, _, x, _⟩ := h; exact x

noncomputable def closGo (env : Env) : List (Str × NameKind) → List (Str × Addr) → List (Str × Addr)
  | [], acc => acc
  | (n, k) :: r, acc => if k == .free then (match env.cells.lookup n with | some a => closGo env r ((n, a) :: acc) | none => closGo env r acc) else closGo env r acc

theorem closGo_eq {env : Env} : ∀ (names : List (Str × NameKind)) (acc : List (Str × Addr)), (∀ x ∈ names, x.2 = .free → ∃ a, env.cells.lookup x.1 = some a) →
    (forIn names acc (fun (x : Str × NameKind) (cs : List (Str × Addr)) => (if x.2 == .free then (do let c ← cellOf env x.1; pure (ForInStep.yield ((x.1, c) :: cs))) else pure (ForInStep.yield cs) : Sem (ForInStep (List (Str × Addr)))))) = pure (closGo env names acc)
  | [], acc, _ => rfl
  | (n, k) :: r, acc, h => by
    have hr : ∀ x ∈ r, x.2 = .free → ∃ a, env.cells.lookup x.1 = some a := fun x hx => h x (List.mem_cons_of_mem _ hx)
    rw [List.forIn_cons, closGo]
    cases hk : (k == NameKind.free) with
    | true =>
      have hk' : k = .free := by simpa using hk
      obtain ⟨a, ha⟩ := h (n, k) List.mem_cons_self hk'
      have : cellOf env n = pure a := by unfold cellOf; simp only at ha; rw [ha]
      simp only at ha
      simp only [if_true, this, ha, pure_bind]
      exact closGo_eq r _ hr
    | false =>
      simp only [Bool.false_eq_true, if_false, pure_bind]
      exact closGo_eq r _ hr

theorem closureFor_go {env : Env} {scope : Scope} (h : ∀ x ∈ scope.names, x.2 = .free → ∃ a, env.cells.lookup x.1 = some a) : closureFor scope env = pure (closGo env scope.names []) := by
  have := closGo_eq scope.names [] h
  unfold closureFor
  have e : (forIn scope.names ([] : List (Str × Addr)) fun x r => (do if (x.2 == NameKind.free) = true then (do let c ← cellOf env x.1; pure (ForInStep.yield ((x.1, c) :: r))) else pure (ForInStep.yield r) : Sem (ForInStep (List (Str × Addr))))) = pure (closGo env scope.names []) := this
  exact (congrArg (fun m : Sem (List (Str × Addr)) => m >>= fun cs => pure cs) e)

theorem closGo_mem {env : Env} : ∀ (names : List (Str × NameKind)) (acc : List (Str × Addr)), (∀ n a, (n, a) ∈ acc → env.cells.lookup n = some a) → ∀ n a, (n, a) ∈ closGo env names acc → env.cells.lookup n = some a
  | [], acc, h, n, a, hm => h n a hm
  | (m, k) :: r, acc, h, n, a, hm => by
    rw [closGo] at hm
    split at hm
    · split at hm
      · rename_i b hb
        refine closGo_mem r _ ?_ n a hm
        intro n' a' hm'
        rcases List.mem_cons.mp hm' with q | q
        · cases q; exact hb
        · exact h n' a' q
      · exact closGo_mem r _ h n a hm
    · exact closGo_mem r _ h n a hm
theorem closGo_keep {env : Env} : ∀ (names : List (Str × NameKind)) (acc : List (Str × Addr)) n a, (n, a) ∈ acc → (n, a) ∈ closGo env names acc
  | [], _, _, _, h => h
  | (m, k) :: r, acc, n, a, h => by
    rw [closGo]
    split
    · split
      · exact closGo_keep r _ n a (List.mem_cons_of_mem _ h)
      · exact closGo_keep r _ n a h
    · exact closGo_keep r _ n a h
theorem closGo_has {env : Env} : ∀ (names : List (Str × NameKind)) (acc : List (Str × Addr)) n a, (n, NameKind.free) ∈ names → env.cells.lookup n = some a → (n, a) ∈ closGo env names acc
  | (m, k) :: r, acc, n, a, h, hl => by
    rw [closGo]
    rcases List.mem_cons.mp h with q | q
    · cases q
      simp only [beq_self_eq_true, if_true, hl]
      exact closGo_keep r _ _ _ List.mem_cons_self
    · split
      · split
        · exact closGo_has r _ n a q hl
        · exact closGo_has r _ n a q hl
      · exact closGo_has r _ n a q hl

theorem lookup_of_mem {l : List (Str × Addr)} {n : Str} {a : Addr} (h : (n, a) ∈ l) : ∃ b, l.lookup n = some b := by
  cases e : l.lookup n with
  | some b => exact ⟨b, rfl⟩
  | none =>
    have := List.lookup_eq_none_iff.mp e (n, a) h
    simp at this

theorem closGo_lookup {env : Env} {names : List (Str × NameKind)} {n : Str} (h : (n, NameKind.free) ∈ names) {a : Addr} (hl : env.cells.lookup n = some a) : (closGo env names []).lookup n = some a := by
  obtain ⟨b, hb⟩ := lookup_of_mem (closGo_has names [] n a h hl)
  have := closGo_mem names [] (by simp) n b (mem_of_lookup hb)
  rw [hl] at this; cases this; exact hb

/- a name of the relabelled block that is a cell was free, and is one outside -/
theorem relab_cell {scope outer : Scope} {y : Str} (hno : ∀ x ∈ scope.names, x.2 ≠ .cell) (h : (relab scope outer).names.lookup y = some .cell) : (y, NameKind.free) ∈ scope.names ∧ outer.names.lookup y = some .cell := by
  unfold relab at h
  simp only at h
  revert h
  generalize scope.names = l at hno
  induction l with
  | nil => intro h; simp at h
  | cons p r ih =>
    obtain ⟨n, k⟩ := p
    intro h
    simp only [List.map_cons] at h
    have ih' := ih (fun x hx => hno x (List.mem_cons_of_mem _ hx))
    by_cases hc : (k == NameKind.free && outer.kind == .function && outer.names.lookup n == some .cell) = true
    · rw [if_pos hc] at h
      rw [List.lookup_cons] at h
      cases hy : y == n with
      | true =>
        have : y = n := by simpa using hy
        subst this
        simp only [Bool.and_eq_true, beq_iff_eq] at hc
        exact ⟨by rw [hc.1.1]; exact List.mem_cons_self, hc.2⟩
      | false =>
        rw [hy] at h
        obtain ⟨a, b⟩ := ih' h
        exact ⟨List.mem_cons_of_mem _ a, b⟩
    · rw [if_neg hc] at h
      rw [List.lookup_cons] at h
      cases hy : y == n with
      | true =>
        rw [hy] at h
        simp only at h
        cases h
        exact absurd rfl (hno (n, .cell) List.mem_cons_self)
      | false =>
        rw [hy] at h
        obtain ⟨a, b⟩ := ih' h
        exact ⟨List.mem_cons_of_mem _ a, b⟩
theorem relab_local {scope outer : Scope} {y : Str} (h : (relab scope outer).names.lookup y = some .local) : (y, NameKind.local) ∈ scope.names := by
  unfold relab at h
  simp only at h
  revert h
  generalize scope.names = l
  induction l with
  | nil => intro h; simp at h
  | cons p r ih =>
    obtain ⟨n, k⟩ := p
    intro h
    simp only [List.map_cons] at h
    by_cases hc : (k == NameKind.free && outer.kind == .function && outer.names.lookup n == some .cell) = true
    · rw [if_pos hc] at h
      rw [List.lookup_cons] at h
      cases hy : y == n with
      | true => rw [hy] at h; simp at h
      | false => rw [hy] at h; exact List.mem_cons_of_mem _ (ih h)
    · rw [if_neg hc] at h
      rw [List.lookup_cons] at h
      cases hy : y == n with
      | true =>
        rw [hy] at h
        have : y = n := by simpa using hy
        subst this
        simp only at h
        cases h
        exact List.mem_cons_self
      | false => rw [hy] at h; exact List.mem_cons_of_mem _ (ih h)

section
variable {D : Wd} {Φ : Orc} {k : Nat} {c : CC}

theorem tests_ok {n : Nat} (ih : ∀ e ie, compE n c e = some ie → ST D Φ k c e ie) {env : Env} {A : Around} {X : XL} (hE : EnvOk c env) (hA : AOk k A) {L : Lc} : ∀ (ifs : List Expr) (ies : List IE) (γ : List Addr) (H : Hp) (s : Shared) (Q : Bool → Hp → Prop),
    mapO (compE n c) ifs = some ies → HRel D γ H s.heap → LRel D γ env c.slots s.heap L → wpIfs Φ ies L H Q X →
    wpAny D.M A (forIn ifs true fun e r => if r = true then do let ok ← isTrue e env (eval e env); pure (ForInStep.yield ok) else pure (ForInStep.yield r)) (PostB D γ s Q) (PostX D γ s X) s
  | [], ies, γ, H, s, Q, hm, R, _, h => by
    rw [mapO_nil hm] at h
    rw [List.forIn_nil]
    exact wpAny_pure (PostB.here R h)
  | e :: r, ies, γ, H, s, Q, hm, R, l, h => by
    obtain ⟨b, bs, rfl, h1, h2⟩ := mapO_cons hm
    rw [List.forIn_cons]
    simp only [if_true]
    refine wpAny_bind (wpAny_bind (andThenB (ih e b h1 env A γ H s L _ X hE hA R l h) ?_))
    intro v s1 γ1 H1 st R1 q
    refine wpAny_pure ?_
    cases v with
    | true => exact backB st R1 (tests_ok ih hE hA r bs γ1 H1 s1 Q h2 R1 (l.stp R st) (q))
    | false =>
      have skip : ∀ (r : List Expr), (forIn r false fun e r => if r = true then do let ok ← isTrue e env (eval e env); pure (ForInStep.yield ok) else pure (ForInStep.yield r) : Sem Bool) = pure false := by
        intro r
        induction r with
        | nil => rfl
        | cons a r ihr => rw [List.forIn_cons]; simpa using ihr
      show wpAny D.M A (forIn r false _) _ _ s1
      rw [skip]
      exact wpAny_pure ⟨γ1, H1, st, R1, q⟩
end
end Mine

set_option autoImplicit false
/- Comprehensions: the loop. -/
namespace Mine
open PySem PyProof.Rows

structure CInv (D : Wd) (γ : List Addr) (s : Shared) (Dd C : Addr) (fp : List Addr) (Inv : List Addr → Nat → Heap → Prop) (st : Hp → Prop) (i : Nat) (acc : List V) (γ' : List Addr) (H' : Hp) (s' : Shared) : Prop where
  stp : Stp [] γ γ' s s'
  rel : HRel D γ' H' s'.heap
  out : ∃ ys n, s'.heap.get? Dd = some { cls := .type "list", data := .seq ys.toArray n } ∧ Reps D γ' s'.heap ys acc
  dnin : Dd ∉ γ'
  loc : ∃ m, s'.heap.Ns C m
  cnin : C ∉ γ'
  inv : Inv γ' i s'.heap
  stb : st H'
  fps : ∀ b ∈ fp, b ∉ γ' ∧ ∃ o, s'.heap.get? b = some o

structure CFix (D : Wd) (s : Shared) (Dd C I : Addr) (fp : List Addr) : Prop where
  d0 : s.heap.get? Dd = none
  c0 : s.heap.get? C = none
  i0 : s.heap.get? I = none
  dc : Dd ≠ C
  df : Dd ∉ fp
  cf : C ∉ fp

theorem notTup_dict {h : Heap} {C : Addr} {m : Str → Option Value} (n : h.Ns C m) (ws : List Value) : ¬ TupAt h C ws := fun x => by
  obtain ⟨o, es, ep, e, d, _⟩ := n
  obtain ⟨k, e', _⟩ := x
  rw [e] at e'; cases e'; cases d
theorem notTup_list {h : Heap} {C : Addr} {vs : List Value} {n : Nat} (e : h.get? C = some { cls := .type "list", data := .seq vs.toArray n }) (ws : List Value) : ¬ TupAt h C ws := fun x => by
  obtain ⟨k, e', _⟩ := x
  rw [e] at e'; simp at e'

theorem Stp.change {γ γ' : List Addr} {s s' : Shared} {h' : Heap} {tk : Nat} {z : Addr} (t : Stp [] γ γ' s s') (hk : ∀ b o, b ≠ z → s'.heap.get? b = some o → h'.get? b = some o) (hz : s.heap.get? z = none) : Stp [] γ γ' s { s' with heap := h', toks := tk } := by
  refine ⟨?_, fun b o hb hw e => hk b o (by rintro rfl; rw [hz] at e; cases e) (t.keep b o hb hw e), t.ext⟩
  obtain ⟨h1, t1, rfl⟩ := t.same
  exact ⟨_, _, rfl⟩

section
variable {D : Wd} {Φ : Orc} {k : Nat} {c : CC}

theorem base_none {γ : List Addr} {H : Hp} {s : Shared} (R : HRel D γ H s.heap) {z : Addr} (h : s.heap.get? z = none) : D.hB.get? z = none := by
  cases e : D.hB.get? z with
  | none => rfl
  | some o => have := R.base _ _ e; rw [h] at this; cases this

theorem comp_loop {n : Nat} {elt iter : Expr} {ifs : List Expr} {x : Str} {px pos : Pos} {scope : Scope} {ielt : IE} {iifs : List IE} {c' : CC} {env cenv : Env} {A : Around} {X : XL} {L : Lc} {γ : List Addr} {H : Hp} {s : Shared} {Dd C I : Addr} {fp : List Addr}
    {l : List V} {st : Hp → Prop} {Inv : List Addr → Nat → Heap → Prop} {K : List V → Hp → Prop} {Rr : Result → Shared → Prop} {slot : Nat}
    (hE' : EnvOk c' cenv) (hA : AOk k A) (R0 : HRel D γ H s.heap) (lr : LRel D γ env c.slots s.heap L) (hloc : cenv.locals = C) (hx : cenv.kindOf x = some .local)
    (ihe : ∀ e ie, compE n c' e = some ie → Both D Φ k c' e ie) (hce : compE n c' elt = some ielt) (hci : mapO (compE n c') ifs = some iifs)
    (F : CFix D s Dd C I fp) (it : Itr D A I fp l st Inv)
    (mkL : ∀ γ' h m W v, h.Ns C m → m x = some v → Rep D γ' h v W → LRel D γ' env c.slots h L → C ∉ γ' → LRel D γ' cenv c'.slots h (L.set slot (some W)))
    (fin : ∀ γ' H' s' acc, CInv D γ s Dd C fp Inv st l.length acc γ' H' s' → K acc H' → ∀ h' tk, (∀ b o, b ≠ I → s'.heap.get? b = some o → h'.get? b = some o) → Rr (.ok .next) { s' with heap := h', toks := tk }) :
    ∀ (i : Nat) (acc : List V) (γ' : List Addr) (H' : Hp) (s' : Shared), i ≤ l.length → acc.length ≤ i → l.length ≤ 2000000 → CInv D γ s Dd C fp Inv st i acc γ' H' s' →
      compGo (fun L' H' K => wpIfs Φ iifs L' H' K X) (fun L' H' K => (wp2 Φ ielt).E L' H' K X) st [slot] L (l.drop i) acc H' K →
      codeAny D.M A (.compLoop (.ListComp elt [⟨.Name x px, iter, ifs, 0⟩] scope pos) 0 (.ref I) (.ref Dd) cenv) Rr s' := by
  intro i acc γ' H' s' hi hacc hlen ci cg
  have hkind : cenv.scope.kind = .function := by rw [hE'.scope]; exact hE'.kind
  refine codeAny_compLoop_tests (fun m s' => ∃ i acc γ' H', m = l.length - i ∧ i ≤ l.length ∧ acc.length ≤ i ∧ CInv D γ s Dd C fp Inv st i acc γ' H' s' ∧
    compGo (fun L' H' K => wpIfs Φ iifs L' H' K X) (fun L' H' K => (wp2 Φ ielt).E L' H' K X) st [slot] L (l.drop i) acc H' K) ?_ (l.length - i) ⟨i, acc, γ', H', rfl, hi, hacc, ci, cg⟩
  clear cg ci hacc hi i acc γ' H' s'
  rintro m s' ⟨i, acc, γ', H', rfl, hi, hacc, ci, cg⟩
  have hIg : I ∉ γ' := (ci.fps I it.mem).1
  have hIB := base_none R0 F.i0
  have hCB := base_none R0 F.c0
  have hDB := base_none R0 F.d0
  have hCI : C ≠ I := fun q => F.cf (q ▸ it.mem)
  have hDI : Dd ≠ I := fun q => F.df (q ▸ it.mem)
  by_cases hlt : i < l.length
  · have hW : l[i]? = some l[i] := by simp [hlt]
    have hdrop : l.drop i = l[i] :: l.drop (i + 1) := List.drop_eq_getElem_cons hlt
    rw [hdrop] at cg
    obtain ⟨L', hb, cg⟩ := oK_elim cg
    simp only [bindVars, Option.some.injEq] at hb
    subst hb
    refine it.next γ' H' s' i _ _ _ hW ci.rel hIg ci.stb ci.inv fun v h1 tk1 hI1 hk1 iv1 rv1 => ?_
    have nt1 := fun ws => it.notTup γ' i s'.heap ws ci.inv
    have R1 : HRel D γ' H' h1 := ci.rel.but hk1 hIg hIB nt1
    obtain ⟨m0, hm0⟩ := ci.loc
    have hm1 : h1.Ns C m0 := hm0.at' fun o e => hk1 _ o hCI e
    refine wpAny_assign_Name (wpAny_storeName_local hx (hloc ▸ hm1) (fun h2 hn2 hs2 => ?_) (by rw [hkind]; rfl))
    rw [hloc] at hn2 hs2
    dsimp only at hn2 hs2 ⊢
    have hk2 : ∀ b o, b ≠ C → h1.get? b = some o → h2.get? b = some o := fun b o hb e => hs2.extBut b o hb e
    have nt2 := notTup_dict hm1
    have R2 : HRel D γ' H' h2 := R1.but hk2 ci.cnin hCB nt2
    have t2 : ∀ a ws, TupAt s'.heap a ws → TupAt h2 a ws := fun a ws q => tupAt_but hk2 nt2 (tupAt_but hk1 nt1 q)
    have stp2 : Stp [] γ γ' s { s' with heap := h2, toks := tk1 + 1 } := ((ci.stp.change (tk := tk1) hk1 F.i0).change (tk := tk1 + 1) hk2 F.c0)
    have lrs : LRel D γ' env c.slots h2 L := lr.stp R0 stp2
    have rv2 : Rep D γ' h2 v l[i] := Rep.mono ⟨[], by simp⟩ (fun a ws q => tupAt_but hk2 nt2 q) rv1
    have l2 := mkL γ' h2 _ l[i] v hn2 (by simp) rv2 lrs ci.cnin
    have iv2 : Inv γ' (i + 1) h2 := it.frame γ' γ' (i + 1) h1 h2 iv1 ⟨[], by simp⟩ (fun b hb o e => hk2 b o (fun q => F.cf (q ▸ hb)) e) (fun a ws q => tupAt_but hk2 nt2 q)
    have fp2 : ∀ b ∈ fp, b ∉ γ' ∧ ∃ o, h2.get? b = some o := fun b hb => by
      refine ⟨(ci.fps b hb).1, ?_⟩
      obtain ⟨o, e⟩ := (ci.fps b hb).2
      by_cases hbI : b = I
      · subst hbI; obtain ⟨o', e'⟩ := hI1; exact ⟨o', hk2 _ _ (Ne.symm hCI) e'⟩
      · exact ⟨o, hk2 _ _ (fun q => F.cf (q ▸ hb)) (hk1 _ _ hbI e)⟩
    obtain ⟨ys, ny, hy, ry⟩ := ci.out
    have hy2 : h2.get? Dd = some { cls := .type "list", data := .seq ys.toArray ny } := hk2 _ _ F.dc (hk1 _ _ hDI hy)
    have ry2 : Reps D γ' h2 ys acc := Reps.mono ⟨[], by simp⟩ t2 ry
    have ts := tests_ok (fun e ie h => (ihe e ie h).2) hE' hA ifs iifs γ' H' { s' with heap := h2, toks := tk1 + 1 } _ hci R2 l2 cg
    refine wpAny_mono ts (fun ok s3 p => ?_) (fun _ _ x => x.no.elim)
    obtain ⟨γ3, H3, st3, R3, q3⟩ := p
    have stp3 : Stp [] γ γ3 s s3 := stp2.trans0 R2 st3
    have dn3 : Dd ∉ γ3 := notin_ext st3 ci.dnin hy2
    have hC2 : ∃ o, h2.get? C = some o := by obtain ⟨o, es, ep, e, _⟩ := hn2; exact ⟨o, e⟩
    have cn3 : C ∉ γ3 := by obtain ⟨o, e⟩ := hC2; exact notin_ext st3 ci.cnin e
    have t3 : ∀ a ws, TupAt h2 a ws → TupAt s3.heap a ws := fun a ws q => q.stp (s := { s' with heap := h2, toks := tk1 + 1 }) R2 st3 (by simp)
    have ext3 : ∃ δ, γ3 = γ' ++ δ := let ⟨δ, e, _⟩ := st3.ext; ⟨δ, e⟩
    have iv3 : Inv γ3 (i + 1) s3.heap := it.frame γ' γ3 (i + 1) h2 s3.heap iv2 ext3 (fun b hb o e => st3.keep b o (fp2 b hb).1 (by simp) e) t3
    have fp3 : ∀ b ∈ fp, b ∉ γ3 ∧ ∃ o, s3.heap.get? b = some o := fun b hb => by
      obtain ⟨a, o, e⟩ := fp2 b hb
      exact ⟨notin_ext st3 a e, o, st3.keep b o a (by simp) e⟩
    have hy3 : s3.heap.get? Dd = some { cls := .type "list", data := .seq ys.toArray ny } := st3.keep _ _ ci.dnin (by simp) hy2
    have ry3 : Reps D γ3 s3.heap ys acc := Reps.mono ext3 t3 ry2
    have hC3 : ∃ m, s3.heap.Ns C m := ⟨_, hn2.at' fun o e => st3.keep _ o ci.cnin (by simp) e⟩
    cases ok with
    | false =>
      have q3 := q3
      show ∃ m, m < l.length - i ∧ _
      exact ⟨l.length - (i + 1), by omega, i + 1, acc, γ3, H3, rfl, hlt, by omega, ⟨stp3, R3, ⟨ys, ny, hy3, ry3⟩, dn3, hC3, cn3, iv3, q3.1, fp3⟩, q3.2⟩
    | true =>
      have q3 := q3
      show wpAny D.M A (eval elt cenv) _ _ s3
      have l3 : LRel D γ3 cenv c'.slots s3.heap (L.set slot (some l[i])) := l2.stp (s := { s' with heap := h2, toks := tk1 + 1 }) R2 st3
      refine wpAny_mono ((ihe elt ielt hce).1 cenv A γ3 H3 s3 _ _ X hE' hA R3 l3 q3) (fun y s4 p => ?_) (fun _ _ x => x.no.elim)
      obtain ⟨γ4, Y, H4, st4, R4, ryv, q4⟩ := p
      have stp4 : Stp [] γ γ4 s s4 := stp3.trans0 R3 st4
      have dn4 : Dd ∉ γ4 := notin_ext st4 dn3 hy3
      have cn4 : C ∉ γ4 := by obtain ⟨m, o, es, ep, e, _⟩ := hC3; exact notin_ext st4 cn3 e
      have t4 : ∀ a ws, TupAt s3.heap a ws → TupAt s4.heap a ws := fun a ws q => q.stp R3 st4 (by simp)
      have ext4 : ∃ δ, γ4 = γ3 ++ δ := let ⟨δ, e, _⟩ := st4.ext; ⟨δ, e⟩
      have hy4 : s4.heap.get? Dd = some { cls := .type "list", data := .seq ys.toArray ny } := st4.keep _ _ dn3 (by simp) hy3
      have ry4 : Reps D γ4 s4.heap ys acc := Reps.mono ext4 t4 ry3
      have hyl := ry4.length
      refine wpAny_list_append_plain (items := ys.toArray) ⟨ny, hy4⟩ (fun h5 hp5 hs5 => ?_) (by simp [sizeLine_eq]; omega)
      have hk5 : ∀ b o, b ≠ Dd → s4.heap.get? b = some o → h5.get? b = some o := fun b o hb e => hs5.extBut b o hb e
      have nt5 := notTup_list hy4
      have t5 : ∀ a ws, TupAt s4.heap a ws → TupAt h5 a ws := fun a ws q => tupAt_but hk5 nt5 q
      obtain ⟨n5, e5⟩ := hp5
      have em : ys.toArray.push y = (ys ++ [y]).toArray := by simp
      rw [em] at e5
      refine ⟨l.length - (i + 1), by omega, i + 1, acc ++ [Y], γ4, H4, rfl, hlt, by simp; omega, ?_, q4.2⟩
      refine ⟨stp4.change (tk := s4.toks) hk5 F.d0, R4.but hk5 dn4 hDB nt5, ⟨ys ++ [y], n5, e5, Reps.mono ⟨[], by simp⟩ t5 (ry4.append (Reps.one ryv))⟩, dn4, ?_, cn4, ?_, q4.1, ?_⟩
      · obtain ⟨m, hm⟩ := hC3
        exact ⟨m, (hm.at' fun o e => st4.keep _ o cn3 (by simp) e).at' fun o e => hk5 _ o (Ne.symm F.dc) e⟩
      · exact it.frame γ3 γ4 (i + 1) s3.heap h5 iv3 ext4 (fun b hb o e => hk5 b o (fun q => F.df (q ▸ hb)) (st4.keep b o (fp3 b hb).1 (by simp) e)) (fun a ws q => t5 a ws (t4 a ws q))
      · intro b hb
        obtain ⟨a, o, e⟩ := fp3 b hb
        exact ⟨notin_ext st4 a e, o, hk5 b o (fun q => F.df (q ▸ hb)) (st4.keep b o a (by simp) e)⟩
  · have hin : i = l.length := by omega
    subst hin
    rw [List.drop_length] at cg
    exact it.done γ' H' s' _ _ ci.rel ci.stb ci.inv fun h1 tk1 hk1 => fin γ' H' s' acc ci cg h1 tk1 hk1
end
end Mine

set_option autoImplicit false
/- Comprehensions: the whole. -/
namespace Mine
open PySem PyProof.Rows

section
variable {D : Wd} {Φ : Orc} {k : Nat} {c : CC}

theorem HRel.adopt {γ : List Addr} {H : Hp} {vs : List Value} {l : List V} {h : Heap} {a : Addr} {n : Nat} (R : HRel D γ H h) (r : Reps D γ h vs l) (hz : l.length ≤ 2000000)
    (hn : a ∉ γ) (hB : D.hB.get? a = none) (ha : h.get? a = some { cls := .type "list", data := .seq vs.toArray n }) : HRel D (γ ++ [a]) (H ++ [.list l]) h where
  len := by simp [R.len]
  nodup := by
    refine List.nodup_append.mpr ⟨R.nodup, by simp, ?_⟩
    intro b hb c hc
    simp at hc; subst hc
    intro e; subst e
    exact hn hb
  objs := fun i b o e1 e2 => by
    rcases Nat.lt_trichotomy i γ.length with hi | hi | hi
    · rw [List.getElem?_append_left hi] at e1
      rw [List.getElem?_append_left (R.len ▸ hi)] at e2
      have := R.objs i b o e1 e2
      cases o with
      | list xs =>
        obtain ⟨ws, n, e, q, z⟩ := this
        exact ⟨ws, n, e, Reps.mono ⟨_, rfl⟩ (fun _ _ x => x) q, z⟩
    · subst hi
      rw [List.getElem?_append_right (Nat.le_refl _)] at e1
      rw [R.len, List.getElem?_append_right (Nat.le_refl _)] at e2
      simp at e1 e2; subst e1; subst e2
      exact ⟨vs, n, ha, Reps.mono ⟨_, rfl⟩ (fun _ _ x => x) r, by rw [r.length]; exact hz⟩
    · exfalso
      have : (γ ++ [a]).length ≤ i := by simp; omega
      rw [List.getElem?_eq_none this] at e1; cases e1
  fresh := by
    intro b hb
    rcases List.mem_append.mp hb with q | q
    · exact R.fresh b q
    · simp at q; subst q; exact hB
  base := R.base

theorem PostV.adopt {γ γ' : List Addr} {H' : Hp} {s s' : Shared} {Q : V → Hp → Prop} {vs : List Value} {l : List V} {h' : Heap} {a : Addr} {n tk : Nat} (st : Stp [] γ γ' s { s' with heap := h', toks := tk }) (R : HRel D γ' H' h') (r : Reps D γ' h' vs l) (hz : l.length ≤ 2000000)
    (hn : a ∉ γ') (h0 : s.heap.get? a = none) (hB : D.hB.get? a = none) (ha : h'.get? a = some { cls := .type "list", data := .seq vs.toArray n }) (h : Q (.ref H'.length) (H' ++ [.list l])) :
    PostV D γ s Q (.ref a) { s' with heap := h', toks := tk } := by
  refine ⟨γ' ++ [a], .ref H'.length, H' ++ [.list l], ⟨st.same, st.keep, ?_⟩, R.adopt r hz hn hB ha, ?_, h⟩
  · obtain ⟨δ, e, f⟩ := st.ext
    refine ⟨δ ++ [a], by rw [e]; simp, fun b hb => ?_⟩
    rcases List.mem_append.mp hb with q | q
    · exact f b q
    · simp at q; subst q; exact h0
  · simp only [Rep]; exact ⟨_, by rw [List.getElem?_append_right (by rw [R.len]; exact Nat.le_refl _)]; simp [R.len], rfl⟩

structure CompOk (c : CC) (scope : Scope) (x : Str) : Prop where
  kind : scope.kind = .function
  nocell : ∀ y ∈ scope.names, y.2 ≠ .cell
  locs : ∀ y ∈ scope.names, y.2 = .local → scope.names.lookup y.1 = some .local
  frees : ∀ y ∈ scope.names, y.2 = .free → c.scope.names.lookup y.1 = some .cell
  var : scope.names.lookup x = some .local
  own : ∀ y, (y, NameKind.local) ∈ scope.names → y = x ∨ c.slots.lookup y = none
  low : ∀ y i, c.slots.lookup y = some i → i < c.nxt

noncomputable abbrev inner (c : CC) (scope : Scope) (x : Str) : CC := innerC c scope x

theorem relabel_eq {scope : Scope} {env : Env} (he : EnvOk c env) : relabel scope env = relab scope c.scope := by
  rw [← he.scope]; rfl

theorem env_inner {scope : Scope} {x : Str} {env : Env} (he : EnvOk c env) (ok : CompOk c scope x) (cl : List (Str × Addr)) (C : Addr) : EnvOk (inner c scope x) (compEnvC scope cl C env) :=
  ⟨relabel_eq he, ok.kind, he.globals, he.builtins⟩

theorem lrel_inner {scope : Scope} {x : Str} {env : Env} {L : Lc} {C : Addr} (he : EnvOk c env) (ok : CompOk c scope x) :
    ∀ γ' h m W v, h.Ns C m → m x = some v → Rep D γ' h v W → LRel D γ' env c.slots h L → C ∉ γ' → LRel D γ' (compEnvC scope (closGo env scope.names []) C env) (inner c scope x).slots h (L.set c.nxt (some W)) := by
  intro γ' h m W v hn hm rv lr hC
  have hrl : ∀ y, (compEnvC scope (closGo env scope.names []) C env).kindOf y = (relab scope c.scope).names.lookup y := fun y => by
    show (relabel scope env).names.lookup y = _
    rw [relabel_eq he]
  refine ⟨⟨m, hn, ?_⟩, ?_, hC⟩
  · intro y i V hy hs hL
    rw [hrl] at hy
    have hm' := relab_local hy
    have hs' : ((x, c.nxt) :: c.slots).lookup y = some i := hs
    rw [List.lookup_cons] at hs'
    cases hxy : y == x with
    | true =>
      rw [hxy] at hs'
      have : y = x := by simpa using hxy
      subst this
      cases hs'
      rw [List.getElem?_set] at hL
      simp only [if_true] at hL
      split at hL
      · cases hL; exact ⟨v, hm, rv⟩
      · cases hL
    | false =>
      rw [hxy] at hs'
      rcases ok.own y hm' with q | q
      · subst q; simp at hxy
      · rw [q] at hs'; cases hs'
  · intro y hy
    rw [hrl] at hy
    obtain ⟨hf, ho⟩ := relab_cell ok.nocell hy
    have hk : env.kindOf y = some .cell := by unfold Env.kindOf; rw [he.scope]; exact ho
    obtain ⟨ca, u, e1, e2, e3, e4⟩ := lr.cel y hk
    refine ⟨ca, u, closGo_lookup hf e1, e2, e3, fun i V hs hL => ?_⟩
    have hs' : ((x, c.nxt) :: c.slots).lookup y = some i := hs
    rw [List.lookup_cons] at hs'
    cases hxy : y == x with
    | true =>
      exfalso
      have : y = x := by simpa using hxy
      subst this
      have := lookup_relabel_local (env := env) ok.var
      have h2 : (relabel scope env).names.lookup y = some .local := this
      rw [relabel_eq he] at h2
      rw [h2] at hy; cases hy
    | false =>
      rw [hxy] at hs'
      have hlt := ok.low y i hs'
      rw [List.getElem?_set_ne (by omega)] at hL
      exact e4 i V hs' hL

theorem comp_run {n : Nat} {elt iter : Expr} {ifs : List Expr} {x : Str} {px pos cp : Pos} {scope : Scope} {ielt : IE} {iifs : List IE} {kk : SrcK} {ss : List IE} {env : Env} {A : Around} {X : XL} {L : Lc} {γ : List Addr} {H : Hp} {s : Shared}
    {Kf : List V → Hp → Prop} {use : Option (Value → Sem Unit)} {Qf : Value → Shared → Prop} (g : GOk D c.G) (ih : ∀ c e ie, GOk D c.G → compE n c e = some ie → Both D Φ k c e ie) (ok : CompOk c scope x)
    (hsrc : compSrc (compE n c) c iter = some (kk, ss)) (hce : compE n (inner c scope x) elt = some ielt) (hci : mapO (compE n (inner c scope x)) ifs = some iifs) (hE : EnvOk c env) (hA : AOk k A) (R : HRel D γ H s.heap)
    (lr : LRel D γ env c.slots s.heap L) (hset : ∀ x, foldedSetIterable iter env x = pure x)
    (w : wpEs Φ ss L H (fun vs H1 => pSrc kk vs H1 fun items st => compGo (fun L' H' K => wpIfs Φ iifs L' H' K X) (fun L' H' K => (wp2 Φ ielt).E L' H' K X) st [c.nxt] L items [] H1 Kf) X)
    (fin : ∀ γ' H' s' Dd C acc, Stp [] γ γ' s s' → HRel D γ' H' s'.heap → (∃ ys n, s'.heap.get? Dd = some { cls := .type "list", data := .seq ys.toArray n } ∧ Reps D γ' s'.heap ys acc) → Dd ∉ γ' → s.heap.get? Dd = none → (∃ m, s'.heap.Ns C m) → C ∉ γ' → s.heap.get? C = none → Dd ≠ C → Kf acc H' →
      compPost D.M A (PostX D γ s X) use Qf (.ref Dd) C (.ok .next) s') :
    wpAny D.M A (comprehension (.ListComp elt [⟨.Name x px, iter, ifs, 0⟩] scope pos) scope env cp (newList []) false (eval iter env) use) Qf (PostX D γ s X) s := by
  have hclos : closureFor scope env = pure (closGo env scope.names []) := closureFor_go fun y hy hf => by
    have hk : env.kindOf y.1 = some .cell := by unfold Env.kindOf; rw [hE.scope]; exact ok.frees y hy hf
    obtain ⟨ca, u, e1, _⟩ := lr.cel y.1 hk
    exact ⟨ca, e1⟩
  refine wpAny_comprehension_free (use := use) rfl hset hclos ok.kind ok.locs (wpAny_mono (src_ok (K := fun l st H1 => compGo (fun L' H' K => wpIfs Φ iifs L' H' K X) (fun L' H' K => (wp2 Φ ielt).E L' H' K X) st [c.nxt] L l [] H1 Kf) g (fun e ie h => (ih c e ie g h).1) hsrc hE hA R lr w)
    (fun xv s1 h1 => wpAny_mono h1 (fun it s2 h2 => ?_) fun _ _ e => e) fun _ _ e => e)
  obtain ⟨γ2, H2, I, fp, l, st, Inv, rfl, stp2, R2, itr, iv, fps, hI0, hst, hlen, cg⟩ := h2
  refine wpAny_newObj_type (hd := by size_fits) (wpAny_newFunctionEnv ok.nocell (by intro y hy; simp at hy) (fun h₁ hns₁ hsb₁ => ?_) ok.kind)
  dsimp only at hns₁ hsb₁ ⊢
  generalize hH2 : s2.heap.push { cls := .type "list", dict := none, data := .seq ([] : List Value).toArray } = G2 at hns₁ hsb₁ ⊢
  have hC : G2.objs.size = s2.heap.objs.size + 1 := by rw [← hH2, Heap.size_push]
  have hDC : s2.heap.objs.size ≠ G2.objs.size := by rw [hC]; exact Nat.ne_of_lt (Nat.lt_succ_self _)
  have fresh : ∀ a, s2.heap.objs.size ≤ a → s2.heap.get? a = none := fun a ha => by
    cases e : s2.heap.get? a with
    | none => rfl
    | some o' => exact absurd (Heap.lt_size e) (Nat.not_lt.mpr ha)
  have fresh0 : ∀ a, s2.heap.objs.size ≤ a → s.heap.get? a = none := fun a ha => by
    cases e : s.heap.get? a with
    | none => rfl
    | some o' =>
      by_cases hg : a ∈ γ
      · obtain ⟨δ, e1, _⟩ := stp2.ext
        obtain ⟨o2, e2, _⟩ := R2.alive (a := a) (by rw [e1]; exact List.mem_append_left _ hg)
        rw [fresh a ha] at e2; cases e2
      · have := stp2.keep _ _ hg (by simp) e
        rw [fresh a ha] at this; cases this
  have nin2 : ∀ a, s2.heap.objs.size ≤ a → a ∉ γ2 := fun a ha hm => by
    obtain ⟨o2, e2, _⟩ := R2.alive hm
    rw [fresh a ha] at e2; cases e2
  have below : ∀ b o, s2.heap.get? b = some o → b ≠ G2.objs.size ∧ b ≠ s2.heap.objs.size := fun b o hb => ⟨Nat.ne_of_lt (Nat.lt_trans (Heap.lt_size hb) (by rw [hC]; exact Nat.lt_succ_self _)), Nat.ne_of_lt (Heap.lt_size hb)⟩
  have old : ∀ b o, s2.heap.get? b = some o → h₁.get? b = some o := fun b o e => hsb₁.extBut b o (below b o e).1 (Heap.get?_push_of_some _ (hH2 ▸ Heap.get?_push_of_some _ e))
  have hacc : h₁.get? s2.heap.objs.size = some { cls := .type "list", data := .seq ([] : List Value).toArray } := hsb₁.extBut _ _ hDC (Heap.get?_push_of_some _ (hH2 ▸ Heap.get?_push_size _ rfl))
  have F : CFix D s s2.heap.objs.size G2.objs.size I fp := by
    refine ⟨fresh0 _ (Nat.le_refl _), fresh0 _ (by rw [hC]; exact Nat.le_succ _), hI0, hDC, fun hm => ?_, fun hm => ?_⟩
    · obtain ⟨_, ⟨o, e⟩, _⟩ := fps _ hm; exact absurd (Heap.lt_size e) (Nat.lt_irrefl _)
    · obtain ⟨_, ⟨o, e⟩, _⟩ := fps _ hm; exact absurd (Heap.lt_size e) (by rw [hC]; exact Nat.not_lt.mpr (Nat.le_succ _))
  have loop : ∀ s3 : Shared, s3 = { s2 with heap := h₁, toks := s2.toks + ([] : List (Str × Value)).length } →
      codeAny D.M A (.compLoop (.ListComp elt [⟨.Name x px, iter, ifs, 0⟩] scope pos) 0 (.ref I) (.ref s2.heap.objs.size) (compEnvC scope (closGo env scope.names []) G2.objs.size env))
        (compPost D.M A (PostX D γ s X) use Qf (.ref s2.heap.objs.size) G2.objs.size) s3 := by
    rintro s3 rfl
    have st3 : Stp [] γ2 γ2 s2 { s2 with heap := h₁, toks := s2.toks + ([] : List (Str × Value)).length } := stp_grow old
    refine comp_loop (env := env) (c := c) (c' := inner c scope x) (st := st) (Inv := Inv) (l := l) (K := Kf) (fp := fp) (L := L) (slot := c.nxt) (X := X) (γ := γ) (H := H) (s := s) (C := G2.objs.size)
      (env_inner hE ok _ _) hA R lr rfl ?_ (fun e ie h => ih (inner c scope x) e ie g h) hce hci F itr (lrel_inner hE ok) ?_ 0 [] γ2 H2 _ (Nat.zero_le _) (by simp) hlen ?_ cg
    · exact lookup_relabel_local ok.var
    · intro γ' H' s' acc ci hK h' tk hk
      obtain ⟨ys, ny, hy, ry⟩ := ci.out
      have hIg : I ∉ γ' := (ci.fps I itr.mem).1
      have nt := fun ws => itr.notTup γ' l.length s'.heap ws ci.inv
      refine fin γ' H' _ _ _ acc (ci.stp.change (tk := tk) hk F.i0) (ci.rel.but hk hIg (base_none R F.i0) nt) ⟨ys, ny, hk _ _ (fun q => F.df (q ▸ itr.mem)) hy, Reps.mono ⟨[], by simp⟩ (fun _ _ q => tupAt_but hk nt q) ry⟩ ci.dnin F.d0 ?_ ci.cnin F.c0 hDC hK
      obtain ⟨m, hm⟩ := ci.loc
      exact ⟨m, hm.at' fun o e => hk _ o (fun q => F.cf (q ▸ itr.mem)) e⟩
    · refine ⟨stp2.trans0 R2 st3, R2.grow old, ⟨[], 0, hacc, by simp only [Reps]⟩, nin2 _ (Nat.le_refl _), ⟨_, hns₁⟩, nin2 _ (by rw [hC]; exact Nat.le_succ _), ?_, hst, ?_⟩
      · exact itr.frame γ2 γ2 0 s2.heap h₁ iv ⟨[], by simp⟩ (fun b hb o e => old b o e) (fun _ _ q => tupAt_grow old q)
      · intro b hb
        obtain ⟨a, ⟨o, e⟩, _⟩ := fps b hb
        exact ⟨a, o, old b o e⟩
  have iv1 : Inv γ2 0 h₁ := itr.frame γ2 γ2 0 s2.heap h₁ iv ⟨[], by simp⟩ (fun b hb o e => old b o e) (fun _ _ q => tupAt_grow old q)
  exact codeAny_compStart_list (loop _ rfl) (itr.self γ2 0 _ _ _ iv1 (loop _ rfl))

theorem e_comp {n : Nat} {elt iter : Expr} {ifs : List Expr} {x : Str} {px pos : Pos} {scope : Scope} {ielt : IE} {iifs : List IE} {kk : SrcK} {ss : List IE} (g : GOk D c.G) (ih : ∀ c e ie, GOk D c.G → compE n c e = some ie → Both D Φ k c e ie) (ok : CompOk c scope x)
    (hsrc : compSrc (compE n c) c iter = some (kk, ss)) (hce : compE n (inner c scope x) elt = some ielt) (hci : mapO (compE n (inner c scope x)) ifs = some iifs) (hset : ∀ env x, foldedSetIterable iter env x = pure x) :
    Both D Φ k c (.ListComp elt [⟨.Name x px, iter, ifs, 0⟩] scope pos) (.comp ielt [c.nxt] kk ss iifs) := by
  refine both_plain (fun env A γ H s L Q X hE hA R lr w => ?_) rfl (fun _ _ => rfl)
  rw [eval_ListComp]
  refine comp_run (use := none) (cp := _) g ih ok hsrc hce hci hE hA R lr (hset env) w ?_
  intro γ' H' s' Dd C acc stp R' ho dn d0 hc cn c0 hdc hK
  obtain ⟨m, hm⟩ := hc
  refine ⟨m, hm, fun h' hs => ?_⟩
  have hk : ∀ b o, b ≠ C → s'.heap.get? b = some o → h'.get? b = some o := fun b o hb e => hs.extBut b o hb e
  have nt := notTup_dict hm
  obtain ⟨ys, ny, hy, ry⟩ := ho
  have R'' : HRel D γ' H' h' := R'.but hk cn (base_none R c0) nt
  have hy' := hk _ _ hdc hy
  have ry' : Reps D γ' h' ys acc := Reps.mono ⟨[], by simp⟩ (fun _ _ q => tupAt_but hk nt q) ry
  exact PostV.adopt (h' := h') (tk := s'.toks) (stp.change hk c0) R'' ry' (by have := hK.1; omega) dn d0 (base_none R d0) hy' hK.2
end
end Mine

set_option autoImplicit false
/- zip over two tuples. -/
namespace Mine
open PySem

section
variable {prog : Program} {w : World} {A : Around} {E : Value → Shared → Prop} {s : Shared}

theorem draw_tup {it t : Addr} {i : Nat} {items : Array Value} {x : Value} {Q : Value → Shared → Prop} (hit : s.heap.IsTupleIter it t i) (ht : s.heap.IsTuple t items) (hx : items[i]? = some x)
    (hQ : ∀ h', h'.IsTupleIter it t (i + 1) → Heap.SameBut it s.heap h' → Q x { s with heap := h' }) : wpAny (model prog w) A (Builtin.SmallTypes.nextOf (.ref it)) Q E s := by
  obtain ⟨o, ho, hc, hd⟩ := id hit
  obtain ⟨ol, hol, _, nl, hdl⟩ := ht
  unfold Builtin.SmallTypes.nextOf
  refine wpAny_bind (wpAny_callSpecial?_slot (name := Str.ofString "__next__") hit.typeIs F.slot_tuple_iterator_next (wpAny_call_entry F.slot_tuple_iterator_next hit.typeIs F.entry_tuple_iterator_next ?_ (F.args_tuple_iterator_next_1 _)))
  refine wpAny_bind (m := field (.ref it) 0) (wpAny_field ho hd (x := .ref t) rfl ?_)
  rw [if_neg (show ¬ ((Value.ref t == Value.none) = true) from Bool.false_ne_true)]
  refine wpAny_bind (m := field (.ref it) 1) (wpAny_field ho hd (x := .int i 0) rfl ?_)
  refine wpAny_bind (m := seqItems? (.ref t)) (wpAny_seqItems hol hdl ?_)
  simp only [Int.toNat_natCast, hx]
  refine wpAny_bind (wpAny_setField ho hd (by simp) (wpAny_pure ⟨x, rfl, wpAny_pure (hQ _ ?_ (Heap.SameBut.update ..))⟩))
  exact ⟨_, Heap.get?_update_self _ ho (Obj.isFreed_of_fields (Obj.data_mapFields hd _)), (Obj.cls_mapFields ..).trans hc, by rw [Obj.data_mapFields hd]; simp [rawInt]⟩

theorem draw_tup_end {it t : Addr} {i : Nat} {items : Array Value} {Q : Value → Shared → Prop} (hh : A.handled = none) (hit : s.heap.IsTupleIter it t i) (ht : s.heap.IsTuple t items) (hx : items[i]? = none)
    (hE : ∀ h' e, Heap.ExtBut it s.heap h' → (∃ o, h'.get? e = some o ∧ o.cls = .type "StopIteration") → E (.ref e) { s with heap := h' }) : wpAny (model prog w) A (Builtin.SmallTypes.nextOf (.ref it)) Q E s := by
  obtain ⟨o, ho, hc, hd⟩ := id hit
  obtain ⟨ol, hol, _, nl, hdl⟩ := ht
  unfold Builtin.SmallTypes.nextOf
  refine wpAny_bind (wpAny_callSpecial?_slot (name := Str.ofString "__next__") hit.typeIs F.slot_tuple_iterator_next (wpAny_call_entry F.slot_tuple_iterator_next hit.typeIs F.entry_tuple_iterator_next ?_ (F.args_tuple_iterator_next_1 _)))
  refine wpAny_bind (m := field (.ref it) 0) (wpAny_field ho hd (x := .ref t) rfl ?_)
  rw [if_neg (show ¬ ((Value.ref t == Value.none) = true) from Bool.false_ne_true)]
  refine wpAny_bind (m := field (.ref it) 1) (wpAny_field ho hd (x := .int i 0) rfl ?_)
  refine wpAny_bind (m := seqItems? (.ref t)) (wpAny_seqItems hol hdl ?_)
  simp only [Int.toNat_natCast, hx]
  refine wpAny_bind (wpAny_rule (wpAny_bind (wpAny_setField ho hd (by simp) ?_)))
  refine wpAny_bind (m := newExc (.type "StopIteration") []) ?_
  simp only [newExc, newTuple]
  refine wpAny_bind (wpAny_newObj_type ?_ (by size_fits))
  refine wpAny_bind (m := firstArgMember _ _) (wpAny_of_eq (a := Value.none) (by first | rfl | (simp only [firstArgMember]; rfl)) ?_)
  refine wpAny_newObj_type ?_ (by size_fits)
  simp only [raiseNew]
  refine wpAny_bind (wpAny_handled ?_)
  first | rw [show A.in1.handled = none from hh] | rw [hh]
  refine wpAny_bind (wpAny_pure (wpAny_throw ?_))
  exact hE _ _ (((Heap.SameBut.update ..).extBut.push _).push _) ⟨_, Heap.get?_push_size _ rfl, rfl⟩
end

/- the state of a zip of two tuples: its own five objects, all new -/
structure ZipT (h : Heap) (B : Nat) (t1 t2 : Nat) (f0 : Value) (k1 k2 : Nat) (xs ys : Array Value) : Prop where
  z : IsZip h (B + 4) (B + 2) (B + 3) f0
  ti : IsPair h (B + 2) (.ref B) (.ref (B + 1))
  to : ∃ a b, IsPair h (B + 3) a b
  i1 : h.IsTupleIter B t1 k1
  i2 : h.IsTupleIter (B + 1) t2 k2
  l1 : h.IsTuple t1 xs
  l2 : h.IsTuple t2 ys
  lt1 : t1 < B
  lt2 : t2 < B

theorem ad {a b : Nat} (h : a ≠ b) : @Ne Addr a b := h

section
variable {prog : Program} {w : World} {A : Around} {E : Value → Shared → Prop} {s : Shared}

theorem zipT_next {B : Nat} {t1 t2 : Nat} {k : Nat} {xs ys : Array Value} {x y : Value} {Q : Value → Shared → Prop} (Z : ZipT s.heap B t1 t2 .none k k xs ys) (hx : xs[k]? = some x) (hy : ys[k]? = some y)
    (hQ : ∀ (h' : Heap) (T : Nat), ZipT h' B t1 t2 (rawInt T) (k + 1) (k + 1) xs ys → IsPair h' T x y → B + 5 ≤ T → (∀ (c : Nat) o, (c < B ∨ B + 5 ≤ c) → s.heap.get? c = some o → h'.get? c = some o) → Q (.ref T) { s with heap := h' }) :
    wpAny (model prog w) A (Builtin.«zip.__next__» ⟨[.ref (B + 4 : Nat)], []⟩) (fun fin s' => ∃ v, fin = .done (.ret v) ∧ Q v s') E s := by
  obtain ⟨hz, hTI, ⟨a, b, hTO⟩, h1, h2, hl1, hl2, lt1, lt2⟩ := Z
  have n1 : @Ne Addr t1 (B + 4 : Nat) ∧ @Ne Addr t1 (B + 3 : Nat) ∧ @Ne Addr t1 B ∧ @Ne Addr t1 (B + 1 : Nat) := ⟨ad (by omega), ad (by omega), ad (by omega), ad (by omega)⟩
  have n2 : @Ne Addr t2 (B + 4 : Nat) ∧ @Ne Addr t2 (B + 3 : Nat) ∧ @Ne Addr t2 B ∧ @Ne Addr t2 (B + 1 : Nat) := ⟨ad (by omega), ad (by omega), ad (by omega), ad (by omega)⟩
  refine wpAny_bind (m := field (.ref (B + 4 : Nat)) 2) (wpAny_field hz rfl (x := .bool false) rfl ?_)
  refine wpAny_bind (m := field (.ref (B + 4 : Nat)) 3) (wpAny_field hz rfl (x := .ref (B + 2 : Nat)) rfl ?_)
  refine wpAny_bind (wpAny_seqItems hTI rfl ?_)
  refine wpAny_bind (m := Builtin.SmallTypes.ownedTupleIsFree (.ref (B + 4 : Nat))) ?_
  unfold Builtin.SmallTypes.ownedTupleIsFree
  refine wpAny_bind (wpAny_field hz rfl (x := .none) rfl (wpAny_pure ?_))
  simp only [if_true]
  refine wpAny_bind (wpAny_rule ?_)
  refine wpAny_bind (wpAny_field hz rfl (x := .ref (B + 3 : Nat)) rfl ?_)
  refine wpAny_bind (wpAny_setField_rec hz (by simp) fun g1 hz1 s1 => ?_)
  replace hz1 : IsZip g1 (B + 4) (B + 2) (B + 3) .ellipsis := hz1
  refine wpAny_bind ?_
  simp only [List.zipIdx_cons, List.zipIdx_nil, List.forIn_cons, List.forIn_nil]
  refine wpAny_bind (wpAny_bind (wpAny_onRaise ?_))
  refine wpAny_bind (m := Builtin.SmallTypes.nextOf (.ref B)) (draw_tup (h1.extBut s1.extBut (ad (by omega))) (hl1.extBut s1.extBut n1.1) hx fun g2 h12 s2 => wpAny_pure ?_)
  have hTO2 : IsPair g2 (B + 3) a b := s2.extBut _ _ (ad (by omega)) (s1.extBut _ _ (ad (by omega)) hTO)
  refine wpAny_bind (wpAny_seqItems hTO2 rfl ?_)
  refine wpAny_bind (wpAny_updateSeq_pair hTO2 fun g3 hTO3 s3 => ?_)
  replace hTO3 : IsPair g3 (B + 3) x b := hTO3
  refine wpAny_bind (wpAny_letGo (wpAny_pure ?_))
  refine wpAny_bind (wpAny_bind (wpAny_onRaise ?_))
  refine wpAny_bind (m := Builtin.SmallTypes.nextOf (.ref (B + 1 : Nat))) (draw_tup (((h2.extBut s1.extBut (ad (by omega))).extBut s2.extBut (ad (by omega))).extBut s3.extBut (ad (by omega)))
    (((hl2.extBut s1.extBut n2.1).extBut s2.extBut n2.2.2.1).extBut s3.extBut n2.2.1) hy fun g4 h24 s4 => wpAny_pure ?_)
  have hTO4 : IsPair g4 (B + 3) x b := s4.extBut _ _ (ad (by omega)) hTO3
  refine wpAny_bind (wpAny_seqItems hTO4 rfl ?_)
  refine wpAny_bind (wpAny_updateSeq_pair hTO4 fun g5 hTO5 s5 => ?_)
  replace hTO5 : IsPair g5 (B + 3) x y := hTO5
  refine wpAny_bind (wpAny_letGo (wpAny_pure (wpAny_pure ?_)))
  refine wpAny_bind (wpAny_seqItems hTO5 rfl ?_)
  refine wpAny_bind (wpAny_newTuple ?_)
  have hz5 : IsZip g5 (B + 4) (B + 2) (B + 3) .ellipsis := s5.extBut _ _ (ad (by omega)) (s4.extBut _ _ (ad (by omega)) (s3.extBut _ _ (ad (by omega)) (s2.extBut _ _ (ad (by omega)) hz1)))
  have k5 : ∀ (c : Nat) o, @Ne Addr c (B + 4 : Nat) → @Ne Addr c (B + 3 : Nat) → @Ne Addr c B → @Ne Addr c (B + 1 : Nat) → s.heap.get? c = some o → g5.get? c = some o := fun c o c1 c2 c3 c4 e =>
    s5.extBut _ _ c2 (s4.extBut _ _ c4 (s3.extBut _ _ c2 (s2.extBut _ _ c3 (s1.extBut _ _ c1 e))))
  have hzlt : B + 4 < g5.objs.size := Heap.lt_size hz5
  have hle : B + 5 ≤ g5.objs.size := hzlt
  refine wpAny_bind (m := Builtin.SmallTypes.ownedTupleHandOut (.ref (B + 4 : Nat)) (.ref g5.objs.size)) ?_
  unfold Builtin.SmallTypes.ownedTupleHandOut
  have hz6 : IsZip (g5.push { cls := .type "tuple", data := .seq #[x, y] }) (B + 4) (B + 2) (B + 3) .ellipsis := Heap.get?_push_of_some _ hz5
  refine wpAny_bind (wpAny_setField_rec hz6 (by simp) fun g7 hz7 s7 => ?_)
  replace hz7 : IsZip g7 (B + 4) (B + 2) (B + 3) (rawInt g5.objs.size) := hz7
  refine wpAny_setField_rec hz7 (by simp) fun g8 hz8 s8 => ?_
  replace hz8 : IsZip g8 (B + 4) (B + 2) (B + 3) (rawInt g5.objs.size) := hz8
  have up : ∀ (c : Nat) o, @Ne Addr c (B + 4 : Nat) → g5.get? c = some o → g8.get? c = some o := fun c o c1 e => s8.extBut _ _ c1 (s7.extBut _ _ c1 (Heap.get?_push_of_some _ e))
  have hT8 : IsPair g8 g5.objs.size x y := s8.extBut _ _ (ad (by omega)) (s7.extBut _ _ (ad (by omega)) (Heap.get?_push_size _ rfl))
  refine wpAny_pure ⟨_, rfl, hQ g8 g5.objs.size ⟨hz8, up _ _ (ad (by omega)) (k5 _ _ (ad (by omega)) (ad (by omega)) (ad (by omega)) (ad (by omega)) hTI), ⟨x, y, up _ _ (ad (by omega)) hTO5⟩, ?_, ?_, ?_, ?_, lt1, lt2⟩ hT8 hle fun c o hc e => up c o (ad (by omega)) (k5 c o (ad (by omega)) (ad (by omega)) (ad (by omega)) (ad (by omega)) e)⟩
  · obtain ⟨o, e, r⟩ := ((h12.extBut s3.extBut (ad (by omega))).extBut s4.extBut (ad (by omega))).extBut s5.extBut (ad (by omega))
    exact ⟨o, up _ _ (ad (by omega)) e, r⟩
  · obtain ⟨o, e, r⟩ := h24.extBut s5.extBut (ad (by omega))
    exact ⟨o, up _ _ (ad (by omega)) e, r⟩
  · obtain ⟨o, e, r⟩ := hl1
    exact ⟨o, up _ _ n1.1 (k5 _ _ n1.1 n1.2.1 n1.2.2.1 n1.2.2.2 e), r⟩
  · obtain ⟨o, e, r⟩ := hl2
    exact ⟨o, up _ _ n2.1 (k5 _ _ n2.1 n2.2.1 n2.2.2.1 n2.2.2.2 e), r⟩

theorem zipT_end {B : Nat} {t1 t2 : Nat} {k : Nat} {xs ys : Array Value} {Q : Fin → Shared → Prop} (hh : A.handled = none) (Z : ZipT s.heap B t1 t2 .none k k xs ys) (hend : xs[k]? = none ∨ ys[k]? = none)
    (hE : ∀ (h' : Heap) e, (∀ (c : Nat) o, (c < B ∨ B + 5 ≤ c) → s.heap.get? c = some o → h'.get? c = some o) → (∃ o, h'.get? e = some o ∧ o.cls = .type "StopIteration") → E (.ref e) { s with heap := h' }) :
    wpAny (model prog w) A (Builtin.«zip.__next__» ⟨[.ref (B + 4 : Nat)], []⟩) Q E s := by
  obtain ⟨hz, hTI, ⟨a, b, hTO⟩, h1, h2, hl1, hl2, lt1, lt2⟩ := Z
  have n1 : @Ne Addr t1 (B + 4 : Nat) := ad (by omega)
  have n2 : @Ne Addr t2 (B + 4 : Nat) ∧ @Ne Addr t2 (B + 3 : Nat) ∧ @Ne Addr t2 B := ⟨ad (by omega), ad (by omega), ad (by omega)⟩
  refine wpAny_bind (m := field (.ref (B + 4 : Nat)) 2) (wpAny_field hz rfl (x := .bool false) rfl ?_)
  refine wpAny_bind (m := field (.ref (B + 4 : Nat)) 3) (wpAny_field hz rfl (x := .ref (B + 2 : Nat)) rfl ?_)
  refine wpAny_bind (wpAny_seqItems hTI rfl ?_)
  refine wpAny_bind (m := Builtin.SmallTypes.ownedTupleIsFree (.ref (B + 4 : Nat))) ?_
  unfold Builtin.SmallTypes.ownedTupleIsFree
  refine wpAny_bind (wpAny_field hz rfl (x := .none) rfl (wpAny_pure ?_))
  simp only [if_true]
  refine wpAny_bind (wpAny_rule ?_)
  refine wpAny_bind (wpAny_field hz rfl (x := .ref (B + 3 : Nat)) rfl ?_)
  refine wpAny_bind (wpAny_setField_rec hz (by simp) fun g1 hz1 s1 => ?_)
  replace hz1 : IsZip g1 (B + 4) (B + 2) (B + 3) .ellipsis := hz1
  refine wpAny_bind ?_
  simp only [List.zipIdx_cons, List.zipIdx_nil, List.forIn_cons, List.forIn_nil]
  refine wpAny_bind (wpAny_bind (wpAny_onRaise ?_))
  cases hx : xs[k]? with
  | none =>
    refine wpAny_bind (m := Builtin.SmallTypes.nextOf (.ref B)) (draw_tup_end hh (h1.extBut s1.extBut (ad (by omega))) (hl1.extBut s1.extBut n1) hx fun g2 e s2 he => ?_)
    obtain ⟨oe, hoe, hce⟩ := he
    have hz2 : IsZip g2 (B + 4) (B + 2) (B + 3) .ellipsis := s2 _ _ (ad (by omega)) hz1
    have hez : @Ne Addr e (B + 4 : Nat) := fun x => by subst x; rw [hz2] at hoe; cases hoe; simp at hce
    exact wpAny_setField_rec hz2 (by simp) fun g3 _ s3 => hE g3 e (fun c o hc x => s3.extBut _ _ (ad (by omega)) (s2 _ _ (ad (by omega)) (s1.extBut _ _ (ad (by omega)) x))) ⟨oe, s3.extBut _ _ hez hoe, hce⟩
  | some x =>
    have hy : ys[k]? = none := by rcases hend with h | h; rw [hx] at h; cases h; exact h
    refine wpAny_bind (m := Builtin.SmallTypes.nextOf (.ref B)) (draw_tup (h1.extBut s1.extBut (ad (by omega))) (hl1.extBut s1.extBut n1) hx fun g2 h12 s2 => wpAny_pure ?_)
    have hTO2 : IsPair g2 (B + 3) a b := s2.extBut _ _ (ad (by omega)) (s1.extBut _ _ (ad (by omega)) hTO)
    refine wpAny_bind (wpAny_seqItems hTO2 rfl ?_)
    refine wpAny_bind (wpAny_updateSeq_pair hTO2 fun g3 hTO3 s3 => ?_)
    refine wpAny_bind (wpAny_letGo (wpAny_pure ?_))
    refine wpAny_bind (wpAny_bind (wpAny_onRaise ?_))
    refine wpAny_bind (m := Builtin.SmallTypes.nextOf (.ref (B + 1 : Nat))) (draw_tup_end hh (((h2.extBut s1.extBut (ad (by omega))).extBut s2.extBut (ad (by omega))).extBut s3.extBut (ad (by omega)))
      (((hl2.extBut s1.extBut n2.1).extBut s2.extBut n2.2.2).extBut s3.extBut n2.2.1) hy fun g4 e s4 he => ?_)
    obtain ⟨oe, hoe, hce⟩ := he
    have hz4 : IsZip g4 (B + 4) (B + 2) (B + 3) .ellipsis := s4 _ _ (ad (by omega)) (s3.extBut _ _ (ad (by omega)) (s2.extBut _ _ (ad (by omega)) hz1))
    have hez : @Ne Addr e (B + 4 : Nat) := fun x => by subst x; rw [hz4] at hoe; cases hoe; simp at hce
    exact wpAny_setField_rec hz4 (by simp) fun g5 _ s5 => hE g5 e (fun c o hc x => s5.extBut _ _ (ad (by omega)) (s4 _ _ (ad (by omega)) (s3.extBut _ _ (ad (by omega)) (s2.extBut _ _ (ad (by omega)) (s1.extBut _ _ (ad (by omega)) x))))) ⟨oe, s5.extBut _ _ hez hoe, hce⟩

theorem pyNext_zipT {B : Nat} {t1 t2 : Nat} {k : Nat} {xs ys : Array Value} {x y : Value} {Q : Option Value → Shared → Prop} (Z : ZipT s.heap B t1 t2 .none k k xs ys) (hx : xs[k]? = some x) (hy : ys[k]? = some y)
    (hQ : ∀ (h' : Heap) (T : Nat), ZipT h' B t1 t2 (rawInt T) (k + 1) (k + 1) xs ys → IsPair h' T x y → B + 5 ≤ T → (∀ (c : Nat) o, (c < B ∨ B + 5 ≤ c) → s.heap.get? c = some o → h'.get? c = some o) → Q (some (.ref T)) { s with heap := h' }) :
    wpAny (model prog w) A (pyNext (.ref (B + 4 : Nat))) Q E s := by
  have hT : s.TypeIs (.ref (B + 4 : Nat)) "zip" := ⟨_, Z.z, rfl⟩
  unfold pyNext
  exact wpAny_bind (wpAny_attempt (wpAny_callSpecial?_slot (name := Str.ofString "__next__") hT F.slot_zip_next
    (wpAny_call_entry F.slot_zip_next hT F.entry_zip_next (zipT_next Z hx hy fun h' T a1 a2 a3 a4 => wpAny_pure (hQ h' T a1 a2 a3 a4)) (F.args_zip_next_1 _))))

theorem pyNext_zipT_end {B : Nat} {t1 t2 : Nat} {k : Nat} {xs ys : Array Value} {Q : Option Value → Shared → Prop} (hh : A.handled = none) (Z : ZipT s.heap B t1 t2 .none k k xs ys) (hend : xs[k]? = none ∨ ys[k]? = none)
    (hQ : ∀ (h' : Heap), (∀ (c : Nat) o, (c < B ∨ B + 5 ≤ c) → s.heap.get? c = some o → h'.get? c = some o) → Q none { s with heap := h' }) : wpAny (model prog w) A (pyNext (.ref (B + 4 : Nat))) Q E s := by
  have hT : s.TypeIs (.ref (B + 4 : Nat)) "zip" := ⟨_, Z.z, rfl⟩
  unfold pyNext
  refine wpAny_bind (wpAny_attempt (wpAny_callSpecial?_slot (name := Str.ofString "__next__") hT F.slot_zip_next
    (wpAny_call_entry F.slot_zip_next hT F.entry_zip_next (zipT_end hh Z hend fun h' e hk he => ?_) (F.args_zip_next_1 _))))
  obtain ⟨o, ho, hc⟩ := he
  exact wpAny_bind (wpAny_isInstance (T := "StopIteration") (b := true) ⟨o, ho, hc⟩ isSubtype_stop (wpAny_pure (hQ _ hk)))

theorem ZipT.at {h h' : Heap} {B t1 t2 k1 k2 : Nat} {f0 : Value} {xs ys : Array Value} (Z : ZipT h B t1 t2 f0 k1 k2 xs ys) (hk : ∀ (c : Nat) o, c < B + 5 → h.get? c = some o → h'.get? c = some o) : ZipT h' B t1 t2 f0 k1 k2 xs ys := by
  obtain ⟨hz, hTI, ⟨a, b, hTO⟩, ⟨o1, e1, r1⟩, ⟨o2, e2, r2⟩, ⟨o3, e3, r3⟩, ⟨o4, e4, r4⟩, lt1, lt2⟩ := Z
  exact ⟨hk _ _ (Nat.lt_succ_self _) hz, hk _ _ (by omega) hTI, ⟨a, b, hk _ _ (by omega) hTO⟩, ⟨o1, hk _ _ (by omega) e1, r1⟩, ⟨o2, hk _ _ (by omega) e2, r2⟩, ⟨o3, hk _ _ (by omega) e3, r3⟩, ⟨o4, hk _ _ (by omega) e4, r4⟩, lt1, lt2⟩
theorem go_zipT {elts : List Expr} {x1 : Nat} {pos : Pos} {B t1 t2 k T : Nat} {xs ys : Array Value} {Q : Unit → Shared → Prop} (Z : ZipT s.heap B t1 t2 (rawInt T) k k xs ys)
    (hQ : ∀ (h' : Heap), ZipT h' B t1 t2 .none k k xs ys → (∀ (c : Nat) o, c ≠ B + 4 → s.heap.get? c = some o → h'.get? c = some o) → Q () { s with heap := h' }) :
    wpAny (model prog w) A (letOwnedTupleGo (.Tuple elts x1 pos) (.ref (B + 4 : Nat)) (.ref T)) Q E s := by
  refine wpAny_letOwnedTupleGo_zip Z.z fun h' hz' hs' => hQ h' ?_ fun c o hc e => hs'.extBut _ _ (ad hc) e
  have hk : ∀ (c : Nat) o, c ≠ B + 4 → s.heap.get? c = some o → h'.get? c = some o := fun c o hc e => hs'.extBut _ _ (ad hc) e
  obtain ⟨hz, hTI, ⟨a, b, hTO⟩, ⟨o1, e1, r1⟩, ⟨o2, e2, r2⟩, ⟨o3, e3, r3⟩, ⟨o4, e4, r4⟩, lt1, lt2⟩ := Z
  exact ⟨hz', hk _ _ (by omega) hTI, ⟨a, b, hk _ _ (by omega) hTO⟩, ⟨o1, hk _ _ (by omega) e1, r1⟩, ⟨o2, hk _ _ (by omega) e2, r2⟩, ⟨o3, hk _ _ (by omega) e3, r3⟩, ⟨o4, hk _ _ (by omega) e4, r4⟩, lt1, lt2⟩
end

noncomputable abbrev zH1 (h : Heap) (l1 : Addr) : Heap := h.push { cls := .type "tuple_iterator", data := .fields #[.ref l1, .int 0 0] }
noncomputable abbrev zH2 (h : Heap) (l1 l2 : Addr) : Heap := (zH1 h l1).push { cls := .type "tuple_iterator", data := .fields #[.ref l2, .int 0 0] }
noncomputable abbrev zH3 (h : Heap) (l1 l2 : Addr) : Heap := (zH2 h l1 l2).push { cls := .type "tuple", data := .seq #[.ref h.objs.size, .ref (zH1 h l1).objs.size] }
noncomputable abbrev zH4 (h : Heap) (l1 l2 : Addr) : Heap := (zH3 h l1 l2).push { cls := .type "tuple", data := .seq #[.none, .none] }
noncomputable abbrev zH5 (h : Heap) (l1 l2 : Addr) : Heap := (zH4 h l1 l2).push { cls := .type "zip", data := .fields #[.none, .bool false, .bool false, .ref (zH2 h l1 l2).objs.size, .ref (zH3 h l1 l2).objs.size] }

theorem meets_zipT (l1 l2 : Addr) (xs ys : Array Value) :
    Meets (Builtin.«zip.__new__» ⟨[.type "zip", .ref l1, .ref l2], []⟩) (fun _ R s => s.heap.IsTuple l1 xs ∧ s.heap.IsTuple l2 ys ∧ R (.ok (.ret (.ref (zH4 s.heap l1 l2).objs.size))) { s with heap := zH5 s.heap l1 l2 }) :=
  .of_wp fun prog w A R s h => by
    obtain ⟨hp, g, d, tk, os⟩ := s; obtain ⟨hl1, hl2, h⟩ := h
    have hsub := sub_zip
    have hL1 : Heap.IsTuple (Shared.heap ⟨hp, g, d, tk, os⟩) l1 xs := hl1
    have hL2 : Heap.IsTuple (Shared.heap ⟨hp.push { cls := .type "tuple_iterator", data := .fields #[.ref l1, .int 0 0] }, g, d, tk, os⟩) l2 ys := Heap.IsTuple.push hl2 _
    wp_walk using wpAny_pyIter_tuple hL1, wpAny_pyIter_tuple hL2
    exact ⟨_, rfl, h⟩

theorem call_zipT {prog : Program} {w : World} {A : Around} {E : Value → Shared → Prop} {s : Shared} {l1 l2 : Addr} {xs ys : Array Value} {Q : Value → Shared → Prop} (hl1 : s.heap.IsTuple l1 xs) (hl2 : s.heap.IsTuple l2 ys)
    (h : ∀ h', ZipT h' s.heap.objs.size l1 l2 .none 0 0 xs ys → h'.objs.size = s.heap.objs.size + 5 → (∀ c o, s.heap.get? c = some o → h'.get? c = some o) → Q (.ref (s.heap.objs.size + 4 : Nat)) { s with heap := h' }) :
    wpAny (model prog w) A (call (.type "zip") [.ref l1, .ref l2]) Q E s := by
  refine callType_new F.called_zip (by decide) (F.typeCall_zip_2 _ _) (F.newCall_zip_2 _ _) (fun obj => F.args_object_init_3 obj _ _) F.entry_zip_new (meets_zipT l1 l2 xs ys) ⟨hl1, hl2, ?_⟩
  have z1 : (zH1 s.heap l1).objs.size = s.heap.objs.size + 1 := Heap.size_push ..
  have z2 : (zH2 s.heap l1 l2).objs.size = s.heap.objs.size + 2 := by rw [Heap.size_push, z1]
  have z3 : (zH3 s.heap l1 l2).objs.size = s.heap.objs.size + 3 := by rw [Heap.size_push, z2]
  have z4 : (zH4 s.heap l1 l2).objs.size = s.heap.objs.size + 4 := by rw [Heap.size_push, z3]
  have z5 : (zH5 s.heap l1 l2).objs.size = s.heap.objs.size + 5 := by rw [Heap.size_push, z4]
  have g5 : (zH5 s.heap l1 l2).get? (zH4 s.heap l1 l2).objs.size = some _ := Heap.get?_push_size _ rfl
  have g4 : (zH5 s.heap l1 l2).get? (zH3 s.heap l1 l2).objs.size = some _ := Heap.get?_push_of_some _ (Heap.get?_push_size _ rfl)
  have g3 : (zH5 s.heap l1 l2).get? (zH2 s.heap l1 l2).objs.size = some _ := Heap.get?_push_of_some _ (Heap.get?_push_of_some _ (Heap.get?_push_size _ rfl))
  have g2 : (zH5 s.heap l1 l2).get? (zH1 s.heap l1).objs.size = some _ := Heap.get?_push_of_some _ (Heap.get?_push_of_some _ (Heap.get?_push_of_some _ (Heap.get?_push_size _ rfl)))
  have g1 : (zH5 s.heap l1 l2).get? s.heap.objs.size = some _ := Heap.get?_push_of_some _ (Heap.get?_push_of_some _ (Heap.get?_push_of_some _ (Heap.get?_push_of_some _ (Heap.get?_push_size _ rfl))))
  have keep : ∀ c o, s.heap.get? c = some o → (zH5 s.heap l1 l2).get? c = some o := fun c o x => Heap.get?_push_of_some _ (Heap.get?_push_of_some _ (Heap.get?_push_of_some _ (Heap.get?_push_of_some _ (Heap.get?_push_of_some _ x))))
  obtain ⟨o1, e1, r1⟩ := id hl1
  obtain ⟨o2, e2, r2⟩ := id hl2
  show _ ∧ _
  rw [z2, z3, z4] at g5
  rw [z1, z2] at g3
  rw [z3] at g4
  rw [z1] at g2
  rw [z4]
  exact ⟨⟨_, g5, rfl⟩, h _ ⟨g5, g3, ⟨_, _, g4⟩, ⟨_, g1, rfl, rfl⟩, ⟨_, g2, rfl, rfl⟩, ⟨o1, keep _ _ e1, r1⟩, ⟨o2, keep _ _ e2, r2⟩, Heap.lt_size e1, Heap.lt_size e2⟩ z5 keep⟩
end Mine

set_option autoImplicit false
/- Comprehensions over zip that compare the two. -/
namespace Mine
open PySem PyProof.Rows

/- what the abstract loop says -/
noncomputable def LtAt (a b : List V) (bs : List Bool) : Prop := bs.length = min a.length b.length ∧ ∀ k : Nat, k < a.length → k < b.length → ∃ i j : Int, a[k]? = some (.int i) ∧ b[k]? = some (.int j) ∧ bs[k]? = some (decide (i < j))

theorem zlt_inv {Φ : Orc} {X : XL} {L : Lc} {n : Nat} {H : Hp} {K : List V → Hp → Prop} : ∀ (a b acc : List V),
    compGo (fun L' H' K => wpIfs Φ [] L' H' K X) (fun L' H' K => (wp2 Φ (.cmp (.loc n) .Lt (.loc (n + 1)))).E L' H' K X) (fun _ => True) [n, n + 1] L (zipL a b) acc H K →
    ∃ bs : List Bool, LtAt a b bs ∧ K (acc ++ bs.map V.bool) H
  | [], b, acc, h => ⟨[], ⟨by simp, fun k hk => absurd hk (Nat.not_lt_zero _)⟩, by rw [List.map_nil, List.append_nil]; exact h⟩
  | x :: a, [], acc, h => ⟨[], ⟨by simp, fun k _ hk => absurd hk (Nat.not_lt_zero _)⟩, by rw [List.map_nil, List.append_nil]; exact h⟩
  | x :: a, y :: b, acc, h => by
    have h1 : oKK (((L.set n (some x)).set (n + 1) (some y))[n]?) fun va => oKK (((L.set n (some x)).set (n + 1) (some y))[n + 1]?) fun vb => pCmp .Lt va vb H fun v H2 => True ∧
      compGo (fun L' H' K => wpIfs Φ [] L' H' K X) (fun L' H' K => (wp2 Φ (.cmp (.loc n) .Lt (.loc (n + 1)))).E L' H' K X) (fun _ => True) [n, n + 1] L (zipL a b) (acc ++ [v]) H2 K := h
    obtain ⟨va, e1, h2⟩ := oKK_elim h1
    obtain ⟨vb, e2, h3⟩ := oKK_elim h2
    clear h1 h2 h
    have ea : va = x := by
      rw [List.getElem?_set_ne (by omega), List.getElem?_set] at e1
      simp only [if_true] at e1
      split at e1
      · cases e1; rfl
      · cases e1
    have eb : vb = y := by
      rw [List.getElem?_set] at e2
      simp only [if_true] at e2
      split at e2
      · cases e2; rfl
      · cases e2
    subst ea; subst eb
    cases va <;> cases vb <;> first | exact h3.elim | skip
    rename_i i j
    obtain ⟨bs, ⟨hl, hp⟩, hK⟩ := zlt_inv a b (acc ++ [.bool (decide (i < j))]) h3.2
    refine ⟨decide (i < j) :: bs, ⟨by simp [hl], fun k hk1 hk2 => ?_⟩, by simpa using hK⟩
    cases k with
    | zero => exact ⟨i, j, rfl, rfl, rfl⟩
    | succ k => exact hp k (by simpa using hk1) (by simpa using hk2)

structure Comp2 (c : CC) (scope : Scope) (x y : Str) : Prop where
  kind : scope.kind = .function
  nocell : ∀ y ∈ scope.names, y.2 ≠ .cell
  locs : ∀ y ∈ scope.names, y.2 = .local → scope.names.lookup y.1 = some .local
  frees : ∀ y ∈ scope.names, y.2 = .free → c.scope.names.lookup y.1 = some .cell
  vx : scope.names.lookup x = some .local
  vy : scope.names.lookup y = some .local
  ne : x ≠ y
  dx : (x == ("__debug__" : Str)) = false
  dy : (y == ("__debug__" : Str)) = false

section
variable {D : Wd} {Φ : Orc} {k : Nat} {c : CC}

theorem reps_bools {γ : List Addr} {h : Heap} : ∀ bs : List Bool, Reps D γ h (bs.map Value.bool) (bs.map V.bool)
  | [] => by simp only [List.map_nil, Reps]
  | b :: r => by
    simp only [List.map_cons, Reps, Rep]
    exact ⟨_, _, rfl, rfl, reps_bools r⟩

/- the loop's state after i turns -/
structure ZInv (s2 : Shared) (B t1 t2 Dd C : Nat) (xs ys : Array Value) (bs : List Bool) (i : Nat) (s' : Shared) : Prop where
  same : ∃ h' tk, s' = { s2 with heap := h', toks := tk }
  zip : ZipT s'.heap B t1 t2 .none i i xs ys
  out : ∃ n, s'.heap.get? Dd = some { cls := .type "list", data := .seq ((bs.take i).map Value.bool).toArray n }
  loc : ∃ m, s'.heap.Ns C m
  keep : ∀ b o, s2.heap.get? b = some o → s'.heap.get? b = some o

theorem zip_loop {x y : Str} {q1 q2 q3 p1 p2 tp pos : Pos} {kk : Nat} {iter : Expr} {scope : Scope} {cenv : Env} {A : Around} {s2 : Shared} {B t1 t2 Dd C : Nat} {vs1 vs2 : List Value} {bs : List Bool} {Rr : Result → Shared → Prop} (hA : AOk k A)
    (hB : s2.heap.objs.size = B) (hD : B + 5 ≤ Dd) (hC : B + 5 ≤ C) (hDC : Dd ≠ C) (hloc : cenv.locals = C) (hkf : cenv.scope.kind = .function) (hx : cenv.kindOf x = some .local) (hy : cenv.kindOf y = some .local) (hne : x ≠ y)
    (dx : (x == ("__debug__" : Str)) = false) (dy : (y == ("__debug__" : Str)) = false)
    (hl : bs.length = min vs1.length vs2.length) (hz : bs.length ≤ 2000000) (hp : ∀ i : Nat, i < vs1.length → i < vs2.length → ∃ (a b : Int) (ta tb : Tok), vs1[i]? = some (.int a ta) ∧ vs2[i]? = some (.int b tb) ∧ bs[i]? = some (decide (a < b)))
    (fin : ∀ s' : Shared, (∃ h' tk, s' = { s2 with heap := h', toks := tk }) → (∃ n, s'.heap.get? Dd = some { cls := .type "list", data := .seq (bs.map Value.bool).toArray n }) → (∃ m, s'.heap.Ns C m) → (∀ b o, s2.heap.get? b = some o → s'.heap.get? b = some o) → Rr (.ok .next) s') :
    ∀ (s' : Shared), ZInv s2 B t1 t2 Dd C vs1.toArray vs2.toArray bs 0 s' →
      codeAny D.M A (.compLoop (.ListComp (.Compare (.Name x q1) [.Lt] [.Name y q2] q3) [⟨.Tuple [.Name x p1, .Name y p2] kk tp, iter, [], 0⟩] scope pos) 0 (.ref (B + 4 : Nat)) (.ref Dd) cenv) Rr s' := by
  intro s' zi
  refine W.kcp_loop (fun m s' => ∃ i, m = bs.length - i ∧ i ≤ bs.length ∧ ZInv s2 B t1 t2 Dd C vs1.toArray vs2.toArray bs i s') ?_ bs.length ⟨0, rfl, Nat.zero_le _, zi⟩
  clear zi s'
  rintro m s' ⟨i, rfl, hi, zi⟩
  by_cases hlt : i < bs.length
  · obtain ⟨a, b, ta, tb, e1, e2, e3⟩ := hp i (by omega) (by omega)
    refine pyNext_zipT zi.zip (x := .int a ta) (y := .int b tb) (by simpa using e1) (by simpa using e2) fun h1 T Z1 hT hTB k1 => ?_
    refine go_zipT Z1 fun h2 Z2 k2 => ?_
    have kp : ∀ (b : Nat) o, (b < B ∨ B + 5 ≤ b) → s'.heap.get? b = some o → h2.get? b = some o := fun b o hb e => k2 b o (by omega) (k1 b o hb e)
    obtain ⟨m0, hm0⟩ := zi.loc
    have hm2 : h2.Ns C m0 := hm0.at' fun o e => kp _ o (.inr hC) e
    have hT2 : h2.IsTuple T #[.int a ta, .int b tb] := ⟨_, k2 _ _ (by omega) hT, rfl, _, rfl⟩
    refine W.kcp_assign hA.handled hT2 hx hy (by rw [hkf]; rfl) (hloc ▸ hm2) fun h3 tk3 hn3 k3 => ?_
    rw [hloc] at hn3 k3
    refine wpAny_Compare1 (wpAny_Name (wpAny_loadName_local hkf hx (hloc.symm ▸ hn3) (by rw [if_neg hne, if_pos rfl]) (wpAny_Name (wpAny_loadName_local hkf hy (hloc.symm ▸ hn3) (by rw [if_pos rfl]) ?_) dy)) dx) rfl
    refine lt_int ?_
    obtain ⟨n0, ho⟩ := zi.out
    have ho3 : h3.get? Dd = some { cls := .type "list", data := .seq ((bs.take i).map Value.bool).toArray n0 } := k3 _ _ (ad hDC) (kp _ _ (.inr hD) ho)
    refine wpAny_list_append_plain (items := ((bs.take i).map Value.bool).toArray) ⟨n0, ho3⟩ (fun h4 hp4 hs4 => ?_) (by simp [sizeLine_eq]; omega)
    obtain ⟨n4, e4⟩ := hp4
    have k4 : ∀ (b : Nat) o, b ≠ Dd → h3.get? b = some o → h4.get? b = some o := fun b o hb e => hs4.extBut b o (ad hb) e
    have old : ∀ (b : Nat) o, b < B → s'.heap.get? b = some o → h4.get? b = some o := fun b o hb e => k4 b o (by omega) (k3 b o (ad (by omega)) (kp b o (.inl hb) e))
    refine ⟨bs.length - (i + 1), by omega, i + 1, rfl, hlt, ?_, ?_, ?_, ?_, ?_⟩
    · obtain ⟨h', tk, rfl⟩ := zi.same; exact ⟨_, _, rfl⟩
    · exact Z2.at fun c o hc e => k4 c o (by omega) (k3 c o (ad (by omega)) e)
    · refine ⟨n4, ?_⟩
      have em : (((bs.take i).map Value.bool).toArray).push (Value.bool (decide (a < b))) = ((bs.take (i + 1)).map Value.bool).toArray := by
        rw [List.take_add_one, e3]; simp
      rw [em] at e4
      exact e4
    · exact ⟨_, hn3.at' fun o e => k4 _ o (fun q => hDC q.symm) e⟩
    · exact fun b o e => old b o (by rw [← hB]; exact Heap.lt_size e) (zi.keep b o e)
  · have hin : i = bs.length := by omega
    subst hin
    refine pyNext_zipT_end hA.handled zi.zip ?_ fun h1 k1 => ?_
    · rcases Nat.le_total vs1.length vs2.length with h | h
      · exact .inl (by simp; omega)
      · exact .inr (by simp; omega)
    · refine fin _ ?_ ?_ ?_ ?_
      · obtain ⟨h', tk, rfl⟩ := zi.same; exact ⟨_, _, rfl⟩
      · obtain ⟨n0, ho⟩ := zi.out
        rw [List.take_length] at ho
        exact ⟨n0, k1 _ _ (.inr hD) ho⟩
      · obtain ⟨m0, hm0⟩ := zi.loc
        exact ⟨m0, hm0.at' fun o e => k1 _ o (.inr hC) e⟩
      · exact fun b o e => k1 b o (.inl (by rw [← hB]; exact Heap.lt_size e)) (zi.keep b o e)

theorem e_zipLt {n : Nat} {x y gz : Str} {q1 q2 q3 p1 p2 tp pos gp cp : Pos} {kk : Nat} {e1 e2 : Expr} {scope : Scope} {ss : List IE} (g : GOk D c.G) (ih : ∀ e ie, compE n c e = some ie → SE D Φ k c e ie)
    (hg : globV c gz = some (.ty .zip)) (hst : [e1, e2].any isStar = false) (hm : mapO (compE n c) [e1, e2] = some ss) (ok : Comp2 c scope x y) :
    Both D Φ k c (.ListComp (.Compare (.Name x q1) [.Lt] [.Name y q2] q3) [⟨.Tuple [.Name x p1, .Name y p2] kk tp, .Call (.Name gz gp) [e1, e2] [] cp, [], 0⟩] scope pos) (.comp (.cmp (.loc c.nxt) .Lt (.loc (c.nxt + 1))) [c.nxt, c.nxt + 1] .zip ss []) := by
  refine both_plain (fun env A γ H s L Q X hE hA R lr w => ?_) rfl (fun _ _ => rfl)
  rw [eval_ListComp]
  have hclos : closureFor scope env = pure (closGo env scope.names []) := closureFor_go fun y hy hf => by
    have hk : env.kindOf y.1 = some .cell := by unfold Env.kindOf; rw [hE.scope]; exact ok.frees y hy hf
    obtain ⟨ca, u, e1, _⟩ := lr.cel y.1 hk
    exact ⟨ca, e1⟩
  let ZP : Value → Shared → Prop := fun it s3 => ∃ γ2 H2 s2 h3 t1 t2 vs1 vs2 bs, it = .ref (s2.heap.objs.size + 4 : Nat) ∧ Stp [] γ γ2 s s2 ∧ HRel D γ2 H2 s2.heap ∧ s3 = { s2 with heap := h3 } ∧ ZipT h3 s2.heap.objs.size t1 t2 .none 0 0 (List.toArray vs1) (List.toArray vs2) ∧ h3.objs.size = s2.heap.objs.size + 5 ∧ (∀ b o, s2.heap.get? b = some o → h3.get? b = some o) ∧
    List.length bs = min vs1.length vs2.length ∧ bs.length ≤ 1000000 ∧ (∀ i : Nat, i < vs1.length → i < vs2.length → ∃ (a b : Int) (ta tb : Tok), vs1[i]? = some (.int a ta) ∧ vs2[i]? = some (.int b tb) ∧ bs[i]? = some (decide (a < b))) ∧ Q (.ref H2.length) (H2 ++ [.list (bs.map V.bool)])
  refine wpAny_comprehension_free (use := none) rfl (fun _ => rfl) hclos ok.kind ok.locs (wpAny_mono (Q := fun xv s1 => wpAny D.M A (pyIter xv) ZP (PostX D γ s X) s1) (E := PostX D γ s X) ?_ (fun xv s1 h1 => wpAny_mono h1 (fun it s3 h3 => ?_) fun _ _ e => e) fun _ _ e => e)
  · refine wpAny_Call_ofName (andThen (name_ok (Φ := Φ) (Q := fun V H' => V = .ty .zip ∧ H' = H) g hE R lr (globV_lit hg) ⟨rfl, rfl⟩) ?_)
    intro vf s1 γ1 Vf H1 st R1 rf q
    obtain ⟨rfl, rfl⟩ := q
    simp only [Rep] at rf; subst rf
    rw [starEach_of hst]
    refine PyProof.Rows.callWith_type (by simp) (wpAny_mono (evalArgs_ok ih hE hA hm R1 (lr.stp R st) w) (fun b s2 hb => ?_) fun _ _ x => x.back st R1)
    obtain ⟨ps, kw⟩ := b
    obtain ⟨hkw, γ2, Vs, H2, st2, R2, rv, q⟩ := hb
    simp only at hkw rv; subst hkw
    have st02 := st.trans0 R1 st2
    unfold pSrc at q
    split at q
    · cases ‹SrcK.zip = SrcK.val›
    · cases ‹SrcK.zip = SrcK.val›
    · cases ‹SrcK.zip = SrcK.range›
    · cases ‹SrcK.zip = SrcK.range›
    · cases ‹SrcK.zip = SrcK.rev›
    · rename_i la lb _
      simp only [Reps, Rep] at rv
      obtain ⟨_, r, rfl, ⟨t1, vs1, rfl, ta1, rs1⟩, _, r', rfl, ⟨t2, vs2, rfl, ta2, rs2⟩, rfl⟩ := rv
      obtain ⟨bs, ⟨hl, hp⟩, hz, hQ⟩ := zlt_inv la lb [] q
      refine call_zipT ta1.isTuple ta2.isTuple fun h3 Z h5 keep => wpAny_pyIter_zip Z.z ?_
      refine ⟨γ2, H2, s2, h3, t1, t2, vs1, vs2, bs, rfl, st02, R2, rfl, Z, h5, keep, by rw [rs1.length, rs2.length]; exact hl, by simpa using hz, fun i h1 h2 => ?_, hQ⟩
      obtain ⟨a, b, e1, e2, e3⟩ := hp i (by rw [← rs1.length]; exact h1) (by rw [← rs2.length]; exact h2)
      obtain ⟨v1, f1, r1⟩ := rs1.get e1
      obtain ⟨v2, f2, r2⟩ := rs2.get e2
      simp only [Rep] at r1 r2
      obtain ⟨ta, rfl⟩ := r1
      obtain ⟨tb, rfl⟩ := r2
      exact ⟨a, b, ta, tb, f1, f2, e3⟩
    · exact q.elim
  · obtain ⟨γ2, H2, s2, h3, t1, t2, vs1, vs2, bs, rfl, stp2, R2, rfl, Z, h5, keep, hl, hz, hp, hQ⟩ := h3
    refine wpAny_newObj_type (hd := by size_fits) (wpAny_newFunctionEnv ok.nocell (by intro y hy; simp at hy) (fun h₁ hns₁ hsb₁ => ?_) ok.kind)
    dsimp only at hns₁ hsb₁ ⊢
    generalize hG2 : h3.push { cls := .type "list", dict := none, data := .seq ([] : List Value).toArray } = G2 at hns₁ hsb₁ ⊢
    have hC : G2.objs.size = h3.objs.size + 1 := by rw [← hG2, Heap.size_push]
    have hDC : h3.objs.size ≠ G2.objs.size := by rw [hC]; exact Nat.ne_of_lt (Nat.lt_succ_self _)
    have below : ∀ b o, h3.get? b = some o → b ≠ G2.objs.size := fun b o hb => Nat.ne_of_lt (Nat.lt_trans (Heap.lt_size hb) (by rw [hC]; exact Nat.lt_succ_self _))
    have old : ∀ b o, h3.get? b = some o → h₁.get? b = some o := fun b o e => hsb₁.extBut b o (below b o e) (Heap.get?_push_of_some _ (hG2 ▸ Heap.get?_push_of_some _ e))
    have hacc : h₁.get? h3.objs.size = some { cls := .type "list", data := .seq ([] : List Value).toArray } := hsb₁.extBut _ _ (ad hDC) (Heap.get?_push_of_some _ (hG2 ▸ Heap.get?_push_size _ rfl))
    have d0 : s2.heap.get? h3.objs.size = none := Heap.get?_none_of_le (by rw [h5]; exact Nat.le_add_right _ _)
    have loop : ∀ s4 : Shared, s4 = { s2 with heap := h₁, toks := s2.toks + ([] : List (Str × Value)).length } →
        codeAny D.M A (.compLoop (.ListComp (.Compare (.Name x q1) [.Lt] [.Name y q2] q3) [⟨.Tuple [.Name x p1, .Name y p2] kk tp, .Call (.Name gz gp) [e1, e2] [] cp, [], 0⟩] scope pos) 0 (.ref (s2.heap.objs.size + 4 : Nat)) (.ref h3.objs.size) (compEnvC scope (closGo env scope.names []) G2.objs.size env))
          (compPost D.M A (PostX D γ s X) none (PostV D γ s Q) (.ref h3.objs.size) G2.objs.size) s4 := by
      rintro s4 rfl
      refine zip_loop (s2 := s2) (t1 := t1) (t2 := t2) (C := G2.objs.size) (vs1 := vs1) (vs2 := vs2) (bs := bs) hA rfl (by omega) (by omega) hDC rfl ?_ ?_ ?_ ok.ne ok.dx ok.dy hl (by omega) hp ?_ _ ?_
      · show (relabel scope env).kind = .function
        rw [relabel_eq hE]; exact ok.kind
      · exact lookup_relabel_local ok.vx
      · exact lookup_relabel_local ok.vy
      · intro s' hsame ho hc hk
        obtain ⟨h', tk, rfl⟩ := hsame
        obtain ⟨m, hm⟩ := hc
        refine ⟨m, hm, fun h6 hs6 => ?_⟩
        have k6 : ∀ b o, b ≠ G2.objs.size → h'.get? b = some o → h6.get? b = some o := fun b o hb e => hs6.extBut b o hb e
        obtain ⟨no, ho⟩ := ho
        have keep6 : ∀ b o, s2.heap.get? b = some o → h6.get? b = some o := fun b o e => k6 b o (below b o (keep b o e)) (hk b o e)
        exact PostV.back (s1 := s2) stp2 R2 (PostV.addList (a := h3.objs.size) (tk := tk) R2 (reps_bools bs) (by simp; omega) keep6 d0 (k6 _ _ (ad hDC) ho) hQ)
      · refine ⟨⟨_, _, rfl⟩, Z.at fun c o _ e => old c o e, ⟨0, by simpa using hacc⟩, ⟨_, hns₁⟩, fun b o e => old b o (keep b o e)⟩
    exact codeAny_compStart_list (loop _ rfl) (wpAny_pyIter_zip (old _ _ Z.z) (loop _ rfl))
end
end Mine

set_option autoImplicit false
/- Every expression that is taken over means what its small tree says. -/
namespace Mine
open PySem PyProof.Rows

section
variable {D : Wd} {Φ : Orc} {k : Nat}

theorem noSetIter {iter : Expr} {n : Nat} {c : CC} {p : SrcK × List IE} (h : compSrc (compE n c) c iter = some p) : ∀ env x, foldedSetIterable iter env x = pure x := by
  intro env x
  cases iter <;> first | rfl | (cases n <;> exact nomatch (show (none : Option (SrcK × List IE)) = some p from h))

theorem opt_part {lo : Option Expr} {il : Option IE} {n : Nat} {c : CC} {env : Env} {A : Around} {γ : List Addr} {H : Hp} {s : Shared} {L : Lc} {Q : V → Hp → Prop} {X : XL} (ih : ∀ e ie, compE n c e = some ie → SE D Φ k c e ie) (h : optE (compE n c) lo = some il)
    (hE : EnvOk c env) (hA : AOk k A) (R : HRel D γ H s.heap) (lr : LRel D γ env c.slots s.heap L) (w : wpO Φ il L H Q X) : wpAny D.M A (evalPart lo env) (PostV D γ s Q) (PostX D γ s X) s := by
  cases lo with
  | none => cases (show some none = some il from h); exact wpAny_evalPart_none (PostV.here (V := .none) R (by simp only [Rep]) w)
  | some e =>
    obtain ⟨a, ha, rfl⟩ := Option.map_eq_some_iff.mp h
    exact wpAny_evalPart_some (ih _ _ ha env A γ H s L Q X hE hA R lr w)
theorem e_slice {o : Expr} {p pos : Pos} {lo hi : Option Expr} {n : Nat} {c : CC} {io : IE} {il ih' : Option IE} (ih : ∀ e ie, compE n c e = some ie → SE D Φ k c e ie) (ho : compE n c o = some io) (hl : optE (compE n c) lo = some il) (hh : optE (compE n c) hi = some ih') :
    Both D Φ k c (.Subscript o (.Slice lo hi none p) pos) (.slice io il ih') := by
  refine both_plain (fun env A γ H s L Q X hE hA R lr w => ?_) rfl (fun _ _ => rfl)
  refine Subscript_ (andThen (ih _ _ ho env A γ H s L _ X hE hA R lr w) ?_)
  intro vo s1 γ1 Vo H1 st1 R1 ro q1
  refine wpAny_Slice (thenV st1 R1 (opt_part ih hl hE hA R1 (lr.stp R st1) q1) ?_)
  intro vl s2 γ2 Vl H2 st2 R2 rl q2
  have st02 := st1.trans0 R1 st2
  refine thenV st02 R2 (opt_part ih hh hE hA R2 (lr.stp R st02) q2) ?_
  intro vh s3 γ3 Vh H3 st3 R3 rh q3
  rw [evalPart_none]
  refine wpAny_pure ?_
  exact wpAny_mono (slice_ok R3 ((ro.stp0 R1 st2).stp0 R2 st3) (rl.stp0 R2 st3) rh q3) (fun _ _ x => x.back (st02.trans0 R2 st3) R3) (fun _ _ x => x)
theorem e_rev {o : Expr} {p pos p1 p2 : Pos} {kk : Nat} {n : Nat} {c : CC} {io : IE} (ih : ∀ e ie, compE n c e = some ie → SE D Φ k c e ie) (ho : compE n c o = some io) :
    Both D Φ k c (.Subscript o (.Slice none none (some (.UnaryOp .USub (.Constant (.int 1) kk p1) p2)) p) pos) (.rev io) := by
  refine both_plain (fun env A γ H s L Q X hE hA R lr w => ?_) rfl (fun _ _ => rfl)
  refine Subscript_ (andThen (ih _ _ ho env A γ H s L _ X hE hA R lr w) ?_)
  intro vo s1 γ1 Vo H1 st1 R1 ro q1
  refine wpAny_Slice ?_
  rw [evalPart_none]
  refine wpAny_pure (wpAny_pure ?_)
  rw [evalPart_some]
  have hm : SE D Φ k c (.UnaryOp .USub (.Constant (.int 1) kk p1) p2) (.neg (.lit (.int 1))) := (e_neg (e_const rfl).1).1
  refine thenV st1 R1 (hm env A γ1 H1 s1 L (fun V H' => V = .int (-1) ∧ H' = H1) X hE hA R1 (lr.stp R st1) ⟨rfl, rfl⟩) ?_
  intro vt s2 γ2 Vt H2 st2 R2 rt q2
  obtain ⟨rfl, rfl⟩ := q2
  exact wpAny_mono (rev_ok R2 (ro.stp0 R1 st2) rt q1) (fun _ _ x => x.back (st1.trans0 R1 st2) R2) (fun _ _ x => x)

theorem compOk_of {c : CC} {scope : Scope} {x : Str} {a : Int} (hs : (a == 0 && okComp scope c.scope && scope.names.lookup x == some .local && (scope.names.all fun y => y.2 != .local || y.1 == x || (c.slots.lookup y.1).isNone) && (c.slots.all fun p => p.2 < c.nxt)) = true) : a = 0 ∧ CompOk c scope x := by
  simp only [Bool.and_eq_true] at hs
  obtain ⟨⟨⟨⟨ha, hok⟩, hvar⟩, hown⟩, hlow⟩ := hs
  refine ⟨by simpa using ha, ?_⟩
  unfold okComp at hok
  simp only [Bool.and_eq_true, beq_iff_eq, List.all_eq_true, Bool.or_eq_true, bne_iff_ne, ne_eq] at hok
  simp only [List.all_eq_true, Bool.or_eq_true, bne_iff_ne, ne_eq, beq_iff_eq, Option.isNone_iff_eq_none] at hown
  simp only [List.all_eq_true, decide_eq_true_eq] at hlow
  refine ⟨hok.1, fun y hy => (hok.2 y hy).1.1, fun y hy hl => ?_, fun y hy hf => ?_, by simpa using hvar, fun y hy => ?_, fun y i hl => hlow (y, i) (mem_of_lookup hl)⟩
  · rcases (hok.2 y hy).1.2 with q | q
    · exact absurd hl q
    · exact q
  · rcases (hok.2 y hy).2 with q | q
    · exact absurd hf q
    · exact q.2
  · rcases hown (y, .local) hy with (q | q) | q
    · exact absurd rfl q
    · exact .inl q
    · exact .inr q

theorem comp_inv {n : Nat} {c : CC} {elt : Expr} {gens : List Comprehension} {scope : Scope} {pos : Pos} {ie : IE} (h : compE (n + 1) c (.ListComp elt gens scope pos) = some ie) :
    (∃ x px iter ifs kk ss ielt iifs, gens = [⟨.Name x px, iter, ifs, 0⟩] ∧ CompOk c scope x ∧ compSrc (compE n c) c iter = some (kk, ss) ∧ compE n (inner c scope x) elt = some ielt ∧ mapO (compE n (inner c scope x)) ifs = some iifs ∧ ie = .comp ielt [c.nxt] kk ss iifs) ∨
    zipE (compE n c) c elt gens scope = some ie := by
  cases gens with
  | nil => exact .inr h
  | cons gen gens =>
    obtain ⟨tgt, iter, ifs, a⟩ := gen
    cases gens with
    | cons g2 gens => cases tgt <;> exact .inr h
    | nil =>
      cases tgt with
      | Name x px =>
        obtain ⟨hs, h'⟩ := onlyIf_some h
        obtain ⟨ha, ok⟩ := compOk_of (c := c) (scope := scope) (x := x) (a := a) hs
        clear h; subst ha
        obtain ⟨ks, e, fs, h1, h2, h3, rfl⟩ := oThree_some h'
        exact .inl ⟨x, px, iter, ifs, ks.1, ks.2, e, fs, rfl, ok, h1, h2, h3, rfl⟩
      | _ => exact .inr h

theorem zipPat_inv {elt : Expr} {gens : List Comprehension} {x y g : Str} {a b : Expr} (h : zipPat elt gens = some (x, y, g, a, b)) :
    ∃ q1 q2 q3 p1 p2 kk tp gp cp, elt = .Compare (.Name x q1) [.Lt] [.Name y q2] q3 ∧ gens = [⟨.Tuple [.Name x p1, .Name y p2] kk tp, .Call (.Name g gp) [a, b] [] cp, [], 0⟩] ∧ x ≠ y ∧ (x == ("__debug__" : Str)) = false ∧ (y == ("__debug__" : Str)) = false ∧ [a, b].any isStar = false := by
  unfold zipPat at h
  split at h
  · split at h
    · obtain ⟨hs, h⟩ := onlyIf_some h
      simp only [Bool.and_eq_true, Bool.not_eq_true', beq_iff_eq, beq_eq_false_iff_ne] at hs
      obtain ⟨⟨⟨⟨⟨⟨h0, h1⟩, h2⟩, h3⟩, h4⟩, h5⟩, h6⟩ := hs
      cases h
      subst h0; subst h1; subst h2
      exact ⟨_, _, _, _, _, _, _, _, _, rfl, rfl, h3, by simpa using h4, by simpa using h5, h6⟩
    · cases h
  · cases h
theorem isZipV_some {o : Option V} (h : isZipV o = true) : o = some (.ty .zip) := by
  unfold isZipV at h
  split at h
  · rfl
  · cases h
theorem e_zip {n : Nat} {c : CC} {elt : Expr} {gens : List Comprehension} {scope : Scope} {pos : Pos} {ie : IE} (g : GOk D c.G) (ih : ∀ e ie, compE n c e = some ie → SE D Φ k c e ie) (h : zipE (compE n c) c elt gens scope = some ie) : Both D Φ k c (.ListComp elt gens scope pos) ie := by
  unfold zipE at h
  split at h
  · rename_i x y gz a b hp
    obtain ⟨hs, h⟩ := onlyIf_some h
    obtain ⟨ss, hm, rfl⟩ := Option.map_eq_some_iff.mp h
    obtain ⟨q1, q2, q3, p1, p2, kk, tp, gp, cp, rfl, rfl, hne, dx, dy, hst⟩ := zipPat_inv hp
    simp only [Bool.and_eq_true, beq_iff_eq] at hs
    obtain ⟨⟨⟨hz, hok⟩, vx⟩, vy⟩ := hs
    unfold okComp at hok
    simp only [Bool.and_eq_true, beq_iff_eq, List.all_eq_true, Bool.or_eq_true, bne_iff_ne, ne_eq] at hok
    refine e_zipLt g ih (isZipV_some hz) hst hm ⟨hok.1, fun y hy => (hok.2 y hy).1.1, fun y hy hl => ?_, fun y hy hf => ?_, vx, vy, hne, dx, dy⟩
    · rcases (hok.2 y hy).1.2 with q | q
      · exact absurd hl q
      · exact q
    · rcases (hok.2 y hy).2 with q | q
      · exact absurd hf q
      · exact q.2
  · cases h

theorem soundE (hO : OrcOk D k Φ) : ∀ (n : Nat) (c : CC) (e : Expr) (ie : IE), GOk D c.G → compE n c e = some ie → Both D Φ k c e ie := by
  intro n
  induction n with
  | zero => intro c e ie g h; cases h
  | succ n ih =>
    intro c e ie g h
    have ihB : ∀ e ie, compE n c e = some ie → Both D Φ k c e ie := fun e ie h => ih c e ie g h
    have ihE : ∀ e ie, compE n c e = some ie → SE D Φ k c e ie := fun e ie h => (ihB e ie h).1
    cases e with
    | Constant kk a b =>
      obtain ⟨W, hW, rfl⟩ := Option.map_eq_some_iff.mp h; exact e_const hW
    | Name x p => exact e_name g h
    | BinOp l op r p => obtain ⟨a, b, h1, h2, rfl⟩ := oTwo_some h; exact e_bin (ihE _ _ h1) (ihE _ _ h2)
    | UnaryOp op x p =>
      cases op with
      | USub => obtain ⟨a, ha, rfl⟩ := Option.map_eq_some_iff.mp h; exact e_neg (ihE _ _ ha)
      | Not => obtain ⟨a, ha, rfl⟩ := Option.map_eq_some_iff.mp h; exact e_not (ihB _ _ ha)
      | _ => exact nomatch (show (none : Option IE) = some ie from h)
    | BoolOp op vs p =>
      cases op with
      | And => obtain ⟨ies, h1, h2⟩ := Option.bind_eq_some_iff.mp h; exact e_and ihB h1 h2
      | Or => obtain ⟨ies, h1, h2⟩ := Option.bind_eq_some_iff.mp h; exact e_or ihB h1 h2
    | IfExp t a b p => obtain ⟨a, b, d, h1, h2, h3, rfl⟩ := oThree_some h; exact e_ite (ihB _ _ h1) (ihB _ _ h2) (ihB _ _ h3)
    | Compare l ops rs p =>
      cases ops with
      | nil => exact nomatch (show (none : Option IE) = some ie from h)
      | cons op ops =>
        cases rs with
        | nil => cases ops with
          | nil => exact nomatch (show (none : Option IE) = some ie from h)
          | cons o2 ops => cases ops <;> exact nomatch (show (none : Option IE) = some ie from h)
        | cons r rs =>
          cases ops with
          | nil => cases rs with
            | nil => obtain ⟨a, b, h1, h2, rfl⟩ := oTwo_some h; exact e_cmp (ihE _ _ h1) (ihE _ _ h2) (noMarks h2)
            | cons r2 rs => exact nomatch (show (none : Option IE) = some ie from h)
          | cons op2 ops => cases ops with
            | cons op3 ops => exact nomatch (show (none : Option IE) = some ie from h)
            | nil => cases rs with
              | nil => exact nomatch (show (none : Option IE) = some ie from h)
              | cons r2 rs => cases rs with
                | cons r3 rs => exact nomatch (show (none : Option IE) = some ie from h)
                | nil => obtain ⟨a, b, d, h1, h2, h3, rfl⟩ := oThree_some h; exact e_cmp2 (ihE _ _ h1) (ihE _ _ h2) (ihE _ _ h3) (noMarks h3)
    | Tuple es a p =>
      obtain ⟨hs, h⟩ := onlyIf_some h
      obtain ⟨a, ha, rfl⟩ := Option.map_eq_some_iff.mp h
      exact e_tup ihE (by simpa using hs) ha
    | List es p =>
      obtain ⟨hs, h⟩ := onlyIf_some h
      obtain ⟨a, ha, rfl⟩ := Option.map_eq_some_iff.mp h
      exact e_lst ihE (by simpa using hs) ha
    | Call f args kw p =>
      cases kw with
      | cons k1 kw => cases f <;> exact nomatch (show (none : Option IE) = some ie from h)
      | nil =>
        cases f with
        | Name x px =>
          obtain ⟨hs, h⟩ := onlyIf_some h
          simp only [Bool.and_eq_true, Bool.not_eq_true'] at hs
          obtain ⟨a, b, h1, h2, rfl⟩ := oTwo_some h
          exact e_call g hO ihE hs.1 h1 h2
        | Attribute o name apos =>
          obtain ⟨hs, h⟩ := onlyIf_some h
          simp only [Bool.and_eq_true, Bool.not_eq_true'] at hs
          have hm : ∃ m, mtOf name = some m := by
            cases hq : mtOf name with
            | none => rw [hq] at h; cases h
            | some m => exact ⟨m, rfl⟩
          obtain ⟨m, hm⟩ := hm
          rw [hm] at h
          have h' : onlyIf (args.length.beq (methN m)) (oTwo (fun v as => .meth v m as) (compE n c o) (methA (compE n c) args)) = some ie := h
          have hname := mtOf_some hm
          obtain ⟨hn, h3⟩ := onlyIf_some h'
          obtain ⟨v, ias, ho, ha, rfl⟩ := oTwo_some h3
          clear h3 h' h
          have hn := Nat.eq_of_beq_eq_true hn
          have hl := Nat.eq_of_beq_eq_true hs.2
          rw [hname]
          match args, hn, ha, hs with
          | [], hn, ha, hs =>
            cases ha
            cases m with
            | clear => exact e_clear (ihE _ _ ho) hs.1.2 hl
            | pop => exact e_pop (ihE _ _ ho) hs.1.2 hl
            | append => cases hn
            | index => cases hn
          | [a], hn, ha, hs =>
            obtain ⟨ia, hia, rfl⟩ := Option.map_eq_some_iff.mp ha
            cases m with
            | clear => cases hn
            | pop => cases hn
            | append => exact e_append (ihE _ _ ho) (ihE _ _ hia) hs.1.2 hl (by simpa using hs.1.1.1)
            | index => exact e_index (ihE _ _ ho) (ihE _ _ hia) hs.1.2 hl (by simpa using hs.1.1.1)
          | _ :: _ :: _, hn, ha, hs => cases ha
        | _ => exact nomatch (show (none : Option IE) = some ie from h)
    | Subscript o i p =>
      change subE (compE n c) o i = some ie at h
      unfold subE at h
      cases hp : sliceKind i with
      | none =>
        rw [hp] at h
        obtain ⟨a, b, h1, h2, rfl⟩ := oTwo_some h
        exact e_sub (ihE _ _ h1) (ihE _ _ h2) (noSlice h2)
      | some q =>
        rw [hp] at h
        obtain ⟨lo, hi, b⟩ := q
        cases b with
        | false =>
          obtain ⟨sp, rfl⟩ := sliceKind_f hp
          obtain ⟨a, b, d, h1, h2, h3, rfl⟩ := oThree_some h
          exact e_slice ihE h1 h2 h3
        | true =>
          obtain ⟨kk, p1, p2, sp, rfl⟩ := sliceKind_t hp
          obtain ⟨a, ha, rfl⟩ := Option.map_eq_some_iff.mp h
          exact e_rev ihE ha
    | ListComp elt gens scope pos =>
      rcases comp_inv h with ⟨x, px, iter, ifs, kk, ss, ielt, iifs, rfl, ok, h1, h2, h3, rfl⟩ | hz
      · exact e_comp g ih ok h1 h2 h3 (noSetIter h1)
      · exact e_zip g ihE hz
    | _ => exact nomatch (show (none : Option IE) = some ie from h)
end
end Mine

set_option autoImplicit false
/- Statements (nothing is raised). -/
namespace Mine
open PySem PyProof.Rows

noncomputable def ownA (env : Env) : List Addr := env.locals :: env.cells.map (·.2)

structure FRel (D : Wd) (γ : List Addr) (env : Env) (slots : List (Str × Nat)) (h : Heap) (L : Lc) : Prop where
  l : LRel D γ env slots h L
  own : ∀ a ∈ ownA env, a ∉ γ ∧ D.hB.get? a = none ∧ (∃ o, h.get? a = some o) ∧ ∀ ws, ¬ TupAt h a ws
  apart : env.cells.Pairwise fun x y => x.2 ≠ y.2
  above : ∀ p ∈ env.cells, p.2 ≠ env.locals

noncomputable def FlRep (mg : Wd) (γ : List Addr) (h : Heap) : Flow → Fl → Prop
  | .next, .next => True
  | .brk, .brk => True
  | .cont, .cont => True
  | .ret v, .ret V => Rep mg γ h v V
  | _, _ => False

noncomputable def PostF (D : Wd) (γ : List Addr) (s : Shared) (env : Env) (slots : List (Str × Nat)) (Q : QS) (fl : Flow) (s' : Shared) : Prop :=
  ∃ γ' H' L' F, Stp (ownA env) γ γ' s s' ∧ HRel D γ' H' s'.heap ∧ FRel D γ' env slots s'.heap L' ∧ FlRep D γ' s'.heap fl F ∧ Q F L' H'

noncomputable abbrev NoX : Value → Shared → Prop := fun _ _ => False

structure SlotsOk (c : CC) : Prop where
  inj : ∀ (x y : Str) (i : Nat), c.slots.lookup x = some i → c.slots.lookup y = some i → x = y

section
variable {D : Wd} {Φ : Orc} {k : Nat} {γ γ1 : List Addr} {H H1 : Hp} {s s1 : Shared} {env : Env} {slots : List (Str × Nat)} {L : Lc}

theorem FRel.stp (f : FRel D γ env slots s.heap L) (R : HRel D γ H s.heap) (t : Stp [] γ γ1 s s1) : FRel D γ1 env slots s1.heap L where
  l := f.l.stp R t
  own := fun a ha => by
    obtain ⟨h1, h2, ⟨o, e⟩, h3⟩ := f.own a ha
    have e' := t.keep _ _ h1 (by simp) e
    refine ⟨notin_ext t h1 e, h2, ⟨o, e'⟩, fun ws q => h3 ws ?_⟩
    obtain ⟨n, q1, q2⟩ := q
    rw [e'] at q1; cases q1
    exact ⟨n, e, q2⟩
  apart := f.apart
  above := f.above

theorem Stp.transF {wr γ2 : List Addr} {s2 : Shared} (R1 : HRel D γ1 H1 s1.heap) (a : Stp wr γ γ1 s s1) (b : Stp wr γ1 γ2 s1 s2) (hw : ∀ x ∈ wr, ∃ o', s1.heap.get? x = some o') : Stp wr γ γ2 s s2 :=
  a.trans R1 b (fun x hx _ _ => hw x hx)

theorem FRel.alive (f : FRel D γ env slots s.heap L) : ∀ x ∈ ownA env, ∃ o', s.heap.get? x = some o' := fun x hx => by
  obtain ⟨_, _, e, _⟩ := f.own x hx; exact e

theorem PostF.back {Q : QS} {fl : Flow} {s' : Shared} {L1 : Lc} (t : Stp (ownA env) γ γ1 s s1) (R : HRel D γ1 H1 s1.heap) (f : FRel D γ1 env slots s1.heap L1) (h : PostF D γ1 s1 env slots Q fl s') : PostF D γ s env slots Q fl s' := by
  obtain ⟨γ', H', L', F, a, b, c, d, e⟩ := h
  exact ⟨γ', H', L', F, t.transF R a f.alive, b, c, d, e⟩

theorem lookup_cell_mem {x : Str} {c : Addr} (h : env.cells.lookup x = some c) : c ∈ ownA env := List.mem_cons_of_mem _ (List.mem_map.mpr ⟨(x, c), mem_of_lookup h, rfl⟩)

theorem notTup_cell {h : Heap} {c : Addr} {u : Option Value} (x : h.IsCell c u) (ws : List Value) : ¬ TupAt h c ws := fun q => by
  obtain ⟨o, e, d⟩ := x
  obtain ⟨n, e', _⟩ := q
  rw [e] at e'; cases e'; cases d

theorem notTup_same {h h' : Heap} {a : Addr} {o : Obj} (e : h.get? a = some o) (e' : h'.get? a = some o) (q : ∀ ws, ¬ TupAt h a ws) (ws : List Value) : ¬ TupAt h' a ws := fun x => by
  obtain ⟨n, q1, q2⟩ := x
  rw [e'] at q1; cases q1
  exact q ws ⟨n, e, q2⟩

theorem store_ok {c : CC} {A : Around} {E : Value → Shared → Prop} {x : Str} {i : Nat} {v : Value} {W : V} (hE : EnvOk c env) (so : SlotsOk c) (R : HRel D γ H s.heap) (f : FRel D γ env c.slots s.heap L) (hs : slotV c x = some i) (rv : Rep D γ s.heap v W) :
    wpAny D.M A (storeName env x v) (fun _ s' => Stp (ownA env) γ γ s s' ∧ HRel D γ H s'.heap ∧ FRel D γ env c.slots s'.heap (L.set i (some W))) E s := by
  have hkf : env.scope.kind = .function := by rw [hE.scope]; exact hE.kind
  have hkind : ∀ y, env.kindOf y = c.scope.names.lookup y := fun y => by unfold Env.kindOf; rw [hE.scope]
  unfold slotV at hs
  split at hs
  · rename_i hk
    have hk' : env.kindOf x = some .local := (hkind x).trans hk
    obtain ⟨m, hn, fm⟩ := f.l.ns
    obtain ⟨lg, lB, _, cL⟩ := f.own env.locals List.mem_cons_self
    refine wpAny_storeName_local hk' hn (fun h' hn' hs' => ?_) (by rw [hkf]; rfl)
    have hkk : ∀ b o, b ≠ env.locals → s.heap.get? b = some o → h'.get? b = some o := fun b o hb e => hs'.extBut b o hb e
    have tt : ∀ a ws, TupAt s.heap a ws → TupAt h' a ws := fun a ws q => tupAt_but hkk cL q
    refine ⟨⟨⟨_, _, rfl⟩, fun b o _ hb e => hkk b o (fun q => hb (q ▸ List.mem_cons_self)) e, ⟨[], by simp, by simp⟩⟩, R.but hkk lg lB cL, ⟨⟨⟨_, hn', ?_⟩, ?_, lg⟩, ?_, f.apart, f.above⟩⟩
    · intro y j V hy hj hL
      by_cases hxy : y = x
      · subst hxy
        rw [hs] at hj; cases hj
        rw [List.getElem?_set] at hL
        simp only [if_true] at hL
        split at hL
        · cases hL; exact ⟨v, by simp, Rep.mono ⟨[], by simp⟩ tt rv⟩
        · cases hL
      · have hij : i ≠ j := fun q => hxy (so.inj y x i (q ▸ hj) hs)
        rw [List.getElem?_set_ne hij] at hL
        obtain ⟨u, hu, ru⟩ := fm y j V hy hj hL
        exact ⟨u, by simp [hxy, hu], Rep.mono ⟨[], by simp⟩ tt ru⟩
    · intro y hy
      obtain ⟨ca, u, e1, e2, e3, e4⟩ := f.l.cel y hy
      refine ⟨ca, u, e1, e2.sameBut hs' (f.above (y, ca) (mem_of_lookup e1)), e3, fun j V hj hL => ?_⟩
      have hij : i ≠ j := fun q => by
        have := so.inj y x i (q ▸ hj) hs
        subst this; rw [hy] at hk'; cases hk'
      rw [List.getElem?_set_ne hij] at hL
      obtain ⟨w, hw, rw_⟩ := e4 j V hj hL
      exact ⟨w, hw, Rep.mono ⟨[], by simp⟩ tt rw_⟩
    · intro a ha
      obtain ⟨a1, a2, ⟨o, e⟩, a3⟩ := f.own a ha
      by_cases hal : a = env.locals
      · subst hal
        exact ⟨a1, a2, (let ⟨o', _, _, eo, _⟩ := hn'; ⟨o', eo⟩), notTup_dict hn'⟩
      · exact ⟨a1, a2, ⟨o, hkk _ _ hal e⟩, notTup_same e (hkk _ _ hal e) a3⟩
  · rename_i hk
    have hk' : env.kindOf x = some .cell := (hkind x).trans hk
    obtain ⟨ca, u, e1, e2, e3, e4⟩ := f.l.cel x hk'
    obtain ⟨lg, lB, _, cL⟩ := f.own ca (lookup_cell_mem e1)
    have hcl : ca ≠ env.locals := f.above (x, ca) (mem_of_lookup e1)
    refine wpAny_storeName_cell hkf hk' e1 e2 (fun h' hc' hs' => ?_)
    have hkk : ∀ b o, b ≠ ca → s.heap.get? b = some o → h'.get? b = some o := fun b o hb e => hs'.extBut b o hb e
    have tt : ∀ a ws, TupAt s.heap a ws → TupAt h' a ws := fun a ws q => tupAt_but hkk cL q
    obtain ⟨m, hn, fm⟩ := f.l.ns
    refine ⟨⟨⟨_, s.toks, rfl⟩, fun b o _ hb e => hkk b o (fun q => hb (q ▸ lookup_cell_mem e1)) e, ⟨[], by simp, by simp⟩⟩, R.but hkk lg lB cL, ⟨⟨⟨m, hn.sameBut hs' (Ne.symm hcl), ?_⟩, ?_, f.l.nin⟩, ?_, f.apart, f.above⟩⟩
    · intro y j V hy hj hL
      have hij : i ≠ j := fun q => by
        have := so.inj y x i (q ▸ hj) hs
        subst this; rw [hy] at hk'; cases hk'
      rw [List.getElem?_set_ne hij] at hL
      obtain ⟨w, hw, rw_⟩ := fm y j V hy hj hL
      exact ⟨w, hw, Rep.mono ⟨[], by simp⟩ tt rw_⟩
    · intro y hy
      by_cases hxy : y = x
      · subst hxy
        refine ⟨ca, some v, e1, hc', e3, fun j V hj hL => ?_⟩
        rw [hs] at hj; cases hj
        rw [List.getElem?_set] at hL
        simp only [if_true] at hL
        split at hL
        · cases hL; exact ⟨v, rfl, Rep.mono ⟨[], by simp⟩ tt rv⟩
        · cases hL
      · obtain ⟨cb, u', f1, f2, f3, f4⟩ := f.l.cel y hy
        have hne : cb ≠ ca := fun q => hxy (name_of_addr f.apart (mem_of_lookup f1) (q ▸ mem_of_lookup e1))
        refine ⟨cb, u', f1, f2.sameBut hs' hne, f3, fun j V hj hL => ?_⟩
        have hij : i ≠ j := fun q => hxy (so.inj y x i (q ▸ hj) hs)
        rw [List.getElem?_set_ne hij] at hL
        obtain ⟨w, hw, rw_⟩ := f4 j V hj hL
        exact ⟨w, hw, Rep.mono ⟨[], by simp⟩ tt rw_⟩
    · intro a ha
      obtain ⟨a1, a2, ⟨o, e⟩, a3⟩ := f.own a ha
      by_cases hal : a = ca
      · subst hal
        exact ⟨a1, a2, (let ⟨o', eo, _⟩ := hc'; ⟨o', eo⟩), notTup_cell hc'⟩
      · exact ⟨a1, a2, ⟨o, hkk _ _ hal e⟩, notTup_same e (hkk _ _ hal e) a3⟩
  · cases hs
end
end Mine

set_option autoImplicit false
/- Statements, one at a time. -/
namespace Mine
open PySem PyProof.Rows

noncomputable def SS (D : Wd) (Φ : Orc) (k : Nat) (c : CC) (st : Stmt) (is : IS) : Prop := ∀ env A γ H s L Q X, EnvOk c env → AOk k A → HRel D γ H s.heap → FRel D γ env c.slots s.heap L →
  wpS Φ is L H Q X → wpAny D.M A (exec st env) (PostF D γ s env c.slots Q) NoX s
noncomputable def SSs (D : Wd) (Φ : Orc) (k : Nat) (c : CC) (sts : List Stmt) (iss : List IS) : Prop := ∀ env A γ H s L Q X, EnvOk c env → AOk k A → HRel D γ H s.heap → FRel D γ env c.slots s.heap L →
  wpSs Φ iss L H Q X → wpAny D.M A (execs sts env) (PostF D γ s env c.slots Q) NoX s

section
variable {D : Wd} {Φ : Orc} {k : Nat} {c : CC}

theorem exprNoX {t : Sem Value} {γ : List Addr} {s : Shared} {A : Around} {Q : V → Hp → Prop} {X : XL} {E : Value → Shared → Prop} (h : wpAny D.M A t (PostV D γ s Q) (PostX D γ s X) s) : wpAny D.M A t (PostV D γ s Q) E s :=
  wpAny_mono h (fun _ _ x => x) fun _ _ x => x.no.elim
theorem exprNoXB {t : Sem Bool} {γ : List Addr} {s : Shared} {A : Around} {Q : Bool → Hp → Prop} {X : XL} {E : Value → Shared → Prop} (h : wpAny D.M A t (PostB D γ s Q) (PostX D γ s X) s) : wpAny D.M A t (PostB D γ s Q) E s :=
  wpAny_mono h (fun _ _ x => x) fun _ _ x => x.no.elim

theorem sss_of {f : Stmt → Option IS} (ih : ∀ st is, f st = some is → SS D Φ k c st is) : ∀ (sts : List Stmt) (iss : List IS), mapO f sts = some iss → SSs D Φ k c sts iss
  | [], iss, hm => by
    rw [mapO_nil hm]
    intro env A γ H s L Q X hE hA R fr w
    exact wpAny_execs_nil ⟨γ, H, L, .next, Stp.refl, R, fr, trivial, w⟩
  | st :: r, iss, hm => by
    obtain ⟨b, bs, rfl, h1, h2⟩ := mapO_cons hm
    intro env A γ H s L Q X hE hA R fr w
    refine wpAny_execs_cons (wpAny_mono (ih st b h1 env A γ H s L _ X hE hA R fr w) (fun fl s1 p => ?_) fun _ _ x => x)
    obtain ⟨γ1, H1, L1, F, st1, R1, fr1, hf, q⟩ := p
    cases fl with
    | next =>
      cases F <;> simp only [FlRep] at hf
      refine wpAny_mono (sss_of ih r bs h2 env A γ1 H1 s1 L1 Q X hE hA R1 fr1 q) (fun _ _ x => x.back st1 R1 fr1) fun _ _ x => x
    | brk => cases F <;> simp only [FlRep] at hf; exact ⟨γ1, H1, L1, .brk, st1, R1, fr1, trivial, q⟩
    | cont => cases F <;> simp only [FlRep] at hf; exact ⟨γ1, H1, L1, .cont, st1, R1, fr1, trivial, q⟩
    | ret v => cases F <;> simp only [FlRep] at hf; exact ⟨γ1, H1, L1, .ret _, st1, R1, fr1, hf, q⟩

theorem kindF {env : Env} (hE : EnvOk c env) : env.scope.kind = .function := by rw [hE.scope]; exact hE.kind

theorem s_expr {e : Expr} {pos : Pos} {ie : IE} (h : SE D Φ k c e ie) (hc : isComp e = false) : SS D Φ k c (.Expr e pos) (.expr ie) := by
  intro env A γ H s L Q X hE hA R fr w
  have hk := kindF hE
  refine wpAny_Expr_any (wpAny_mono (h env A γ H s L _ _ hE hA R fr.l w) (fun v s1 p => ?_) fun _ _ x => x.no.elim) (by unfold interactive; rw [hk]; rfl) (by cases e <;> first | rfl | (simp [isComp] at hc))
  obtain ⟨γ1, V, H1, st, R1, rv, q⟩ := p
  exact ⟨γ1, H1, L, .next, st.weak, R1, fr.stp R st, trivial, q⟩

theorem s_ret {e : Expr} {pos : Pos} {ie : IE} (h : SE D Φ k c e ie) : SS D Φ k c (.Return (some e) pos) (.ret ie) := by
  intro env A γ H s L Q X hE hA R fr w
  refine wpAny_Return_some (wpAny_mono (h env A γ H s L _ _ hE hA R fr.l w) (fun v s1 p => ?_) fun _ _ x => x.no.elim)
  obtain ⟨γ1, V, H1, st, R1, rv, q⟩ := p
  exact ⟨γ1, H1, L, .ret V, st.weak, R1, fr.stp R st, rv, q⟩

theorem s_assign {e : Expr} {x : Str} {px pos : Pos} {ie : IE} {i : Nat} (so : SlotsOk c) (h : SE D Φ k c e ie) (hs : slotV c x = some i) (hw : ∀ env, EnvOk c env → swapsWith e (some (.Name x px)) pos.line env = pure false) :
    SS D Φ k c (.Assign [.Name x px] e pos) (.assign i ie) := by
  intro env A γ H s L Q X hE hA R fr w
  refine wpAny_Assign_Name (wpAny_mono (h env A γ H s L _ _ hE hA R fr.l w) (fun v s1 p => ?_) fun _ _ x => x.no.elim) (hw env hE)
  obtain ⟨γ1, V, H1, st, R1, rv, q⟩ := p
  refine wpAny_mono (store_ok hE so R1 (fr.stp R st) hs rv) (fun _ s2 p => ?_) fun _ _ x => x
  obtain ⟨st2, R2, fr2⟩ := p
  exact ⟨γ1, H1, _, .next, st.weak.transF R1 st2 (fr.stp R st).alive, R2, fr2, trivial, q⟩

theorem s_set {o i value : Expr} {pos' pos : Pos} {io ii iv : IE} (hv : SE D Φ k c value iv) (ho : SE D Φ k c o io) (hi : SE D Φ k c i ii) (hw : ∀ env, swapsWith value (some (.Subscript o i pos')) pos.line env = pure false) :
    SS D Φ k c (.Assign [.Subscript o i pos'] value pos) (.setItem io ii iv) := by
  intro env A γ H s L Q X hE hA R fr w
  refine wpAny_Assign_Subscript (wpAny_mono (hv env A γ H s L _ _ hE hA R fr.l w) (fun v s1 p => ?_) fun _ _ x => x.no.elim) (hw env)
  obtain ⟨γ1, V, H1, st, R1, rv, q⟩ := p
  have fr1 := fr.stp R st
  refine wpAny_mono (ho env A γ1 H1 s1 L _ _ hE hA R1 fr1.l q) (fun ov s2 p => ?_) fun _ _ x => x.no.elim
  obtain ⟨γ2, Vo, H2, st2, R2, ro, q2⟩ := p
  have fr2 := fr1.stp R1 st2
  refine wpAny_mono (hi env A γ2 H2 s2 L _ _ hE hA R2 fr2.l q2) (fun iv s3 p => ?_) fun _ _ x => x.no.elim
  obtain ⟨γ3, Vi, H3, st3, R3, ri, q3⟩ := p
  have fr3 := fr2.stp R2 st3
  have st03 := (st.trans0 R1 st2).trans0 R2 st3
  have rv3 := (rv.stp0 R1 st2).stp0 R2 st3
  have ro3 := ro.stp0 R2 st3
  cases Vo with
  | ref j =>
    cases Vi with
    | int m =>
      obtain ⟨l, hl, hb, q4⟩ := oK_elim q3
      simp only [Rep] at ro3 ri
      obtain ⟨a, ha, rfl⟩ := ro3
      obtain ⟨u, rfl⟩ := ri
      obtain ⟨vs, n, e, rs, z⟩ := R3.list ha hl
      have hlen := rs.length
      refine PySem.W.ki_setAt (items := vs.toArray) (n := n) e hb.1 (by omega) (by simp; omega) ?_
      have e' := IsL.update e fun xs => xs.setIfInBounds m.toNat v
      have em : vs.toArray.setIfInBounds m.toNat v = (vs.set m.toNat v).toArray := by apply Array.toList_inj.mp; simp
      simp only [em] at e'
      have rs' : Reps D γ3 s3.heap (vs.set m.toNat v) (l.set m.toNat V) := by
        refine Reps.of_get (by simp [hlen]) fun y w W h1 h2 => ?_
        by_cases hy : m.toNat = y
        · subst hy
          rw [List.getElem?_set_self (by omega)] at h1 h2
          cases h1; cases h2; exact rv3
        · rw [List.getElem?_set_ne hy] at h1 h2
          obtain ⟨w', hw', rw'⟩ := rs.get h2
          rw [h1] at hw'; cases hw'; exact rw'
      have hk : ∀ b o', b ≠ a → s3.heap.get? b = some o' → (s3.heap.update a (Obj.mapSeq fun xs => xs.setIfInBounds m.toNat v)).get? b = some o' := fun b o' hb q => (Heap.SameBut.update ..).extBut b o' hb q
      obtain ⟨γ4, V4, H4, st4, R4, _, rfl⟩ := PostV.setList (tk := s3.toks) (vs := vs.set m.toNat v) (l := l.set m.toNat V) (v := .none) (V := .none) (Q := fun _ H' => H' = H3.set j (.list (l.set m.toNat V))) R3 ha rs' (by simp; omega) hk e' (by simp only [Rep]) rfl
      exact ⟨γ4, _, L, .next, (st03.trans0 R3 st4).weak, R4, fr3.stp R3 st4, trivial, q4⟩
    | _ => exact q3.elim
  | _ => exact q3.elim

theorem s_assign_comp {n : Nat} {elt iter : Expr} {ifs : List Expr} {x y : Str} {px py pos spos : Pos} {scope : Scope} {ielt : IE} {iifs : List IE} {kk : SrcK} {ss : List IE} {i : Nat} (g : GOk D c.G) (so : SlotsOk c)
    (ih : ∀ c e ie, GOk D c.G → compE n c e = some ie → Both D Φ k c e ie) (ok : CompOk c scope x)
    (hsrc : compSrc (compE n c) c iter = some (kk, ss)) (hce : compE n (inner c scope x) elt = some ielt) (hci : mapO (compE n (inner c scope x)) ifs = some iifs) (hset : ∀ env x, foldedSetIterable iter env x = pure x) (hs : slotV c y = some i) :
    SS D Φ k c (.Assign [.Name y py] (.ListComp elt [⟨.Name x px, iter, ifs, 0⟩] scope pos) spos) (.assign i (.comp ielt [c.nxt] kk ss iifs)) := by
  intro env A γ H s L Q X hE hA R fr w
  have hsw : ∃ b, swapsWith (.ListComp elt [⟨.Name x px, iter, ifs, 0⟩] scope pos) (some (.Name y py)) spos.line env = pure b := ⟨_, rfl⟩
  obtain ⟨b, hb⟩ := hsw
  cases b with
  | false =>
    refine wpAny_Assign_Name (wpAny_mono ((e_comp g ih ok hsrc hce hci hset).1 env A γ H s L _ _ hE hA R fr.l w) (fun v s1 p => ?_) fun _ _ x => x.no.elim) hb
    obtain ⟨γ1, V, H1, st, R1, rv, q⟩ := p
    refine wpAny_mono (store_ok hE so R1 (fr.stp R st) hs rv) (fun _ s2 p => ?_) fun _ _ x => x
    obtain ⟨st2, R2, fr2⟩ := p
    exact ⟨γ1, H1, _, .next, st.weak.transF R1 st2 (fr.stp R st).alive, R2, fr2, trivial, q⟩
  | true =>
    rw [exec_Assign_Name_used _ _ _ _ hb]
    refine wpAny_bind (wpAny_standAt (wpAny_bind ?_))
    show wpAny _ A (do let _ ← comprehension (.ListComp elt [⟨.Name x px, iter, ifs, 0⟩] scope pos) scope env _ (newList []) false (eval iter env) (some (assign (.Name y py) env))) _ _ s
    refine wpAny_bind (wpAny_mono (comp_run (use := some (assign (.Name y py) env)) (Qf := fun _ s' => PostF D γ s env c.slots Q .next s') g ih ok hsrc hce hci hE hA R fr.l (hset env) w ?_) (fun _ s' hq => wpAny_pure (wpAny_pure hq)) fun _ _ x => x.no.elim)
    intro γ' H' s' Dd C acc stp R' ho dn d0 hc cn c0 hdc hK
    obtain ⟨ys, ny, hy, ry⟩ := ho
    obtain ⟨m, hm⟩ := hc
    have dB := base_none R d0
    have R2 := R'.adopt ry (by have := hK.1; omega) dn dB hy
    have fr' := fr.stp R stp
    have stp2 : Stp [] γ (γ' ++ [Dd]) s s' := by
      refine ⟨stp.same, stp.keep, ?_⟩
      obtain ⟨δ, e, f⟩ := stp.ext
      refine ⟨δ ++ [Dd], by rw [e]; simp, fun b hb => ?_⟩
      rcases List.mem_append.mp hb with q | q
      · exact f b q
      · simp at q; subst q; exact d0
    have fr2 : FRel D (γ' ++ [Dd]) env c.slots s'.heap L := fr.stp R stp2
    show wpAny D.M A (assign (.Name y py) env (.ref Dd)) _ _ s'
    refine wpAny_assign_Name (wpAny_mono (store_ok (W := .ref H'.length) hE so R2 fr2 hs (by simp only [Rep]; exact ⟨_, by rw [List.getElem?_append_right (by rw [R'.len]; exact Nat.le_refl _)]; simp [R'.len], rfl⟩)) (fun _ s2 p => ?_) fun _ _ x => x)
    obtain ⟨st3, R3, fr3⟩ := p
    have hCown : C ∉ ownA env := fun hm' => by
      obtain ⟨o, e⟩ := fr.alive C hm'
      rw [c0] at e; cases e
    have hm3 : s2.heap.Ns C m := hm.at' fun o e => st3.keep _ o (by
      intro q
      rcases List.mem_append.mp q with q | q
      · exact cn q
      · simp at q; exact hdc q.symm) hCown e
    refine ⟨m, hm3, fun h' hs' => ?_⟩
    have hk : ∀ b o, b ≠ C → s2.heap.get? b = some o → h'.get? b = some o := fun b o hb e => hs'.extBut b o hb e
    have cn2 : C ∉ γ' ++ [Dd] := by
      intro q
      rcases List.mem_append.mp q with q | q
      · exact cn q
      · simp at q; exact hdc q.symm
    have nt := notTup_dict hm3
    have fr4 : FRel D (γ' ++ [Dd]) env c.slots h' (L.set i (some (.ref H'.length))) := by
      have tt : ∀ a ws, TupAt s2.heap a ws → TupAt h' a ws := fun a ws q => tupAt_but hk nt q
      have hLC : env.locals ≠ C := fun q => hCown (q ▸ List.mem_cons_self)
      refine ⟨⟨?_, ?_, fr3.l.nin⟩, ?_, fr3.apart, fr3.above⟩
      · obtain ⟨m2, hn2, f2⟩ := fr3.l.ns
        refine ⟨m2, hn2.at' fun o e => hk _ o hLC e, fun z j V h1 h2 h3 => ?_⟩
        obtain ⟨v, e1, e2⟩ := f2 z j V h1 h2 h3
        exact ⟨v, e1, Rep.mono ⟨[], by simp⟩ tt e2⟩
      · intro z hz
        obtain ⟨ca, u, e1, e2, e3, e4⟩ := fr3.l.cel z hz
        refine ⟨ca, u, e1, e2.sameBut hs' (fun q => hCown (q ▸ lookup_cell_mem e1)), e3, fun j V h1 h2 => ?_⟩
        obtain ⟨v, e5, e6⟩ := e4 j V h1 h2
        exact ⟨v, e5, Rep.mono ⟨[], by simp⟩ tt e6⟩
      · intro a ha
        obtain ⟨a1, a2, ⟨o, e⟩, a3⟩ := fr3.own a ha
        have e' := hk a o (fun q => hCown (q ▸ ha)) e
        exact ⟨a1, a2, ⟨o, e'⟩, notTup_same e e' a3⟩
    refine ⟨γ' ++ [Dd], _, _, .next, ?_, R3.but hk cn2 (base_none R c0) nt, fr4, trivial, hK.2⟩
    have st4 := stp2.weak.transF R2 st3 fr2.alive
    refine ⟨?_, fun b o hb hw e => hk b o (by rintro rfl; rw [c0] at e; cases e) (st4.keep b o hb hw e), st4.ext⟩
    obtain ⟨h4, t4, e4⟩ := st4.same
    rw [e4]; exact ⟨_, _, rfl⟩

theorem s_if {t : Expr} {a b : List Stmt} {pos : Pos} {it : IE} {ia ib : List IS} (ht : ST D Φ k c t it) (ha : SSs D Φ k c a ia) (hb : SSs D Φ k c b ib) : SS D Φ k c (.If t a b pos) (.ite it ia ib) := by
  intro env A γ H s L Q X hE hA R fr w
  refine wpAny_If (wpAny_mono (ht env A γ H s L _ _ hE hA R fr.l w) (fun v s1 p => ?_) fun _ _ x => x.no.elim)
  obtain ⟨γ1, H1, st, R1, q⟩ := p
  cases v with
  | true => exact wpAny_mono (ha env A γ1 H1 s1 L Q X hE hA R1 (fr.stp R st) q) (fun _ _ x => x.back st.weak R1 (fr.stp R st)) fun _ _ x => x
  | false => exact wpAny_mono (hb env A γ1 H1 s1 L Q X hE hA R1 (fr.stp R st) q) (fun _ _ x => x.back st.weak R1 (fr.stp R st)) fun _ _ x => x

theorem s_while {t : Expr} {b : List Stmt} {pos : Pos} {it : IE} {ib : List IS} (ht : ST D Φ k c t it) (hb : SSs D Φ k c b ib) : SS D Φ k c (.While t b [] pos) (.while it ib) := by
  intro env A γ H s L Q X hE hA R fr w
  obtain ⟨n, w⟩ := w
  refine wpAny_While (codeAny_whileLoop (fun m s' => ∃ γ' H' L', Stp (ownA env) γ γ' s s' ∧ HRel D γ' H' s'.heap ∧ FRel D γ' env c.slots s'.heap L' ∧
    whileGo (fun L' H' K => (wp2 Φ it).T L' H' K (fun x => X x L')) (fun L' H' K => wpSs Φ ib L' H' K X) m L' H' Q) ?_ n ⟨γ, H, L, Stp.refl, R, fr, w⟩)
  rintro m s' ⟨γ', H', L', st, R', fr', w⟩
  cases m with
  | zero => exact w.elim
  | succ m =>
    refine wpAny_mono (ht env A γ' H' s' L' _ _ hE hA R' fr'.l w) (fun v s1 p => ?_) fun _ _ x => x.no.elim
    obtain ⟨γ1, H1, st1, R1, q⟩ := p
    have st01 : Stp (ownA env) γ γ1 s s1 := st.transF R' st1.weak fr'.alive
    have fr1 := fr'.stp R' st1
    cases v with
    | true =>
      refine wpAny_mono (hb env A γ1 H1 s1 L' _ X hE hA R1 fr1 q) (fun fl s2 p => ?_) fun _ _ x => x.elim
      obtain ⟨γ2, H2, L2, F, st2, R2, fr2, hf, q2⟩ := p
      have st02 := st01.transF R1 st2 fr1.alive
      cases fl <;> cases F <;> simp only [FlRep] at hf
      · exact ⟨m, Nat.lt_succ_self _, γ2, H2, L2, st02, R2, fr2, q2⟩
      · exact ⟨γ2, H2, L2, .next, st02, R2, fr2, trivial, q2⟩
      · exact ⟨m, Nat.lt_succ_self _, γ2, H2, L2, st02, R2, fr2, q2⟩
      · exact ⟨γ2, H2, L2, .ret _, st02, R2, fr2, hf, q2⟩
    | false => exact wpAny_execs_nil ⟨γ1, H1, L', .next, st01, R1, fr1, trivial, q⟩

theorem s_for {n : Nat} {x : Str} {px pos : Pos} {iter : Expr} {b : List Stmt} {kk : SrcK} {ss : List IE} {ib : List IS} {i : Nat} (g : GOk D c.G) (so : SlotsOk c) (ih : ∀ e ie, compE n c e = some ie → SE D Φ k c e ie) (hs : slotV c x = some i)
    (hsrc : compSrc (compE n c) c iter = some (kk, ss)) (hb : SSs D Φ k c b ib) : SS D Φ k c (.For (.Name x px) iter b [] pos) (.for [i] kk ss ib) := by
  intro env A γ H s L Q X hE hA R fr w
  refine wpAny_For (wpAny_mono (src_ok (K := fun l st H1 => forGo (fun L' H' K => wpSs Φ ib L' H' K X) st [i] l L H1 Q) g ih hsrc hE hA R fr.l w) (fun xv s1 h1 => wpAny_mono h1 (fun it s2 h2 => ?_) fun _ _ x => x.no.elim) fun _ _ x => x.no.elim) (noSetIter hsrc env)
  obtain ⟨γ2, H2, I, fp, l, st, Inv, rfl, stp2, R2, itr, iv, fps, hI0, hst, hlen, w2⟩ := h2
  have fr2 := fr.stp R stp2
  have IB := base_none R hI0
  have fpo : ∀ b ∈ fp, b ∉ ownA env := fun b hb hm => by
    rcases (fps b hb).2.2 with q | ⟨ws, q⟩
    · subst q; obtain ⟨o, e⟩ := fr.alive _ hm; rw [hI0] at e; cases e
    · exact (fr2.own b hm).2.2.2 ws q
  refine codeAny_forLoop (fun m s' => ∃ j γ' H' L', m = l.length - j ∧ j ≤ l.length ∧ Stp (ownA env) γ γ' s s' ∧ HRel D γ' H' s'.heap ∧ FRel D γ' env c.slots s'.heap L' ∧ Inv γ' j s'.heap ∧ st H' ∧ (∀ b ∈ fp, b ∉ γ' ∧ ∃ o, s'.heap.get? b = some o) ∧
    forGo (fun L' H' K => wpSs Φ ib L' H' K X) st [i] (l.drop j) L' H' Q) ?_ l.length ⟨0, γ2, H2, L, rfl, Nat.zero_le _, stp2.weak, R2, fr2, iv, hst, fun b hb => ⟨(fps b hb).1, (fps b hb).2.1⟩, w2⟩
  rintro m s' ⟨j, γ', H', L', rfl, hj, st', R', fr', iv', hst', fp', w'⟩
  have hIg : I ∉ γ' := (fp' I itr.mem).1
  have nt := fun ws => itr.notTup γ' j s'.heap ws iv'
  have hIo : I ∉ ownA env := fpo I itr.mem
  have change : ∀ {h1 : Heap} {tk : Nat}, (∀ b o, b ≠ I → s'.heap.get? b = some o → h1.get? b = some o) → Stp (ownA env) γ γ' s { s' with heap := h1, toks := tk } ∧ HRel D γ' H' h1 ∧ FRel D γ' env c.slots h1 L' := by
    intro h1 tk hk
    have tt : ∀ a ws, TupAt s'.heap a ws → TupAt h1 a ws := fun a ws q => tupAt_but hk nt q
    refine ⟨⟨?_, fun b o hb hw e => hk b o (by rintro rfl; rw [hI0] at e; cases e) (st'.keep b o hb hw e), st'.ext⟩, R'.but hk hIg IB nt, ⟨⟨?_, ?_, fr'.l.nin⟩, ?_, fr'.apart, fr'.above⟩⟩
    · obtain ⟨h4, t4, e4⟩ := st'.same
      rw [e4]; exact ⟨_, _, rfl⟩
    · obtain ⟨m2, hn2, f2⟩ := fr'.l.ns
      refine ⟨m2, hn2.at' fun o e => hk _ o (fun q => hIo (q ▸ List.mem_cons_self)) e, fun z j V h1 h2 h3 => ?_⟩
      obtain ⟨v, e1, e2⟩ := f2 z j V h1 h2 h3
      exact ⟨v, e1, Rep.mono ⟨[], by simp⟩ tt e2⟩
    · intro z hz
      obtain ⟨ca, u, e1, ⟨o, eo, ed⟩, e3, e4⟩ := fr'.l.cel z hz
      refine ⟨ca, u, e1, ⟨o, hk _ _ (fun q => hIo (q ▸ lookup_cell_mem e1)) eo, ed⟩, e3, fun j V h1 h2 => ?_⟩
      obtain ⟨v, e5, e6⟩ := e4 j V h1 h2
      exact ⟨v, e5, Rep.mono ⟨[], by simp⟩ tt e6⟩
    · intro a ha
      obtain ⟨a1, a2, ⟨o, e⟩, a3⟩ := fr'.own a ha
      have e' := hk a o (fun q => hIo (q ▸ ha)) e
      exact ⟨a1, a2, ⟨o, e'⟩, notTup_same e e' a3⟩
  by_cases hlt : j < l.length
  · have hW : l[j]? = some l[j] := by simp [hlt]
    rw [List.drop_eq_getElem_cons hlt] at w'
    obtain ⟨L1, hb1, w'⟩ := oK_elim w'
    simp only [bindVars, Option.some.injEq] at hb1
    subst hb1
    refine itr.next γ' H' s' j _ _ _ hW R' hIg hst' iv' fun v h1 tk1 hI1 hk1 iv1 rv1 => ?_
    obtain ⟨stc, Rc, frc⟩ := change (tk := tk1) hk1
    show wpAny D.M A (assign (.Name x px) env v) _ _ _
    refine wpAny_assign_Name (wpAny_mono (store_ok (s := { s' with heap := h1, toks := tk1 }) hE so Rc frc hs rv1) (fun _ s3 p => ?_) fun _ _ x => x)
    obtain ⟨st3, R3, fr3⟩ := p
    have stc3 : Stp (ownA env) γ γ' s s3 := stc.transF (s1 := { s' with heap := h1, toks := tk1 }) Rc st3 (FRel.alive (s := { s' with heap := h1, toks := tk1 }) frc)
    have tt3 : ∀ a ws, TupAt h1 a ws → TupAt s3.heap a ws := fun a ws q => TupAt.stp (s := { s' with heap := h1, toks := tk1 }) Rc st3 (fun x hx => (frc.own x hx).2.2.2) q
    have fp1 : ∀ b ∈ fp, b ∉ γ' ∧ ∃ o, h1.get? b = some o := fun b hb => by
      refine ⟨(fp' b hb).1, ?_⟩
      by_cases hbI : b = I
      · subst hbI; exact hI1
      · obtain ⟨o, e⟩ := (fp' b hb).2; exact ⟨o, hk1 _ _ hbI e⟩
    have fp3 : ∀ b ∈ fp, b ∉ γ' ∧ ∃ o, s3.heap.get? b = some o := fun b hb => by
      obtain ⟨a, o, e⟩ := fp1 b hb
      exact ⟨a, o, st3.keep b o a (fpo b hb) e⟩
    have iv3 : Inv γ' (j + 1) s3.heap := itr.frame γ' γ' (j + 1) h1 s3.heap iv1 ⟨[], by simp⟩ (fun b hb o e => st3.keep b o (fp1 b hb).1 (fpo b hb) e) tt3
    refine wpAny_mono (hb env A γ' H' s3 _ _ X hE hA R3 fr3 w') (fun fl s4 p => ?_) fun _ _ x => x.elim
    obtain ⟨γ4, H4, L4, F, st4, R4, fr4, hf, q4⟩ := p
    have stc4 := stc3.transF R3 st4 fr3.alive
    have ext4 : ∃ δ, γ4 = γ' ++ δ := let ⟨δ, e, _⟩ := st4.ext; ⟨δ, e⟩
    have tt4 : ∀ a ws, TupAt s3.heap a ws → TupAt s4.heap a ws := fun a ws q => TupAt.stp R3 st4 (fun x hx => (fr3.own x hx).2.2.2) q
    have go : st H4 ∧ forGo (fun L' H' K => wpSs Φ ib L' H' K X) st [i] (l.drop (j + 1)) L4 H4 Q → ∃ m, m < l.length - j ∧ ∃ j γ' H' L', m = l.length - j ∧ j ≤ l.length ∧ Stp (ownA env) γ γ' s s4 ∧ HRel D γ' H' s4.heap ∧ FRel D γ' env c.slots s4.heap L' ∧ Inv γ' j s4.heap ∧ st H' ∧ (∀ b ∈ fp, b ∉ γ' ∧ ∃ o, s4.heap.get? b = some o) ∧
        forGo (fun L' H' K => wpSs Φ ib L' H' K X) st [i] (l.drop j) L' H' Q := fun q => by
      refine ⟨l.length - (j + 1), by omega, j + 1, γ4, H4, L4, rfl, hlt, stc4, R4, fr4, ?_, q.1, ?_, q.2⟩
      · exact itr.frame γ' γ4 (j + 1) s3.heap s4.heap iv3 ext4 (fun b hb o e => st4.keep b o (fp3 b hb).1 (fpo b hb) e) tt4
      · intro b hb
        obtain ⟨a, o, e⟩ := fp3 b hb
        have e' := st4.keep b o a (fpo b hb) e
        refine ⟨?_, o, e'⟩
        obtain ⟨δ, ed, fd⟩ := st4.ext
        subst ed
        intro q
        rcases List.mem_append.mp q with q | q
        · exact a q
        · rw [fd b q] at e; cases e
    cases fl <;> cases F <;> simp only [FlRep] at hf
    · exact go q4
    · exact ⟨γ4, H4, L4, .next, stc4, R4, fr4, trivial, q4⟩
    · exact go q4
    · exact ⟨γ4, H4, L4, .ret _, stc4, R4, fr4, hf, q4⟩
  · have hin : j = l.length := by omega
    subst hin
    rw [List.drop_length] at w'
    refine itr.done γ' H' s' _ _ R' hst' iv' fun h1 tk1 hk1 => ?_
    obtain ⟨stc, Rc, frc⟩ := change (tk := tk1) hk1
    exact wpAny_execs_nil ⟨γ', H', L', .next, stc, Rc, frc, trivial, w'⟩
end
end Mine

set_option autoImplicit false
/- Statements together; a call of a def. -/
namespace Mine
open PySem PyProof.Rows

section
variable {D : Wd} {Φ : Orc} {k : Nat}

theorem noSwap {e : Expr} {n : Nat} {c : CC} {ie : IE} (h : compE n c e = some ie) (hl : ∀ a b d f, e ≠ .ListComp a b d f) (t : Option Expr) (l : Nat) (env : Env) : swapsWith e t l env = pure false := by
  cases e <;> first | rfl | exact absurd rfl (hl _ _ _ _) | (cases n <;> exact nomatch (show (none : Option IE) = some ie from h))

theorem s_assign_any (hO : OrcOk D k Φ) {n : Nat} {c : CC} (g : GOk D c.G) (so : SlotsOk c) {x : Str} {px pos : Pos} {e : Expr} {i : Nat} {ie : IE} (hz : isZipC e = false) (h1 : slotV c x = some i) (h2 : compE n c e = some ie) : SS D Φ k c (.Assign [.Name x px] e pos) (.assign i ie) := by
  by_cases hl : ∃ a b d f, e = .ListComp a b d f
  · obtain ⟨elt, gens, scope, pos', rfl⟩ := hl
    cases n with
    | zero => cases h2
    | succ n =>
      rcases comp_inv h2 with ⟨y, py, iter, ifs, kk, ss, ielt, iifs, rfl, ok, e1, e2, e3, rfl⟩ | hzz
      · exact s_assign_comp g so (fun c e ie g h => soundE hO n c e ie g h) ok e1 e2 e3 (noSetIter e1) h1
      · unfold zipE at hzz
        have hz' : (zipPat elt gens).isSome = false := hz
        cases hp : zipPat elt gens with
        | none => rw [hp] at hzz; cases hzz
        | some p => rw [hp] at hz'; cases hz'
  · exact s_assign so (soundE hO n c e ie g h2).1 h1 (fun env _ => noSwap h2 (fun a b d f q => hl ⟨a, b, d, f, q⟩) _ _ env)

theorem soundS (hO : OrcOk D k Φ) : ∀ (n : Nat) (c : CC) (st : Stmt) (is : IS), GOk D c.G → SlotsOk c → compS n c st = some is → SS D Φ k c st is := by
  intro n
  induction n with
  | zero => intro c st is g so h; cases h
  | succ n ih =>
    intro c st is g so h
    have ihE : ∀ e ie, compE n c e = some ie → Both D Φ k c e ie := fun e ie h => soundE hO n c e ie g h
    have ihS := sss_of (f := compS n c) (fun st is h => ih c st is g so h)
    cases st with
    | Expr e p =>
      obtain ⟨hc, h⟩ := onlyIf_some h
      obtain ⟨a, ha, rfl⟩ := Option.map_eq_some_iff.mp h
      exact s_expr (ihE _ _ ha).1 (by simpa using hc)
    | Assign ts e p =>
      cases ts with
      | nil => exact nomatch (show (none : Option IS) = some is from h)
      | cons t ts =>
        cases ts with
        | cons t2 ts => cases t <;> exact nomatch (show (none : Option IS) = some is from h)
        | nil =>
          cases t with
          | Name x px =>
            obtain ⟨hz, h⟩ := onlyIf_some h
            obtain ⟨a, b, h1, h2, rfl⟩ := oTwo_some h; exact s_assign_any hO g so (by simpa using hz) h1 h2
          | Subscript o i p' =>
            obtain ⟨hc, h⟩ := onlyIf_some h
            obtain ⟨a, b, d, h1, h2, h3, rfl⟩ := oThree_some h
            exact s_set (ihE _ _ h1).1 (ihE _ _ h2).1 (ihE _ _ h3).1 (fun env => noSwap h1 (fun a b d f q => by subst q; simp [isComp] at hc) _ _ env)
          | _ => exact nomatch (show (none : Option IS) = some is from h)
    | Return e p =>
      cases e with
      | none =>
        cases (show some IS.retNone = some is from h)
        intro env A γ H s L Q X hE hA R fr w
        exact wpAny_Return_none ⟨γ, H, L, .ret .none, Stp.refl, R, fr, by simp only [FlRep, Rep], w⟩
      | some e => obtain ⟨a, ha, rfl⟩ := Option.map_eq_some_iff.mp h; exact s_ret (ihE _ _ ha).1
    | If t a b p => obtain ⟨t, a, b, h1, h2, h3, rfl⟩ := oThree_some h; exact s_if (ihE _ _ h1).2 (ihS _ _ h2) (ihS _ _ h3)
    | While t b e p =>
      cases e with
      | nil => obtain ⟨t, b, h1, h2, rfl⟩ := oTwo_some h; exact s_while (ihE _ _ h1).2 (ihS _ _ h2)
      | cons e es => exact nomatch (show (none : Option IS) = some is from h)
    | For t iter b e p =>
      cases e with
      | cons e es => cases t <;> exact nomatch (show (none : Option IS) = some is from h)
      | nil =>
        cases t with
        | Name x px => obtain ⟨i, ks, b, h1, h2, h3, rfl⟩ := oThree_some h; exact s_for g so (fun e ie h => (ihE e ie h).1) h1 h2 (ihS _ _ h3)
        | _ => exact nomatch (show (none : Option IS) = some is from h)
    | Pass p =>
      cases (show some IS.pass = some is from h)
      intro env A γ H s L Q X hE hA R fr w
      exact wpAny_Pass ⟨γ, H, L, .next, Stp.refl, R, fr, trivial, w⟩
    | Break p =>
      cases (show some IS.brk = some is from h)
      intro env A γ H s L Q X hE hA R fr w
      exact wpAny_Break ⟨γ, H, L, .brk, Stp.refl, R, fr, trivial, w⟩
    | Continue p =>
      cases (show some IS.cont = some is from h)
      intro env A γ H s L Q X hE hA R fr w
      exact wpAny_Continue ⟨γ, H, L, .cont, Stp.refl, R, fr, trivial, w⟩
    | _ => exact nomatch (show (none : Option IS) = some is from h)

theorem slotsGo_lookup : ∀ (names : List Str) (k : Nat) (x : Str) (i : Nat), (slotsGo names k).lookup x = some i → ∃ j, i = k + j ∧ names[j]? = some x
  | [], _, _, _, h => by simp [slotsGo] at h
  | y :: r, k, x, i, h => by
    simp only [slotsGo, List.lookup_cons] at h
    cases hxy : x == y with
    | true =>
      rw [hxy] at h
      simp only [Option.some.injEq] at h
      exact ⟨0, by omega, by simp; exact (by simpa using hxy : x = y).symm⟩
    | false =>
      rw [hxy] at h
      obtain ⟨j, e1, e2⟩ := slotsGo_lookup r (k + 1) x i h
      exact ⟨j + 1, by omega, by simpa using e2⟩

theorem bindL_spec {kindOf : Str → Option NameKind} : ∀ (binds : List (Str × Value)) (m : Str → Option Value) (x : Str), kindOf x = some .local → (binds.map (·.1)).Nodup → bindL kindOf binds m x = (binds.lookup x).or (m x)
  | [], m, x, _, _ => by simp [bindL]
  | (n, v) :: r, m, x, hx, hn => by
    simp only [List.map_cons, List.nodup_cons] at hn
    rw [bindL, bindL_spec r _ x hx hn.2, List.lookup_cons]
    cases hxn : x == n with
    | true =>
      have : x = n := by simpa using hxn
      subst this
      have hr : r.lookup x = none := by
        rw [List.lookup_eq_none_iff]
        intro p hp
        have : x ≠ p.1 := fun q => hn.1 (q ▸ List.mem_map_of_mem hp)
        simpa using this
      simp [hr, hx]
    | false =>
      have hne : x ≠ n := by simpa using hxn
      congr 1
      split
      · simp [hne]
      · rfl
theorem bindC_spec {kindOf : Str → Option NameKind} : ∀ (binds : List (Str × Value)) (m : Str → Option Value) (x : Str), kindOf x ≠ some .local → (binds.map (·.1)).Nodup → bindC kindOf binds m x = (binds.lookup x).or (m x)
  | [], m, x, _, _ => by simp [bindC]
  | (n, v) :: r, m, x, hx, hn => by
    simp only [List.map_cons, List.nodup_cons] at hn
    rw [bindC, bindC_spec r _ x hx hn.2, List.lookup_cons]
    cases hxn : x == n with
    | true =>
      have : x = n := by simpa using hxn
      subst this
      have hr : r.lookup x = none := by
        rw [List.lookup_eq_none_iff]
        intro p hp
        have : x ≠ p.1 := fun q => hn.1 (q ▸ List.mem_map_of_mem hp)
        simpa using this
      simp [hr, hx]
    | false =>
      have hne : x ≠ n := by simpa using hxn
      congr 1
      split
      · rfl
      · simp [hne]

theorem zip_lookup : ∀ (ps : List Str) (vals : List Value) (i : Nat) (x : Str) (v : Value), ps.Nodup → ps[i]? = some x → vals[i]? = some v → (ps.zip vals).lookup x = some v
  | p :: ps, [], i, x, v, _, _, h => by simp at h
  | p :: ps, w :: vals, 0, x, v, hn, h1, h2 => by
    simp at h1 h2; subst h1; subst h2; simp [List.lookup_cons]
  | p :: ps, w :: vals, i + 1, x, v, hn, h1, h2 => by
    simp only [List.nodup_cons] at hn
    simp at h1 h2
    have hne : (x == p) = false := by
      have : x ≠ p := fun q => hn.1 (q ▸ List.mem_of_getElem? h1)
      simpa using this
    rw [List.zip_cons_cons, List.lookup_cons, hne]
    exact zip_lookup ps vals i x v hn.2 h1 h2
  | [], _, _, _, _, _, h, _ => by simp at h

theorem cellsFrom_names : ∀ (names : List (Str × NameKind)) (n : Nat) (acc : List (Str × Addr)) (x : Str), x ∈ (cellsFrom n names acc).map (·.1) → x ∈ acc.map (·.1) ∨ (x, NameKind.cell) ∈ names
  | [], _, _, _, h => .inl h
  | (y, kd) :: r, n, acc, x, h => by
    unfold cellsFrom at h
    split at h
    · rename_i hk
      rcases cellsFrom_names r _ _ x h with q | q
      · simp only [List.map_cons, List.mem_cons] at q
        rcases q with q | q
        · subst q
          have : kd = .cell := by simpa using hk
          subst this
          exact .inr List.mem_cons_self
        · exact .inl q
      · exact .inr (List.mem_cons_of_mem _ q)
    · rcases cellsFrom_names r _ _ x h with q | q
      · exact .inl q
      · exact .inr (List.mem_cons_of_mem _ q)
theorem cellsFrom_nodup : ∀ (names : List (Str × NameKind)) (n : Nat) (acc : List (Str × Addr)), (names.map (·.1)).Nodup → (acc.map (·.1)).Nodup → (∀ x ∈ acc.map (·.1), x ∉ names.map (·.1)) → ((cellsFrom n names acc).map (·.1)).Nodup
  | [], _, _, _, h, _ => h
  | (y, kd) :: r, n, acc, hn, ha, hd => by
    simp only [List.map_cons, List.nodup_cons] at hn
    unfold cellsFrom
    split
    · refine cellsFrom_nodup r _ _ hn.2 ?_ ?_
      · simp only [List.map_cons, List.nodup_cons]
        exact ⟨fun q => hd y q (by simp), ha⟩
      · intro x hx
        simp only [List.map_cons, List.mem_cons] at hx
        rcases hx with q | q
        · subst q; exact hn.1
        · exact fun q' => hd x q (by simp at q' ⊢; exact .inr q')
    · exact cellsFrom_nodup r _ _ hn.2 ha (fun x hx q' => hd x hx (by simp at q' ⊢; exact .inr q'))
theorem lookup_of_nodup : ∀ {l : List (Str × Addr)} {n : Str} {a : Addr}, (l.map (·.1)).Nodup → (n, a) ∈ l → l.lookup n = some a
  | (m, b) :: r, n, a, hn, h => by
    simp only [List.map_cons, List.nodup_cons] at hn
    rw [List.lookup_cons]
    rcases List.mem_cons.mp h with q | q
    · cases q; simp
    · have : (n == m) = false := by
        have : n ≠ m := fun e => hn.1 (e ▸ List.mem_map_of_mem q)
        simpa using this
      rw [this]
      exact lookup_of_nodup hn.2 q

/- what is known of a def of the text -/
structure FnOk (D : Wd) (G : List (Str × V)) (x : Str) (f : Fn) : Prop where
  at' : ∃ a o name params body scope pm cd doc ps, D.mg x = some (.ref a) ∧ D.hB.get? a = some o ∧ o.data = .func (Calls.docDef name params body scope pm cd doc) ∧ D.hB.CodeRec cd name ∧
    compFn G ps body scope = some f ∧ (∀ vals : List Value, vals.length = ps.length → bindArgs (Calls.docDef name params body scope pm cd doc) ⟨vals, []⟩ = pure (ps.zip vals)) ∧
    ps.Nodup ∧ (scope.names.map (·.1)).Nodup ∧ (∀ p ∈ ps, scope.names.lookup p = some .local ∨ scope.names.lookup p = some .cell) ∧ scope.isCoroutine = false ∧ scope.isGenerator = false ∧ scope.kind = .function

theorem fn_ok {G : List (Str × V)} (g : GOk D G) (hO : OrcOk D k Φ) {x : Str} {f : Fn} (fo : FnOk D G x f) : ∀ vs H Q X, wpFn Φ f vs H Q X → ∀ A γ s vals a, AOk (k + 1) A → HRel D γ H s.heap → Reps D γ s.heap vals vs → D.mg x = some (.ref a) →
    (∃ o fd, D.hB.get? a = some o ∧ o.data = .func fd) ∧ wpAny D.M A (call (.ref a) vals) (PostV D γ s Q) (PostX D γ s X) s := by
  intro vs H Q X w A γ s vals a hA R rv hxa
  obtain ⟨a', o, name, params, body, scope, pm, cd, doc, ps, hx, ho, hd, hcd, hf, hb, hps, hnn, hk, hco, hgen, hkind⟩ := fo.at'
  rw [hxa] at hx; cases hx
  refine ⟨⟨o, _, ho, hd⟩, ?_⟩
  unfold compFn at hf
  simp only [Option.map_eq_some_iff] at hf
  obtain ⟨ib, hib, rfl⟩ := hf
  obtain ⟨hlen, w⟩ := w
  simp only at hlen
  have hvl : vals.length = ps.length := by rw [rv.length, hlen]
  have hz : (ps.zip vals).map (·.1) = ps := by rw [List.map_fst_zip]; omega
  have hzn : ((ps.zip vals).map (·.1)).Nodup := by rw [hz]; exact hps
  have kinds : ∀ y ∈ ps.zip vals, scope.names.lookup y.1 = some .local ∨ (scope.names.lookup y.1 = some .cell ∧ ((cellsFrom (s.heap.objs.size + 1) scope.names []).lookup y.1).isSome = true) := fun y hy => by
    have : y.1 ∈ ps := by rw [← hz]; exact List.mem_map_of_mem hy
    rcases hk y.1 this with q | q
    · exact .inl q
    · exact .inr ⟨q, PySem.W.cellsFrom_some _ _ _ (.inl q)⟩
  refine wpAny_call (codeAny_call_cells (fd := Calls.docDef name params body scope pm cd doc) (body := body) (binds := ps.zip vals) (Nat.lt_of_lt_of_le (Nat.lt_of_le_of_lt (Nat.le_add_right _ _) hA.depth) (by decide)) (R.base _ _ ho) hd (g.lim.keeps R.base) (hcd.keeps R.base) rfl (hb vals hvl) rfl kinds (fun s1 ic => ?_) hco hgen hkind)
  generalize henv : callEnvC (Calls.docDef name params body scope pm cd doc) s.heap.objs.size a = env at ic ⊢
  have hko : ∀ y, env.kindOf y = scope.names.lookup y := fun y => by subst henv; rfl
  have hloc : env.locals = s.heap.objs.size := by subst henv; rfl
  have hcells : env.cells = cellsFrom (s.heap.objs.size + 1) scope.names [] := by subst henv; rfl
  let c : CC := { G, scope, slots := slotsGo (ownNames ps scope) 0, nxt := (ownNames ps scope).length }
  have hE : EnvOk c env := ⟨by subst henv; rfl, hkind, by subst henv; rfl, by subst henv; rfl⟩
  have so : SlotsOk c := ⟨fun y z i h1 h2 => by
    obtain ⟨j, e1, e2⟩ := slotsGo_lookup _ _ _ _ h1
    obtain ⟨j', e1', e2'⟩ := slotsGo_lookup _ _ _ _ h2
    have : j = j' := by omega
    subst this
    rw [e2] at e2'; cases e2'; rfl⟩
  have new : ∀ b, s.heap.objs.size ≤ b → b ∉ γ ∧ D.hB.get? b = none := fun b hb => by
    have e : s.heap.get? b = none := by
      cases q : s.heap.get? b with
      | none => rfl
      | some o => exact absurd (Heap.lt_size q) (Nat.not_lt.mpr hb)
    exact ⟨(fun hm => by obtain ⟨o, e', _⟩ := R.alive hm; rw [e] at e'; cases e'), base_none R e⟩
  have keep := ic.toInCall.keep
  have tt : ∀ a ws, TupAt s.heap a ws → TupAt s1.heap a ws := fun _ _ q => tupAt_grow keep q
  have cn : ((env.cells).map (·.1)).Nodup := by rw [hcells]; exact cellsFrom_nodup _ _ _ hnn (by simp) (by simp)
  have ini : ∀ (y : Str) (i : Nat) (V : V), c.slots.lookup y = some i → (initL { names := (ownNames ps scope).length + 3, params := ps.length, body := ib } vs)[i]? = some (some V) → ∃ v, (ps.zip vals).lookup y = some v ∧ Rep D γ s1.heap v V := by
    intro y i V hs hL
    obtain ⟨j, e1, e2⟩ := slotsGo_lookup _ _ _ _ hs
    have hij : i = j := by omega
    subst hij
    unfold initL at hL
    have hi : i < vs.length := by
      apply Classical.byContradiction
      intro hn
      rw [List.getElem?_append_right (by simp; omega), List.getElem?_replicate] at hL
      split at hL <;> cases hL
    rw [List.getElem?_append_left (by simpa using hi), List.getElem?_map] at hL
    simp only [Option.map_eq_some_iff, Option.some.injEq, exists_eq_right] at hL
    obtain ⟨v, hv, rvv⟩ := rv.get hL
    have hpi : ps[i]? = some y := by
      unfold ownNames at e2
      rw [List.getElem?_append_left (by omega)] at e2
      exact e2
    exact ⟨v, zip_lookup ps vals i y v hps hpi hv, Rep.mono ⟨[], by simp⟩ tt rvv⟩
  have fr : FRel D γ env c.slots s1.heap (initL { names := (ownNames ps scope).length + 3, params := ps.length, body := ib } vs) := by
    refine ⟨⟨⟨_, ic.toInCall.ns, ?_⟩, ?_, ?_⟩, ?_, ic.apart, ?_⟩
    · intro y i V hy hs hL
      obtain ⟨v, hv, r⟩ := ini y i V hs hL
      exact ⟨v, by rw [bindL_spec _ _ _ hy hzn, hv]; rfl, r⟩
    · intro y hy
      have hc' : (env.cells.lookup y).isSome = true := by rw [hcells]; exact PySem.W.cellsFrom_some _ _ _ (.inl (by rw [← hko]; exact hy))
      obtain ⟨ca, hca⟩ := Option.isSome_iff_exists.mp hc'
      have habove := ic.above y ca (mem_of_lookup hca)
      rw [hloc] at habove
      refine ⟨ca, _, hca, ic.cell y ca hca, (new ca (Nat.le_of_lt habove)).1, fun i V hs hL => ?_⟩
      obtain ⟨v, hv, r⟩ := ini y i V hs hL
      exact ⟨v, by rw [bindC_spec _ _ _ (by rw [hy]; intro q; cases q) hzn, hv]; rfl, r⟩
    · exact (new _ (by rw [hloc]; exact Nat.le_refl _)).1
    · intro b hb
      rcases List.mem_cons.mp hb with q | q
      · subst q
        have n1 := new env.locals (by rw [hloc]; exact Nat.le_refl _)
        exact ⟨n1.1, n1.2, (let ⟨o, _, _, e, _⟩ := ic.toInCall.ns; ⟨o, e⟩), notTup_dict ic.toInCall.ns⟩
      · obtain ⟨⟨y, ca⟩, hm, rfl⟩ := List.mem_map.mp q
        have habove := ic.above y ca hm
        rw [hloc] at habove
        have n1 := new ca (Nat.le_of_lt habove)
        have hcell := ic.cell y ca (lookup_of_nodup cn hm)
        exact ⟨n1.1, n1.2, (let ⟨o, e, _⟩ := hcell; ⟨o, e⟩), notTup_cell hcell⟩
    · intro p hp
      exact Nat.ne_of_gt (ic.above p.1 p.2 hp)
  have body_ok := sss_of (f := compS 40 c) (fun st is h => soundS hO 40 c st is g so h) body ib hib env (A.deeper env) γ H s1 _ _ _ hE (hA.deeper env) (R.grow keep) fr w
  refine wpAny_mono body_ok (fun fl s2 p => ?_) fun _ _ x => x.elim
  obtain ⟨γ2, H2, L2, F, st2, R2, fr2, hf2, q2⟩ := p
  have own0 : ∀ b ∈ ownA env, s.heap.get? b = none := fun b hb => by
    have hge : s.heap.objs.size ≤ b := by
      rcases List.mem_cons.mp hb with q | q
      · rw [q, hloc]; exact Nat.le_refl _
      · obtain ⟨⟨y, ca⟩, hm, rfl⟩ := List.mem_map.mp q
        have habove := ic.above y ca hm
        rw [hloc] at habove
        exact Nat.le_of_lt habove
    cases q : s.heap.get? b with
    | none => rfl
    | some o => exact absurd (Heap.lt_size q) (Nat.not_lt.mpr hge)
  have st0 : Stp [] γ γ2 s s2 := by
    refine ⟨?_, fun b o hb _ e => st2.keep b o hb (fun q => by rw [own0 b q] at e; cases e) (keep b o e), ?_⟩
    · obtain ⟨h1, t1, e1⟩ := ic.toInCall.same
      obtain ⟨h2, t2, e2⟩ := st2.same
      rw [e2, e1]; exact ⟨_, _, rfl⟩
    · obtain ⟨δ, e, f⟩ := st2.ext
      refine ⟨δ, e, fun b hb => ?_⟩
      cases q : s.heap.get? b with
      | none => rfl
      | some o => have := f b hb; rw [keep b o q] at this; cases this
  cases fl <;> cases F <;> simp only [FlRep] at hf2
  · exact ⟨γ2, .none, H2, st0, R2, by simp only [Rep], q2⟩
  · exact ⟨γ2, .none, H2, st0, R2, by simp only [Rep], q2⟩
  · exact ⟨γ2, .none, H2, st0, R2, by simp only [Rep], q2⟩
  · exact ⟨γ2, _, H2, st0, R2, hf2, q2⟩
end
end Mine

set_option autoImplicit false
/- From the text's top: what is known of each def. -/
namespace Mine
open PySem PyProof.Rows

theorem zip_lookup_some : ∀ (ps : List Str) (vals : List Value) (n : Str), vals.length = ps.length → n ∈ ps → ((ps.zip vals).lookup n).isSome = true
  | [], _, n, _, h => by cases h
  | p :: ps, [], n, e, _ => by simp at e
  | p :: ps, v :: vals, n, e, h => by
    simp only [List.zip_cons_cons, List.lookup_cons]
    split
    · rfl
    · rename_i q
      refine zip_lookup_some ps vals n (by simpa using e) ?_
      rcases List.mem_cons.mp h with q' | q'
      · subst q'; simp at q
      · exact q'

theorem zip_filterMap : ∀ (ps : List Str) (vals : List Value) (pre : List (Str × Value)), vals.length = ps.length → ps.Nodup → (∀ p ∈ ps, pre.lookup p = none) → ps.filterMap (fun n => ((pre ++ ps.zip vals).lookup n).map (n, ·)) = ps.zip vals
  | [], _, _, _, _, _ => by simp
  | p :: ps, [], _, e, _, _ => by simp at e
  | p :: ps, v :: vals, pre, e, hn, hp => by
    have h1 : (pre ++ (p :: ps).zip (v :: vals)).lookup p = some v := by
      rw [List.lookup_append, hp p (by simp)]; simp
    simp only [List.filterMap_cons, h1, Option.map_some]
    simp only [List.zip_cons_cons, List.cons.injEq, true_and]
    have := zip_filterMap ps vals (pre ++ [(p, v)]) (by simpa using e) (List.nodup_cons.mp hn).2 (fun q hq => by
      rw [List.lookup_append, hp q (by simp [hq])]
      have : (q == p) = false := by
        have : q ≠ p := fun e => (List.nodup_cons.mp hn).1 (e ▸ hq)
        simpa using this
      simp [List.lookup_cons, this])
    simpa using this

theorem bind_simple {name : Str} {args : List Arg} {body : List Stmt} {scope : Scope} {pm cd doc : Value} {kd : List (Option Expr)} {vals : List Value} (hn : (args.map (·.arg)).Nodup) (hl : vals.length = (args.map (·.arg)).length) :
    bindArgs (Calls.docDef name ⟨[], args, none, [], kd, none, []⟩ body scope pm cd doc) ⟨vals, []⟩ = pure ((args.map (·.arg)).zip vals) := by
  unfold bindArgs
  simp only [Calls.docDef, seqItems?, notAStandIn, List.map_nil, List.nil_append, List.append_nil, Option.isNone_none]
  generalize args.map (·.arg) = ps at *
  have h1 : (ps.filter fun n => ((ps.zip vals).lookup n).isNone) = [] := by
    rw [List.filter_eq_nil_iff]
    intro n hm
    have := zip_lookup_some _ vals n hl hm
    simp only [Option.isNone_iff_eq_none]
    intro q; rw [q] at this; cases this
  have h2 := zip_filterMap _ vals [] hl hn (by simp)
  simp only [List.nil_append] at h2
  have h3 : ¬ vals.length > ps.length := by omega
  simp [h1, h2, h3]

/- everything about a def that can be looked at -/
noncomputable def strsNodup : List Str → Bool
  | [] => true
  | x :: r => !r.contains x && strsNodup r
theorem strsNodup_ok : ∀ {l : List Str}, strsNodup l = true → l.Nodup
  | [], _ => List.nodup_nil
  | x :: r, h => by
    simp only [strsNodup, Bool.and_eq_true, Bool.not_eq_true', List.contains_eq_mem, decide_eq_false_iff_not] at h
    exact List.nodup_cons.mpr ⟨h.1, strsNodup_ok h.2⟩

noncomputable def simpleArgs : Arguments → Option (List Str)
  | ⟨[], args, none, [], _, none, []⟩ => some (args.map (·.arg))
  | _ => none

noncomputable def checkRec (G : List (Str × V)) (d : DefRec) : Option Fn :=
  match simpleArgs d.params with
  | some ps => if strsNodup ps && strsNodup (d.scope.names.map (·.1)) && (ps.all fun p => d.scope.names.lookup p == some .local || d.scope.names.lookup p == some .cell) && !d.scope.isCoroutine && !d.scope.isGenerator && d.scope.kind == .function then
      compFn G ps d.body d.scope else none
  | none => none

noncomputable def checkFn (G : List (Str × V)) (p : Program) (x : Str) : Option Fn :=
  match (recsOf p).find? (fun d => d.name == x) with
  | some d => checkRec G d
  | none => none

theorem fnOk_of_top {D : Wd} {G : List (Str × V)} {p : Program} {loose : List Str} {mean : ExcName → Option Value} (T : Top p loose mean D.mg D.mb D.hB) {x : Str} {f : Fn} (h : checkFn G p x = some f) : FnOk D G x f := by
  unfold checkFn at h
  split at h
  · rename_i d hd
    have hx : d.name = x := by have := List.find?_some hd; simpa using this
    have hm := List.mem_of_find?_eq_some hd
    obtain ⟨a, o, pm, cd, doc, h1, h2, h3, h4⟩ := T.fn d hm
    subst hx
    unfold checkRec at h
    split at h
    · rename_i ps hps
      split at h
      · rename_i hc
        simp only [Bool.and_eq_true, Bool.not_eq_true'] at hc
        obtain ⟨⟨⟨⟨⟨c1, c2⟩, c3⟩, c4⟩, c5⟩, c6⟩ := hc
        have hnd := strsNodup_ok c1
        refine ⟨⟨a, o, d.name, d.params, d.body, d.scope, pm, cd, doc, ps, h1, h2, h3, h4, h, ?_, hnd, strsNodup_ok c2, ?_, c4, c5, ?_⟩⟩
        · intro vals hl
          revert hps
          cases d.params with
          | mk po ar va ko kd kw df =>
            intro hps
            unfold simpleArgs at hps
            split at hps
            · rename_i heq
              cases heq
              cases hps
              exact bind_simple hnd hl
            · cases hps
        · intro q hq
          have := List.all_eq_true.mp c3 q hq
          simpa using this
        · revert c6; cases d.scope.kind <;> intro c6 <;> first | rfl | cases c6
      · cases h
    · cases h
  · cases h
end Mine

set_option autoImplicit false
/- The top of a law, and its end. -/
namespace Mine
open PySem PySem.W PyProof.Rows

noncomputable def isName : Stmt → Bool
  | .Assign [.Name x _] _ _ => x == ("__name__" : Str)
  | _ => false
noncomputable def viewOf (p : Program) : Program := { p with main := { p.main with body := p.main.body.filter fun st => !isName st } }
theorem noΦ_ok {D : Wd} : OrcOk D 0 noΦ := fun _ _ _ _ _ h => h.elim
theorem ext_ok {D : Wd} {G : List (Str × V)} {k : Nat} {Φ : Orc} {n : Str} {f : Fn} {C : List V → Hp → (V → Hp → Prop) → XL → Prop} (g : GOk D G) (hO : OrcOk D k Φ) (fo : FnOk D G n f)
    (h : ∀ vs H Q X, C vs H Q X → wpFn Φ f vs H Q X) : OrcOk D (k + 1) (ext n C Φ) := by
  intro x vs H Q X hx A γ s vals a hA R rv ha
  unfold ext at hx
  split at hx
  · rename_i e
    have e : x = n := by simpa using e
    subst e
    exact fn_ok g hO fo vs H Q X (h vs H Q X hx) A γ s vals a hA R rv ha
  · exact hO x vs H Q X hx A γ s vals a (hA.mono (by omega)) R rv ha

theorem ext_none {D : Wd} {k : Nat} {Φ : Orc} {n : Str} {C : List V → Hp → (V → Hp → Prop) → XL → Prop} (h : D.mg n = none) (hO : OrcOk D k Φ) : OrcOk D k (ext n C Φ) := by
  intro x vs H Q X hx A γ s vals a hA R rv ha
  unfold ext at hx
  split at hx
  · rename_i e
    have e : x = n := by simpa using e
    subst e
    rw [h] at ha; cases ha
  · exact hO x vs H Q X hx A γ s vals a hA R rv ha

theorem ints_get : ∀ {vs : List Value} {ns : List Int}, IntsAre vs ns → vs.length = ns.length ∧ ∀ (k : Nat) (i : Int), ns[k]? = some i → ∃ t, vs[k]? = some (.int i t)
  | _, _, .nil => ⟨rfl, fun k i h => by simp at h⟩
  | _, _, .cons n t r => by
    obtain ⟨h1, h2⟩ := ints_get r
    refine ⟨by simp [h1], fun k i h => ?_⟩
    cases k with
    | zero => simp at h; subst h; exact ⟨t, by simp⟩
    | succ k => simp at h; obtain ⟨u, hu⟩ := h2 k i h; exact ⟨u, by simpa using hu⟩

noncomputable def GVal (D : Wd) (x : Str) (W : V) : Prop := ∃ v, (D.mg x = some v ∨ (D.mg x = none ∧ D.mb x = some v)) ∧ ∀ γ, Rep D γ D.hB v W
noncomputable def GAll (D : Wd) : List (Str × V) → Prop
  | [] => True
  | p :: r => GVal D p.1 p.2 ∧ GAll D r
theorem gall_lookup {D : Wd} : ∀ {G : List (Str × V)}, GAll D G → ∀ (x : Str) (W : V), G.lookup x = some W → GVal D x W
  | [], _, x, W, h => by cases h
  | (y, U) :: r, g, x, W, h => by
    rw [List.lookup_cons] at h
    split at h
    · rename_i e
      have e : x = y := by simpa using e
      cases h; subst e; exact g.1
    · exact gall_lookup g.2 x W h
theorem gok {D : Wd} {G : List (Str × V)} {p : Program} {loose : List Str} {mean : ExcName → Option Value} (T : Top p loose mean D.mg D.mb D.hB) (g : GAll D G) : GOk D G :=
  ⟨T.g, T.b, fun x V h => gall_lookup g x V h, T.nolimit⟩
theorem gv_fn {D : Wd} {x : Str} {a : Addr} (h : D.mg x = some (.ref a)) : GVal D x (.fn x) :=
  ⟨_, .inl h, fun _ => by simp only [Rep]; exact ⟨a, rfl, h⟩⟩
theorem gv_int {D : Wd} {x : Str} {i : Int} {t : Tok} (h : D.mg x = some (.int i t)) : GVal D x (.int i) :=
  ⟨_, .inl h, fun _ => by simp only [Rep]; exact ⟨t, rfl⟩⟩
theorem gv_tup {D : Wd} {x : Str} {a : Addr} {vs : List Value} {n : Nat} {l : List V} (h : D.mg x = some (.ref a)) (e : D.hB.get? a = some { cls := .type "tuple", data := .seq vs.toArray n }) (hz : vs.length ≤ 2000000) (r : ∀ γ, Reps D γ D.hB vs l) : GVal D x (.tup l) :=
  ⟨_, .inl h, fun γ => by simp only [Rep]; exact ⟨a, vs, rfl, ⟨n, e, hz⟩, r γ⟩⟩
theorem gv_bi {D : Wd} {b : Bi} {x : Str} (h : D.mg x = none) (e : D.mb x = some (.builtin b.name)) : GVal D x (.bi b) :=
  ⟨_, .inr ⟨h, e⟩, fun _ => by simp only [Rep]⟩
theorem gv_ty {D : Wd} {b : Ty} {x : Str} (h : D.mg x = none) (e : D.mb x = some (.type b.name)) : GVal D x (.ty b) :=
  ⟨_, .inr ⟨h, e⟩, fun _ => by simp only [Rep]⟩
theorem reps_int {D : Wd} {γ : List Addr} {h : Heap} {i : Int} {t : Tok} {vs : List Value} {l : List V} (r : Reps D γ h vs l) : Reps D γ h (.int i t :: vs) (.int i :: l) := by
  simp only [Reps]; exact ⟨_, _, rfl, by simp only [Rep]; exact ⟨t, rfl⟩, r⟩
theorem reps_str {D : Wd} {γ : List Addr} {h : Heap} {x : Str} {t : Tok} {vs : List Value} {l : List V} (f : StrFine x) (r : Reps D γ h vs l) : Reps D γ h (.str x t :: vs) (.str x :: l) := by
  simp only [Reps]; exact ⟨_, _, rfl, by simp only [Rep]; exact ⟨t, rfl, f⟩, r⟩
theorem reps_nil {D : Wd} {γ : List Addr} {h : Heap} : Reps D γ h [] [] := by simp only [Reps]

theorem law_top {prog : Program} {w : World} {s₁ : Shared} {mg mb : Str → Option Value} {k : Nat} {Φ : Orc} {c : ClaimW} {cl : Str → Option Addr} {mean : ExcName → Option Value} {fa a : Addr} {vs : List Value} {ns : List Int} {args : List WData} {x : Str}
    (hO : OrcOk ⟨prog, w, s₁.heap, mg, mb⟩ k Φ) (hA : AOk k callerA) (hx : mg x = some (.ref fa)) (hΦ : Φ x [.scr ns] [] (fun V _ => V = .bool true) (fun _ _ => False))
    (hL : s₁.heap.IsList a vs.toArray) (hI : IntsAre vs ns) (hlen : ns.length ≤ 2000000) (hg : s₁.gens = #[]) (hr : ∀ cls, c.raises args cls = false) (hp : c.post args (.bool true) args = true) :
    wpAny (model prog w) callerA (call (.ref fa) [.ref a]) (fun v s' => GoodWG c cl mean args s₁ (.ok (.ret v)) s') (fun e s' => GoodWG c cl mean args s₁ (.error e) s') s₁ := by
  obtain ⟨h1, h2⟩ := ints_get hI
  have R : HRel ⟨prog, w, s₁.heap, mg, mb⟩ [] [] s₁.heap := ⟨rfl, List.nodup_nil, fun i a o e => by simp at e, fun a h => by simp at h, fun _ _ e => e⟩
  have rv : Reps ⟨prog, w, s₁.heap, mg, mb⟩ [] s₁.heap [.ref a] [.scr ns] := Reps.one (by simp only [Rep]; exact ⟨a, vs, rfl, hL, by omega, h1, h2⟩)
  refine wpAny_mono (hO x [.scr ns] [] _ _ hΦ callerA [] s₁ [.ref a] fa hA R rv hx).2 ?_ ?_
  · rintro v s' ⟨γ', V, H', st, _, r, rfl⟩
    simp only [Rep] at r; subst r
    obtain ⟨h', tk, rfl⟩ := st.same
    exact GoodW.toG ⟨.inl ⟨_, _, [], rfl, hr, ReadsW.bool true, hp, fun _ => ⟨List.nodup_nil, fun _ hm => (nomatch hm)⟩⟩, fun b o e => st.keep b o (by simp) (by simp) e, rfl, hg⟩
  · rintro e s' ⟨γ', H', x, _, _, _, h⟩
    exact h.elim
theorem caller_ok {k : Nat} (h : k ≤ 500) : AOk k callerA := ⟨rfl, by show 1 + claimMargin + k < 900; unfold claimMargin; omega, by show 4 + 4 * k < 9000; omega, rfl⟩
end Mine

set_option autoImplicit false
namespace Mine
open PySem

noncomputable def f_is_whole : Fn := { names := 4, params := 1, body := [
  (.ret (.and (.call (.bi .isinstance) [(.loc 0), (.lit (.ty .int))]) (.not (.call (.bi .isinstance) [(.loc 0), (.lit (.ty .bool))]))))] }

noncomputable def f_is_between : Fn := { names := 6, params := 3, body := [
  (.ret (.and (.call (.fn "is_whole") [(.loc 0)]) (.cmp2 (.loc 1) .LtE (.loc 0) .LtE (.loc 2))))] }

noncomputable def f_is_time : Fn := { names := 4, params := 1, body := [
  (.ret (.call (.fn "is_between") [(.loc 0), (.lit (.int 0)), (.bin .Sub (.lit (.int 1000000000000)) (.lit (.int 1)))]))] }

noncomputable def f_are_rising : Fn := { names := 8, params := 3, body := [
  (.ite (.or (.not (.call (.bi .isinstance) [(.loc 0), (.lit (.ty .tuple))])) (.not (.cmp2 (.lit (.int 1)) .LtE (.call (.bi .len) [(.loc 0)]) .LtE (.loc 1)))) [(.ret (.lit (.bool false)))] []),
  (.assign 3 (.neg (.lit (.int 1)))),
  (.for [4] .val [(.loc 0)] [(.ite (.not (.call (.fn "is_between") [(.loc 4), (.bin .Add (.loc 3) (.lit (.int 1))), (.loc 2)])) [(.ret (.lit (.bool false)))] []), (.assign 3 (.loc 4))]),
  (.ret (.lit (.bool true)))] }

noncomputable def f_is_plain : Fn := { names := 5, params := 1, body := [
  (.assign 1 (.sub (.loc 0) (.lit (.int 0)))),
  (.ite (.cmp (.loc 1) .Eq (.lit (.str "once"))) [(.ret (.and (.cmp (.call (.bi .len) [(.loc 0)]) .Eq (.lit (.int 3))) (.and (.call (.fn "is_time") [(.sub (.loc 0) (.lit (.int 1)))]) (.call (.fn "is_between") [(.sub (.loc 0) (.lit (.int 2))), (.lit (.int 1)), (.lit (.int 48))]))))] []),
  (.ite (.cmp (.call (.bi .len) [(.loc 0)]) .NotEq (.lit (.int 4))) [(.ret (.lit (.bool false)))] []),
  (.ite (.cmp (.loc 1) .Eq (.lit (.str "every"))) [(.ret (.and (.call (.fn "is_time") [(.sub (.loc 0) (.lit (.int 1)))]) (.and (.call (.fn "is_between") [(.sub (.loc 0) (.lit (.int 2))), (.lit (.int 1)), (.lit (.int 48))]) (.call (.fn "is_between") [(.sub (.loc 0) (.lit (.int 3))), (.lit (.int 1)), (.lit (.int 1000000))]))))] []),
  (.ite (.or (.not (.call (.fn "is_between") [(.sub (.loc 0) (.lit (.int 2))), (.lit (.int 0)), (.lit (.int 23))])) (.not (.call (.fn "is_between") [(.sub (.loc 0) (.lit (.int 3))), (.lit (.int 1)), (.lit (.int 48))]))) [(.ret (.lit (.bool false)))] []),
  (.ite (.cmp (.loc 1) .Eq (.lit (.str "week"))) [(.ret (.call (.fn "are_rising") [(.sub (.loc 0) (.lit (.int 1))), (.lit (.int 7)), (.lit (.int 6))]))] []),
  (.ret (.and (.cmp (.loc 1) .Eq (.lit (.str "month"))) (.and (.call (.fn "is_between") [(.sub (.loc 0) (.lit (.int 1))), (.neg (.lit (.int 31))), (.lit (.int 31))]) (.cmp (.sub (.loc 0) (.lit (.int 1))) .NotEq (.lit (.int 0))))))] }

noncomputable def f_is_rule : Fn := { names := 5, params := 1, body := [
  (.for [1] .range [(.lit (.int 8))] [(.ite (.or (.not (.call (.bi .isinstance) [(.loc 0), (.lit (.ty .tuple))])) (.or (.cmp (.call (.bi .len) [(.loc 0)]) .Eq (.lit (.int 0))) (.not (.call (.bi .isinstance) [(.sub (.loc 0) (.lit (.int 0))), (.lit (.ty .str))])))) [(.ret (.lit (.bool false)))] []), (.ite (.cmp (.sub (.loc 0) (.lit (.int 0))) .NotIn (.lit (.tup [(.str "from"), (.str "until"), (.str "also"), (.str "but")]))) [(.ret (.call (.fn "is_plain") [(.loc 0)]))] []), (.ite (.cmp (.call (.bi .len) [(.loc 0)]) .NotEq (.lit (.int 3))) [(.ret (.lit (.bool false)))] []), (.ite (.and (.cmp (.sub (.loc 0) (.lit (.int 0))) .Eq (.lit (.str "but"))) (.not (.call (.fn "are_rising") [(.sub (.loc 0) (.lit (.int 1))), (.lit (.int 20)), (.bin .Sub (.lit (.int 100000000000)) (.lit (.int 1)))]))) [(.ret (.lit (.bool false)))] []), (.ite (.and (.cmp (.sub (.loc 0) (.lit (.int 0))) .NotEq (.lit (.str "but"))) (.not (.call (.fn "is_time") [(.sub (.loc 0) (.lit (.int 1)))]))) [(.ret (.lit (.bool false)))] []), (.assign 0 (.sub (.loc 0) (.lit (.int 2))))]),
  (.ret (.lit (.bool false)))] }

noncomputable def f_l_time : Fn := { names := 4, params := 1, body := [
  (.ret (.sub (.lst [(.bin .Mod (.bin .FloorDiv (.loc 0) (.lit (.int 3))) (.lit (.int 200))), (.bin .Mod (.bin .FloorDiv (.loc 0) (.lit (.int 3))) (.bin .Pow (.lit (.int 10)) (.lit (.int 12)))), (.bin .Sub (.bin .Sub (.bin .Pow (.lit (.int 10)) (.lit (.int 12))) (.lit (.int 1))) (.bin .Mod (.bin .FloorDiv (.loc 0) (.lit (.int 3))) (.lit (.int 3))))]) (.bin .Mod (.loc 0) (.lit (.int 3)))))] }

noncomputable def f_l_wide_plain : Fn := { names := 7, params := 1, body := [
  (.assign 1 (.bin .Mod (.sub (.loc 0) (.lit (.int 0))) (.lit (.int 4)))),
  (.assign 2 (.bin .Add (.lit (.int 1)) (.bin .Mod (.bin .FloorDiv (.sub (.loc 0) (.lit (.int 0))) (.lit (.int 4))) (.lit (.int 48))))),
  (.ite (.cmp (.loc 1) .Eq (.lit (.int 0))) [(.ret (.tup [(.lit (.str "once")), (.call (.fn "_law_time") [(.sub (.loc 0) (.lit (.int 1)))]), (.loc 2)]))] []),
  (.ite (.cmp (.loc 1) .Eq (.lit (.int 1))) [(.ret (.tup [(.lit (.str "every")), (.call (.fn "_law_time") [(.sub (.loc 0) (.lit (.int 1)))]), (.loc 2), (.bin .Add (.lit (.int 1)) (.sub (.lst [(.bin .Mod (.bin .FloorDiv (.sub (.loc 0) (.lit (.int 2))) (.lit (.int 2))) (.lit (.int 30))), (.bin .Mod (.bin .FloorDiv (.sub (.loc 0) (.lit (.int 2))) (.lit (.int 2))) (.bin .Pow (.lit (.int 10)) (.lit (.int 6))))]) (.bin .Mod (.sub (.loc 0) (.lit (.int 2))) (.lit (.int 2)))))]))] []),
  (.ite (.cmp (.loc 1) .Eq (.lit (.int 2))) [(.ret (.tup [(.lit (.str "week")), (.call (.fn "_law_weekdays") [(.bin .Add (.lit (.int 1)) (.bin .Mod (.sub (.loc 0) (.lit (.int 2))) (.lit (.int 127))))]), (.bin .Mod (.sub (.loc 0) (.lit (.int 1))) (.lit (.int 24))), (.loc 2)]))] []),
  (.assign 3 (.bin .Sub (.bin .Mod (.sub (.loc 0) (.lit (.int 2))) (.lit (.int 62))) (.lit (.int 31)))),
  (.ret (.tup [(.lit (.str "month")), (.bin .Add (.loc 3) (.call (.ty .int) [(.cmp (.loc 3) .GtE (.lit (.int 0)))])), (.bin .Mod (.sub (.loc 0) (.lit (.int 1))) (.lit (.int 24))), (.loc 2)]))] }

noncomputable def f_l_wide_head : Fn := { names := 8, params := 2, body := [
  (.assign 2 (.sub (.lst [(.lit (.str "from")), (.lit (.str "until")), (.lit (.str "also")), (.lit (.str "but"))]) (.bin .Mod (.loc 0) (.lit (.int 4))))),
  (.ite (.cmp (.loc 2) .NotEq (.lit (.str "but"))) [(.ret (.tup [(.loc 2), (.call (.fn "_law_time") [(.bin .FloorDiv (.loc 0) (.lit (.int 4)))]), (.loc 1)]))] []),
  (.assign 3 (.bin .Add (.lit (.int 1)) (.bin .Mod (.bin .FloorDiv (.loc 0) (.lit (.int 4))) (.lit (.int 20))))),
  (.assign 4 (.sub (.lst [(.bin .Mod (.bin .FloorDiv (.loc 0) (.lit (.int 80))) (.lit (.int 100))), (.bin .Mod (.bin .FloorDiv (.loc 0) (.lit (.int 80))) (.bin .Sub (.bin .Pow (.lit (.int 10)) (.lit (.int 11))) (.lit (.int 200)))), (.bin .Sub (.bin .Pow (.lit (.int 10)) (.lit (.int 11))) (.bin .Mult (.loc 3) (.lit (.int 3))))]) (.bin .Mod (.bin .FloorDiv (.loc 0) (.lit (.int 7))) (.lit (.int 3))))),
  (.ret (.tup [(.loc 2), (.call (.ty .tuple) [(.comp (.bin .Add (.loc 4) (.bin .Mult (.loc 5) (.bin .Add (.lit (.int 1)) (.bin .Mod (.bin .FloorDiv (.loc 0) (.lit (.int 11))) (.lit (.int 3)))))) [5] .range [(.loc 3)] [])]), (.loc 1)]))] }

noncomputable def f_l_between : Fn := { names := 6, params := 3, body := [
  (.ret (.and (.call (.fn "_law_whole") [(.loc 0)]) (.cmp2 (.loc 1) .LtE (.loc 0) .LtE (.loc 2))))] }

noncomputable def f_l_good_days : Fn := { names := 6, params := 3, body := [
  (.ite (.or (.not (.call (.bi .isinstance) [(.loc 0), (.lit (.ty .tuple))])) (.not (.cmp2 (.lit (.int 1)) .LtE (.call (.bi .len) [(.loc 0)]) .LtE (.loc 2)))) [(.ret (.lit (.bool false)))] []),
  (.ite (.not (.call (.bi .all) [(.comp (.call (.fn "_law_between") [(.loc 3), (.lit (.int 0)), (.bin .Sub (.loc 1) (.lit (.int 1)))]) [3] .val [(.loc 0)] [])])) [(.ret (.lit (.bool false)))] []),
  (.ret (.call (.bi .all) [(.comp (.cmp (.loc 3) .Lt (.loc 4)) [3, 4] .zip [(.loc 0), (.slice (.loc 0) (some (.lit (.int 1))) none)] [])]))] }

noncomputable def f_l_good_plain : Fn := { names := 6, params := 1, body := [
  (.assign 1 (.slice (.loc 0) (some (.lit (.int 1))) none)),
  (.ite (.cmp (.sub (.loc 0) (.lit (.int 0))) .In (.lst [(.lit (.str "once")), (.lit (.str "every"))])) [(.ite (.cmp (.call (.bi .len) [(.loc 1)]) .NotEq (.sub (.lst [(.lit (.int 2)), (.lit (.int 3))]) (.call (.ty .int) [(.cmp (.sub (.loc 0) (.lit (.int 0))) .Eq (.lit (.str "every")))]))) [(.ret (.lit (.bool false)))] []), (.assign 2 (.ite (.cmp (.call (.bi .len) [(.loc 1)]) .Eq (.lit (.int 3))) (.sub (.loc 1) (.neg (.lit (.int 1)))) (.lit (.int 1)))), (.ite (.or (.not (.call (.fn "_law_between") [(.loc 2), (.lit (.int 1)), (.bin .Pow (.lit (.int 10)) (.lit (.int 6)))])) (.not (.call (.fn "_law_between") [(.sub (.loc 1) (.lit (.int 1))), (.lit (.int 1)), (.lit (.int 48))]))) [(.ret (.lit (.bool false)))] []), (.ret (.call (.fn "_law_between") [(.sub (.loc 1) (.lit (.int 0))), (.lit (.int 0)), (.bin .Sub (.bin .Pow (.lit (.int 10)) (.lit (.int 12))) (.lit (.int 1)))]))] []),
  (.ite (.or (.cmp (.sub (.loc 0) (.lit (.int 0))) .NotIn (.lst [(.lit (.str "week")), (.lit (.str "month"))])) (.cmp (.call (.bi .len) [(.loc 1)]) .NotEq (.lit (.int 3)))) [(.ret (.lit (.bool false)))] []),
  (.ite (.or (.not (.call (.fn "_law_between") [(.sub (.loc 1) (.lit (.int 1))), (.lit (.int 0)), (.lit (.int 23))])) (.not (.call (.fn "_law_between") [(.sub (.loc 1) (.lit (.int 2))), (.lit (.int 1)), (.lit (.int 48))]))) [(.ret (.lit (.bool false)))] []),
  (.ite (.cmp (.sub (.loc 0) (.lit (.int 0))) .Eq (.lit (.str "week"))) [(.ret (.call (.fn "_law_good_days") [(.sub (.loc 1) (.lit (.int 0))), (.lit (.int 7)), (.lit (.int 7))]))] []),
  (.ret (.or (.call (.fn "_law_between") [(.sub (.loc 1) (.lit (.int 0))), (.lit (.int 1)), (.lit (.int 31))]) (.call (.fn "_law_between") [(.sub (.loc 1) (.lit (.int 0))), (.neg (.lit (.int 31))), (.neg (.lit (.int 1)))])))] }

noncomputable def f_l_good : Fn := { names := 5, params := 1, body := [
  (.assign 1 (.lit (.int 1))),
  (.while (.and (.call (.bi .isinstance) [(.loc 0), (.lit (.ty .tuple))]) (.and (.cmp (.call (.bi .len) [(.loc 0)]) .Eq (.lit (.int 3))) (.cmp (.sub (.loc 0) (.lit (.int 0))) .In (.lst [(.lit (.str "from")), (.lit (.str "until")), (.lit (.str "also")), (.lit (.str "but"))])))) [(.ite (.and (.cmp (.sub (.loc 0) (.lit (.int 0))) .Eq (.lit (.str "but"))) (.not (.call (.fn "_law_good_days") [(.sub (.loc 0) (.lit (.int 1))), (.bin .Pow (.lit (.int 10)) (.lit (.int 11))), (.lit (.int 20))]))) [(.ret (.lit (.bool false)))] []), (.ite (.and (.cmp (.sub (.loc 0) (.lit (.int 0))) .NotEq (.lit (.str "but"))) (.not (.call (.fn "_law_between") [(.sub (.loc 0) (.lit (.int 1))), (.lit (.int 0)), (.bin .Sub (.bin .Pow (.lit (.int 10)) (.lit (.int 12))) (.lit (.int 1)))]))) [(.ret (.lit (.bool false)))] []), (.assign 0 (.sub (.loc 0) (.lit (.int 2)))), (.assign 1 (.bin .Add (.loc 1) (.lit (.int 1))))]),
  (.ret (.and (.cmp (.loc 1) .LtE (.lit (.int 8))) (.and (.call (.bi .isinstance) [(.loc 0), (.lit (.ty .tuple))]) (.and (.cmp (.call (.bi .len) [(.loc 0)]) .Gt (.lit (.int 0))) (.call (.fn "_law_good_plain") [(.loc 0)])))))] }

noncomputable def f_l_odd : Fn := { names := 5, params := 1, body := [
  (.assign 1 (.lst [(.lit (.bool true)), (.lit (.bool false)), (.lit .none), (.lit (.str "5")), (.lit (.str "")), (.neg (.lit (.int 1))), (.lit (.int 0)), (.lit (.int 1)), (.lit (.int 6)), (.lit (.int 7)), (.lit (.int 23)), (.lit (.int 24)), (.lit (.int 31)), (.lit (.int 32)), (.neg (.lit (.int 31))), (.neg (.lit (.int 32))), (.lit (.int 48)), (.lit (.int 49)), (.bin .Pow (.lit (.int 10)) (.lit (.int 6))), (.bin .Add (.bin .Pow (.lit (.int 10)) (.lit (.int 6))) (.lit (.int 1)))])),
  (.assign 1 (.bin .Add (.loc 1) (.lst [(.bin .Sub (.bin .Pow (.lit (.int 10)) (.lit (.int 12))) (.lit (.int 1))), (.bin .Pow (.lit (.int 10)) (.lit (.int 12))), (.bin .Pow (.lit (.int 10)) (.lit (.int 30))), (.tup []), (.tup [(.lit (.int 0)), (.lit (.int 7))]), (.tup [(.lit (.int 3)), (.lit (.int 3))]), (.tup [(.lit (.int 4)), (.lit (.int 2))]), (.lst [(.lit (.int 0))]), (.tup [(.lit (.bool true))]), (.tup [(.bin .Pow (.lit (.int 10)) (.lit (.int 11)))])]))),
  (.assign 1 (.bin .Add (.loc 1) (.lst [(.call (.ty .tuple) [(.comp (.loc 2) [2] .range [(.lit (.int 21))] [])]), (.tup [(.lit (.str "once")), (.lit (.int 5)), (.lit (.int 1))]), (.neg (.bin .Pow (.lit (.int 10)) (.lit (.int 30))))]))),
  (.ret (.sub (.loc 1) (.bin .Mod (.loc 0) (.lit (.int 33)))))] }

noncomputable def f_l_levels : Fn := { names := 7, params := 1, body := [
  (.assign 2 (.call (.fn "_law_wide_plain") [(.comp (.call (.fn "_law_cell_at") [(.loc 0), (.loc 4)]) [4] .range [(.lit (.int 3))] [])])),
  (.assign 3 (.lst [(.call (.ty .list) [(.loc 2)])])),
  (.for [1] .range [(.bin .Mod (.call (.fn "_law_cell_at") [(.loc 0), (.lit (.int 3))]) (.lit (.int 9)))] [(.expr (.meth (.loc 3) .append [(.slice (.call (.ty .list) [(.call (.fn "_law_wide_head") [(.call (.fn "_law_cell_at") [(.loc 0), (.bin .Add (.lit (.int 8)) (.loc 1))]), (.loc 2)])]) none (some (.lit (.int 2))))]))]),
  (.ret (.loc 3))] }

noncomputable def f_l_spoilt : Fn := { names := 9, params := 3, body := [
  (.assign 3 (.sub (.loc 0) (.bin .Mod (.loc 2) (.call (.bi .len) [(.loc 0)])))),
  (.ite (.cmp (.loc 1) .Eq (.lit (.int 1))) [(.setItem (.loc 3) (.bin .Add (.lit (.int 1)) (.bin .Mod (.bin .FloorDiv (.loc 2) (.lit (.int 9))) (.bin .Sub (.call (.bi .len) [(.loc 3)]) (.lit (.int 1))))) (.call (.fn "_law_odd") [(.bin .FloorDiv (.loc 2) (.lit (.int 36)))]))] []),
  (.ite (.cmp (.loc 1) .Eq (.lit (.int 2))) [(.expr (.meth (.loc 3) .append [(.call (.fn "_law_odd") [(.bin .FloorDiv (.loc 2) (.lit (.int 9)))])]))] []),
  (.ite (.cmp (.loc 1) .Eq (.lit (.int 3))) [(.expr (.meth (.loc 3) .pop []))] []),
  (.ite (.and (.cmp (.loc 1) .Eq (.lit (.int 7))) (.call (.bi .isinstance) [(.sub (.loc 3) (.lit (.int 1))), (.lit (.ty .tuple))])) [(.assign 4 (.sub (.loc 3) (.lit (.int 1)))), (.assign 5 (.lst [(.bin .Add (.loc 4) (.slice (.loc 4) (some (.neg (.lit (.int 1)))) none)), (.bin .Add (.slice (.loc 4) none (some (.lit (.int 1)))) (.loc 4)), (.rev (.loc 4)), (.bin .Add (.loc 4) (.tup [(.lit (.int 6)), (.lit (.int 7))])), (.call (.ty .list) [(.loc 4)])])), (.assign 5 (.bin .Add (.loc 5) (.lst [(.tup []), (.bin .Add (.tup [(.neg (.lit (.int 1)))]) (.loc 4)), (.bin .Add (.loc 4) (.tup [(.lit (.bool true))]))]))), (.setItem (.loc 3) (.lit (.int 1)) (.sub (.loc 5) (.bin .Mod (.bin .FloorDiv (.loc 2) (.lit (.int 9))) (.lit (.int 8)))))] []),
  (.ite (.cmp (.loc 1) .Eq (.lit (.int 4))) [(.assign 5 (.lst [(.lit (.str "Once")), (.lit (.str "every ")), (.lit (.str "weeks")), (.lit (.str "")), (.lit (.str "day")), (.lit (.str "untill")), (.lit (.str "alsO")), (.lit (.str "once")), (.lit (.str "every")), (.lit (.str "from")), (.lit (.str "but"))])), (.assign 5 (.bin .Add (.loc 5) (.lst [(.lit .none), (.lit (.int 5)), (.tup [(.lit (.str "once"))])]))), (.setItem (.loc 3) (.lit (.int 0)) (.sub (.loc 5) (.bin .Mod (.bin .FloorDiv (.loc 2) (.lit (.int 9))) (.lit (.int 14)))))] [])] }

noncomputable def f_l_built : Fn := { names := 8, params := 2, body := [
  (.assign 2 (.lit .none)),
  (.for [3] .range [(.call (.bi .len) [(.loc 0)])] [(.assign 4 (.call (.ty .list) [(.sub (.loc 0) (.loc 3))])), (.ite (.cmp (.loc 3) .Gt (.lit (.int 0))) [(.expr (.meth (.loc 4) .append [(.loc 2)]))] []), (.ite (.cmp (.loc 3) .Eq (.loc 1)) [(.assign 2 (.loc 4))] [(.assign 2 (.call (.ty .tuple) [(.loc 4)]))])]),
  (.ret (.loc 2))] }

noncomputable def f_lawE : Fn := { names := 12, params := 1, body := [
  (.assign 1 (.bin .Mod (.call (.fn "_law_cell_at") [(.loc 0), (.lit (.int 4))]) (.lit (.int 8)))),
  (.assign 2 (.call (.fn "_law_cell_at") [(.loc 0), (.lit (.int 5))])),
  (.assign 3 (.call (.fn "_law_levels") [(.loc 0)])),
  (.expr (.call (.fn "_law_spoilt") [(.loc 3), (.loc 1), (.loc 2)])),
  (.assign 4 (.neg (.lit (.int 1)))),
  (.ite (.cmp (.loc 1) .Eq (.lit (.int 5))) [(.assign 4 (.bin .Mod (.loc 2) (.call (.bi .len) [(.loc 3)])))] []),
  (.assign 5 (.call (.fn "_law_built") [(.loc 3), (.loc 4)])),
  (.ite (.cmp (.loc 1) .Eq (.lit (.int 6))) [(.assign 6 (.lst [(.lit .none), (.lit (.bool true)), (.lit (.int 5)), (.lit (.str "once")), (.lst []), (.tup []), (.tup [(.lit (.str "once"))]), (.tup [(.lit (.str "once")), (.lit (.int 5))]), (.lst [(.lit (.str "once")), (.lit (.int 5)), (.lit (.int 2))]), (.lst [(.tup [(.lit (.str "once")), (.lit (.int 5)), (.lit (.int 2))])])])), (.assign 6 (.bin .Add (.loc 6) (.lst [(.tup [(.lit (.str ""))]), (.tup [(.tup [(.lit (.str "once")), (.lit (.int 5)), (.lit (.int 2))])])]))), (.assign 5 (.sub (.loc 6) (.bin .Mod (.loc 2) (.lit (.int 12)))))] []),
  (.assign 7 (.call (.bi .repr) [(.loc 5)])),
  (.assign 8 (.call (.fn "is_rule") [(.loc 5)])),
  (.ret (.and (.call (.bi .isinstance) [(.loc 8), (.lit (.ty .bool))]) (.and (.cmp (.loc 8) .Eq (.call (.fn "_law_good") [(.loc 5)])) (.cmp (.call (.bi .repr) [(.loc 5)]) .Eq (.loc 7)))))] }

noncomputable def f_l_cell_at : Fn := { names := 5, params := 2, body := [
  (.ite (.cmp (.loc 1) .Lt (.call (.bi .len) [(.loc 0)])) [(.ret (.sub (.loc 0) (.loc 1)))] []),
  (.ret (.lit (.int 0)))] }

noncomputable def f_l_whole : Fn := { names := 4, params := 1, body := [
  (.ret (.and (.call (.bi .isinstance) [(.loc 0), (.lit (.ty .int))]) (.not (.call (.bi .isinstance) [(.loc 0), (.lit (.ty .bool))]))))] }

noncomputable def f_l_weekdays : Fn := { names := 6, params := 1, body := [
  (.assign 1 (.lst [])),
  (.for [2] .range [(.lit (.int 7))] [(.ite (.cmp (.bin .Mod (.loc 0) (.lit (.int 2))) .Eq (.lit (.int 1))) [(.expr (.meth (.loc 1) .append [(.loc 2)]))] []), (.assign 0 (.bin .FloorDiv (.loc 0) (.lit (.int 2))))]),
  (.ret (.call (.ty .tuple) [(.loc 1)]))] }
end Mine

set_option autoImplicit false
set_option linter.unusedSimpArgs false
set_option maxRecDepth 20000
/- Law 05: what the program and the law say of a thing. -/
namespace Mine
open PySem
noncomputable abbrev Ctr := List V → Hp → (V → Hp → Prop) → XL → Prop

noncomputable def al (H : Hp) (v : V) : Prop := match v with
  | .none => True
  | .bool _ => True
  | .int _ => True
  | .str _ => True
  | .tup _ => True
  | .ref i => ∃ l, listAt H i = some l
  | _ => False
noncomputable def intLike : V → Bool
  | .int _ => true
  | .bool _ => true
  | _ => false
noncomputable def boolLike : V → Bool
  | .bool _ => true
  | _ => false
noncomputable def tupLike : V → Bool
  | .tup _ => true
  | _ => false
noncomputable def strLike : V → Bool
  | .str _ => true
  | _ => false
theorem isi_of {H : Hp} {v : V} (h : al H v) : isInstH H v .int = some (intLike v) ∧ isInstH H v .bool = some (boolLike v) ∧ isInstH H v .tuple = some (tupLike v) ∧ isInstH H v .str = some (strLike v) := by
  cases v with
  | none => exact ⟨rfl, rfl, rfl, rfl⟩
  | bool b => exact ⟨rfl, rfl, rfl, rfl⟩
  | int b => exact ⟨rfl, rfl, rfl, rfl⟩
  | str b => exact ⟨rfl, rfl, rfl, rfl⟩
  | tup b => exact ⟨rfl, rfl, rfl, rfl⟩
  | ref i =>
    obtain ⟨l, hl⟩ := h
    have e : ∀ t, (tyOf H (.ref i)).map (fun u => subTy u t) = some (subTy .list t) := fun t => by
      show ((listAt H i).map _).map _ = _
      rw [hl]; rfl
    exact ⟨e _, e _, e _, e _⟩
  | _ => exact h.elim
theorem al_pre {H H' : Hp} {v : V} (p : H <+: H') (h : al H v) : al H' v := by
  cases v with
  | ref i => obtain ⟨l, hl⟩ := h; exact ⟨l, listAt_pre p hl⟩
  | none => trivial
  | bool b => trivial
  | int b => trivial
  | str b => trivial
  | tup b => trivial
  | _ => exact h.elim

noncomputable def whV : V → Bool
  | .int _ => true
  | _ => false
theorem wh_eq (v : V) : (intLike v && !boolLike v) = whV v := by cases v <;> rfl
noncomputable def C_is_whole : Ctr := fun vs H Q _ => ∃ v, vs = [v] ∧ al H v ∧ Q (.bool (whV v)) H
theorem w_is_whole : ∀ vs H Q X, C_is_whole vs H Q X → wpFn noΦ f_is_whole vs H Q X := by
  rintro vs H Q X ⟨v, rfl, hv, q⟩
  refine fn_of rfl ?_
  obtain ⟨h1, h2, _, _⟩ := isi_of hv
  rw [← wh_eq] at q
  unfold f_is_whole
  change wpSs noΦ [_] [some v, none, none, none] H _ _
  simp only [↓X_lit, ↓X_loc, ↓X_bin, ↓negX_int, ↓X_neg, ↓X_not, ↓Y_not, ↓X_and, ↓Y_and, ↓X_or, ↓Y_or, ↓X_cmp, ↓X_cmp2, ↓X_ite, ↓Y_ite, ↓X_tup, ↓X_lst, ↓X_call, ↓X_meth, ↓X_sub, ↓X_comp, ↓Y_lit, ↓Y_loc, ↓Y_cmp, ↓Y_cmp2, ↓Y_call, ↓Y_sub, ↓XEs_nil, ↓XEs_cons, ↓XIfs_nil, ↓XIfs_cons, ↓Z_expr, ↓Z_assign, ↓Z_ret, ↓Z_retNone, ↓Z_ite, ↓Z_for, ↓Z_pass, ↓Z_brk, ↓Z_cont, ↓Zs_nil, ↓sqX_next, ↓sqX_brk, ↓sqX_cont, ↓sqX_ret, ↓Zs_cons, ↓wkX_next, ↓wkX_cont, ↓wkX_brk, ↓wkX_ret, ↓fkX_next, ↓fkX_cont, ↓fkX_brk, ↓fkX_ret, ↓xb_one, ↓oKK_some, ↓oK_some, ↓tX_bool, ↓iX_t, ↓iX_f, ↓iX_d, ↓q_add, ↓q_sub, ↓q_mul, ↓q_div, ↓q_mod, ↓q_pow, ↓q_list, ↓q_eq, ↓q_ne, ↓q_eqs, ↓q_nes, ↓q_eqb, ↓q_lt, ↓q_le, ↓q_gt, ↓q_ge, ↓q_in, ↓q_inl, ↓q_nin, ↓q_is, ↓q_isnot, ↓q_stup, ↓q_sref, ↓q_sscr, ↓q_fn, ↓q_lentup, ↓q_lenref, ↓q_lenscr, ↓q_isi, ↓q_all, ↓q_max, ↓q_min, ↓q_int, ↓q_tuple, ↓q_listc, ↓q_append, ↓q_clear, ↓q_index, ↓q_pop, ↓q_slicet, ↓q_revt, ↓q_revl, ↓q_set, ↓q_repr, ↓q_eqo, ↓X_rev, ↓Z_set, ↓q_addt, ↓q_listt, ↓q_ninl, ↓u_tup, ↓u_ref, ↓u_range, ↓q_slice, ↓oi_none, ↓oi_int, ↓X_slice, ↓XO_none, ↓XO_some, ↓u_rev, ↓u_zip, ↓xb_two, ↓u_range2, ↓retV_ret, ↓retV_next, List.getElem?_cons_zero, List.getElem?_cons_succ, List.set_cons_zero, List.set_cons_succ, Bool.not_true, Bool.not_false, idx_0, idx_1, idx_2, idx_3, idx_4, idx_5, Int.reduceAdd, Int.reduceSub, Int.reduceMul, Int.reduceNeg, Int.reducePow, Int.reduceLT, Int.reduceLE, Int.reduceEq, Int.reduceNe, Int.reduceToNat, Int.reduceAbs, Nat.reduceAdd, Nat.reduceLT, Nat.reduceLeDiff, Nat.reducePow, Nat.reduceLT, List.length_cons, List.length_nil, true_implies, false_implies, not_true_eq_false, not_false_eq_true, and_true, true_and, and_self, or_true, true_or, decide_true, decide_false, exists_eq_left', Option.some.injEq, h1, h2]
  cases hi : intLike v with
  | true => rw [hi] at q; exact q
  | false => rw [hi] at q; exact q
noncomputable def E1 : Orc := ext "is_whole" C_is_whole noΦ
theorem e1_w : E1 "is_whole" = C_is_whole := rfl
noncomputable def bt (v : V) (lo hi : Int) : Bool := match v with
  | .int i => decide (lo ≤ i) && decide (i ≤ hi)
  | _ => false
noncomputable def C_is_between : Ctr := fun vs H Q _ => ∃ v lo hi, vs = [v, .int lo, .int hi] ∧ al H v ∧ Q (.bool (bt v lo hi)) H
theorem bt_not {v : V} (h : whV v = false) (lo hi : Int) : bt v lo hi = false := by cases v <;> first | rfl | cases h
theorem wh_int {v : V} (h : whV v = true) : ∃ i, v = .int i := by cases v <;> first | exact ⟨_, rfl⟩ | cases h
theorem w_is_between : ∀ vs H Q X, C_is_between vs H Q X → wpFn E1 f_is_between vs H Q X := by
  rintro vs H Q X ⟨v, lo, hi, rfl, hv, q⟩
  refine fn_of rfl ?_
  unfold f_is_between
  change wpSs E1 [_] [some v, some (.int lo), some (.int hi), none, none, none] H _ _
  simp only [↓X_lit, ↓X_loc, ↓X_bin, ↓negX_int, ↓X_neg, ↓X_not, ↓Y_not, ↓X_and, ↓Y_and, ↓X_or, ↓Y_or, ↓X_cmp, ↓X_cmp2, ↓X_ite, ↓Y_ite, ↓X_tup, ↓X_lst, ↓X_call, ↓X_meth, ↓X_sub, ↓X_comp, ↓Y_lit, ↓Y_loc, ↓Y_cmp, ↓Y_cmp2, ↓Y_call, ↓Y_sub, ↓XEs_nil, ↓XEs_cons, ↓XIfs_nil, ↓XIfs_cons, ↓Z_expr, ↓Z_assign, ↓Z_ret, ↓Z_retNone, ↓Z_ite, ↓Z_for, ↓Z_pass, ↓Z_brk, ↓Z_cont, ↓Zs_nil, ↓sqX_next, ↓sqX_brk, ↓sqX_cont, ↓sqX_ret, ↓Zs_cons, ↓wkX_next, ↓wkX_cont, ↓wkX_brk, ↓wkX_ret, ↓fkX_next, ↓fkX_cont, ↓fkX_brk, ↓fkX_ret, ↓xb_one, ↓oKK_some, ↓oK_some, ↓tX_bool, ↓iX_t, ↓iX_f, ↓iX_d, ↓q_add, ↓q_sub, ↓q_mul, ↓q_div, ↓q_mod, ↓q_pow, ↓q_list, ↓q_eq, ↓q_ne, ↓q_eqs, ↓q_nes, ↓q_eqb, ↓q_lt, ↓q_le, ↓q_gt, ↓q_ge, ↓q_in, ↓q_inl, ↓q_nin, ↓q_is, ↓q_isnot, ↓q_stup, ↓q_sref, ↓q_sscr, ↓q_fn, ↓q_lentup, ↓q_lenref, ↓q_lenscr, ↓q_isi, ↓q_all, ↓q_max, ↓q_min, ↓q_int, ↓q_tuple, ↓q_listc, ↓q_append, ↓q_clear, ↓q_index, ↓q_pop, ↓q_slicet, ↓q_revt, ↓q_revl, ↓q_set, ↓q_repr, ↓q_eqo, ↓X_rev, ↓Z_set, ↓q_addt, ↓q_listt, ↓q_ninl, ↓u_tup, ↓u_ref, ↓u_range, ↓q_slice, ↓oi_none, ↓oi_int, ↓X_slice, ↓XO_none, ↓XO_some, ↓u_rev, ↓u_zip, ↓xb_two, ↓u_range2, ↓retV_ret, ↓retV_next, List.getElem?_cons_zero, List.getElem?_cons_succ, List.set_cons_zero, List.set_cons_succ, Bool.not_true, Bool.not_false, idx_0, idx_1, idx_2, idx_3, idx_4, idx_5, Int.reduceAdd, Int.reduceSub, Int.reduceMul, Int.reduceNeg, Int.reducePow, Int.reduceLT, Int.reduceLE, Int.reduceEq, Int.reduceNe, Int.reduceToNat, Int.reduceAbs, Nat.reduceAdd, Nat.reduceLT, Nat.reduceLeDiff, Nat.reducePow, Nat.reduceLT, List.length_cons, List.length_nil, true_implies, false_implies, not_true_eq_false, not_false_eq_true, and_true, true_and, and_self, or_true, true_or, decide_true, decide_false, exists_eq_left', Option.some.injEq, ↓e1_w]
  refine ⟨v, rfl, hv, ?_⟩
  cases hw : whV v with
  | false => rw [bt_not hw] at q; exact q
  | true =>
    obtain ⟨i, rfl⟩ := wh_int hw
    simp only [↓X_lit, ↓X_loc, ↓X_bin, ↓negX_int, ↓X_neg, ↓X_not, ↓Y_not, ↓X_and, ↓Y_and, ↓X_or, ↓Y_or, ↓X_cmp, ↓X_cmp2, ↓X_ite, ↓Y_ite, ↓X_tup, ↓X_lst, ↓X_call, ↓X_meth, ↓X_sub, ↓X_comp, ↓Y_lit, ↓Y_loc, ↓Y_cmp, ↓Y_cmp2, ↓Y_call, ↓Y_sub, ↓XEs_nil, ↓XEs_cons, ↓XIfs_nil, ↓XIfs_cons, ↓Z_expr, ↓Z_assign, ↓Z_ret, ↓Z_retNone, ↓Z_ite, ↓Z_for, ↓Z_pass, ↓Z_brk, ↓Z_cont, ↓Zs_nil, ↓sqX_next, ↓sqX_brk, ↓sqX_cont, ↓sqX_ret, ↓Zs_cons, ↓wkX_next, ↓wkX_cont, ↓wkX_brk, ↓wkX_ret, ↓fkX_next, ↓fkX_cont, ↓fkX_brk, ↓fkX_ret, ↓xb_one, ↓oKK_some, ↓oK_some, ↓tX_bool, ↓iX_t, ↓iX_f, ↓iX_d, ↓q_add, ↓q_sub, ↓q_mul, ↓q_div, ↓q_mod, ↓q_pow, ↓q_list, ↓q_eq, ↓q_ne, ↓q_eqs, ↓q_nes, ↓q_eqb, ↓q_lt, ↓q_le, ↓q_gt, ↓q_ge, ↓q_in, ↓q_inl, ↓q_nin, ↓q_is, ↓q_isnot, ↓q_stup, ↓q_sref, ↓q_sscr, ↓q_fn, ↓q_lentup, ↓q_lenref, ↓q_lenscr, ↓q_isi, ↓q_all, ↓q_max, ↓q_min, ↓q_int, ↓q_tuple, ↓q_listc, ↓q_append, ↓q_clear, ↓q_index, ↓q_pop, ↓q_slicet, ↓q_revt, ↓q_revl, ↓q_set, ↓q_repr, ↓q_eqo, ↓X_rev, ↓Z_set, ↓q_addt, ↓q_listt, ↓q_ninl, ↓u_tup, ↓u_ref, ↓u_range, ↓q_slice, ↓oi_none, ↓oi_int, ↓X_slice, ↓XO_none, ↓XO_some, ↓u_rev, ↓u_zip, ↓xb_two, ↓u_range2, ↓retV_ret, ↓retV_next, List.getElem?_cons_zero, List.getElem?_cons_succ, List.set_cons_zero, List.set_cons_succ, Bool.not_true, Bool.not_false, idx_0, idx_1, idx_2, idx_3, idx_4, idx_5, Int.reduceAdd, Int.reduceSub, Int.reduceMul, Int.reduceNeg, Int.reducePow, Int.reduceLT, Int.reduceLE, Int.reduceEq, Int.reduceNe, Int.reduceToNat, Int.reduceAbs, Nat.reduceAdd, Nat.reduceLT, Nat.reduceLeDiff, Nat.reducePow, Nat.reduceLT, List.length_cons, List.length_nil, true_implies, false_implies, not_true_eq_false, not_false_eq_true, and_true, true_and, and_self, or_true, true_or, decide_true, decide_false, exists_eq_left', Option.some.injEq]
    refine ⟨fun h => ?_, fun h => ?_⟩
    · simp only [bt, decide_eq_true h, Bool.true_and] at q; exact q
    · simp only [bt, decide_eq_false h, Bool.false_and] at q; rw [decide_eq_false h]; exact q
noncomputable def E2 : Orc := ext "is_between" C_is_between E1
theorem e2_b : E2 "is_between" = C_is_between := rfl
noncomputable def C_is_time : Ctr := fun vs H Q _ => ∃ v, vs = [v] ∧ al H v ∧ Q (.bool (bt v 0 999999999999)) H
theorem w_is_time : ∀ vs H Q X, C_is_time vs H Q X → wpFn E2 f_is_time vs H Q X := by
  rintro vs H Q X ⟨v, rfl, hv, q⟩
  refine fn_of rfl ?_
  unfold f_is_time
  change wpSs E2 [_] [some v, none, none, none] H _ _
  simp only [↓X_lit, ↓X_loc, ↓X_bin, ↓negX_int, ↓X_neg, ↓X_not, ↓Y_not, ↓X_and, ↓Y_and, ↓X_or, ↓Y_or, ↓X_cmp, ↓X_cmp2, ↓X_ite, ↓Y_ite, ↓X_tup, ↓X_lst, ↓X_call, ↓X_meth, ↓X_sub, ↓X_comp, ↓Y_lit, ↓Y_loc, ↓Y_cmp, ↓Y_cmp2, ↓Y_call, ↓Y_sub, ↓XEs_nil, ↓XEs_cons, ↓XIfs_nil, ↓XIfs_cons, ↓Z_expr, ↓Z_assign, ↓Z_ret, ↓Z_retNone, ↓Z_ite, ↓Z_for, ↓Z_pass, ↓Z_brk, ↓Z_cont, ↓Zs_nil, ↓sqX_next, ↓sqX_brk, ↓sqX_cont, ↓sqX_ret, ↓Zs_cons, ↓wkX_next, ↓wkX_cont, ↓wkX_brk, ↓wkX_ret, ↓fkX_next, ↓fkX_cont, ↓fkX_brk, ↓fkX_ret, ↓xb_one, ↓oKK_some, ↓oK_some, ↓tX_bool, ↓iX_t, ↓iX_f, ↓iX_d, ↓q_add, ↓q_sub, ↓q_mul, ↓q_div, ↓q_mod, ↓q_pow, ↓q_list, ↓q_eq, ↓q_ne, ↓q_eqs, ↓q_nes, ↓q_eqb, ↓q_lt, ↓q_le, ↓q_gt, ↓q_ge, ↓q_in, ↓q_inl, ↓q_nin, ↓q_is, ↓q_isnot, ↓q_stup, ↓q_sref, ↓q_sscr, ↓q_fn, ↓q_lentup, ↓q_lenref, ↓q_lenscr, ↓q_isi, ↓q_all, ↓q_max, ↓q_min, ↓q_int, ↓q_tuple, ↓q_listc, ↓q_append, ↓q_clear, ↓q_index, ↓q_pop, ↓q_slicet, ↓q_revt, ↓q_revl, ↓q_set, ↓q_repr, ↓q_eqo, ↓X_rev, ↓Z_set, ↓q_addt, ↓q_listt, ↓q_ninl, ↓u_tup, ↓u_ref, ↓u_range, ↓q_slice, ↓oi_none, ↓oi_int, ↓X_slice, ↓XO_none, ↓XO_some, ↓u_rev, ↓u_zip, ↓xb_two, ↓u_range2, ↓retV_ret, ↓retV_next, List.getElem?_cons_zero, List.getElem?_cons_succ, List.set_cons_zero, List.set_cons_succ, Bool.not_true, Bool.not_false, idx_0, idx_1, idx_2, idx_3, idx_4, idx_5, Int.reduceAdd, Int.reduceSub, Int.reduceMul, Int.reduceNeg, Int.reducePow, Int.reduceLT, Int.reduceLE, Int.reduceEq, Int.reduceNe, Int.reduceToNat, Int.reduceAbs, Nat.reduceAdd, Nat.reduceLT, Nat.reduceLeDiff, Nat.reducePow, Nat.reduceLT, List.length_cons, List.length_nil, true_implies, false_implies, not_true_eq_false, not_false_eq_true, and_true, true_and, and_self, or_true, true_or, decide_true, decide_false, exists_eq_left', Option.some.injEq, ↓e2_b]
  exact ⟨v, _, _, rfl, hv, q⟩
noncomputable def E3 : Orc := ext "is_time" C_is_time E2
theorem e3_b : E3 "is_between" = C_is_between := rfl
noncomputable def intOf : V → Int
  | .int i => i
  | _ => 0
noncomputable def risGo (most : Int) : Int → List V → Bool
  | _, [] => true
  | a, v :: r => bt v (a + 1) most && risGo most (intOf v) r
noncomputable def rising (v : V) (many most : Int) : Bool := match v with
  | .tup l => (decide (1 ≤ (l.length : Int)) && decide ((l.length : Int) ≤ many)) && risGo most (-1) l
  | _ => false
/- a thing's parts are alive -/
noncomputable def als (H : Hp) (v : V) : Prop := match v with
  | .tup l => ∀ x ∈ l, al H x
  | _ => True
noncomputable def C_are_rising : Ctr := fun vs H Q _ => ∃ v many most, vs = [v, .int many, .int most] ∧ al H v ∧ als H v ∧ Q (.bool (rising v many most)) H
noncomputable abbrev arB : List IS := [(.ite (.not (.call (.fn "is_between") [(.loc 4), (.bin .Add (.loc 3) (.lit (.int 1))), (.loc 2)])) [(.ret (.lit (.bool false)))] []), (.assign 3 (.loc 4))]
theorem ar_loop {XF : XS} {v0 : V} {many most : Int} {t5 t6 t7 : Option V} {H : Hp} {Q : QS} : ∀ (l : List V) (a : Int) (t4 : Option V), (∀ x ∈ l, al H x) →
    (∀ L', risGo most a l = true → Q .next L' H) → (∀ L', risGo most a l = false → Q (.ret (.bool false)) L' H) →
    forGo (whBX E3 arB XF) (fun _ => True) [4] l [some v0, some (.int many), some (.int most), some (.int a), t4, t5, t6, t7] H Q := by
  intro l
  induction l with
  | nil => intro a t4 _ q _; exact q _ rfl
  | cons v r ih =>
    intro a t4 hal q1 q2
    rw [foX_cons]
    simp only [↓X_lit, ↓X_loc, ↓X_bin, ↓negX_int, ↓X_neg, ↓X_not, ↓Y_not, ↓X_and, ↓Y_and, ↓X_or, ↓Y_or, ↓X_cmp, ↓X_cmp2, ↓X_ite, ↓Y_ite, ↓X_tup, ↓X_lst, ↓X_call, ↓X_meth, ↓X_sub, ↓X_comp, ↓Y_lit, ↓Y_loc, ↓Y_cmp, ↓Y_cmp2, ↓Y_call, ↓Y_sub, ↓XEs_nil, ↓XEs_cons, ↓XIfs_nil, ↓XIfs_cons, ↓Z_expr, ↓Z_assign, ↓Z_ret, ↓Z_retNone, ↓Z_ite, ↓Z_for, ↓Z_pass, ↓Z_brk, ↓Z_cont, ↓Zs_nil, ↓sqX_next, ↓sqX_brk, ↓sqX_cont, ↓sqX_ret, ↓Zs_cons, ↓wkX_next, ↓wkX_cont, ↓wkX_brk, ↓wkX_ret, ↓fkX_next, ↓fkX_cont, ↓fkX_brk, ↓fkX_ret, ↓xb_one, ↓oKK_some, ↓oK_some, ↓tX_bool, ↓iX_t, ↓iX_f, ↓iX_d, ↓q_add, ↓q_sub, ↓q_mul, ↓q_div, ↓q_mod, ↓q_pow, ↓q_list, ↓q_eq, ↓q_ne, ↓q_eqs, ↓q_nes, ↓q_eqb, ↓q_lt, ↓q_le, ↓q_gt, ↓q_ge, ↓q_in, ↓q_inl, ↓q_nin, ↓q_is, ↓q_isnot, ↓q_stup, ↓q_sref, ↓q_sscr, ↓q_fn, ↓q_lentup, ↓q_lenref, ↓q_lenscr, ↓q_isi, ↓q_all, ↓q_max, ↓q_min, ↓q_int, ↓q_tuple, ↓q_listc, ↓q_append, ↓q_clear, ↓q_index, ↓q_pop, ↓q_slicet, ↓q_revt, ↓q_revl, ↓q_set, ↓q_repr, ↓q_eqo, ↓X_rev, ↓Z_set, ↓q_addt, ↓q_listt, ↓q_ninl, ↓u_tup, ↓u_ref, ↓u_range, ↓q_slice, ↓oi_none, ↓oi_int, ↓X_slice, ↓XO_none, ↓XO_some, ↓u_rev, ↓u_zip, ↓xb_two, ↓u_range2, ↓retV_ret, ↓retV_next, List.getElem?_cons_zero, List.getElem?_cons_succ, List.set_cons_zero, List.set_cons_succ, Bool.not_true, Bool.not_false, idx_0, idx_1, idx_2, idx_3, idx_4, idx_5, Int.reduceAdd, Int.reduceSub, Int.reduceMul, Int.reduceNeg, Int.reducePow, Int.reduceLT, Int.reduceLE, Int.reduceEq, Int.reduceNe, Int.reduceToNat, Int.reduceAbs, Nat.reduceAdd, Nat.reduceLT, Nat.reduceLeDiff, Nat.reducePow, Nat.reduceLT, List.length_cons, List.length_nil, true_implies, false_implies, not_true_eq_false, not_false_eq_true, and_true, true_and, and_self, or_true, true_or, decide_true, decide_false, exists_eq_left', Option.some.injEq, ↓e3_b]
    refine ⟨v, _, _, rfl, hal v List.mem_cons_self, ?_⟩
    simp only [↓X_lit, ↓X_loc, ↓X_bin, ↓negX_int, ↓X_neg, ↓X_not, ↓Y_not, ↓X_and, ↓Y_and, ↓X_or, ↓Y_or, ↓X_cmp, ↓X_cmp2, ↓X_ite, ↓Y_ite, ↓X_tup, ↓X_lst, ↓X_call, ↓X_meth, ↓X_sub, ↓X_comp, ↓Y_lit, ↓Y_loc, ↓Y_cmp, ↓Y_cmp2, ↓Y_call, ↓Y_sub, ↓XEs_nil, ↓XEs_cons, ↓XIfs_nil, ↓XIfs_cons, ↓Z_expr, ↓Z_assign, ↓Z_ret, ↓Z_retNone, ↓Z_ite, ↓Z_for, ↓Z_pass, ↓Z_brk, ↓Z_cont, ↓Zs_nil, ↓sqX_next, ↓sqX_brk, ↓sqX_cont, ↓sqX_ret, ↓Zs_cons, ↓wkX_next, ↓wkX_cont, ↓wkX_brk, ↓wkX_ret, ↓fkX_next, ↓fkX_cont, ↓fkX_brk, ↓fkX_ret, ↓xb_one, ↓oKK_some, ↓oK_some, ↓tX_bool, ↓iX_t, ↓iX_f, ↓iX_d, ↓q_add, ↓q_sub, ↓q_mul, ↓q_div, ↓q_mod, ↓q_pow, ↓q_list, ↓q_eq, ↓q_ne, ↓q_eqs, ↓q_nes, ↓q_eqb, ↓q_lt, ↓q_le, ↓q_gt, ↓q_ge, ↓q_in, ↓q_inl, ↓q_nin, ↓q_is, ↓q_isnot, ↓q_stup, ↓q_sref, ↓q_sscr, ↓q_fn, ↓q_lentup, ↓q_lenref, ↓q_lenscr, ↓q_isi, ↓q_all, ↓q_max, ↓q_min, ↓q_int, ↓q_tuple, ↓q_listc, ↓q_append, ↓q_clear, ↓q_index, ↓q_pop, ↓q_slicet, ↓q_revt, ↓q_revl, ↓q_set, ↓q_repr, ↓q_eqo, ↓X_rev, ↓Z_set, ↓q_addt, ↓q_listt, ↓q_ninl, ↓u_tup, ↓u_ref, ↓u_range, ↓q_slice, ↓oi_none, ↓oi_int, ↓X_slice, ↓XO_none, ↓XO_some, ↓u_rev, ↓u_zip, ↓xb_two, ↓u_range2, ↓retV_ret, ↓retV_next, List.getElem?_cons_zero, List.getElem?_cons_succ, List.set_cons_zero, List.set_cons_succ, Bool.not_true, Bool.not_false, idx_0, idx_1, idx_2, idx_3, idx_4, idx_5, Int.reduceAdd, Int.reduceSub, Int.reduceMul, Int.reduceNeg, Int.reducePow, Int.reduceLT, Int.reduceLE, Int.reduceEq, Int.reduceNe, Int.reduceToNat, Int.reduceAbs, Nat.reduceAdd, Nat.reduceLT, Nat.reduceLeDiff, Nat.reducePow, Nat.reduceLT, List.length_cons, List.length_nil, true_implies, false_implies, not_true_eq_false, not_false_eq_true, and_true, true_and, and_self, or_true, true_or, decide_true, decide_false, exists_eq_left', Option.some.injEq]
    cases hb : bt v (a + 1) most with
    | false => exact q2 _ (by simp only [risGo, hb, Bool.false_and])
    | true =>
      have hi : ∃ i, v = .int i := by cases v <;> first | exact ⟨_, rfl⟩ | cases hb
      obtain ⟨i, rfl⟩ := hi
      have e : risGo most a (.int i :: r) = risGo most i r := by simp only [risGo, hb, Bool.true_and]; rfl
      rw [e] at q1 q2
      exact ih i _ (fun x hx => hal x (List.mem_cons_of_mem _ hx)) q1 q2
theorem w_are_rising : ∀ vs H Q X, C_are_rising vs H Q X → wpFn E3 f_are_rising vs H Q X := by
  rintro vs H Q X ⟨v, many, most, rfl, hv, hvs, q⟩
  refine fn_of rfl ?_
  obtain ⟨_, _, h3, _⟩ := isi_of hv
  change wpSs E3 f_are_rising.body [some v, some (.int many), some (.int most), none, none, none, none, none] H _ _
  refine zs_cons ?_
  generalize hK : sqX E3 (_ :: _) = K
  cases ht : tupLike v with
  | false =>
    have e : rising v many most = false := by cases v <;> first | rfl | cases ht
    rw [e] at q
    simp only [↓X_lit, ↓X_loc, ↓X_bin, ↓negX_int, ↓X_neg, ↓X_not, ↓Y_not, ↓X_and, ↓Y_and, ↓X_or, ↓Y_or, ↓X_cmp, ↓X_cmp2, ↓X_ite, ↓Y_ite, ↓X_tup, ↓X_lst, ↓X_call, ↓X_meth, ↓X_sub, ↓X_comp, ↓Y_lit, ↓Y_loc, ↓Y_cmp, ↓Y_cmp2, ↓Y_call, ↓Y_sub, ↓XEs_nil, ↓XEs_cons, ↓XIfs_nil, ↓XIfs_cons, ↓Z_expr, ↓Z_assign, ↓Z_ret, ↓Z_retNone, ↓Z_ite, ↓Z_for, ↓Z_pass, ↓Z_brk, ↓Z_cont, ↓Zs_nil, ↓sqX_next, ↓sqX_brk, ↓sqX_cont, ↓sqX_ret, ↓Zs_cons, ↓wkX_next, ↓wkX_cont, ↓wkX_brk, ↓wkX_ret, ↓fkX_next, ↓fkX_cont, ↓fkX_brk, ↓fkX_ret, ↓xb_one, ↓oKK_some, ↓oK_some, ↓tX_bool, ↓iX_t, ↓iX_f, ↓iX_d, ↓q_add, ↓q_sub, ↓q_mul, ↓q_div, ↓q_mod, ↓q_pow, ↓q_list, ↓q_eq, ↓q_ne, ↓q_eqs, ↓q_nes, ↓q_eqb, ↓q_lt, ↓q_le, ↓q_gt, ↓q_ge, ↓q_in, ↓q_inl, ↓q_nin, ↓q_is, ↓q_isnot, ↓q_stup, ↓q_sref, ↓q_sscr, ↓q_fn, ↓q_lentup, ↓q_lenref, ↓q_lenscr, ↓q_isi, ↓q_all, ↓q_max, ↓q_min, ↓q_int, ↓q_tuple, ↓q_listc, ↓q_append, ↓q_clear, ↓q_index, ↓q_pop, ↓q_slicet, ↓q_revt, ↓q_revl, ↓q_set, ↓q_repr, ↓q_eqo, ↓X_rev, ↓Z_set, ↓q_addt, ↓q_listt, ↓q_ninl, ↓u_tup, ↓u_ref, ↓u_range, ↓q_slice, ↓oi_none, ↓oi_int, ↓X_slice, ↓XO_none, ↓XO_some, ↓u_rev, ↓u_zip, ↓xb_two, ↓u_range2, ↓retV_ret, ↓retV_next, List.getElem?_cons_zero, List.getElem?_cons_succ, List.set_cons_zero, List.set_cons_succ, Bool.not_true, Bool.not_false, idx_0, idx_1, idx_2, idx_3, idx_4, idx_5, Int.reduceAdd, Int.reduceSub, Int.reduceMul, Int.reduceNeg, Int.reducePow, Int.reduceLT, Int.reduceLE, Int.reduceEq, Int.reduceNe, Int.reduceToNat, Int.reduceAbs, Nat.reduceAdd, Nat.reduceLT, Nat.reduceLeDiff, Nat.reducePow, Nat.reduceLT, List.length_cons, List.length_nil, true_implies, false_implies, not_true_eq_false, not_false_eq_true, and_true, true_and, and_self, or_true, true_or, decide_true, decide_false, exists_eq_left', Option.some.injEq, h3, ht]
    subst hK; exact q
  | true =>
    have hl : ∃ l, v = .tup l := by cases v <;> first | exact ⟨_, rfl⟩ | cases ht
    obtain ⟨l, rfl⟩ := hl
    simp only [↓X_lit, ↓X_loc, ↓X_bin, ↓negX_int, ↓X_neg, ↓X_not, ↓Y_not, ↓X_and, ↓Y_and, ↓X_or, ↓Y_or, ↓X_cmp, ↓X_cmp2, ↓X_ite, ↓Y_ite, ↓X_tup, ↓X_lst, ↓X_call, ↓X_meth, ↓X_sub, ↓X_comp, ↓Y_lit, ↓Y_loc, ↓Y_cmp, ↓Y_cmp2, ↓Y_call, ↓Y_sub, ↓XEs_nil, ↓XEs_cons, ↓XIfs_nil, ↓XIfs_cons, ↓Z_expr, ↓Z_assign, ↓Z_ret, ↓Z_retNone, ↓Z_ite, ↓Z_for, ↓Z_pass, ↓Z_brk, ↓Z_cont, ↓Zs_nil, ↓sqX_next, ↓sqX_brk, ↓sqX_cont, ↓sqX_ret, ↓Zs_cons, ↓wkX_next, ↓wkX_cont, ↓wkX_brk, ↓wkX_ret, ↓fkX_next, ↓fkX_cont, ↓fkX_brk, ↓fkX_ret, ↓xb_one, ↓oKK_some, ↓oK_some, ↓tX_bool, ↓iX_t, ↓iX_f, ↓iX_d, ↓q_add, ↓q_sub, ↓q_mul, ↓q_div, ↓q_mod, ↓q_pow, ↓q_list, ↓q_eq, ↓q_ne, ↓q_eqs, ↓q_nes, ↓q_eqb, ↓q_lt, ↓q_le, ↓q_gt, ↓q_ge, ↓q_in, ↓q_inl, ↓q_nin, ↓q_is, ↓q_isnot, ↓q_stup, ↓q_sref, ↓q_sscr, ↓q_fn, ↓q_lentup, ↓q_lenref, ↓q_lenscr, ↓q_isi, ↓q_all, ↓q_max, ↓q_min, ↓q_int, ↓q_tuple, ↓q_listc, ↓q_append, ↓q_clear, ↓q_index, ↓q_pop, ↓q_slicet, ↓q_revt, ↓q_revl, ↓q_set, ↓q_repr, ↓q_eqo, ↓X_rev, ↓Z_set, ↓q_addt, ↓q_listt, ↓q_ninl, ↓u_tup, ↓u_ref, ↓u_range, ↓q_slice, ↓oi_none, ↓oi_int, ↓X_slice, ↓XO_none, ↓XO_some, ↓u_rev, ↓u_zip, ↓xb_two, ↓u_range2, ↓retV_ret, ↓retV_next, List.getElem?_cons_zero, List.getElem?_cons_succ, List.set_cons_zero, List.set_cons_succ, Bool.not_true, Bool.not_false, idx_0, idx_1, idx_2, idx_3, idx_4, idx_5, Int.reduceAdd, Int.reduceSub, Int.reduceMul, Int.reduceNeg, Int.reducePow, Int.reduceLT, Int.reduceLE, Int.reduceEq, Int.reduceNe, Int.reduceToNat, Int.reduceAbs, Nat.reduceAdd, Nat.reduceLT, Nat.reduceLeDiff, Nat.reducePow, Nat.reduceLT, List.length_cons, List.length_nil, true_implies, false_implies, not_true_eq_false, not_false_eq_true, and_true, true_and, and_self, or_true, true_or, decide_true, decide_false, exists_eq_left', Option.some.injEq, h3, ht]
    have qf : (decide (1 ≤ (l.length : Int)) && decide ((l.length : Int) ≤ many)) = false → Q (.bool false) H := fun h => by simp only [rising, h, Bool.false_and] at q; exact q
    refine ⟨fun h1 => ?_, fun h1 => ?_⟩
    · by_cases h2 : (l.length : Int) ≤ many
      · simp only [decide_eq_true h2, Bool.not_true, iX_f]
        subst hK
        refine zs_cons ?_
        change wpSs E3 (f_are_rising.body.drop 2) [some (.tup l), some (.int many), some (.int most), some (.int (-1)), none, none, none, none] H _ _
        refine zs_cons ?_
        simp only [rising, decide_eq_true h1, decide_eq_true h2, Bool.and_self, Bool.true_and] at q
        refine ar_loop l (-1) _ hvs (fun L' h => ?_) (fun L' h => ?_)
        · rw [h] at q; exact q
        · rw [h] at q; exact q
      · simp only [decide_eq_false h2, Bool.not_false, iX_t]
        subst hK; exact qf (by rw [decide_eq_true h1, decide_eq_false h2]; rfl)
    · simp only [decide_eq_false h1, Bool.not_false, iX_t]
      subst hK; exact qf (by rw [decide_eq_false h1]; rfl)
noncomputable def E4 : Orc := ext "are_rising" C_are_rising E3
end Mine

set_option autoImplicit false
set_option linter.unusedSimpArgs false
set_option maxRecDepth 20000
namespace Mine
open PySem

theorem two_list : ∀ {r : List V}, r.length = 2 → ∃ a b, r = [a, b]
  | [a, b], _ => ⟨a, b, rfl⟩
theorem three_list : ∀ {r : List V}, r.length = 3 → ∃ a b c, r = [a, b, c]
  | [a, b, c], _ => ⟨a, b, c, rfl⟩
theorem e4_t : E4 "is_time" = C_is_time := rfl
theorem e4_b : E4 "is_between" = C_is_between := rfl
theorem e4_r : E4 "are_rising" = C_are_rising := rfl
noncomputable def nz : V → Bool
  | .int i => decide (i ≠ 0)
  | _ => false
noncomputable def isP3 (w : Str) (a b c : V) : Bool :=
  if w == "every" then bt a 0 999999999999 && (bt b 1 48 && bt c 1 1000000)
  else if bt b 0 23 && bt c 1 48 then (if w == "week" then rising a 7 6 else (w == "month") && (bt a (-31) 31 && nz a)) else false
noncomputable def pl2 : List V → Bool
  | [a, b] => bt a 0 999999999999 && bt b 1 48
  | _ => false
noncomputable def pl3 (w : Str) : List V → Bool
  | [a, b, c] => isP3 w a b c
  | _ => false
noncomputable def isPl (w : Str) (r : List V) : Bool := if w == "once" then pl2 r else pl3 w r
noncomputable def C_is_plain : Ctr := fun vs H Q _ => ∃ w r, vs = [.tup (.str w :: r)] ∧ (∀ x ∈ r, al H x ∧ als H x) ∧ Q (.bool (isPl w r)) H
/- and of two answers that calls give -/
theorem not_two : ∀ {r : List V}, r.length ≠ 2 → pl2 r = false
  | [], _ => rfl
  | [_], _ => rfl
  | [_, _], h => absurd rfl h
  | _ :: _ :: _ :: _, _ => rfl
theorem not_three {w : Str} : ∀ {r : List V}, r.length ≠ 3 → pl3 w r = false
  | [], _ => rfl
  | [_], _ => rfl
  | [_, _], _ => rfl
  | [_, _, _], h => absurd rfl h
  | _ :: _ :: _ :: _ :: _, _ => rfl
theorem w_is_plain : ∀ vs H Q X, C_is_plain vs H Q X → wpFn E4 f_is_plain vs H Q X := by
  rintro vs H Q X ⟨w, r, rfl, hr, q⟩
  refine fn_of rfl ?_
  change wpSs E4 f_is_plain.body [some (.tup (.str w :: r)), none, none, none, none] H _ _
  refine zs_cons ?_
  change wpSs E4 (f_is_plain.body.drop 1) [some (.tup (.str w :: r)), some (.str w), none, none, none] H _ _
  unfold isPl at q
  refine zs_cons ?_
  show ifP (w == "once") _ _
  cases ho : w == "once" with
  | true =>
    rw [ho, if_pos rfl] at q
    generalize hK : sqX E4 (_ :: _) = K
    simp only [↓X_lit, ↓X_loc, ↓X_bin, ↓negX_int, ↓X_neg, ↓X_not, ↓Y_not, ↓X_and, ↓Y_and, ↓X_or, ↓Y_or, ↓X_cmp, ↓X_cmp2, ↓X_ite, ↓Y_ite, ↓X_tup, ↓X_lst, ↓X_call, ↓X_meth, ↓X_sub, ↓X_comp, ↓Y_lit, ↓Y_loc, ↓Y_cmp, ↓Y_cmp2, ↓Y_call, ↓Y_sub, ↓XEs_nil, ↓XEs_cons, ↓XIfs_nil, ↓XIfs_cons, ↓Z_expr, ↓Z_assign, ↓Z_ret, ↓Z_retNone, ↓Z_ite, ↓Z_for, ↓Z_pass, ↓Z_brk, ↓Z_cont, ↓Zs_nil, ↓sqX_next, ↓sqX_brk, ↓sqX_cont, ↓sqX_ret, ↓Zs_cons, ↓wkX_next, ↓wkX_cont, ↓wkX_brk, ↓wkX_ret, ↓fkX_next, ↓fkX_cont, ↓fkX_brk, ↓fkX_ret, ↓xb_one, ↓oKK_some, ↓oK_some, ↓tX_bool, ↓iX_t, ↓iX_f, ↓iX_d, ↓q_add, ↓q_sub, ↓q_mul, ↓q_div, ↓q_mod, ↓q_pow, ↓q_list, ↓q_eq, ↓q_ne, ↓q_eqs, ↓q_nes, ↓q_eqb, ↓q_lt, ↓q_le, ↓q_gt, ↓q_ge, ↓q_in, ↓q_inl, ↓q_nin, ↓q_is, ↓q_isnot, ↓q_stup, ↓q_sref, ↓q_sscr, ↓q_fn, ↓q_lentup, ↓q_lenref, ↓q_lenscr, ↓q_isi, ↓q_all, ↓q_max, ↓q_min, ↓q_int, ↓q_tuple, ↓q_listc, ↓q_append, ↓q_clear, ↓q_index, ↓q_pop, ↓q_slicet, ↓q_revt, ↓q_revl, ↓q_set, ↓q_repr, ↓q_eqo, ↓X_rev, ↓Z_set, ↓q_addt, ↓q_listt, ↓q_ninl, ↓u_tup, ↓u_ref, ↓u_range, ↓q_slice, ↓oi_none, ↓oi_int, ↓X_slice, ↓XO_none, ↓XO_some, ↓u_rev, ↓u_zip, ↓xb_two, ↓u_range2, ↓retV_ret, ↓retV_next, List.getElem?_cons_zero, List.getElem?_cons_succ, List.set_cons_zero, List.set_cons_succ, Bool.not_true, Bool.not_false, idx_0, idx_1, idx_2, idx_3, idx_4, idx_5, Int.reduceAdd, Int.reduceSub, Int.reduceMul, Int.reduceNeg, Int.reducePow, Int.reduceLT, Int.reduceLE, Int.reduceEq, Int.reduceNe, Int.reduceToNat, Int.reduceAbs, Nat.reduceAdd, Nat.reduceLT, Nat.reduceLeDiff, Nat.reducePow, Nat.reduceLT, List.length_cons, List.length_nil, true_implies, false_implies, not_true_eq_false, not_false_eq_true, and_true, true_and, and_self, or_true, true_or, decide_true, decide_false, exists_eq_left', Option.some.injEq, ↓e4_t]
    refine ⟨fun h3 => ?_, fun h3 => ?_⟩
    · obtain ⟨a, b, rfl⟩ := two_list (r := r) (by omega)
      replace q : Q (.bool (bt a 0 999999999999 && bt b 1 48)) H := q
      simp only [↓X_lit, ↓X_loc, ↓X_bin, ↓negX_int, ↓X_neg, ↓X_not, ↓Y_not, ↓X_and, ↓Y_and, ↓X_or, ↓Y_or, ↓X_cmp, ↓X_cmp2, ↓X_ite, ↓Y_ite, ↓X_tup, ↓X_lst, ↓X_call, ↓X_meth, ↓X_sub, ↓X_comp, ↓Y_lit, ↓Y_loc, ↓Y_cmp, ↓Y_cmp2, ↓Y_call, ↓Y_sub, ↓XEs_nil, ↓XEs_cons, ↓XIfs_nil, ↓XIfs_cons, ↓Z_expr, ↓Z_assign, ↓Z_ret, ↓Z_retNone, ↓Z_ite, ↓Z_for, ↓Z_pass, ↓Z_brk, ↓Z_cont, ↓Zs_nil, ↓sqX_next, ↓sqX_brk, ↓sqX_cont, ↓sqX_ret, ↓Zs_cons, ↓wkX_next, ↓wkX_cont, ↓wkX_brk, ↓wkX_ret, ↓fkX_next, ↓fkX_cont, ↓fkX_brk, ↓fkX_ret, ↓xb_one, ↓oKK_some, ↓oK_some, ↓tX_bool, ↓iX_t, ↓iX_f, ↓iX_d, ↓q_add, ↓q_sub, ↓q_mul, ↓q_div, ↓q_mod, ↓q_pow, ↓q_list, ↓q_eq, ↓q_ne, ↓q_eqs, ↓q_nes, ↓q_eqb, ↓q_lt, ↓q_le, ↓q_gt, ↓q_ge, ↓q_in, ↓q_inl, ↓q_nin, ↓q_is, ↓q_isnot, ↓q_stup, ↓q_sref, ↓q_sscr, ↓q_fn, ↓q_lentup, ↓q_lenref, ↓q_lenscr, ↓q_isi, ↓q_all, ↓q_max, ↓q_min, ↓q_int, ↓q_tuple, ↓q_listc, ↓q_append, ↓q_clear, ↓q_index, ↓q_pop, ↓q_slicet, ↓q_revt, ↓q_revl, ↓q_set, ↓q_repr, ↓q_eqo, ↓X_rev, ↓Z_set, ↓q_addt, ↓q_listt, ↓q_ninl, ↓u_tup, ↓u_ref, ↓u_range, ↓q_slice, ↓oi_none, ↓oi_int, ↓X_slice, ↓XO_none, ↓XO_some, ↓u_rev, ↓u_zip, ↓xb_two, ↓u_range2, ↓retV_ret, ↓retV_next, List.getElem?_cons_zero, List.getElem?_cons_succ, List.set_cons_zero, List.set_cons_succ, Bool.not_true, Bool.not_false, idx_0, idx_1, idx_2, idx_3, idx_4, idx_5, Int.reduceAdd, Int.reduceSub, Int.reduceMul, Int.reduceNeg, Int.reducePow, Int.reduceLT, Int.reduceLE, Int.reduceEq, Int.reduceNe, Int.reduceToNat, Int.reduceAbs, Nat.reduceAdd, Nat.reduceLT, Nat.reduceLeDiff, Nat.reducePow, Nat.reduceLT, List.length_cons, List.length_nil, true_implies, false_implies, not_true_eq_false, not_false_eq_true, and_true, true_and, and_self, or_true, true_or, decide_true, decide_false, exists_eq_left', Option.some.injEq, ↓e4_t]
      refine ⟨a, rfl, (hr a (by simp)).1, ?_⟩
      simp only [↓X_lit, ↓X_loc, ↓X_bin, ↓negX_int, ↓X_neg, ↓X_not, ↓Y_not, ↓X_and, ↓Y_and, ↓X_or, ↓Y_or, ↓X_cmp, ↓X_cmp2, ↓X_ite, ↓Y_ite, ↓X_tup, ↓X_lst, ↓X_call, ↓X_meth, ↓X_sub, ↓X_comp, ↓Y_lit, ↓Y_loc, ↓Y_cmp, ↓Y_cmp2, ↓Y_call, ↓Y_sub, ↓XEs_nil, ↓XEs_cons, ↓XIfs_nil, ↓XIfs_cons, ↓Z_expr, ↓Z_assign, ↓Z_ret, ↓Z_retNone, ↓Z_ite, ↓Z_for, ↓Z_pass, ↓Z_brk, ↓Z_cont, ↓Zs_nil, ↓sqX_next, ↓sqX_brk, ↓sqX_cont, ↓sqX_ret, ↓Zs_cons, ↓wkX_next, ↓wkX_cont, ↓wkX_brk, ↓wkX_ret, ↓fkX_next, ↓fkX_cont, ↓fkX_brk, ↓fkX_ret, ↓xb_one, ↓oKK_some, ↓oK_some, ↓tX_bool, ↓iX_t, ↓iX_f, ↓iX_d, ↓q_add, ↓q_sub, ↓q_mul, ↓q_div, ↓q_mod, ↓q_pow, ↓q_list, ↓q_eq, ↓q_ne, ↓q_eqs, ↓q_nes, ↓q_eqb, ↓q_lt, ↓q_le, ↓q_gt, ↓q_ge, ↓q_in, ↓q_inl, ↓q_nin, ↓q_is, ↓q_isnot, ↓q_stup, ↓q_sref, ↓q_sscr, ↓q_fn, ↓q_lentup, ↓q_lenref, ↓q_lenscr, ↓q_isi, ↓q_all, ↓q_max, ↓q_min, ↓q_int, ↓q_tuple, ↓q_listc, ↓q_append, ↓q_clear, ↓q_index, ↓q_pop, ↓q_slicet, ↓q_revt, ↓q_revl, ↓q_set, ↓q_repr, ↓q_eqo, ↓X_rev, ↓Z_set, ↓q_addt, ↓q_listt, ↓q_ninl, ↓u_tup, ↓u_ref, ↓u_range, ↓q_slice, ↓oi_none, ↓oi_int, ↓X_slice, ↓XO_none, ↓XO_some, ↓u_rev, ↓u_zip, ↓xb_two, ↓u_range2, ↓retV_ret, ↓retV_next, List.getElem?_cons_zero, List.getElem?_cons_succ, List.set_cons_zero, List.set_cons_succ, Bool.not_true, Bool.not_false, idx_0, idx_1, idx_2, idx_3, idx_4, idx_5, Int.reduceAdd, Int.reduceSub, Int.reduceMul, Int.reduceNeg, Int.reducePow, Int.reduceLT, Int.reduceLE, Int.reduceEq, Int.reduceNe, Int.reduceToNat, Int.reduceAbs, Nat.reduceAdd, Nat.reduceLT, Nat.reduceLeDiff, Nat.reducePow, Nat.reduceLT, List.length_cons, List.length_nil, true_implies, false_implies, not_true_eq_false, not_false_eq_true, and_true, true_and, and_self, or_true, true_or, decide_true, decide_false, exists_eq_left', Option.some.injEq]
      cases ha : bt a 0 999999999999 with
      | false => simp only [ha, Bool.false_and] at q; subst hK; exact q
      | true =>
        simp only [↓X_lit, ↓X_loc, ↓X_bin, ↓negX_int, ↓X_neg, ↓X_not, ↓Y_not, ↓X_and, ↓Y_and, ↓X_or, ↓Y_or, ↓X_cmp, ↓X_cmp2, ↓X_ite, ↓Y_ite, ↓X_tup, ↓X_lst, ↓X_call, ↓X_meth, ↓X_sub, ↓X_comp, ↓Y_lit, ↓Y_loc, ↓Y_cmp, ↓Y_cmp2, ↓Y_call, ↓Y_sub, ↓XEs_nil, ↓XEs_cons, ↓XIfs_nil, ↓XIfs_cons, ↓Z_expr, ↓Z_assign, ↓Z_ret, ↓Z_retNone, ↓Z_ite, ↓Z_for, ↓Z_pass, ↓Z_brk, ↓Z_cont, ↓Zs_nil, ↓sqX_next, ↓sqX_brk, ↓sqX_cont, ↓sqX_ret, ↓Zs_cons, ↓wkX_next, ↓wkX_cont, ↓wkX_brk, ↓wkX_ret, ↓fkX_next, ↓fkX_cont, ↓fkX_brk, ↓fkX_ret, ↓xb_one, ↓oKK_some, ↓oK_some, ↓tX_bool, ↓iX_t, ↓iX_f, ↓iX_d, ↓q_add, ↓q_sub, ↓q_mul, ↓q_div, ↓q_mod, ↓q_pow, ↓q_list, ↓q_eq, ↓q_ne, ↓q_eqs, ↓q_nes, ↓q_eqb, ↓q_lt, ↓q_le, ↓q_gt, ↓q_ge, ↓q_in, ↓q_inl, ↓q_nin, ↓q_is, ↓q_isnot, ↓q_stup, ↓q_sref, ↓q_sscr, ↓q_fn, ↓q_lentup, ↓q_lenref, ↓q_lenscr, ↓q_isi, ↓q_all, ↓q_max, ↓q_min, ↓q_int, ↓q_tuple, ↓q_listc, ↓q_append, ↓q_clear, ↓q_index, ↓q_pop, ↓q_slicet, ↓q_revt, ↓q_revl, ↓q_set, ↓q_repr, ↓q_eqo, ↓X_rev, ↓Z_set, ↓q_addt, ↓q_listt, ↓q_ninl, ↓u_tup, ↓u_ref, ↓u_range, ↓q_slice, ↓oi_none, ↓oi_int, ↓X_slice, ↓XO_none, ↓XO_some, ↓u_rev, ↓u_zip, ↓xb_two, ↓u_range2, ↓retV_ret, ↓retV_next, List.getElem?_cons_zero, List.getElem?_cons_succ, List.set_cons_zero, List.set_cons_succ, Bool.not_true, Bool.not_false, idx_0, idx_1, idx_2, idx_3, idx_4, idx_5, Int.reduceAdd, Int.reduceSub, Int.reduceMul, Int.reduceNeg, Int.reducePow, Int.reduceLT, Int.reduceLE, Int.reduceEq, Int.reduceNe, Int.reduceToNat, Int.reduceAbs, Nat.reduceAdd, Nat.reduceLT, Nat.reduceLeDiff, Nat.reducePow, Nat.reduceLT, List.length_cons, List.length_nil, true_implies, false_implies, not_true_eq_false, not_false_eq_true, and_true, true_and, and_self, or_true, true_or, decide_true, decide_false, exists_eq_left', Option.some.injEq, ↓e4_b]
        refine ⟨b, _, _, rfl, (hr b (by simp)).1, ?_⟩
        simp only [ha, Bool.true_and] at q; subst hK; exact q
    · rw [not_two (by omega)] at q
      subst hK
      rw [decide_eq_false h3]; exact q
  | false =>
    rw [ho, if_neg (by decide)] at q
    refine zs_cons ?_
    generalize hK : sqX E4 (_ :: _) = K
    simp only [↓X_lit, ↓X_loc, ↓X_bin, ↓negX_int, ↓X_neg, ↓X_not, ↓Y_not, ↓X_and, ↓Y_and, ↓X_or, ↓Y_or, ↓X_cmp, ↓X_cmp2, ↓X_ite, ↓Y_ite, ↓X_tup, ↓X_lst, ↓X_call, ↓X_meth, ↓X_sub, ↓X_comp, ↓Y_lit, ↓Y_loc, ↓Y_cmp, ↓Y_cmp2, ↓Y_call, ↓Y_sub, ↓XEs_nil, ↓XEs_cons, ↓XIfs_nil, ↓XIfs_cons, ↓Z_expr, ↓Z_assign, ↓Z_ret, ↓Z_retNone, ↓Z_ite, ↓Z_for, ↓Z_pass, ↓Z_brk, ↓Z_cont, ↓Zs_nil, ↓sqX_next, ↓sqX_brk, ↓sqX_cont, ↓sqX_ret, ↓Zs_cons, ↓wkX_next, ↓wkX_cont, ↓wkX_brk, ↓wkX_ret, ↓fkX_next, ↓fkX_cont, ↓fkX_brk, ↓fkX_ret, ↓xb_one, ↓oKK_some, ↓oK_some, ↓tX_bool, ↓iX_t, ↓iX_f, ↓iX_d, ↓q_add, ↓q_sub, ↓q_mul, ↓q_div, ↓q_mod, ↓q_pow, ↓q_list, ↓q_eq, ↓q_ne, ↓q_eqs, ↓q_nes, ↓q_eqb, ↓q_lt, ↓q_le, ↓q_gt, ↓q_ge, ↓q_in, ↓q_inl, ↓q_nin, ↓q_is, ↓q_isnot, ↓q_stup, ↓q_sref, ↓q_sscr, ↓q_fn, ↓q_lentup, ↓q_lenref, ↓q_lenscr, ↓q_isi, ↓q_all, ↓q_max, ↓q_min, ↓q_int, ↓q_tuple, ↓q_listc, ↓q_append, ↓q_clear, ↓q_index, ↓q_pop, ↓q_slicet, ↓q_revt, ↓q_revl, ↓q_set, ↓q_repr, ↓q_eqo, ↓X_rev, ↓Z_set, ↓q_addt, ↓q_listt, ↓q_ninl, ↓u_tup, ↓u_ref, ↓u_range, ↓q_slice, ↓oi_none, ↓oi_int, ↓X_slice, ↓XO_none, ↓XO_some, ↓u_rev, ↓u_zip, ↓xb_two, ↓u_range2, ↓retV_ret, ↓retV_next, List.getElem?_cons_zero, List.getElem?_cons_succ, List.set_cons_zero, List.set_cons_succ, Bool.not_true, Bool.not_false, idx_0, idx_1, idx_2, idx_3, idx_4, idx_5, Int.reduceAdd, Int.reduceSub, Int.reduceMul, Int.reduceNeg, Int.reducePow, Int.reduceLT, Int.reduceLE, Int.reduceEq, Int.reduceNe, Int.reduceToNat, Int.reduceAbs, Nat.reduceAdd, Nat.reduceLT, Nat.reduceLeDiff, Nat.reducePow, Nat.reduceLT, List.length_cons, List.length_nil, true_implies, false_implies, not_true_eq_false, not_false_eq_true, and_true, true_and, and_self, or_true, true_or, decide_true, decide_false, exists_eq_left', Option.some.injEq]
    refine ⟨fun h4 => ?_, fun h4 => ?_⟩
    · rw [not_three (by omega)] at q; subst hK; exact q
    · obtain ⟨a, b, c, rfl⟩ := three_list (r := r) (by omega)
      have ha := hr a (by simp)
      have hb := hr b (by simp)
      have hc := hr c (by simp)
      subst hK
      replace q : Q (.bool (isP3 w a b c)) H := q
      unfold isP3 at q
      refine zs_cons ?_
      show ifP (w == "every") _ _
      cases he : w == "every" with
      | true =>
        rw [he, if_pos rfl] at q
        generalize hK : sqX E4 (_ :: _) = K
        simp only [↓X_lit, ↓X_loc, ↓X_bin, ↓negX_int, ↓X_neg, ↓X_not, ↓Y_not, ↓X_and, ↓Y_and, ↓X_or, ↓Y_or, ↓X_cmp, ↓X_cmp2, ↓X_ite, ↓Y_ite, ↓X_tup, ↓X_lst, ↓X_call, ↓X_meth, ↓X_sub, ↓X_comp, ↓Y_lit, ↓Y_loc, ↓Y_cmp, ↓Y_cmp2, ↓Y_call, ↓Y_sub, ↓XEs_nil, ↓XEs_cons, ↓XIfs_nil, ↓XIfs_cons, ↓Z_expr, ↓Z_assign, ↓Z_ret, ↓Z_retNone, ↓Z_ite, ↓Z_for, ↓Z_pass, ↓Z_brk, ↓Z_cont, ↓Zs_nil, ↓sqX_next, ↓sqX_brk, ↓sqX_cont, ↓sqX_ret, ↓Zs_cons, ↓wkX_next, ↓wkX_cont, ↓wkX_brk, ↓wkX_ret, ↓fkX_next, ↓fkX_cont, ↓fkX_brk, ↓fkX_ret, ↓xb_one, ↓oKK_some, ↓oK_some, ↓tX_bool, ↓iX_t, ↓iX_f, ↓iX_d, ↓q_add, ↓q_sub, ↓q_mul, ↓q_div, ↓q_mod, ↓q_pow, ↓q_list, ↓q_eq, ↓q_ne, ↓q_eqs, ↓q_nes, ↓q_eqb, ↓q_lt, ↓q_le, ↓q_gt, ↓q_ge, ↓q_in, ↓q_inl, ↓q_nin, ↓q_is, ↓q_isnot, ↓q_stup, ↓q_sref, ↓q_sscr, ↓q_fn, ↓q_lentup, ↓q_lenref, ↓q_lenscr, ↓q_isi, ↓q_all, ↓q_max, ↓q_min, ↓q_int, ↓q_tuple, ↓q_listc, ↓q_append, ↓q_clear, ↓q_index, ↓q_pop, ↓q_slicet, ↓q_revt, ↓q_revl, ↓q_set, ↓q_repr, ↓q_eqo, ↓X_rev, ↓Z_set, ↓q_addt, ↓q_listt, ↓q_ninl, ↓u_tup, ↓u_ref, ↓u_range, ↓q_slice, ↓oi_none, ↓oi_int, ↓X_slice, ↓XO_none, ↓XO_some, ↓u_rev, ↓u_zip, ↓xb_two, ↓u_range2, ↓retV_ret, ↓retV_next, List.getElem?_cons_zero, List.getElem?_cons_succ, List.set_cons_zero, List.set_cons_succ, Bool.not_true, Bool.not_false, idx_0, idx_1, idx_2, idx_3, idx_4, idx_5, Int.reduceAdd, Int.reduceSub, Int.reduceMul, Int.reduceNeg, Int.reducePow, Int.reduceLT, Int.reduceLE, Int.reduceEq, Int.reduceNe, Int.reduceToNat, Int.reduceAbs, Nat.reduceAdd, Nat.reduceLT, Nat.reduceLeDiff, Nat.reducePow, Nat.reduceLT, List.length_cons, List.length_nil, true_implies, false_implies, not_true_eq_false, not_false_eq_true, and_true, true_and, and_self, or_true, true_or, decide_true, decide_false, exists_eq_left', Option.some.injEq, ↓e4_t, ↓e4_b]
        refine ⟨a, rfl, ha.1, ?_⟩
        simp only [↓X_lit, ↓X_loc, ↓X_bin, ↓negX_int, ↓X_neg, ↓X_not, ↓Y_not, ↓X_and, ↓Y_and, ↓X_or, ↓Y_or, ↓X_cmp, ↓X_cmp2, ↓X_ite, ↓Y_ite, ↓X_tup, ↓X_lst, ↓X_call, ↓X_meth, ↓X_sub, ↓X_comp, ↓Y_lit, ↓Y_loc, ↓Y_cmp, ↓Y_cmp2, ↓Y_call, ↓Y_sub, ↓XEs_nil, ↓XEs_cons, ↓XIfs_nil, ↓XIfs_cons, ↓Z_expr, ↓Z_assign, ↓Z_ret, ↓Z_retNone, ↓Z_ite, ↓Z_for, ↓Z_pass, ↓Z_brk, ↓Z_cont, ↓Zs_nil, ↓sqX_next, ↓sqX_brk, ↓sqX_cont, ↓sqX_ret, ↓Zs_cons, ↓wkX_next, ↓wkX_cont, ↓wkX_brk, ↓wkX_ret, ↓fkX_next, ↓fkX_cont, ↓fkX_brk, ↓fkX_ret, ↓xb_one, ↓oKK_some, ↓oK_some, ↓tX_bool, ↓iX_t, ↓iX_f, ↓iX_d, ↓q_add, ↓q_sub, ↓q_mul, ↓q_div, ↓q_mod, ↓q_pow, ↓q_list, ↓q_eq, ↓q_ne, ↓q_eqs, ↓q_nes, ↓q_eqb, ↓q_lt, ↓q_le, ↓q_gt, ↓q_ge, ↓q_in, ↓q_inl, ↓q_nin, ↓q_is, ↓q_isnot, ↓q_stup, ↓q_sref, ↓q_sscr, ↓q_fn, ↓q_lentup, ↓q_lenref, ↓q_lenscr, ↓q_isi, ↓q_all, ↓q_max, ↓q_min, ↓q_int, ↓q_tuple, ↓q_listc, ↓q_append, ↓q_clear, ↓q_index, ↓q_pop, ↓q_slicet, ↓q_revt, ↓q_revl, ↓q_set, ↓q_repr, ↓q_eqo, ↓X_rev, ↓Z_set, ↓q_addt, ↓q_listt, ↓q_ninl, ↓u_tup, ↓u_ref, ↓u_range, ↓q_slice, ↓oi_none, ↓oi_int, ↓X_slice, ↓XO_none, ↓XO_some, ↓u_rev, ↓u_zip, ↓xb_two, ↓u_range2, ↓retV_ret, ↓retV_next, List.getElem?_cons_zero, List.getElem?_cons_succ, List.set_cons_zero, List.set_cons_succ, Bool.not_true, Bool.not_false, idx_0, idx_1, idx_2, idx_3, idx_4, idx_5, Int.reduceAdd, Int.reduceSub, Int.reduceMul, Int.reduceNeg, Int.reducePow, Int.reduceLT, Int.reduceLE, Int.reduceEq, Int.reduceNe, Int.reduceToNat, Int.reduceAbs, Nat.reduceAdd, Nat.reduceLT, Nat.reduceLeDiff, Nat.reducePow, Nat.reduceLT, List.length_cons, List.length_nil, true_implies, false_implies, not_true_eq_false, not_false_eq_true, and_true, true_and, and_self, or_true, true_or, decide_true, decide_false, exists_eq_left', Option.some.injEq]
        cases e1 : bt a 0 999999999999 with
        | false => simp only [e1, Bool.false_and] at q; subst hK; exact q
        | true =>
          simp only [e1, Bool.true_and] at q
          simp only [↓X_lit, ↓X_loc, ↓X_bin, ↓negX_int, ↓X_neg, ↓X_not, ↓Y_not, ↓X_and, ↓Y_and, ↓X_or, ↓Y_or, ↓X_cmp, ↓X_cmp2, ↓X_ite, ↓Y_ite, ↓X_tup, ↓X_lst, ↓X_call, ↓X_meth, ↓X_sub, ↓X_comp, ↓Y_lit, ↓Y_loc, ↓Y_cmp, ↓Y_cmp2, ↓Y_call, ↓Y_sub, ↓XEs_nil, ↓XEs_cons, ↓XIfs_nil, ↓XIfs_cons, ↓Z_expr, ↓Z_assign, ↓Z_ret, ↓Z_retNone, ↓Z_ite, ↓Z_for, ↓Z_pass, ↓Z_brk, ↓Z_cont, ↓Zs_nil, ↓sqX_next, ↓sqX_brk, ↓sqX_cont, ↓sqX_ret, ↓Zs_cons, ↓wkX_next, ↓wkX_cont, ↓wkX_brk, ↓wkX_ret, ↓fkX_next, ↓fkX_cont, ↓fkX_brk, ↓fkX_ret, ↓xb_one, ↓oKK_some, ↓oK_some, ↓tX_bool, ↓iX_t, ↓iX_f, ↓iX_d, ↓q_add, ↓q_sub, ↓q_mul, ↓q_div, ↓q_mod, ↓q_pow, ↓q_list, ↓q_eq, ↓q_ne, ↓q_eqs, ↓q_nes, ↓q_eqb, ↓q_lt, ↓q_le, ↓q_gt, ↓q_ge, ↓q_in, ↓q_inl, ↓q_nin, ↓q_is, ↓q_isnot, ↓q_stup, ↓q_sref, ↓q_sscr, ↓q_fn, ↓q_lentup, ↓q_lenref, ↓q_lenscr, ↓q_isi, ↓q_all, ↓q_max, ↓q_min, ↓q_int, ↓q_tuple, ↓q_listc, ↓q_append, ↓q_clear, ↓q_index, ↓q_pop, ↓q_slicet, ↓q_revt, ↓q_revl, ↓q_set, ↓q_repr, ↓q_eqo, ↓X_rev, ↓Z_set, ↓q_addt, ↓q_listt, ↓q_ninl, ↓u_tup, ↓u_ref, ↓u_range, ↓q_slice, ↓oi_none, ↓oi_int, ↓X_slice, ↓XO_none, ↓XO_some, ↓u_rev, ↓u_zip, ↓xb_two, ↓u_range2, ↓retV_ret, ↓retV_next, List.getElem?_cons_zero, List.getElem?_cons_succ, List.set_cons_zero, List.set_cons_succ, Bool.not_true, Bool.not_false, idx_0, idx_1, idx_2, idx_3, idx_4, idx_5, Int.reduceAdd, Int.reduceSub, Int.reduceMul, Int.reduceNeg, Int.reducePow, Int.reduceLT, Int.reduceLE, Int.reduceEq, Int.reduceNe, Int.reduceToNat, Int.reduceAbs, Nat.reduceAdd, Nat.reduceLT, Nat.reduceLeDiff, Nat.reducePow, Nat.reduceLT, List.length_cons, List.length_nil, true_implies, false_implies, not_true_eq_false, not_false_eq_true, and_true, true_and, and_self, or_true, true_or, decide_true, decide_false, exists_eq_left', Option.some.injEq, ↓e4_b]
          refine ⟨b, _, _, rfl, hb.1, ?_⟩
          simp only [↓X_lit, ↓X_loc, ↓X_bin, ↓negX_int, ↓X_neg, ↓X_not, ↓Y_not, ↓X_and, ↓Y_and, ↓X_or, ↓Y_or, ↓X_cmp, ↓X_cmp2, ↓X_ite, ↓Y_ite, ↓X_tup, ↓X_lst, ↓X_call, ↓X_meth, ↓X_sub, ↓X_comp, ↓Y_lit, ↓Y_loc, ↓Y_cmp, ↓Y_cmp2, ↓Y_call, ↓Y_sub, ↓XEs_nil, ↓XEs_cons, ↓XIfs_nil, ↓XIfs_cons, ↓Z_expr, ↓Z_assign, ↓Z_ret, ↓Z_retNone, ↓Z_ite, ↓Z_for, ↓Z_pass, ↓Z_brk, ↓Z_cont, ↓Zs_nil, ↓sqX_next, ↓sqX_brk, ↓sqX_cont, ↓sqX_ret, ↓Zs_cons, ↓wkX_next, ↓wkX_cont, ↓wkX_brk, ↓wkX_ret, ↓fkX_next, ↓fkX_cont, ↓fkX_brk, ↓fkX_ret, ↓xb_one, ↓oKK_some, ↓oK_some, ↓tX_bool, ↓iX_t, ↓iX_f, ↓iX_d, ↓q_add, ↓q_sub, ↓q_mul, ↓q_div, ↓q_mod, ↓q_pow, ↓q_list, ↓q_eq, ↓q_ne, ↓q_eqs, ↓q_nes, ↓q_eqb, ↓q_lt, ↓q_le, ↓q_gt, ↓q_ge, ↓q_in, ↓q_inl, ↓q_nin, ↓q_is, ↓q_isnot, ↓q_stup, ↓q_sref, ↓q_sscr, ↓q_fn, ↓q_lentup, ↓q_lenref, ↓q_lenscr, ↓q_isi, ↓q_all, ↓q_max, ↓q_min, ↓q_int, ↓q_tuple, ↓q_listc, ↓q_append, ↓q_clear, ↓q_index, ↓q_pop, ↓q_slicet, ↓q_revt, ↓q_revl, ↓q_set, ↓q_repr, ↓q_eqo, ↓X_rev, ↓Z_set, ↓q_addt, ↓q_listt, ↓q_ninl, ↓u_tup, ↓u_ref, ↓u_range, ↓q_slice, ↓oi_none, ↓oi_int, ↓X_slice, ↓XO_none, ↓XO_some, ↓u_rev, ↓u_zip, ↓xb_two, ↓u_range2, ↓retV_ret, ↓retV_next, List.getElem?_cons_zero, List.getElem?_cons_succ, List.set_cons_zero, List.set_cons_succ, Bool.not_true, Bool.not_false, idx_0, idx_1, idx_2, idx_3, idx_4, idx_5, Int.reduceAdd, Int.reduceSub, Int.reduceMul, Int.reduceNeg, Int.reducePow, Int.reduceLT, Int.reduceLE, Int.reduceEq, Int.reduceNe, Int.reduceToNat, Int.reduceAbs, Nat.reduceAdd, Nat.reduceLT, Nat.reduceLeDiff, Nat.reducePow, Nat.reduceLT, List.length_cons, List.length_nil, true_implies, false_implies, not_true_eq_false, not_false_eq_true, and_true, true_and, and_self, or_true, true_or, decide_true, decide_false, exists_eq_left', Option.some.injEq]
          cases e2 : bt b 1 48 with
          | false => simp only [e2, Bool.false_and] at q; subst hK; exact q
          | true =>
            simp only [e2, Bool.true_and] at q
            simp only [↓X_lit, ↓X_loc, ↓X_bin, ↓negX_int, ↓X_neg, ↓X_not, ↓Y_not, ↓X_and, ↓Y_and, ↓X_or, ↓Y_or, ↓X_cmp, ↓X_cmp2, ↓X_ite, ↓Y_ite, ↓X_tup, ↓X_lst, ↓X_call, ↓X_meth, ↓X_sub, ↓X_comp, ↓Y_lit, ↓Y_loc, ↓Y_cmp, ↓Y_cmp2, ↓Y_call, ↓Y_sub, ↓XEs_nil, ↓XEs_cons, ↓XIfs_nil, ↓XIfs_cons, ↓Z_expr, ↓Z_assign, ↓Z_ret, ↓Z_retNone, ↓Z_ite, ↓Z_for, ↓Z_pass, ↓Z_brk, ↓Z_cont, ↓Zs_nil, ↓sqX_next, ↓sqX_brk, ↓sqX_cont, ↓sqX_ret, ↓Zs_cons, ↓wkX_next, ↓wkX_cont, ↓wkX_brk, ↓wkX_ret, ↓fkX_next, ↓fkX_cont, ↓fkX_brk, ↓fkX_ret, ↓xb_one, ↓oKK_some, ↓oK_some, ↓tX_bool, ↓iX_t, ↓iX_f, ↓iX_d, ↓q_add, ↓q_sub, ↓q_mul, ↓q_div, ↓q_mod, ↓q_pow, ↓q_list, ↓q_eq, ↓q_ne, ↓q_eqs, ↓q_nes, ↓q_eqb, ↓q_lt, ↓q_le, ↓q_gt, ↓q_ge, ↓q_in, ↓q_inl, ↓q_nin, ↓q_is, ↓q_isnot, ↓q_stup, ↓q_sref, ↓q_sscr, ↓q_fn, ↓q_lentup, ↓q_lenref, ↓q_lenscr, ↓q_isi, ↓q_all, ↓q_max, ↓q_min, ↓q_int, ↓q_tuple, ↓q_listc, ↓q_append, ↓q_clear, ↓q_index, ↓q_pop, ↓q_slicet, ↓q_revt, ↓q_revl, ↓q_set, ↓q_repr, ↓q_eqo, ↓X_rev, ↓Z_set, ↓q_addt, ↓q_listt, ↓q_ninl, ↓u_tup, ↓u_ref, ↓u_range, ↓q_slice, ↓oi_none, ↓oi_int, ↓X_slice, ↓XO_none, ↓XO_some, ↓u_rev, ↓u_zip, ↓xb_two, ↓u_range2, ↓retV_ret, ↓retV_next, List.getElem?_cons_zero, List.getElem?_cons_succ, List.set_cons_zero, List.set_cons_succ, Bool.not_true, Bool.not_false, idx_0, idx_1, idx_2, idx_3, idx_4, idx_5, Int.reduceAdd, Int.reduceSub, Int.reduceMul, Int.reduceNeg, Int.reducePow, Int.reduceLT, Int.reduceLE, Int.reduceEq, Int.reduceNe, Int.reduceToNat, Int.reduceAbs, Nat.reduceAdd, Nat.reduceLT, Nat.reduceLeDiff, Nat.reducePow, Nat.reduceLT, List.length_cons, List.length_nil, true_implies, false_implies, not_true_eq_false, not_false_eq_true, and_true, true_and, and_self, or_true, true_or, decide_true, decide_false, exists_eq_left', Option.some.injEq, ↓e4_b]
            exact ⟨c, _, _, rfl, hc.1, by subst hK; exact q⟩
      | false =>
        rw [he, if_neg (by decide)] at q
        refine zs_cons ?_
        generalize hK : sqX E4 (_ :: _) = K
        simp only [↓X_lit, ↓X_loc, ↓X_bin, ↓negX_int, ↓X_neg, ↓X_not, ↓Y_not, ↓X_and, ↓Y_and, ↓X_or, ↓Y_or, ↓X_cmp, ↓X_cmp2, ↓X_ite, ↓Y_ite, ↓X_tup, ↓X_lst, ↓X_call, ↓X_meth, ↓X_sub, ↓X_comp, ↓Y_lit, ↓Y_loc, ↓Y_cmp, ↓Y_cmp2, ↓Y_call, ↓Y_sub, ↓XEs_nil, ↓XEs_cons, ↓XIfs_nil, ↓XIfs_cons, ↓Z_expr, ↓Z_assign, ↓Z_ret, ↓Z_retNone, ↓Z_ite, ↓Z_for, ↓Z_pass, ↓Z_brk, ↓Z_cont, ↓Zs_nil, ↓sqX_next, ↓sqX_brk, ↓sqX_cont, ↓sqX_ret, ↓Zs_cons, ↓wkX_next, ↓wkX_cont, ↓wkX_brk, ↓wkX_ret, ↓fkX_next, ↓fkX_cont, ↓fkX_brk, ↓fkX_ret, ↓xb_one, ↓oKK_some, ↓oK_some, ↓tX_bool, ↓iX_t, ↓iX_f, ↓iX_d, ↓q_add, ↓q_sub, ↓q_mul, ↓q_div, ↓q_mod, ↓q_pow, ↓q_list, ↓q_eq, ↓q_ne, ↓q_eqs, ↓q_nes, ↓q_eqb, ↓q_lt, ↓q_le, ↓q_gt, ↓q_ge, ↓q_in, ↓q_inl, ↓q_nin, ↓q_is, ↓q_isnot, ↓q_stup, ↓q_sref, ↓q_sscr, ↓q_fn, ↓q_lentup, ↓q_lenref, ↓q_lenscr, ↓q_isi, ↓q_all, ↓q_max, ↓q_min, ↓q_int, ↓q_tuple, ↓q_listc, ↓q_append, ↓q_clear, ↓q_index, ↓q_pop, ↓q_slicet, ↓q_revt, ↓q_revl, ↓q_set, ↓q_repr, ↓q_eqo, ↓X_rev, ↓Z_set, ↓q_addt, ↓q_listt, ↓q_ninl, ↓u_tup, ↓u_ref, ↓u_range, ↓q_slice, ↓oi_none, ↓oi_int, ↓X_slice, ↓XO_none, ↓XO_some, ↓u_rev, ↓u_zip, ↓xb_two, ↓u_range2, ↓retV_ret, ↓retV_next, List.getElem?_cons_zero, List.getElem?_cons_succ, List.set_cons_zero, List.set_cons_succ, Bool.not_true, Bool.not_false, idx_0, idx_1, idx_2, idx_3, idx_4, idx_5, Int.reduceAdd, Int.reduceSub, Int.reduceMul, Int.reduceNeg, Int.reducePow, Int.reduceLT, Int.reduceLE, Int.reduceEq, Int.reduceNe, Int.reduceToNat, Int.reduceAbs, Nat.reduceAdd, Nat.reduceLT, Nat.reduceLeDiff, Nat.reducePow, Nat.reduceLT, List.length_cons, List.length_nil, true_implies, false_implies, not_true_eq_false, not_false_eq_true, and_true, true_and, and_self, or_true, true_or, decide_true, decide_false, exists_eq_left', Option.some.injEq, ↓e4_b]
        refine ⟨b, _, _, rfl, hb.1, ?_⟩
        simp only [↓X_lit, ↓X_loc, ↓X_bin, ↓negX_int, ↓X_neg, ↓X_not, ↓Y_not, ↓X_and, ↓Y_and, ↓X_or, ↓Y_or, ↓X_cmp, ↓X_cmp2, ↓X_ite, ↓Y_ite, ↓X_tup, ↓X_lst, ↓X_call, ↓X_meth, ↓X_sub, ↓X_comp, ↓Y_lit, ↓Y_loc, ↓Y_cmp, ↓Y_cmp2, ↓Y_call, ↓Y_sub, ↓XEs_nil, ↓XEs_cons, ↓XIfs_nil, ↓XIfs_cons, ↓Z_expr, ↓Z_assign, ↓Z_ret, ↓Z_retNone, ↓Z_ite, ↓Z_for, ↓Z_pass, ↓Z_brk, ↓Z_cont, ↓Zs_nil, ↓sqX_next, ↓sqX_brk, ↓sqX_cont, ↓sqX_ret, ↓Zs_cons, ↓wkX_next, ↓wkX_cont, ↓wkX_brk, ↓wkX_ret, ↓fkX_next, ↓fkX_cont, ↓fkX_brk, ↓fkX_ret, ↓xb_one, ↓oKK_some, ↓oK_some, ↓tX_bool, ↓iX_t, ↓iX_f, ↓iX_d, ↓q_add, ↓q_sub, ↓q_mul, ↓q_div, ↓q_mod, ↓q_pow, ↓q_list, ↓q_eq, ↓q_ne, ↓q_eqs, ↓q_nes, ↓q_eqb, ↓q_lt, ↓q_le, ↓q_gt, ↓q_ge, ↓q_in, ↓q_inl, ↓q_nin, ↓q_is, ↓q_isnot, ↓q_stup, ↓q_sref, ↓q_sscr, ↓q_fn, ↓q_lentup, ↓q_lenref, ↓q_lenscr, ↓q_isi, ↓q_all, ↓q_max, ↓q_min, ↓q_int, ↓q_tuple, ↓q_listc, ↓q_append, ↓q_clear, ↓q_index, ↓q_pop, ↓q_slicet, ↓q_revt, ↓q_revl, ↓q_set, ↓q_repr, ↓q_eqo, ↓X_rev, ↓Z_set, ↓q_addt, ↓q_listt, ↓q_ninl, ↓u_tup, ↓u_ref, ↓u_range, ↓q_slice, ↓oi_none, ↓oi_int, ↓X_slice, ↓XO_none, ↓XO_some, ↓u_rev, ↓u_zip, ↓xb_two, ↓u_range2, ↓retV_ret, ↓retV_next, List.getElem?_cons_zero, List.getElem?_cons_succ, List.set_cons_zero, List.set_cons_succ, Bool.not_true, Bool.not_false, idx_0, idx_1, idx_2, idx_3, idx_4, idx_5, Int.reduceAdd, Int.reduceSub, Int.reduceMul, Int.reduceNeg, Int.reducePow, Int.reduceLT, Int.reduceLE, Int.reduceEq, Int.reduceNe, Int.reduceToNat, Int.reduceAbs, Nat.reduceAdd, Nat.reduceLT, Nat.reduceLeDiff, Nat.reducePow, Nat.reduceLT, List.length_cons, List.length_nil, true_implies, false_implies, not_true_eq_false, not_false_eq_true, and_true, true_and, and_self, or_true, true_or, decide_true, decide_false, exists_eq_left', Option.some.injEq]
        cases e1 : bt b 0 23 with
        | false => simp only [e1, Bool.false_and, Bool.false_eq_true, if_false] at q; subst hK; exact q
        | true =>
          simp only [↓X_lit, ↓X_loc, ↓X_bin, ↓negX_int, ↓X_neg, ↓X_not, ↓Y_not, ↓X_and, ↓Y_and, ↓X_or, ↓Y_or, ↓X_cmp, ↓X_cmp2, ↓X_ite, ↓Y_ite, ↓X_tup, ↓X_lst, ↓X_call, ↓X_meth, ↓X_sub, ↓X_comp, ↓Y_lit, ↓Y_loc, ↓Y_cmp, ↓Y_cmp2, ↓Y_call, ↓Y_sub, ↓XEs_nil, ↓XEs_cons, ↓XIfs_nil, ↓XIfs_cons, ↓Z_expr, ↓Z_assign, ↓Z_ret, ↓Z_retNone, ↓Z_ite, ↓Z_for, ↓Z_pass, ↓Z_brk, ↓Z_cont, ↓Zs_nil, ↓sqX_next, ↓sqX_brk, ↓sqX_cont, ↓sqX_ret, ↓Zs_cons, ↓wkX_next, ↓wkX_cont, ↓wkX_brk, ↓wkX_ret, ↓fkX_next, ↓fkX_cont, ↓fkX_brk, ↓fkX_ret, ↓xb_one, ↓oKK_some, ↓oK_some, ↓tX_bool, ↓iX_t, ↓iX_f, ↓iX_d, ↓q_add, ↓q_sub, ↓q_mul, ↓q_div, ↓q_mod, ↓q_pow, ↓q_list, ↓q_eq, ↓q_ne, ↓q_eqs, ↓q_nes, ↓q_eqb, ↓q_lt, ↓q_le, ↓q_gt, ↓q_ge, ↓q_in, ↓q_inl, ↓q_nin, ↓q_is, ↓q_isnot, ↓q_stup, ↓q_sref, ↓q_sscr, ↓q_fn, ↓q_lentup, ↓q_lenref, ↓q_lenscr, ↓q_isi, ↓q_all, ↓q_max, ↓q_min, ↓q_int, ↓q_tuple, ↓q_listc, ↓q_append, ↓q_clear, ↓q_index, ↓q_pop, ↓q_slicet, ↓q_revt, ↓q_revl, ↓q_set, ↓q_repr, ↓q_eqo, ↓X_rev, ↓Z_set, ↓q_addt, ↓q_listt, ↓q_ninl, ↓u_tup, ↓u_ref, ↓u_range, ↓q_slice, ↓oi_none, ↓oi_int, ↓X_slice, ↓XO_none, ↓XO_some, ↓u_rev, ↓u_zip, ↓xb_two, ↓u_range2, ↓retV_ret, ↓retV_next, List.getElem?_cons_zero, List.getElem?_cons_succ, List.set_cons_zero, List.set_cons_succ, Bool.not_true, Bool.not_false, idx_0, idx_1, idx_2, idx_3, idx_4, idx_5, Int.reduceAdd, Int.reduceSub, Int.reduceMul, Int.reduceNeg, Int.reducePow, Int.reduceLT, Int.reduceLE, Int.reduceEq, Int.reduceNe, Int.reduceToNat, Int.reduceAbs, Nat.reduceAdd, Nat.reduceLT, Nat.reduceLeDiff, Nat.reducePow, Nat.reduceLT, List.length_cons, List.length_nil, true_implies, false_implies, not_true_eq_false, not_false_eq_true, and_true, true_and, and_self, or_true, true_or, decide_true, decide_false, exists_eq_left', Option.some.injEq, ↓e4_b]
          refine ⟨c, _, _, rfl, hc.1, ?_⟩
          simp only [↓X_lit, ↓X_loc, ↓X_bin, ↓negX_int, ↓X_neg, ↓X_not, ↓Y_not, ↓X_and, ↓Y_and, ↓X_or, ↓Y_or, ↓X_cmp, ↓X_cmp2, ↓X_ite, ↓Y_ite, ↓X_tup, ↓X_lst, ↓X_call, ↓X_meth, ↓X_sub, ↓X_comp, ↓Y_lit, ↓Y_loc, ↓Y_cmp, ↓Y_cmp2, ↓Y_call, ↓Y_sub, ↓XEs_nil, ↓XEs_cons, ↓XIfs_nil, ↓XIfs_cons, ↓Z_expr, ↓Z_assign, ↓Z_ret, ↓Z_retNone, ↓Z_ite, ↓Z_for, ↓Z_pass, ↓Z_brk, ↓Z_cont, ↓Zs_nil, ↓sqX_next, ↓sqX_brk, ↓sqX_cont, ↓sqX_ret, ↓Zs_cons, ↓wkX_next, ↓wkX_cont, ↓wkX_brk, ↓wkX_ret, ↓fkX_next, ↓fkX_cont, ↓fkX_brk, ↓fkX_ret, ↓xb_one, ↓oKK_some, ↓oK_some, ↓tX_bool, ↓iX_t, ↓iX_f, ↓iX_d, ↓q_add, ↓q_sub, ↓q_mul, ↓q_div, ↓q_mod, ↓q_pow, ↓q_list, ↓q_eq, ↓q_ne, ↓q_eqs, ↓q_nes, ↓q_eqb, ↓q_lt, ↓q_le, ↓q_gt, ↓q_ge, ↓q_in, ↓q_inl, ↓q_nin, ↓q_is, ↓q_isnot, ↓q_stup, ↓q_sref, ↓q_sscr, ↓q_fn, ↓q_lentup, ↓q_lenref, ↓q_lenscr, ↓q_isi, ↓q_all, ↓q_max, ↓q_min, ↓q_int, ↓q_tuple, ↓q_listc, ↓q_append, ↓q_clear, ↓q_index, ↓q_pop, ↓q_slicet, ↓q_revt, ↓q_revl, ↓q_set, ↓q_repr, ↓q_eqo, ↓X_rev, ↓Z_set, ↓q_addt, ↓q_listt, ↓q_ninl, ↓u_tup, ↓u_ref, ↓u_range, ↓q_slice, ↓oi_none, ↓oi_int, ↓X_slice, ↓XO_none, ↓XO_some, ↓u_rev, ↓u_zip, ↓xb_two, ↓u_range2, ↓retV_ret, ↓retV_next, List.getElem?_cons_zero, List.getElem?_cons_succ, List.set_cons_zero, List.set_cons_succ, Bool.not_true, Bool.not_false, idx_0, idx_1, idx_2, idx_3, idx_4, idx_5, Int.reduceAdd, Int.reduceSub, Int.reduceMul, Int.reduceNeg, Int.reducePow, Int.reduceLT, Int.reduceLE, Int.reduceEq, Int.reduceNe, Int.reduceToNat, Int.reduceAbs, Nat.reduceAdd, Nat.reduceLT, Nat.reduceLeDiff, Nat.reducePow, Nat.reduceLT, List.length_cons, List.length_nil, true_implies, false_implies, not_true_eq_false, not_false_eq_true, and_true, true_and, and_self, or_true, true_or, decide_true, decide_false, exists_eq_left', Option.some.injEq]
          cases e2 : bt c 1 48 with
          | false => simp only [e1, e2, Bool.and_false, Bool.false_eq_true, if_false] at q; subst hK; exact q
          | true =>
            simp only [e1, e2, Bool.and_self, if_true] at q
            subst hK
            refine zs_cons ?_
            show ifP (w == "week") _ _
            cases ew : w == "week" with
            | true =>
              rw [ew, if_pos rfl] at q
              generalize hK : sqX E4 (_ :: _) = K
              simp only [↓X_lit, ↓X_loc, ↓X_bin, ↓negX_int, ↓X_neg, ↓X_not, ↓Y_not, ↓X_and, ↓Y_and, ↓X_or, ↓Y_or, ↓X_cmp, ↓X_cmp2, ↓X_ite, ↓Y_ite, ↓X_tup, ↓X_lst, ↓X_call, ↓X_meth, ↓X_sub, ↓X_comp, ↓Y_lit, ↓Y_loc, ↓Y_cmp, ↓Y_cmp2, ↓Y_call, ↓Y_sub, ↓XEs_nil, ↓XEs_cons, ↓XIfs_nil, ↓XIfs_cons, ↓Z_expr, ↓Z_assign, ↓Z_ret, ↓Z_retNone, ↓Z_ite, ↓Z_for, ↓Z_pass, ↓Z_brk, ↓Z_cont, ↓Zs_nil, ↓sqX_next, ↓sqX_brk, ↓sqX_cont, ↓sqX_ret, ↓Zs_cons, ↓wkX_next, ↓wkX_cont, ↓wkX_brk, ↓wkX_ret, ↓fkX_next, ↓fkX_cont, ↓fkX_brk, ↓fkX_ret, ↓xb_one, ↓oKK_some, ↓oK_some, ↓tX_bool, ↓iX_t, ↓iX_f, ↓iX_d, ↓q_add, ↓q_sub, ↓q_mul, ↓q_div, ↓q_mod, ↓q_pow, ↓q_list, ↓q_eq, ↓q_ne, ↓q_eqs, ↓q_nes, ↓q_eqb, ↓q_lt, ↓q_le, ↓q_gt, ↓q_ge, ↓q_in, ↓q_inl, ↓q_nin, ↓q_is, ↓q_isnot, ↓q_stup, ↓q_sref, ↓q_sscr, ↓q_fn, ↓q_lentup, ↓q_lenref, ↓q_lenscr, ↓q_isi, ↓q_all, ↓q_max, ↓q_min, ↓q_int, ↓q_tuple, ↓q_listc, ↓q_append, ↓q_clear, ↓q_index, ↓q_pop, ↓q_slicet, ↓q_revt, ↓q_revl, ↓q_set, ↓q_repr, ↓q_eqo, ↓X_rev, ↓Z_set, ↓q_addt, ↓q_listt, ↓q_ninl, ↓u_tup, ↓u_ref, ↓u_range, ↓q_slice, ↓oi_none, ↓oi_int, ↓X_slice, ↓XO_none, ↓XO_some, ↓u_rev, ↓u_zip, ↓xb_two, ↓u_range2, ↓retV_ret, ↓retV_next, List.getElem?_cons_zero, List.getElem?_cons_succ, List.set_cons_zero, List.set_cons_succ, Bool.not_true, Bool.not_false, idx_0, idx_1, idx_2, idx_3, idx_4, idx_5, Int.reduceAdd, Int.reduceSub, Int.reduceMul, Int.reduceNeg, Int.reducePow, Int.reduceLT, Int.reduceLE, Int.reduceEq, Int.reduceNe, Int.reduceToNat, Int.reduceAbs, Nat.reduceAdd, Nat.reduceLT, Nat.reduceLeDiff, Nat.reducePow, Nat.reduceLT, List.length_cons, List.length_nil, true_implies, false_implies, not_true_eq_false, not_false_eq_true, and_true, true_and, and_self, or_true, true_or, decide_true, decide_false, exists_eq_left', Option.some.injEq, ↓e4_r]
              exact ⟨a, _, _, rfl, ha.1, ha.2, by subst hK; exact q⟩
            | false =>
              rw [ew, if_neg (by decide)] at q
              refine zs_cons ?_
              show ifP (w == "month") _ _
              cases em : w == "month" with
              | false => rw [em] at q; exact q
              | true =>
                rw [em, Bool.true_and] at q
                generalize hK : sqX E4 [] = K
                simp only [↓X_lit, ↓X_loc, ↓X_bin, ↓negX_int, ↓X_neg, ↓X_not, ↓Y_not, ↓X_and, ↓Y_and, ↓X_or, ↓Y_or, ↓X_cmp, ↓X_cmp2, ↓X_ite, ↓Y_ite, ↓X_tup, ↓X_lst, ↓X_call, ↓X_meth, ↓X_sub, ↓X_comp, ↓Y_lit, ↓Y_loc, ↓Y_cmp, ↓Y_cmp2, ↓Y_call, ↓Y_sub, ↓XEs_nil, ↓XEs_cons, ↓XIfs_nil, ↓XIfs_cons, ↓Z_expr, ↓Z_assign, ↓Z_ret, ↓Z_retNone, ↓Z_ite, ↓Z_for, ↓Z_pass, ↓Z_brk, ↓Z_cont, ↓Zs_nil, ↓sqX_next, ↓sqX_brk, ↓sqX_cont, ↓sqX_ret, ↓Zs_cons, ↓wkX_next, ↓wkX_cont, ↓wkX_brk, ↓wkX_ret, ↓fkX_next, ↓fkX_cont, ↓fkX_brk, ↓fkX_ret, ↓xb_one, ↓oKK_some, ↓oK_some, ↓tX_bool, ↓iX_t, ↓iX_f, ↓iX_d, ↓q_add, ↓q_sub, ↓q_mul, ↓q_div, ↓q_mod, ↓q_pow, ↓q_list, ↓q_eq, ↓q_ne, ↓q_eqs, ↓q_nes, ↓q_eqb, ↓q_lt, ↓q_le, ↓q_gt, ↓q_ge, ↓q_in, ↓q_inl, ↓q_nin, ↓q_is, ↓q_isnot, ↓q_stup, ↓q_sref, ↓q_sscr, ↓q_fn, ↓q_lentup, ↓q_lenref, ↓q_lenscr, ↓q_isi, ↓q_all, ↓q_max, ↓q_min, ↓q_int, ↓q_tuple, ↓q_listc, ↓q_append, ↓q_clear, ↓q_index, ↓q_pop, ↓q_slicet, ↓q_revt, ↓q_revl, ↓q_set, ↓q_repr, ↓q_eqo, ↓X_rev, ↓Z_set, ↓q_addt, ↓q_listt, ↓q_ninl, ↓u_tup, ↓u_ref, ↓u_range, ↓q_slice, ↓oi_none, ↓oi_int, ↓X_slice, ↓XO_none, ↓XO_some, ↓u_rev, ↓u_zip, ↓xb_two, ↓u_range2, ↓retV_ret, ↓retV_next, List.getElem?_cons_zero, List.getElem?_cons_succ, List.set_cons_zero, List.set_cons_succ, Bool.not_true, Bool.not_false, idx_0, idx_1, idx_2, idx_3, idx_4, idx_5, Int.reduceAdd, Int.reduceSub, Int.reduceMul, Int.reduceNeg, Int.reducePow, Int.reduceLT, Int.reduceLE, Int.reduceEq, Int.reduceNe, Int.reduceToNat, Int.reduceAbs, Nat.reduceAdd, Nat.reduceLT, Nat.reduceLeDiff, Nat.reducePow, Nat.reduceLT, List.length_cons, List.length_nil, true_implies, false_implies, not_true_eq_false, not_false_eq_true, and_true, true_and, and_self, or_true, true_or, decide_true, decide_false, exists_eq_left', Option.some.injEq, ↓e4_b]
                refine ⟨a, _, _, rfl, ha.1, ?_⟩
                simp only [↓X_lit, ↓X_loc, ↓X_bin, ↓negX_int, ↓X_neg, ↓X_not, ↓Y_not, ↓X_and, ↓Y_and, ↓X_or, ↓Y_or, ↓X_cmp, ↓X_cmp2, ↓X_ite, ↓Y_ite, ↓X_tup, ↓X_lst, ↓X_call, ↓X_meth, ↓X_sub, ↓X_comp, ↓Y_lit, ↓Y_loc, ↓Y_cmp, ↓Y_cmp2, ↓Y_call, ↓Y_sub, ↓XEs_nil, ↓XEs_cons, ↓XIfs_nil, ↓XIfs_cons, ↓Z_expr, ↓Z_assign, ↓Z_ret, ↓Z_retNone, ↓Z_ite, ↓Z_for, ↓Z_pass, ↓Z_brk, ↓Z_cont, ↓Zs_nil, ↓sqX_next, ↓sqX_brk, ↓sqX_cont, ↓sqX_ret, ↓Zs_cons, ↓wkX_next, ↓wkX_cont, ↓wkX_brk, ↓wkX_ret, ↓fkX_next, ↓fkX_cont, ↓fkX_brk, ↓fkX_ret, ↓xb_one, ↓oKK_some, ↓oK_some, ↓tX_bool, ↓iX_t, ↓iX_f, ↓iX_d, ↓q_add, ↓q_sub, ↓q_mul, ↓q_div, ↓q_mod, ↓q_pow, ↓q_list, ↓q_eq, ↓q_ne, ↓q_eqs, ↓q_nes, ↓q_eqb, ↓q_lt, ↓q_le, ↓q_gt, ↓q_ge, ↓q_in, ↓q_inl, ↓q_nin, ↓q_is, ↓q_isnot, ↓q_stup, ↓q_sref, ↓q_sscr, ↓q_fn, ↓q_lentup, ↓q_lenref, ↓q_lenscr, ↓q_isi, ↓q_all, ↓q_max, ↓q_min, ↓q_int, ↓q_tuple, ↓q_listc, ↓q_append, ↓q_clear, ↓q_index, ↓q_pop, ↓q_slicet, ↓q_revt, ↓q_revl, ↓q_set, ↓q_repr, ↓q_eqo, ↓X_rev, ↓Z_set, ↓q_addt, ↓q_listt, ↓q_ninl, ↓u_tup, ↓u_ref, ↓u_range, ↓q_slice, ↓oi_none, ↓oi_int, ↓X_slice, ↓XO_none, ↓XO_some, ↓u_rev, ↓u_zip, ↓xb_two, ↓u_range2, ↓retV_ret, ↓retV_next, List.getElem?_cons_zero, List.getElem?_cons_succ, List.set_cons_zero, List.set_cons_succ, Bool.not_true, Bool.not_false, idx_0, idx_1, idx_2, idx_3, idx_4, idx_5, Int.reduceAdd, Int.reduceSub, Int.reduceMul, Int.reduceNeg, Int.reducePow, Int.reduceLT, Int.reduceLE, Int.reduceEq, Int.reduceNe, Int.reduceToNat, Int.reduceAbs, Nat.reduceAdd, Nat.reduceLT, Nat.reduceLeDiff, Nat.reducePow, Nat.reduceLT, List.length_cons, List.length_nil, true_implies, false_implies, not_true_eq_false, not_false_eq_true, and_true, true_and, and_self, or_true, true_or, decide_true, decide_false, exists_eq_left', Option.some.injEq]
                cases e3 : bt a (-31) 31 with
                | false => rw [e3] at q; subst hK; exact q
                | true =>
                  have hi : ∃ i, a = .int i := by cases a <;> first | exact ⟨_, rfl⟩ | cases e3
                  obtain ⟨i, rfl⟩ := hi
                  rw [e3, Bool.true_and] at q
                  simp only [↓X_lit, ↓X_loc, ↓X_bin, ↓negX_int, ↓X_neg, ↓X_not, ↓Y_not, ↓X_and, ↓Y_and, ↓X_or, ↓Y_or, ↓X_cmp, ↓X_cmp2, ↓X_ite, ↓Y_ite, ↓X_tup, ↓X_lst, ↓X_call, ↓X_meth, ↓X_sub, ↓X_comp, ↓Y_lit, ↓Y_loc, ↓Y_cmp, ↓Y_cmp2, ↓Y_call, ↓Y_sub, ↓XEs_nil, ↓XEs_cons, ↓XIfs_nil, ↓XIfs_cons, ↓Z_expr, ↓Z_assign, ↓Z_ret, ↓Z_retNone, ↓Z_ite, ↓Z_for, ↓Z_pass, ↓Z_brk, ↓Z_cont, ↓Zs_nil, ↓sqX_next, ↓sqX_brk, ↓sqX_cont, ↓sqX_ret, ↓Zs_cons, ↓wkX_next, ↓wkX_cont, ↓wkX_brk, ↓wkX_ret, ↓fkX_next, ↓fkX_cont, ↓fkX_brk, ↓fkX_ret, ↓xb_one, ↓oKK_some, ↓oK_some, ↓tX_bool, ↓iX_t, ↓iX_f, ↓iX_d, ↓q_add, ↓q_sub, ↓q_mul, ↓q_div, ↓q_mod, ↓q_pow, ↓q_list, ↓q_eq, ↓q_ne, ↓q_eqs, ↓q_nes, ↓q_eqb, ↓q_lt, ↓q_le, ↓q_gt, ↓q_ge, ↓q_in, ↓q_inl, ↓q_nin, ↓q_is, ↓q_isnot, ↓q_stup, ↓q_sref, ↓q_sscr, ↓q_fn, ↓q_lentup, ↓q_lenref, ↓q_lenscr, ↓q_isi, ↓q_all, ↓q_max, ↓q_min, ↓q_int, ↓q_tuple, ↓q_listc, ↓q_append, ↓q_clear, ↓q_index, ↓q_pop, ↓q_slicet, ↓q_revt, ↓q_revl, ↓q_set, ↓q_repr, ↓q_eqo, ↓X_rev, ↓Z_set, ↓q_addt, ↓q_listt, ↓q_ninl, ↓u_tup, ↓u_ref, ↓u_range, ↓q_slice, ↓oi_none, ↓oi_int, ↓X_slice, ↓XO_none, ↓XO_some, ↓u_rev, ↓u_zip, ↓xb_two, ↓u_range2, ↓retV_ret, ↓retV_next, List.getElem?_cons_zero, List.getElem?_cons_succ, List.set_cons_zero, List.set_cons_succ, Bool.not_true, Bool.not_false, idx_0, idx_1, idx_2, idx_3, idx_4, idx_5, Int.reduceAdd, Int.reduceSub, Int.reduceMul, Int.reduceNeg, Int.reducePow, Int.reduceLT, Int.reduceLE, Int.reduceEq, Int.reduceNe, Int.reduceToNat, Int.reduceAbs, Nat.reduceAdd, Nat.reduceLT, Nat.reduceLeDiff, Nat.reducePow, Nat.reduceLT, List.length_cons, List.length_nil, true_implies, false_implies, not_true_eq_false, not_false_eq_true, and_true, true_and, and_self, or_true, true_or, decide_true, decide_false, exists_eq_left', Option.some.injEq]
                  subst hK; exact q
noncomputable def E5 : Orc := ext "is_plain" C_is_plain E4
end Mine

set_option autoImplicit false
set_option linter.unusedSimpArgs false
set_option maxRecDepth 20000
namespace Mine
open PySem

mutual
noncomputable def Th (H : Hp) : V → Prop
  | .none => True
  | .bool _ => True
  | .int _ => True
  | .str _ => True
  | .tup l => Ths H l
  | .ref i => ∃ l, listAt H i = some l
  | _ => False
noncomputable def Ths (H : Hp) : List V → Prop
  | [] => True
  | v :: r => Th H v ∧ Ths H r
end
theorem Th.al {H : Hp} : ∀ {v : V}, Th H v → al H v
  | .none, _ => trivial
  | .bool _, _ => trivial
  | .int _, _ => trivial
  | .str _, _ => trivial
  | .tup _, _ => trivial
  | .ref _, h => h
theorem Ths.mem {H : Hp} : ∀ {l : List V}, Ths H l → ∀ x ∈ l, Th H x
  | _ :: _, h, x, hx => by
    rcases List.mem_cons.mp hx with q | q
    · subst q; exact h.1
    · exact Ths.mem h.2 x q
theorem Th.als {H : Hp} {v : V} (h : Th H v) : als H v := by
  cases v with
  | tup l => exact fun x hx => (Ths.mem (l := l) h x hx).al
  | _ => trivial
mutual
theorem Th.pre {H H' : Hp} (p : H <+: H') : ∀ {v : V}, Th H v → Th H' v
  | .none, _ => trivial
  | .bool _, _ => trivial
  | .int _, _ => trivial
  | .str _, _ => trivial
  | .tup l, h => Ths.pre (l := l) p h
  | .ref _, ⟨l, hl⟩ => ⟨l, listAt_pre p hl⟩
theorem Ths.pre {H H' : Hp} (p : H <+: H') : ∀ {l : List V}, Ths H l → Ths H' l
  | [], _ => trivial
  | _ :: _, h => ⟨Th.pre p h.1, Ths.pre p h.2⟩
end

noncomputable def inOut (u : Str) : Bool := ([.str "from", .str "until", .str "also", .str "but"] : List PyData).any fun e => PyData.eqv e (.str u)
theorem mem_out {u : Str} : memV (.str u) [V.str "from", .str "until", .str "also", .str "but"] = some (inOut u) := rfl
noncomputable def hdT2 (u : Str) (a : V) : Bool := if u == "but" then rising a 20 99999999999 else bt a 0 999999999999
noncomputable def isRl : Nat → V → Bool
  | 0, _ => false
  | n + 1, v => match v with
    | .tup (.str u :: r) => if inOut u then (match r with | [a, t] => hdT2 u a && isRl n t | _ => false) else isPl u r
    | _ => false
noncomputable def C_is_rule : Ctr := fun vs H Q _ => ∃ v, vs = [v] ∧ Th H v ∧ Q (.bool (isRl 8 v)) H
theorem e5_t : E5 "is_time" = C_is_time := rfl
theorem e5_r : E5 "are_rising" = C_are_rising := rfl
theorem e5_p : E5 "is_plain" = C_is_plain := rfl
noncomputable abbrev irB : List IS := [(.ite (.or (.not (.call (.bi .isinstance) [(.loc 0), (.lit (.ty .tuple))])) (.or (.cmp (.call (.bi .len) [(.loc 0)]) .Eq (.lit (.int 0))) (.not (.call (.bi .isinstance) [(.sub (.loc 0) (.lit (.int 0))), (.lit (.ty .str))])))) [(.ret (.lit (.bool false)))] []), (.ite (.cmp (.sub (.loc 0) (.lit (.int 0))) .NotIn (.lit (.tup [(.str "from"), (.str "until"), (.str "also"), (.str "but")]))) [(.ret (.call (.fn "is_plain") [(.loc 0)]))] []), (.ite (.cmp (.call (.bi .len) [(.loc 0)]) .NotEq (.lit (.int 3))) [(.ret (.lit (.bool false)))] []), (.ite (.and (.cmp (.sub (.loc 0) (.lit (.int 0))) .Eq (.lit (.str "but"))) (.not (.call (.fn "are_rising") [(.sub (.loc 0) (.lit (.int 1))), (.lit (.int 20)), (.bin .Sub (.lit (.int 100000000000)) (.lit (.int 1)))]))) [(.ret (.lit (.bool false)))] []), (.ite (.and (.cmp (.sub (.loc 0) (.lit (.int 0))) .NotEq (.lit (.str "but"))) (.not (.call (.fn "is_time") [(.sub (.loc 0) (.lit (.int 1)))]))) [(.ret (.lit (.bool false)))] []), (.assign 0 (.sub (.loc 0) (.lit (.int 2))))]
theorem rl_not_two {n : Nat} {u : Str} : ∀ {r : List V}, inOut u = true → r.length ≠ 2 → isRl (n + 1) (.tup (.str u :: r)) = false
  | [], h, _ => by simp only [isRl, h, if_true]
  | [_], h, _ => by simp only [isRl, h, if_true]
  | [_, _], _, h => absurd rfl h
  | _ :: _ :: _ :: _, h, _ => by simp only [isRl, h, if_true]
theorem ir_loop {XF : XS} {t2 t3 t4 : Option V} {H : Hp} {Q : QS} : ∀ (ks : List V) (v : V) (t1 : Option V), Th H v →
    (∀ L' b, isRl ks.length v = b → Q (.ret (.bool b)) L' H) → (∀ L', isRl ks.length v = false → Q .next L' H) →
    forGo (whBX E5 irB XF) (fun _ => True) [1] ks [some v, t1, t2, t3, t4] H Q := by
  intro ks
  induction ks with
  | nil => intro v t1 _ _ hn; exact hn _ rfl
  | cons k ks ih =>
    intro v t1 hv hr hn
    rw [foX_cons]
    show wpSs E5 irB [some v, some k, t2, t3, t4] H _ _
    obtain ⟨_, _, h3, _⟩ := isi_of hv.al
    refine zs_cons ?_
    generalize hK : sqX E5 (_ :: _) = K
    cases ht : tupLike v with
    | false =>
      have e : isRl (k :: ks).length v = false := by cases v <;> first | rfl | cases ht
      simp only [↓X_lit, ↓X_loc, ↓X_bin, ↓negX_int, ↓X_neg, ↓X_not, ↓Y_not, ↓X_and, ↓Y_and, ↓X_or, ↓Y_or, ↓X_cmp, ↓X_cmp2, ↓X_ite, ↓Y_ite, ↓X_tup, ↓X_lst, ↓X_call, ↓X_meth, ↓X_sub, ↓X_comp, ↓Y_lit, ↓Y_loc, ↓Y_cmp, ↓Y_cmp2, ↓Y_call, ↓Y_sub, ↓XEs_nil, ↓XEs_cons, ↓XIfs_nil, ↓XIfs_cons, ↓Z_expr, ↓Z_assign, ↓Z_ret, ↓Z_retNone, ↓Z_ite, ↓Z_for, ↓Z_pass, ↓Z_brk, ↓Z_cont, ↓Zs_nil, ↓sqX_next, ↓sqX_brk, ↓sqX_cont, ↓sqX_ret, ↓Zs_cons, ↓wkX_next, ↓wkX_cont, ↓wkX_brk, ↓wkX_ret, ↓fkX_next, ↓fkX_cont, ↓fkX_brk, ↓fkX_ret, ↓xb_one, ↓oKK_some, ↓oK_some, ↓tX_bool, ↓iX_t, ↓iX_f, ↓iX_d, ↓q_add, ↓q_sub, ↓q_mul, ↓q_div, ↓q_mod, ↓q_pow, ↓q_list, ↓q_eq, ↓q_ne, ↓q_eqs, ↓q_nes, ↓q_eqb, ↓q_lt, ↓q_le, ↓q_gt, ↓q_ge, ↓q_in, ↓q_inl, ↓q_nin, ↓q_is, ↓q_isnot, ↓q_stup, ↓q_sref, ↓q_sscr, ↓q_fn, ↓q_lentup, ↓q_lenref, ↓q_lenscr, ↓q_isi, ↓q_all, ↓q_max, ↓q_min, ↓q_int, ↓q_tuple, ↓q_listc, ↓q_append, ↓q_clear, ↓q_index, ↓q_pop, ↓q_slicet, ↓q_revt, ↓q_revl, ↓q_set, ↓q_repr, ↓q_eqo, ↓X_rev, ↓Z_set, ↓q_addt, ↓q_listt, ↓q_ninl, ↓u_tup, ↓u_ref, ↓u_range, ↓q_slice, ↓oi_none, ↓oi_int, ↓X_slice, ↓XO_none, ↓XO_some, ↓u_rev, ↓u_zip, ↓xb_two, ↓u_range2, ↓retV_ret, ↓retV_next, List.getElem?_cons_zero, List.getElem?_cons_succ, List.set_cons_zero, List.set_cons_succ, Bool.not_true, Bool.not_false, idx_0, idx_1, idx_2, idx_3, idx_4, idx_5, Int.reduceAdd, Int.reduceSub, Int.reduceMul, Int.reduceNeg, Int.reducePow, Int.reduceLT, Int.reduceLE, Int.reduceEq, Int.reduceNe, Int.reduceToNat, Int.reduceAbs, Nat.reduceAdd, Nat.reduceLT, Nat.reduceLeDiff, Nat.reducePow, Nat.reduceLT, List.length_cons, List.length_nil, true_implies, false_implies, not_true_eq_false, not_false_eq_true, and_true, true_and, and_self, or_true, true_or, decide_true, decide_false, exists_eq_left', Option.some.injEq, h3, ht]
      subst hK; exact hr _ _ e
    | true =>
      have hl : ∃ l, v = .tup l := by cases v <;> first | exact ⟨_, rfl⟩ | cases ht
      obtain ⟨l, rfl⟩ := hl
      cases l with
      | nil => simp only [↓X_lit, ↓X_loc, ↓X_bin, ↓negX_int, ↓X_neg, ↓X_not, ↓Y_not, ↓X_and, ↓Y_and, ↓X_or, ↓Y_or, ↓X_cmp, ↓X_cmp2, ↓X_ite, ↓Y_ite, ↓X_tup, ↓X_lst, ↓X_call, ↓X_meth, ↓X_sub, ↓X_comp, ↓Y_lit, ↓Y_loc, ↓Y_cmp, ↓Y_cmp2, ↓Y_call, ↓Y_sub, ↓XEs_nil, ↓XEs_cons, ↓XIfs_nil, ↓XIfs_cons, ↓Z_expr, ↓Z_assign, ↓Z_ret, ↓Z_retNone, ↓Z_ite, ↓Z_for, ↓Z_pass, ↓Z_brk, ↓Z_cont, ↓Zs_nil, ↓sqX_next, ↓sqX_brk, ↓sqX_cont, ↓sqX_ret, ↓Zs_cons, ↓wkX_next, ↓wkX_cont, ↓wkX_brk, ↓wkX_ret, ↓fkX_next, ↓fkX_cont, ↓fkX_brk, ↓fkX_ret, ↓xb_one, ↓oKK_some, ↓oK_some, ↓tX_bool, ↓iX_t, ↓iX_f, ↓iX_d, ↓q_add, ↓q_sub, ↓q_mul, ↓q_div, ↓q_mod, ↓q_pow, ↓q_list, ↓q_eq, ↓q_ne, ↓q_eqs, ↓q_nes, ↓q_eqb, ↓q_lt, ↓q_le, ↓q_gt, ↓q_ge, ↓q_in, ↓q_inl, ↓q_nin, ↓q_is, ↓q_isnot, ↓q_stup, ↓q_sref, ↓q_sscr, ↓q_fn, ↓q_lentup, ↓q_lenref, ↓q_lenscr, ↓q_isi, ↓q_all, ↓q_max, ↓q_min, ↓q_int, ↓q_tuple, ↓q_listc, ↓q_append, ↓q_clear, ↓q_index, ↓q_pop, ↓q_slicet, ↓q_revt, ↓q_revl, ↓q_set, ↓q_repr, ↓q_eqo, ↓X_rev, ↓Z_set, ↓q_addt, ↓q_listt, ↓q_ninl, ↓u_tup, ↓u_ref, ↓u_range, ↓q_slice, ↓oi_none, ↓oi_int, ↓X_slice, ↓XO_none, ↓XO_some, ↓u_rev, ↓u_zip, ↓xb_two, ↓u_range2, ↓retV_ret, ↓retV_next, List.getElem?_cons_zero, List.getElem?_cons_succ, List.set_cons_zero, List.set_cons_succ, Bool.not_true, Bool.not_false, idx_0, idx_1, idx_2, idx_3, idx_4, idx_5, Int.reduceAdd, Int.reduceSub, Int.reduceMul, Int.reduceNeg, Int.reducePow, Int.reduceLT, Int.reduceLE, Int.reduceEq, Int.reduceNe, Int.reduceToNat, Int.reduceAbs, Nat.reduceAdd, Nat.reduceLT, Nat.reduceLeDiff, Nat.reducePow, Nat.reduceLT, List.length_cons, List.length_nil, true_implies, false_implies, not_true_eq_false, not_false_eq_true, and_true, true_and, and_self, or_true, true_or, decide_true, decide_false, exists_eq_left', Option.some.injEq, h3, ht]; subst hK; exact ⟨fun _ => hr _ _ rfl, fun h => absurd rfl h⟩
      | cons a r =>
        have ha : Th H a := Ths.mem (l := a :: r) hv a List.mem_cons_self
        have hrr : ∀ x ∈ r, Th H x := fun x hx => Ths.mem (l := a :: r) hv x (List.mem_cons_of_mem _ hx)
        obtain ⟨_, _, _, h4⟩ := isi_of ha.al
        simp only [↓X_lit, ↓X_loc, ↓X_bin, ↓negX_int, ↓X_neg, ↓X_not, ↓Y_not, ↓X_and, ↓Y_and, ↓X_or, ↓Y_or, ↓X_cmp, ↓X_cmp2, ↓X_ite, ↓Y_ite, ↓X_tup, ↓X_lst, ↓X_call, ↓X_meth, ↓X_sub, ↓X_comp, ↓Y_lit, ↓Y_loc, ↓Y_cmp, ↓Y_cmp2, ↓Y_call, ↓Y_sub, ↓XEs_nil, ↓XEs_cons, ↓XIfs_nil, ↓XIfs_cons, ↓Z_expr, ↓Z_assign, ↓Z_ret, ↓Z_retNone, ↓Z_ite, ↓Z_for, ↓Z_pass, ↓Z_brk, ↓Z_cont, ↓Zs_nil, ↓sqX_next, ↓sqX_brk, ↓sqX_cont, ↓sqX_ret, ↓Zs_cons, ↓wkX_next, ↓wkX_cont, ↓wkX_brk, ↓wkX_ret, ↓fkX_next, ↓fkX_cont, ↓fkX_brk, ↓fkX_ret, ↓xb_one, ↓oKK_some, ↓oK_some, ↓tX_bool, ↓iX_t, ↓iX_f, ↓iX_d, ↓q_add, ↓q_sub, ↓q_mul, ↓q_div, ↓q_mod, ↓q_pow, ↓q_list, ↓q_eq, ↓q_ne, ↓q_eqs, ↓q_nes, ↓q_eqb, ↓q_lt, ↓q_le, ↓q_gt, ↓q_ge, ↓q_in, ↓q_inl, ↓q_nin, ↓q_is, ↓q_isnot, ↓q_stup, ↓q_sref, ↓q_sscr, ↓q_fn, ↓q_lentup, ↓q_lenref, ↓q_lenscr, ↓q_isi, ↓q_all, ↓q_max, ↓q_min, ↓q_int, ↓q_tuple, ↓q_listc, ↓q_append, ↓q_clear, ↓q_index, ↓q_pop, ↓q_slicet, ↓q_revt, ↓q_revl, ↓q_set, ↓q_repr, ↓q_eqo, ↓X_rev, ↓Z_set, ↓q_addt, ↓q_listt, ↓q_ninl, ↓u_tup, ↓u_ref, ↓u_range, ↓q_slice, ↓oi_none, ↓oi_int, ↓X_slice, ↓XO_none, ↓XO_some, ↓u_rev, ↓u_zip, ↓xb_two, ↓u_range2, ↓retV_ret, ↓retV_next, List.getElem?_cons_zero, List.getElem?_cons_succ, List.set_cons_zero, List.set_cons_succ, Bool.not_true, Bool.not_false, idx_0, idx_1, idx_2, idx_3, idx_4, idx_5, Int.reduceAdd, Int.reduceSub, Int.reduceMul, Int.reduceNeg, Int.reducePow, Int.reduceLT, Int.reduceLE, Int.reduceEq, Int.reduceNe, Int.reduceToNat, Int.reduceAbs, Nat.reduceAdd, Nat.reduceLT, Nat.reduceLeDiff, Nat.reducePow, Nat.reduceLT, List.length_cons, List.length_nil, true_implies, false_implies, not_true_eq_false, not_false_eq_true, and_true, true_and, and_self, or_true, true_or, decide_true, decide_false, exists_eq_left', Option.some.injEq, h3, ht]
        refine ⟨fun h => absurd h (by omega), fun _ => ?_⟩
        simp only [↓X_lit, ↓X_loc, ↓X_bin, ↓negX_int, ↓X_neg, ↓X_not, ↓Y_not, ↓X_and, ↓Y_and, ↓X_or, ↓Y_or, ↓X_cmp, ↓X_cmp2, ↓X_ite, ↓Y_ite, ↓X_tup, ↓X_lst, ↓X_call, ↓X_meth, ↓X_sub, ↓X_comp, ↓Y_lit, ↓Y_loc, ↓Y_cmp, ↓Y_cmp2, ↓Y_call, ↓Y_sub, ↓XEs_nil, ↓XEs_cons, ↓XIfs_nil, ↓XIfs_cons, ↓Z_expr, ↓Z_assign, ↓Z_ret, ↓Z_retNone, ↓Z_ite, ↓Z_for, ↓Z_pass, ↓Z_brk, ↓Z_cont, ↓Zs_nil, ↓sqX_next, ↓sqX_brk, ↓sqX_cont, ↓sqX_ret, ↓Zs_cons, ↓wkX_next, ↓wkX_cont, ↓wkX_brk, ↓wkX_ret, ↓fkX_next, ↓fkX_cont, ↓fkX_brk, ↓fkX_ret, ↓xb_one, ↓oKK_some, ↓oK_some, ↓tX_bool, ↓iX_t, ↓iX_f, ↓iX_d, ↓q_add, ↓q_sub, ↓q_mul, ↓q_div, ↓q_mod, ↓q_pow, ↓q_list, ↓q_eq, ↓q_ne, ↓q_eqs, ↓q_nes, ↓q_eqb, ↓q_lt, ↓q_le, ↓q_gt, ↓q_ge, ↓q_in, ↓q_inl, ↓q_nin, ↓q_is, ↓q_isnot, ↓q_stup, ↓q_sref, ↓q_sscr, ↓q_fn, ↓q_lentup, ↓q_lenref, ↓q_lenscr, ↓q_isi, ↓q_all, ↓q_max, ↓q_min, ↓q_int, ↓q_tuple, ↓q_listc, ↓q_append, ↓q_clear, ↓q_index, ↓q_pop, ↓q_slicet, ↓q_revt, ↓q_revl, ↓q_set, ↓q_repr, ↓q_eqo, ↓X_rev, ↓Z_set, ↓q_addt, ↓q_listt, ↓q_ninl, ↓u_tup, ↓u_ref, ↓u_range, ↓q_slice, ↓oi_none, ↓oi_int, ↓X_slice, ↓XO_none, ↓XO_some, ↓u_rev, ↓u_zip, ↓xb_two, ↓u_range2, ↓retV_ret, ↓retV_next, List.getElem?_cons_zero, List.getElem?_cons_succ, List.set_cons_zero, List.set_cons_succ, Bool.not_true, Bool.not_false, idx_0, idx_1, idx_2, idx_3, idx_4, idx_5, Int.reduceAdd, Int.reduceSub, Int.reduceMul, Int.reduceNeg, Int.reducePow, Int.reduceLT, Int.reduceLE, Int.reduceEq, Int.reduceNe, Int.reduceToNat, Int.reduceAbs, Nat.reduceAdd, Nat.reduceLT, Nat.reduceLeDiff, Nat.reducePow, Nat.reduceLT, List.length_cons, List.length_nil, true_implies, false_implies, not_true_eq_false, not_false_eq_true, and_true, true_and, and_self, or_true, true_or, decide_true, decide_false, exists_eq_left', Option.some.injEq, h4]
        cases hs : strLike a with
        | false =>
          have e : isRl (k :: ks).length (.tup (a :: r)) = false := by cases a <;> first | rfl | cases hs
          simp only [↓X_lit, ↓X_loc, ↓X_bin, ↓negX_int, ↓X_neg, ↓X_not, ↓Y_not, ↓X_and, ↓Y_and, ↓X_or, ↓Y_or, ↓X_cmp, ↓X_cmp2, ↓X_ite, ↓Y_ite, ↓X_tup, ↓X_lst, ↓X_call, ↓X_meth, ↓X_sub, ↓X_comp, ↓Y_lit, ↓Y_loc, ↓Y_cmp, ↓Y_cmp2, ↓Y_call, ↓Y_sub, ↓XEs_nil, ↓XEs_cons, ↓XIfs_nil, ↓XIfs_cons, ↓Z_expr, ↓Z_assign, ↓Z_ret, ↓Z_retNone, ↓Z_ite, ↓Z_for, ↓Z_pass, ↓Z_brk, ↓Z_cont, ↓Zs_nil, ↓sqX_next, ↓sqX_brk, ↓sqX_cont, ↓sqX_ret, ↓Zs_cons, ↓wkX_next, ↓wkX_cont, ↓wkX_brk, ↓wkX_ret, ↓fkX_next, ↓fkX_cont, ↓fkX_brk, ↓fkX_ret, ↓xb_one, ↓oKK_some, ↓oK_some, ↓tX_bool, ↓iX_t, ↓iX_f, ↓iX_d, ↓q_add, ↓q_sub, ↓q_mul, ↓q_div, ↓q_mod, ↓q_pow, ↓q_list, ↓q_eq, ↓q_ne, ↓q_eqs, ↓q_nes, ↓q_eqb, ↓q_lt, ↓q_le, ↓q_gt, ↓q_ge, ↓q_in, ↓q_inl, ↓q_nin, ↓q_is, ↓q_isnot, ↓q_stup, ↓q_sref, ↓q_sscr, ↓q_fn, ↓q_lentup, ↓q_lenref, ↓q_lenscr, ↓q_isi, ↓q_all, ↓q_max, ↓q_min, ↓q_int, ↓q_tuple, ↓q_listc, ↓q_append, ↓q_clear, ↓q_index, ↓q_pop, ↓q_slicet, ↓q_revt, ↓q_revl, ↓q_set, ↓q_repr, ↓q_eqo, ↓X_rev, ↓Z_set, ↓q_addt, ↓q_listt, ↓q_ninl, ↓u_tup, ↓u_ref, ↓u_range, ↓q_slice, ↓oi_none, ↓oi_int, ↓X_slice, ↓XO_none, ↓XO_some, ↓u_rev, ↓u_zip, ↓xb_two, ↓u_range2, ↓retV_ret, ↓retV_next, List.getElem?_cons_zero, List.getElem?_cons_succ, List.set_cons_zero, List.set_cons_succ, Bool.not_true, Bool.not_false, idx_0, idx_1, idx_2, idx_3, idx_4, idx_5, Int.reduceAdd, Int.reduceSub, Int.reduceMul, Int.reduceNeg, Int.reducePow, Int.reduceLT, Int.reduceLE, Int.reduceEq, Int.reduceNe, Int.reduceToNat, Int.reduceAbs, Nat.reduceAdd, Nat.reduceLT, Nat.reduceLeDiff, Nat.reducePow, Nat.reduceLT, List.length_cons, List.length_nil, true_implies, false_implies, not_true_eq_false, not_false_eq_true, and_true, true_and, and_self, or_true, true_or, decide_true, decide_false, exists_eq_left', Option.some.injEq]
          subst hK; exact hr _ _ e
        | true =>
          have hu : ∃ u, a = .str u := by cases a <;> first | exact ⟨_, rfl⟩ | cases hs
          obtain ⟨u, rfl⟩ := hu
          simp only [↓X_lit, ↓X_loc, ↓X_bin, ↓negX_int, ↓X_neg, ↓X_not, ↓Y_not, ↓X_and, ↓Y_and, ↓X_or, ↓Y_or, ↓X_cmp, ↓X_cmp2, ↓X_ite, ↓Y_ite, ↓X_tup, ↓X_lst, ↓X_call, ↓X_meth, ↓X_sub, ↓X_comp, ↓Y_lit, ↓Y_loc, ↓Y_cmp, ↓Y_cmp2, ↓Y_call, ↓Y_sub, ↓XEs_nil, ↓XEs_cons, ↓XIfs_nil, ↓XIfs_cons, ↓Z_expr, ↓Z_assign, ↓Z_ret, ↓Z_retNone, ↓Z_ite, ↓Z_for, ↓Z_pass, ↓Z_brk, ↓Z_cont, ↓Zs_nil, ↓sqX_next, ↓sqX_brk, ↓sqX_cont, ↓sqX_ret, ↓Zs_cons, ↓wkX_next, ↓wkX_cont, ↓wkX_brk, ↓wkX_ret, ↓fkX_next, ↓fkX_cont, ↓fkX_brk, ↓fkX_ret, ↓xb_one, ↓oKK_some, ↓oK_some, ↓tX_bool, ↓iX_t, ↓iX_f, ↓iX_d, ↓q_add, ↓q_sub, ↓q_mul, ↓q_div, ↓q_mod, ↓q_pow, ↓q_list, ↓q_eq, ↓q_ne, ↓q_eqs, ↓q_nes, ↓q_eqb, ↓q_lt, ↓q_le, ↓q_gt, ↓q_ge, ↓q_in, ↓q_inl, ↓q_nin, ↓q_is, ↓q_isnot, ↓q_stup, ↓q_sref, ↓q_sscr, ↓q_fn, ↓q_lentup, ↓q_lenref, ↓q_lenscr, ↓q_isi, ↓q_all, ↓q_max, ↓q_min, ↓q_int, ↓q_tuple, ↓q_listc, ↓q_append, ↓q_clear, ↓q_index, ↓q_pop, ↓q_slicet, ↓q_revt, ↓q_revl, ↓q_set, ↓q_repr, ↓q_eqo, ↓X_rev, ↓Z_set, ↓q_addt, ↓q_listt, ↓q_ninl, ↓u_tup, ↓u_ref, ↓u_range, ↓q_slice, ↓oi_none, ↓oi_int, ↓X_slice, ↓XO_none, ↓XO_some, ↓u_rev, ↓u_zip, ↓xb_two, ↓u_range2, ↓retV_ret, ↓retV_next, List.getElem?_cons_zero, List.getElem?_cons_succ, List.set_cons_zero, List.set_cons_succ, Bool.not_true, Bool.not_false, idx_0, idx_1, idx_2, idx_3, idx_4, idx_5, Int.reduceAdd, Int.reduceSub, Int.reduceMul, Int.reduceNeg, Int.reducePow, Int.reduceLT, Int.reduceLE, Int.reduceEq, Int.reduceNe, Int.reduceToNat, Int.reduceAbs, Nat.reduceAdd, Nat.reduceLT, Nat.reduceLeDiff, Nat.reducePow, Nat.reduceLT, List.length_cons, List.length_nil, true_implies, false_implies, not_true_eq_false, not_false_eq_true, and_true, true_and, and_self, or_true, true_or, decide_true, decide_false, exists_eq_left', Option.some.injEq]
          subst hK
          refine zs_cons ?_
          generalize hK : sqX E5 (_ :: _) = K
          simp only [↓X_lit, ↓X_loc, ↓X_bin, ↓negX_int, ↓X_neg, ↓X_not, ↓Y_not, ↓X_and, ↓Y_and, ↓X_or, ↓Y_or, ↓X_cmp, ↓X_cmp2, ↓X_ite, ↓Y_ite, ↓X_tup, ↓X_lst, ↓X_call, ↓X_meth, ↓X_sub, ↓X_comp, ↓Y_lit, ↓Y_loc, ↓Y_cmp, ↓Y_cmp2, ↓Y_call, ↓Y_sub, ↓XEs_nil, ↓XEs_cons, ↓XIfs_nil, ↓XIfs_cons, ↓Z_expr, ↓Z_assign, ↓Z_ret, ↓Z_retNone, ↓Z_ite, ↓Z_for, ↓Z_pass, ↓Z_brk, ↓Z_cont, ↓Zs_nil, ↓sqX_next, ↓sqX_brk, ↓sqX_cont, ↓sqX_ret, ↓Zs_cons, ↓wkX_next, ↓wkX_cont, ↓wkX_brk, ↓wkX_ret, ↓fkX_next, ↓fkX_cont, ↓fkX_brk, ↓fkX_ret, ↓xb_one, ↓oKK_some, ↓oK_some, ↓tX_bool, ↓iX_t, ↓iX_f, ↓iX_d, ↓q_add, ↓q_sub, ↓q_mul, ↓q_div, ↓q_mod, ↓q_pow, ↓q_list, ↓q_eq, ↓q_ne, ↓q_eqs, ↓q_nes, ↓q_eqb, ↓q_lt, ↓q_le, ↓q_gt, ↓q_ge, ↓q_in, ↓q_inl, ↓q_nin, ↓q_is, ↓q_isnot, ↓q_stup, ↓q_sref, ↓q_sscr, ↓q_fn, ↓q_lentup, ↓q_lenref, ↓q_lenscr, ↓q_isi, ↓q_all, ↓q_max, ↓q_min, ↓q_int, ↓q_tuple, ↓q_listc, ↓q_append, ↓q_clear, ↓q_index, ↓q_pop, ↓q_slicet, ↓q_revt, ↓q_revl, ↓q_set, ↓q_repr, ↓q_eqo, ↓X_rev, ↓Z_set, ↓q_addt, ↓q_listt, ↓q_ninl, ↓u_tup, ↓u_ref, ↓u_range, ↓q_slice, ↓oi_none, ↓oi_int, ↓X_slice, ↓XO_none, ↓XO_some, ↓u_rev, ↓u_zip, ↓xb_two, ↓u_range2, ↓retV_ret, ↓retV_next, List.getElem?_cons_zero, List.getElem?_cons_succ, List.set_cons_zero, List.set_cons_succ, Bool.not_true, Bool.not_false, idx_0, idx_1, idx_2, idx_3, idx_4, idx_5, Int.reduceAdd, Int.reduceSub, Int.reduceMul, Int.reduceNeg, Int.reducePow, Int.reduceLT, Int.reduceLE, Int.reduceEq, Int.reduceNe, Int.reduceToNat, Int.reduceAbs, Nat.reduceAdd, Nat.reduceLT, Nat.reduceLeDiff, Nat.reducePow, Nat.reduceLT, List.length_cons, List.length_nil, true_implies, false_implies, not_true_eq_false, not_false_eq_true, and_true, true_and, and_self, or_true, true_or, decide_true, decide_false, exists_eq_left', Option.some.injEq, mem_out, ↓e5_p]
          cases ho : inOut u with
          | false =>
            simp only [↓X_lit, ↓X_loc, ↓X_bin, ↓negX_int, ↓X_neg, ↓X_not, ↓Y_not, ↓X_and, ↓Y_and, ↓X_or, ↓Y_or, ↓X_cmp, ↓X_cmp2, ↓X_ite, ↓Y_ite, ↓X_tup, ↓X_lst, ↓X_call, ↓X_meth, ↓X_sub, ↓X_comp, ↓Y_lit, ↓Y_loc, ↓Y_cmp, ↓Y_cmp2, ↓Y_call, ↓Y_sub, ↓XEs_nil, ↓XEs_cons, ↓XIfs_nil, ↓XIfs_cons, ↓Z_expr, ↓Z_assign, ↓Z_ret, ↓Z_retNone, ↓Z_ite, ↓Z_for, ↓Z_pass, ↓Z_brk, ↓Z_cont, ↓Zs_nil, ↓sqX_next, ↓sqX_brk, ↓sqX_cont, ↓sqX_ret, ↓Zs_cons, ↓wkX_next, ↓wkX_cont, ↓wkX_brk, ↓wkX_ret, ↓fkX_next, ↓fkX_cont, ↓fkX_brk, ↓fkX_ret, ↓xb_one, ↓oKK_some, ↓oK_some, ↓tX_bool, ↓iX_t, ↓iX_f, ↓iX_d, ↓q_add, ↓q_sub, ↓q_mul, ↓q_div, ↓q_mod, ↓q_pow, ↓q_list, ↓q_eq, ↓q_ne, ↓q_eqs, ↓q_nes, ↓q_eqb, ↓q_lt, ↓q_le, ↓q_gt, ↓q_ge, ↓q_in, ↓q_inl, ↓q_nin, ↓q_is, ↓q_isnot, ↓q_stup, ↓q_sref, ↓q_sscr, ↓q_fn, ↓q_lentup, ↓q_lenref, ↓q_lenscr, ↓q_isi, ↓q_all, ↓q_max, ↓q_min, ↓q_int, ↓q_tuple, ↓q_listc, ↓q_append, ↓q_clear, ↓q_index, ↓q_pop, ↓q_slicet, ↓q_revt, ↓q_revl, ↓q_set, ↓q_repr, ↓q_eqo, ↓X_rev, ↓Z_set, ↓q_addt, ↓q_listt, ↓q_ninl, ↓u_tup, ↓u_ref, ↓u_range, ↓q_slice, ↓oi_none, ↓oi_int, ↓X_slice, ↓XO_none, ↓XO_some, ↓u_rev, ↓u_zip, ↓xb_two, ↓u_range2, ↓retV_ret, ↓retV_next, List.getElem?_cons_zero, List.getElem?_cons_succ, List.set_cons_zero, List.set_cons_succ, Bool.not_true, Bool.not_false, idx_0, idx_1, idx_2, idx_3, idx_4, idx_5, Int.reduceAdd, Int.reduceSub, Int.reduceMul, Int.reduceNeg, Int.reducePow, Int.reduceLT, Int.reduceLE, Int.reduceEq, Int.reduceNe, Int.reduceToNat, Int.reduceAbs, Nat.reduceAdd, Nat.reduceLT, Nat.reduceLeDiff, Nat.reducePow, Nat.reduceLT, List.length_cons, List.length_nil, true_implies, false_implies, not_true_eq_false, not_false_eq_true, and_true, true_and, and_self, or_true, true_or, decide_true, decide_false, exists_eq_left', Option.some.injEq, ↓e5_p]
            refine ⟨u, r, rfl, fun x hx => ⟨(hrr x hx).al, (hrr x hx).als⟩, ?_⟩
            subst hK
            refine hr _ _ ?_
            simp only [List.length_cons, isRl, ho, Bool.false_eq_true, if_false]
          | true =>
            simp only [↓X_lit, ↓X_loc, ↓X_bin, ↓negX_int, ↓X_neg, ↓X_not, ↓Y_not, ↓X_and, ↓Y_and, ↓X_or, ↓Y_or, ↓X_cmp, ↓X_cmp2, ↓X_ite, ↓Y_ite, ↓X_tup, ↓X_lst, ↓X_call, ↓X_meth, ↓X_sub, ↓X_comp, ↓Y_lit, ↓Y_loc, ↓Y_cmp, ↓Y_cmp2, ↓Y_call, ↓Y_sub, ↓XEs_nil, ↓XEs_cons, ↓XIfs_nil, ↓XIfs_cons, ↓Z_expr, ↓Z_assign, ↓Z_ret, ↓Z_retNone, ↓Z_ite, ↓Z_for, ↓Z_pass, ↓Z_brk, ↓Z_cont, ↓Zs_nil, ↓sqX_next, ↓sqX_brk, ↓sqX_cont, ↓sqX_ret, ↓Zs_cons, ↓wkX_next, ↓wkX_cont, ↓wkX_brk, ↓wkX_ret, ↓fkX_next, ↓fkX_cont, ↓fkX_brk, ↓fkX_ret, ↓xb_one, ↓oKK_some, ↓oK_some, ↓tX_bool, ↓iX_t, ↓iX_f, ↓iX_d, ↓q_add, ↓q_sub, ↓q_mul, ↓q_div, ↓q_mod, ↓q_pow, ↓q_list, ↓q_eq, ↓q_ne, ↓q_eqs, ↓q_nes, ↓q_eqb, ↓q_lt, ↓q_le, ↓q_gt, ↓q_ge, ↓q_in, ↓q_inl, ↓q_nin, ↓q_is, ↓q_isnot, ↓q_stup, ↓q_sref, ↓q_sscr, ↓q_fn, ↓q_lentup, ↓q_lenref, ↓q_lenscr, ↓q_isi, ↓q_all, ↓q_max, ↓q_min, ↓q_int, ↓q_tuple, ↓q_listc, ↓q_append, ↓q_clear, ↓q_index, ↓q_pop, ↓q_slicet, ↓q_revt, ↓q_revl, ↓q_set, ↓q_repr, ↓q_eqo, ↓X_rev, ↓Z_set, ↓q_addt, ↓q_listt, ↓q_ninl, ↓u_tup, ↓u_ref, ↓u_range, ↓q_slice, ↓oi_none, ↓oi_int, ↓X_slice, ↓XO_none, ↓XO_some, ↓u_rev, ↓u_zip, ↓xb_two, ↓u_range2, ↓retV_ret, ↓retV_next, List.getElem?_cons_zero, List.getElem?_cons_succ, List.set_cons_zero, List.set_cons_succ, Bool.not_true, Bool.not_false, idx_0, idx_1, idx_2, idx_3, idx_4, idx_5, Int.reduceAdd, Int.reduceSub, Int.reduceMul, Int.reduceNeg, Int.reducePow, Int.reduceLT, Int.reduceLE, Int.reduceEq, Int.reduceNe, Int.reduceToNat, Int.reduceAbs, Nat.reduceAdd, Nat.reduceLT, Nat.reduceLeDiff, Nat.reducePow, Nat.reduceLT, List.length_cons, List.length_nil, true_implies, false_implies, not_true_eq_false, not_false_eq_true, and_true, true_and, and_self, or_true, true_or, decide_true, decide_false, exists_eq_left', Option.some.injEq]
            subst hK
            refine zs_cons ?_
            generalize hK : sqX E5 (_ :: _) = K
            simp only [↓X_lit, ↓X_loc, ↓X_bin, ↓negX_int, ↓X_neg, ↓X_not, ↓Y_not, ↓X_and, ↓Y_and, ↓X_or, ↓Y_or, ↓X_cmp, ↓X_cmp2, ↓X_ite, ↓Y_ite, ↓X_tup, ↓X_lst, ↓X_call, ↓X_meth, ↓X_sub, ↓X_comp, ↓Y_lit, ↓Y_loc, ↓Y_cmp, ↓Y_cmp2, ↓Y_call, ↓Y_sub, ↓XEs_nil, ↓XEs_cons, ↓XIfs_nil, ↓XIfs_cons, ↓Z_expr, ↓Z_assign, ↓Z_ret, ↓Z_retNone, ↓Z_ite, ↓Z_for, ↓Z_pass, ↓Z_brk, ↓Z_cont, ↓Zs_nil, ↓sqX_next, ↓sqX_brk, ↓sqX_cont, ↓sqX_ret, ↓Zs_cons, ↓wkX_next, ↓wkX_cont, ↓wkX_brk, ↓wkX_ret, ↓fkX_next, ↓fkX_cont, ↓fkX_brk, ↓fkX_ret, ↓xb_one, ↓oKK_some, ↓oK_some, ↓tX_bool, ↓iX_t, ↓iX_f, ↓iX_d, ↓q_add, ↓q_sub, ↓q_mul, ↓q_div, ↓q_mod, ↓q_pow, ↓q_list, ↓q_eq, ↓q_ne, ↓q_eqs, ↓q_nes, ↓q_eqb, ↓q_lt, ↓q_le, ↓q_gt, ↓q_ge, ↓q_in, ↓q_inl, ↓q_nin, ↓q_is, ↓q_isnot, ↓q_stup, ↓q_sref, ↓q_sscr, ↓q_fn, ↓q_lentup, ↓q_lenref, ↓q_lenscr, ↓q_isi, ↓q_all, ↓q_max, ↓q_min, ↓q_int, ↓q_tuple, ↓q_listc, ↓q_append, ↓q_clear, ↓q_index, ↓q_pop, ↓q_slicet, ↓q_revt, ↓q_revl, ↓q_set, ↓q_repr, ↓q_eqo, ↓X_rev, ↓Z_set, ↓q_addt, ↓q_listt, ↓q_ninl, ↓u_tup, ↓u_ref, ↓u_range, ↓q_slice, ↓oi_none, ↓oi_int, ↓X_slice, ↓XO_none, ↓XO_some, ↓u_rev, ↓u_zip, ↓xb_two, ↓u_range2, ↓retV_ret, ↓retV_next, List.getElem?_cons_zero, List.getElem?_cons_succ, List.set_cons_zero, List.set_cons_succ, Bool.not_true, Bool.not_false, idx_0, idx_1, idx_2, idx_3, idx_4, idx_5, Int.reduceAdd, Int.reduceSub, Int.reduceMul, Int.reduceNeg, Int.reducePow, Int.reduceLT, Int.reduceLE, Int.reduceEq, Int.reduceNe, Int.reduceToNat, Int.reduceAbs, Nat.reduceAdd, Nat.reduceLT, Nat.reduceLeDiff, Nat.reducePow, Nat.reduceLT, List.length_cons, List.length_nil, true_implies, false_implies, not_true_eq_false, not_false_eq_true, and_true, true_and, and_self, or_true, true_or, decide_true, decide_false, exists_eq_left', Option.some.injEq]
            refine ⟨fun h2 => ?_, fun h2 => ?_⟩
            · subst hK; exact hr _ _ (rl_not_two ho (by omega))
            · obtain ⟨x, t, rfl⟩ := two_list (r := r) (by omega)
              have hx : Th H x := hrr x (by simp)
              have htt : Th H t := hrr t (by simp)
              have e : isRl (k :: ks).length (.tup [.str u, x, t]) = (hdT2 u x && isRl ks.length t) := by simp only [List.length_cons, isRl, ho, if_true]
              rw [e] at hr hn
              subst hK
              refine zs_cons ?_
              show ifP (u == "but") _ _
              cases hb : u == "but" with
              | true =>
                generalize hK : sqX E5 (_ :: _) = K
                simp only [↓X_lit, ↓X_loc, ↓X_bin, ↓negX_int, ↓X_neg, ↓X_not, ↓Y_not, ↓X_and, ↓Y_and, ↓X_or, ↓Y_or, ↓X_cmp, ↓X_cmp2, ↓X_ite, ↓Y_ite, ↓X_tup, ↓X_lst, ↓X_call, ↓X_meth, ↓X_sub, ↓X_comp, ↓Y_lit, ↓Y_loc, ↓Y_cmp, ↓Y_cmp2, ↓Y_call, ↓Y_sub, ↓XEs_nil, ↓XEs_cons, ↓XIfs_nil, ↓XIfs_cons, ↓Z_expr, ↓Z_assign, ↓Z_ret, ↓Z_retNone, ↓Z_ite, ↓Z_for, ↓Z_pass, ↓Z_brk, ↓Z_cont, ↓Zs_nil, ↓sqX_next, ↓sqX_brk, ↓sqX_cont, ↓sqX_ret, ↓Zs_cons, ↓wkX_next, ↓wkX_cont, ↓wkX_brk, ↓wkX_ret, ↓fkX_next, ↓fkX_cont, ↓fkX_brk, ↓fkX_ret, ↓xb_one, ↓oKK_some, ↓oK_some, ↓tX_bool, ↓iX_t, ↓iX_f, ↓iX_d, ↓q_add, ↓q_sub, ↓q_mul, ↓q_div, ↓q_mod, ↓q_pow, ↓q_list, ↓q_eq, ↓q_ne, ↓q_eqs, ↓q_nes, ↓q_eqb, ↓q_lt, ↓q_le, ↓q_gt, ↓q_ge, ↓q_in, ↓q_inl, ↓q_nin, ↓q_is, ↓q_isnot, ↓q_stup, ↓q_sref, ↓q_sscr, ↓q_fn, ↓q_lentup, ↓q_lenref, ↓q_lenscr, ↓q_isi, ↓q_all, ↓q_max, ↓q_min, ↓q_int, ↓q_tuple, ↓q_listc, ↓q_append, ↓q_clear, ↓q_index, ↓q_pop, ↓q_slicet, ↓q_revt, ↓q_revl, ↓q_set, ↓q_repr, ↓q_eqo, ↓X_rev, ↓Z_set, ↓q_addt, ↓q_listt, ↓q_ninl, ↓u_tup, ↓u_ref, ↓u_range, ↓q_slice, ↓oi_none, ↓oi_int, ↓X_slice, ↓XO_none, ↓XO_some, ↓u_rev, ↓u_zip, ↓xb_two, ↓u_range2, ↓retV_ret, ↓retV_next, List.getElem?_cons_zero, List.getElem?_cons_succ, List.set_cons_zero, List.set_cons_succ, Bool.not_true, Bool.not_false, idx_0, idx_1, idx_2, idx_3, idx_4, idx_5, Int.reduceAdd, Int.reduceSub, Int.reduceMul, Int.reduceNeg, Int.reducePow, Int.reduceLT, Int.reduceLE, Int.reduceEq, Int.reduceNe, Int.reduceToNat, Int.reduceAbs, Nat.reduceAdd, Nat.reduceLT, Nat.reduceLeDiff, Nat.reducePow, Nat.reduceLT, List.length_cons, List.length_nil, true_implies, false_implies, not_true_eq_false, not_false_eq_true, and_true, true_and, and_self, or_true, true_or, decide_true, decide_false, exists_eq_left', Option.some.injEq, ↓e5_r]
                refine ⟨x, _, _, rfl, hx.al, hx.als, ?_⟩
                have ed : hdT2 u x = rising x 20 99999999999 := by unfold hdT2; rw [hb, if_pos rfl]
                simp only [↓X_lit, ↓X_loc, ↓X_bin, ↓negX_int, ↓X_neg, ↓X_not, ↓Y_not, ↓X_and, ↓Y_and, ↓X_or, ↓Y_or, ↓X_cmp, ↓X_cmp2, ↓X_ite, ↓Y_ite, ↓X_tup, ↓X_lst, ↓X_call, ↓X_meth, ↓X_sub, ↓X_comp, ↓Y_lit, ↓Y_loc, ↓Y_cmp, ↓Y_cmp2, ↓Y_call, ↓Y_sub, ↓XEs_nil, ↓XEs_cons, ↓XIfs_nil, ↓XIfs_cons, ↓Z_expr, ↓Z_assign, ↓Z_ret, ↓Z_retNone, ↓Z_ite, ↓Z_for, ↓Z_pass, ↓Z_brk, ↓Z_cont, ↓Zs_nil, ↓sqX_next, ↓sqX_brk, ↓sqX_cont, ↓sqX_ret, ↓Zs_cons, ↓wkX_next, ↓wkX_cont, ↓wkX_brk, ↓wkX_ret, ↓fkX_next, ↓fkX_cont, ↓fkX_brk, ↓fkX_ret, ↓xb_one, ↓oKK_some, ↓oK_some, ↓tX_bool, ↓iX_t, ↓iX_f, ↓iX_d, ↓q_add, ↓q_sub, ↓q_mul, ↓q_div, ↓q_mod, ↓q_pow, ↓q_list, ↓q_eq, ↓q_ne, ↓q_eqs, ↓q_nes, ↓q_eqb, ↓q_lt, ↓q_le, ↓q_gt, ↓q_ge, ↓q_in, ↓q_inl, ↓q_nin, ↓q_is, ↓q_isnot, ↓q_stup, ↓q_sref, ↓q_sscr, ↓q_fn, ↓q_lentup, ↓q_lenref, ↓q_lenscr, ↓q_isi, ↓q_all, ↓q_max, ↓q_min, ↓q_int, ↓q_tuple, ↓q_listc, ↓q_append, ↓q_clear, ↓q_index, ↓q_pop, ↓q_slicet, ↓q_revt, ↓q_revl, ↓q_set, ↓q_repr, ↓q_eqo, ↓X_rev, ↓Z_set, ↓q_addt, ↓q_listt, ↓q_ninl, ↓u_tup, ↓u_ref, ↓u_range, ↓q_slice, ↓oi_none, ↓oi_int, ↓X_slice, ↓XO_none, ↓XO_some, ↓u_rev, ↓u_zip, ↓xb_two, ↓u_range2, ↓retV_ret, ↓retV_next, List.getElem?_cons_zero, List.getElem?_cons_succ, List.set_cons_zero, List.set_cons_succ, Bool.not_true, Bool.not_false, idx_0, idx_1, idx_2, idx_3, idx_4, idx_5, Int.reduceAdd, Int.reduceSub, Int.reduceMul, Int.reduceNeg, Int.reducePow, Int.reduceLT, Int.reduceLE, Int.reduceEq, Int.reduceNe, Int.reduceToNat, Int.reduceAbs, Nat.reduceAdd, Nat.reduceLT, Nat.reduceLeDiff, Nat.reducePow, Nat.reduceLT, List.length_cons, List.length_nil, true_implies, false_implies, not_true_eq_false, not_false_eq_true, and_true, true_and, and_self, or_true, true_or, decide_true, decide_false, exists_eq_left', Option.some.injEq]
                cases er : rising x 20 99999999999 with
                | false => subst hK; exact hr _ _ (by rw [ed, er]; rfl)
                | true =>
                  subst hK
                  rw [ed, er, Bool.true_and] at hr hn
                  refine zs_cons ?_
                  show ifP (!(u == "but")) _ _
                  rw [hb]
                  exact ⟨trivial, ih t _ htt hr hn⟩
              | false =>
                have ed : hdT2 u x = bt x 0 999999999999 := by unfold hdT2; rw [hb, if_neg (by decide)]
                refine zs_cons ?_
                show ifP (!(u == "but")) _ _
                rw [hb]
                generalize hK : sqX E5 (_ :: _) = K
                simp only [↓X_lit, ↓X_loc, ↓X_bin, ↓negX_int, ↓X_neg, ↓X_not, ↓Y_not, ↓X_and, ↓Y_and, ↓X_or, ↓Y_or, ↓X_cmp, ↓X_cmp2, ↓X_ite, ↓Y_ite, ↓X_tup, ↓X_lst, ↓X_call, ↓X_meth, ↓X_sub, ↓X_comp, ↓Y_lit, ↓Y_loc, ↓Y_cmp, ↓Y_cmp2, ↓Y_call, ↓Y_sub, ↓XEs_nil, ↓XEs_cons, ↓XIfs_nil, ↓XIfs_cons, ↓Z_expr, ↓Z_assign, ↓Z_ret, ↓Z_retNone, ↓Z_ite, ↓Z_for, ↓Z_pass, ↓Z_brk, ↓Z_cont, ↓Zs_nil, ↓sqX_next, ↓sqX_brk, ↓sqX_cont, ↓sqX_ret, ↓Zs_cons, ↓wkX_next, ↓wkX_cont, ↓wkX_brk, ↓wkX_ret, ↓fkX_next, ↓fkX_cont, ↓fkX_brk, ↓fkX_ret, ↓xb_one, ↓oKK_some, ↓oK_some, ↓tX_bool, ↓iX_t, ↓iX_f, ↓iX_d, ↓q_add, ↓q_sub, ↓q_mul, ↓q_div, ↓q_mod, ↓q_pow, ↓q_list, ↓q_eq, ↓q_ne, ↓q_eqs, ↓q_nes, ↓q_eqb, ↓q_lt, ↓q_le, ↓q_gt, ↓q_ge, ↓q_in, ↓q_inl, ↓q_nin, ↓q_is, ↓q_isnot, ↓q_stup, ↓q_sref, ↓q_sscr, ↓q_fn, ↓q_lentup, ↓q_lenref, ↓q_lenscr, ↓q_isi, ↓q_all, ↓q_max, ↓q_min, ↓q_int, ↓q_tuple, ↓q_listc, ↓q_append, ↓q_clear, ↓q_index, ↓q_pop, ↓q_slicet, ↓q_revt, ↓q_revl, ↓q_set, ↓q_repr, ↓q_eqo, ↓X_rev, ↓Z_set, ↓q_addt, ↓q_listt, ↓q_ninl, ↓u_tup, ↓u_ref, ↓u_range, ↓q_slice, ↓oi_none, ↓oi_int, ↓X_slice, ↓XO_none, ↓XO_some, ↓u_rev, ↓u_zip, ↓xb_two, ↓u_range2, ↓retV_ret, ↓retV_next, List.getElem?_cons_zero, List.getElem?_cons_succ, List.set_cons_zero, List.set_cons_succ, Bool.not_true, Bool.not_false, idx_0, idx_1, idx_2, idx_3, idx_4, idx_5, Int.reduceAdd, Int.reduceSub, Int.reduceMul, Int.reduceNeg, Int.reducePow, Int.reduceLT, Int.reduceLE, Int.reduceEq, Int.reduceNe, Int.reduceToNat, Int.reduceAbs, Nat.reduceAdd, Nat.reduceLT, Nat.reduceLeDiff, Nat.reducePow, Nat.reduceLT, List.length_cons, List.length_nil, true_implies, false_implies, not_true_eq_false, not_false_eq_true, and_true, true_and, and_self, or_true, true_or, decide_true, decide_false, exists_eq_left', Option.some.injEq, ↓e5_t]
                refine ⟨x, rfl, hx.al, ?_⟩
                simp only [↓X_lit, ↓X_loc, ↓X_bin, ↓negX_int, ↓X_neg, ↓X_not, ↓Y_not, ↓X_and, ↓Y_and, ↓X_or, ↓Y_or, ↓X_cmp, ↓X_cmp2, ↓X_ite, ↓Y_ite, ↓X_tup, ↓X_lst, ↓X_call, ↓X_meth, ↓X_sub, ↓X_comp, ↓Y_lit, ↓Y_loc, ↓Y_cmp, ↓Y_cmp2, ↓Y_call, ↓Y_sub, ↓XEs_nil, ↓XEs_cons, ↓XIfs_nil, ↓XIfs_cons, ↓Z_expr, ↓Z_assign, ↓Z_ret, ↓Z_retNone, ↓Z_ite, ↓Z_for, ↓Z_pass, ↓Z_brk, ↓Z_cont, ↓Zs_nil, ↓sqX_next, ↓sqX_brk, ↓sqX_cont, ↓sqX_ret, ↓Zs_cons, ↓wkX_next, ↓wkX_cont, ↓wkX_brk, ↓wkX_ret, ↓fkX_next, ↓fkX_cont, ↓fkX_brk, ↓fkX_ret, ↓xb_one, ↓oKK_some, ↓oK_some, ↓tX_bool, ↓iX_t, ↓iX_f, ↓iX_d, ↓q_add, ↓q_sub, ↓q_mul, ↓q_div, ↓q_mod, ↓q_pow, ↓q_list, ↓q_eq, ↓q_ne, ↓q_eqs, ↓q_nes, ↓q_eqb, ↓q_lt, ↓q_le, ↓q_gt, ↓q_ge, ↓q_in, ↓q_inl, ↓q_nin, ↓q_is, ↓q_isnot, ↓q_stup, ↓q_sref, ↓q_sscr, ↓q_fn, ↓q_lentup, ↓q_lenref, ↓q_lenscr, ↓q_isi, ↓q_all, ↓q_max, ↓q_min, ↓q_int, ↓q_tuple, ↓q_listc, ↓q_append, ↓q_clear, ↓q_index, ↓q_pop, ↓q_slicet, ↓q_revt, ↓q_revl, ↓q_set, ↓q_repr, ↓q_eqo, ↓X_rev, ↓Z_set, ↓q_addt, ↓q_listt, ↓q_ninl, ↓u_tup, ↓u_ref, ↓u_range, ↓q_slice, ↓oi_none, ↓oi_int, ↓X_slice, ↓XO_none, ↓XO_some, ↓u_rev, ↓u_zip, ↓xb_two, ↓u_range2, ↓retV_ret, ↓retV_next, List.getElem?_cons_zero, List.getElem?_cons_succ, List.set_cons_zero, List.set_cons_succ, Bool.not_true, Bool.not_false, idx_0, idx_1, idx_2, idx_3, idx_4, idx_5, Int.reduceAdd, Int.reduceSub, Int.reduceMul, Int.reduceNeg, Int.reducePow, Int.reduceLT, Int.reduceLE, Int.reduceEq, Int.reduceNe, Int.reduceToNat, Int.reduceAbs, Nat.reduceAdd, Nat.reduceLT, Nat.reduceLeDiff, Nat.reducePow, Nat.reduceLT, List.length_cons, List.length_nil, true_implies, false_implies, not_true_eq_false, not_false_eq_true, and_true, true_and, and_self, or_true, true_or, decide_true, decide_false, exists_eq_left', Option.some.injEq]
                cases er : bt x 0 999999999999 with
                | false => subst hK; exact hr _ _ (by rw [ed, er]; rfl)
                | true =>
                  subst hK
                  rw [ed, er, Bool.true_and] at hr hn
                  exact ⟨trivial, ih t _ htt hr hn⟩
theorem range8 : (rangeL 0 8).length = 8 := rfl
theorem w_is_rule : ∀ vs H Q X, C_is_rule vs H Q X → wpFn E5 f_is_rule vs H Q X := by
  rintro vs H Q X ⟨v, rfl, hv, q⟩
  refine fn_of rfl ?_
  change wpSs E5 f_is_rule.body [some v, none, none, none, none] H _ _
  refine zs_cons ?_
  generalize hK : sqX E5 (_ :: _) = K
  simp only [↓X_lit, ↓X_loc, ↓X_bin, ↓negX_int, ↓X_neg, ↓X_not, ↓Y_not, ↓X_and, ↓Y_and, ↓X_or, ↓Y_or, ↓X_cmp, ↓X_cmp2, ↓X_ite, ↓Y_ite, ↓X_tup, ↓X_lst, ↓X_call, ↓X_meth, ↓X_sub, ↓X_comp, ↓Y_lit, ↓Y_loc, ↓Y_cmp, ↓Y_cmp2, ↓Y_call, ↓Y_sub, ↓XEs_nil, ↓XEs_cons, ↓XIfs_nil, ↓XIfs_cons, ↓Z_expr, ↓Z_assign, ↓Z_ret, ↓Z_retNone, ↓Z_ite, ↓Z_for, ↓Z_pass, ↓Z_brk, ↓Z_cont, ↓Zs_nil, ↓sqX_next, ↓sqX_brk, ↓sqX_cont, ↓sqX_ret, ↓Zs_cons, ↓wkX_next, ↓wkX_cont, ↓wkX_brk, ↓wkX_ret, ↓fkX_next, ↓fkX_cont, ↓fkX_brk, ↓fkX_ret, ↓xb_one, ↓oKK_some, ↓oK_some, ↓tX_bool, ↓iX_t, ↓iX_f, ↓iX_d, ↓q_add, ↓q_sub, ↓q_mul, ↓q_div, ↓q_mod, ↓q_pow, ↓q_list, ↓q_eq, ↓q_ne, ↓q_eqs, ↓q_nes, ↓q_eqb, ↓q_lt, ↓q_le, ↓q_gt, ↓q_ge, ↓q_in, ↓q_inl, ↓q_nin, ↓q_is, ↓q_isnot, ↓q_stup, ↓q_sref, ↓q_sscr, ↓q_fn, ↓q_lentup, ↓q_lenref, ↓q_lenscr, ↓q_isi, ↓q_all, ↓q_max, ↓q_min, ↓q_int, ↓q_tuple, ↓q_listc, ↓q_append, ↓q_clear, ↓q_index, ↓q_pop, ↓q_slicet, ↓q_revt, ↓q_revl, ↓q_set, ↓q_repr, ↓q_eqo, ↓X_rev, ↓Z_set, ↓q_addt, ↓q_listt, ↓q_ninl, ↓u_tup, ↓u_ref, ↓u_range, ↓q_slice, ↓oi_none, ↓oi_int, ↓X_slice, ↓XO_none, ↓XO_some, ↓u_rev, ↓u_zip, ↓xb_two, ↓u_range2, ↓retV_ret, ↓retV_next, List.getElem?_cons_zero, List.getElem?_cons_succ, List.set_cons_zero, List.set_cons_succ, Bool.not_true, Bool.not_false, idx_0, idx_1, idx_2, idx_3, idx_4, idx_5, Int.reduceAdd, Int.reduceSub, Int.reduceMul, Int.reduceNeg, Int.reducePow, Int.reduceLT, Int.reduceLE, Int.reduceEq, Int.reduceNe, Int.reduceToNat, Int.reduceAbs, Nat.reduceAdd, Nat.reduceLT, Nat.reduceLeDiff, Nat.reducePow, Nat.reduceLT, List.length_cons, List.length_nil, true_implies, false_implies, not_true_eq_false, not_false_eq_true, and_true, true_and, and_self, or_true, true_or, decide_true, decide_false, exists_eq_left', Option.some.injEq]
  subst hK
  refine ir_loop (rangeL 0 8) v _ hv (fun L' b h => ?_) (fun L' h => ?_)
  · rw [range8] at h; rw [h] at q; exact q
  · rw [range8] at h; rw [h] at q; exact q
noncomputable def E6 : Orc := ext "is_rule" C_is_rule E5
end Mine

set_option autoImplicit false
set_option linter.unusedSimpArgs false
set_option maxRecDepth 20000
namespace Mine
open PySem

theorem w_whole5 {Φ : Orc} : ∀ vs H Q X, C_is_whole vs H Q X → wpFn Φ f_l_whole vs H Q X := by
  rintro vs H Q X ⟨v, rfl, hv, q⟩
  refine fn_of rfl ?_
  obtain ⟨h1, h2, _, _⟩ := isi_of hv
  rw [← wh_eq] at q
  unfold f_l_whole
  change wpSs Φ [_] [some v, none, none, none] H _ _
  simp only [↓X_lit, ↓X_loc, ↓X_bin, ↓negX_int, ↓X_neg, ↓X_not, ↓Y_not, ↓X_and, ↓Y_and, ↓X_or, ↓Y_or, ↓X_cmp, ↓X_cmp2, ↓X_ite, ↓Y_ite, ↓X_tup, ↓X_lst, ↓X_call, ↓X_meth, ↓X_sub, ↓X_comp, ↓Y_lit, ↓Y_loc, ↓Y_cmp, ↓Y_cmp2, ↓Y_call, ↓Y_sub, ↓XEs_nil, ↓XEs_cons, ↓XIfs_nil, ↓XIfs_cons, ↓Z_expr, ↓Z_assign, ↓Z_ret, ↓Z_retNone, ↓Z_ite, ↓Z_for, ↓Z_pass, ↓Z_brk, ↓Z_cont, ↓Zs_nil, ↓sqX_next, ↓sqX_brk, ↓sqX_cont, ↓sqX_ret, ↓Zs_cons, ↓wkX_next, ↓wkX_cont, ↓wkX_brk, ↓wkX_ret, ↓fkX_next, ↓fkX_cont, ↓fkX_brk, ↓fkX_ret, ↓xb_one, ↓oKK_some, ↓oK_some, ↓tX_bool, ↓iX_t, ↓iX_f, ↓iX_d, ↓q_add, ↓q_sub, ↓q_mul, ↓q_div, ↓q_mod, ↓q_pow, ↓q_list, ↓q_eq, ↓q_ne, ↓q_eqs, ↓q_nes, ↓q_eqb, ↓q_lt, ↓q_le, ↓q_gt, ↓q_ge, ↓q_in, ↓q_inl, ↓q_nin, ↓q_is, ↓q_isnot, ↓q_stup, ↓q_sref, ↓q_sscr, ↓q_fn, ↓q_lentup, ↓q_lenref, ↓q_lenscr, ↓q_isi, ↓q_all, ↓q_max, ↓q_min, ↓q_int, ↓q_tuple, ↓q_listc, ↓q_append, ↓q_clear, ↓q_index, ↓q_pop, ↓q_slicet, ↓q_revt, ↓q_revl, ↓q_set, ↓q_repr, ↓q_eqo, ↓X_rev, ↓Z_set, ↓q_addt, ↓q_listt, ↓q_ninl, ↓u_tup, ↓u_ref, ↓u_range, ↓q_slice, ↓oi_none, ↓oi_int, ↓X_slice, ↓XO_none, ↓XO_some, ↓u_rev, ↓u_zip, ↓xb_two, ↓u_range2, ↓retV_ret, ↓retV_next, List.getElem?_cons_zero, List.getElem?_cons_succ, List.set_cons_zero, List.set_cons_succ, Bool.not_true, Bool.not_false, idx_0, idx_1, idx_2, idx_3, idx_4, idx_5, Int.reduceAdd, Int.reduceSub, Int.reduceMul, Int.reduceNeg, Int.reducePow, Int.reduceLT, Int.reduceLE, Int.reduceEq, Int.reduceNe, Int.reduceToNat, Int.reduceAbs, Nat.reduceAdd, Nat.reduceLT, Nat.reduceLeDiff, Nat.reducePow, Nat.reduceLT, List.length_cons, List.length_nil, true_implies, false_implies, not_true_eq_false, not_false_eq_true, and_true, true_and, and_self, or_true, true_or, decide_true, decide_false, exists_eq_left', Option.some.injEq, h1, h2]
  cases hi : intLike v with
  | true => rw [hi] at q; exact q
  | false => rw [hi] at q; exact q
noncomputable def E7 : Orc := ext "_law_whole" C_is_whole E6
theorem e7_w : E7 "_law_whole" = C_is_whole := rfl
theorem w_between5 : ∀ vs H Q X, C_is_between vs H Q X → wpFn E7 f_l_between vs H Q X := by
  rintro vs H Q X ⟨v, lo, hi, rfl, hv, q⟩
  refine fn_of rfl ?_
  unfold f_l_between
  change wpSs E7 [_] [some v, some (.int lo), some (.int hi), none, none, none] H _ _
  simp only [↓X_lit, ↓X_loc, ↓X_bin, ↓negX_int, ↓X_neg, ↓X_not, ↓Y_not, ↓X_and, ↓Y_and, ↓X_or, ↓Y_or, ↓X_cmp, ↓X_cmp2, ↓X_ite, ↓Y_ite, ↓X_tup, ↓X_lst, ↓X_call, ↓X_meth, ↓X_sub, ↓X_comp, ↓Y_lit, ↓Y_loc, ↓Y_cmp, ↓Y_cmp2, ↓Y_call, ↓Y_sub, ↓XEs_nil, ↓XEs_cons, ↓XIfs_nil, ↓XIfs_cons, ↓Z_expr, ↓Z_assign, ↓Z_ret, ↓Z_retNone, ↓Z_ite, ↓Z_for, ↓Z_pass, ↓Z_brk, ↓Z_cont, ↓Zs_nil, ↓sqX_next, ↓sqX_brk, ↓sqX_cont, ↓sqX_ret, ↓Zs_cons, ↓wkX_next, ↓wkX_cont, ↓wkX_brk, ↓wkX_ret, ↓fkX_next, ↓fkX_cont, ↓fkX_brk, ↓fkX_ret, ↓xb_one, ↓oKK_some, ↓oK_some, ↓tX_bool, ↓iX_t, ↓iX_f, ↓iX_d, ↓q_add, ↓q_sub, ↓q_mul, ↓q_div, ↓q_mod, ↓q_pow, ↓q_list, ↓q_eq, ↓q_ne, ↓q_eqs, ↓q_nes, ↓q_eqb, ↓q_lt, ↓q_le, ↓q_gt, ↓q_ge, ↓q_in, ↓q_inl, ↓q_nin, ↓q_is, ↓q_isnot, ↓q_stup, ↓q_sref, ↓q_sscr, ↓q_fn, ↓q_lentup, ↓q_lenref, ↓q_lenscr, ↓q_isi, ↓q_all, ↓q_max, ↓q_min, ↓q_int, ↓q_tuple, ↓q_listc, ↓q_append, ↓q_clear, ↓q_index, ↓q_pop, ↓q_slicet, ↓q_revt, ↓q_revl, ↓q_set, ↓q_repr, ↓q_eqo, ↓X_rev, ↓Z_set, ↓q_addt, ↓q_listt, ↓q_ninl, ↓u_tup, ↓u_ref, ↓u_range, ↓q_slice, ↓oi_none, ↓oi_int, ↓X_slice, ↓XO_none, ↓XO_some, ↓u_rev, ↓u_zip, ↓xb_two, ↓u_range2, ↓retV_ret, ↓retV_next, List.getElem?_cons_zero, List.getElem?_cons_succ, List.set_cons_zero, List.set_cons_succ, Bool.not_true, Bool.not_false, idx_0, idx_1, idx_2, idx_3, idx_4, idx_5, Int.reduceAdd, Int.reduceSub, Int.reduceMul, Int.reduceNeg, Int.reducePow, Int.reduceLT, Int.reduceLE, Int.reduceEq, Int.reduceNe, Int.reduceToNat, Int.reduceAbs, Nat.reduceAdd, Nat.reduceLT, Nat.reduceLeDiff, Nat.reducePow, Nat.reduceLT, List.length_cons, List.length_nil, true_implies, false_implies, not_true_eq_false, not_false_eq_true, and_true, true_and, and_self, or_true, true_or, decide_true, decide_false, exists_eq_left', Option.some.injEq, ↓e7_w]
  refine ⟨v, rfl, hv, ?_⟩
  cases hw : whV v with
  | false => rw [bt_not hw] at q; exact q
  | true =>
    obtain ⟨i, rfl⟩ := wh_int hw
    simp only [↓X_lit, ↓X_loc, ↓X_bin, ↓negX_int, ↓X_neg, ↓X_not, ↓Y_not, ↓X_and, ↓Y_and, ↓X_or, ↓Y_or, ↓X_cmp, ↓X_cmp2, ↓X_ite, ↓Y_ite, ↓X_tup, ↓X_lst, ↓X_call, ↓X_meth, ↓X_sub, ↓X_comp, ↓Y_lit, ↓Y_loc, ↓Y_cmp, ↓Y_cmp2, ↓Y_call, ↓Y_sub, ↓XEs_nil, ↓XEs_cons, ↓XIfs_nil, ↓XIfs_cons, ↓Z_expr, ↓Z_assign, ↓Z_ret, ↓Z_retNone, ↓Z_ite, ↓Z_for, ↓Z_pass, ↓Z_brk, ↓Z_cont, ↓Zs_nil, ↓sqX_next, ↓sqX_brk, ↓sqX_cont, ↓sqX_ret, ↓Zs_cons, ↓wkX_next, ↓wkX_cont, ↓wkX_brk, ↓wkX_ret, ↓fkX_next, ↓fkX_cont, ↓fkX_brk, ↓fkX_ret, ↓xb_one, ↓oKK_some, ↓oK_some, ↓tX_bool, ↓iX_t, ↓iX_f, ↓iX_d, ↓q_add, ↓q_sub, ↓q_mul, ↓q_div, ↓q_mod, ↓q_pow, ↓q_list, ↓q_eq, ↓q_ne, ↓q_eqs, ↓q_nes, ↓q_eqb, ↓q_lt, ↓q_le, ↓q_gt, ↓q_ge, ↓q_in, ↓q_inl, ↓q_nin, ↓q_is, ↓q_isnot, ↓q_stup, ↓q_sref, ↓q_sscr, ↓q_fn, ↓q_lentup, ↓q_lenref, ↓q_lenscr, ↓q_isi, ↓q_all, ↓q_max, ↓q_min, ↓q_int, ↓q_tuple, ↓q_listc, ↓q_append, ↓q_clear, ↓q_index, ↓q_pop, ↓q_slicet, ↓q_revt, ↓q_revl, ↓q_set, ↓q_repr, ↓q_eqo, ↓X_rev, ↓Z_set, ↓q_addt, ↓q_listt, ↓q_ninl, ↓u_tup, ↓u_ref, ↓u_range, ↓q_slice, ↓oi_none, ↓oi_int, ↓X_slice, ↓XO_none, ↓XO_some, ↓u_rev, ↓u_zip, ↓xb_two, ↓u_range2, ↓retV_ret, ↓retV_next, List.getElem?_cons_zero, List.getElem?_cons_succ, List.set_cons_zero, List.set_cons_succ, Bool.not_true, Bool.not_false, idx_0, idx_1, idx_2, idx_3, idx_4, idx_5, Int.reduceAdd, Int.reduceSub, Int.reduceMul, Int.reduceNeg, Int.reducePow, Int.reduceLT, Int.reduceLE, Int.reduceEq, Int.reduceNe, Int.reduceToNat, Int.reduceAbs, Nat.reduceAdd, Nat.reduceLT, Nat.reduceLeDiff, Nat.reducePow, Nat.reduceLT, List.length_cons, List.length_nil, true_implies, false_implies, not_true_eq_false, not_false_eq_true, and_true, true_and, and_self, or_true, true_or, decide_true, decide_false, exists_eq_left', Option.some.injEq]
    refine ⟨fun h => ?_, fun h => ?_⟩
    · simp only [bt, decide_eq_true h, Bool.true_and] at q; exact q
    · simp only [bt, decide_eq_false h, Bool.false_and] at q; rw [decide_eq_false h]; exact q
noncomputable def E8 : Orc := ext "_law_between" C_is_between E7
theorem e8_b : E8 "_law_between" = C_is_between := rfl

noncomputable def prsI : Int → List Int → Bool
  | _, [] => true
  | a, b :: r => decide (a < b) && prsI b r
noncomputable def prs : List Int → Bool
  | [] => true
  | a :: r => prsI a r
noncomputable def goodD (v : V) (below most : Int) : Bool := match v with
  | .tup l => (decide (1 ≤ (l.length : Int)) && decide ((l.length : Int) ≤ most)) && (l.all (fun x => bt x 0 (below - 1)) && prs (l.map intOf))
  | _ => false
theorem ris_eq (most : Int) : ∀ (l : List V) (a : Int), -1 ≤ a → risGo most a l = (l.all (fun x => bt x 0 most) && prsI a (l.map intOf))
  | [], a, _ => rfl
  | v :: r, a, ha => by
    cases hv : whV v with
    | false => simp only [risGo, List.all_cons, bt_not hv, Bool.false_and]
    | true =>
      obtain ⟨i, rfl⟩ := wh_int hv
      show (bt (.int i) (a + 1) most && risGo most i r) = ((bt (.int i) 0 most && r.all _) && (decide (a < i) && prsI i (r.map intOf)))
      by_cases h1 : a + 1 ≤ i
      · have h0 : 0 ≤ i := by omega
        have h2 : a < i := by omega
        rw [ris_eq most r i (by omega)]
        simp only [bt, decide_eq_true h1, decide_eq_true h0, decide_eq_true h2, Bool.true_and]
        cases decide (i ≤ most) <;> simp
      · have h2 : ¬ a < i := by omega
        simp only [bt, decide_eq_false h1, decide_eq_false h2, Bool.false_and, Bool.and_false]
theorem prs_neg : ∀ (l : List V) (most : Int), (l.all fun x => bt x 0 most) = true → prsI (-1) (l.map intOf) = prs (l.map intOf)
  | [], _, _ => rfl
  | v :: r, most, h => by
    rw [List.all_cons, Bool.and_eq_true] at h
    have hi : ∃ i, v = .int i := by cases v <;> first | exact ⟨_, rfl⟩ | exact absurd h.1 (by simp [bt])
    obtain ⟨i, rfl⟩ := hi
    have h0 : 0 ≤ i := by have := h.1; simp only [bt, Bool.and_eq_true, decide_eq_true_eq] at this; exact this.1
    show (decide (-1 < i) && prsI i (r.map intOf)) = prsI i (r.map intOf)
    rw [decide_eq_true (by omega), Bool.true_and]
theorem rising_good (v : V) (many most : Int) : goodD v (most + 1) many = rising v many most := by
  cases v with
  | tup l =>
    show ((_ && _) && ((l.all fun x => bt x 0 (most + 1 - 1)) && _)) = (_ && _)
    have e : most + 1 - 1 = most := by omega
    rw [ris_eq most l (-1) (by omega), e]
    cases h : l.all fun x => bt x 0 most with
    | false => rfl
    | true => rw [prs_neg l most h]
  | _ => rfl

theorem slice_tail {l : List V} : sliceL l (some 1) none = l.tail := by
  cases l with
  | nil => rfl
  | cons a r =>
    have h1 : clampI (a :: r).length 1 = 1 := by simp [clampI]
    simp only [sliceL, h1]
    simp
/- each is between -/
theorem bw_comp {v0 : V} {below most : Int} {t3 t4 t5 : Option V} {X : XL} {H : Hp} {Q : List V → Hp → Prop} : ∀ (l acc : List V), (∀ x ∈ l, al H x) → Q (acc ++ l.map fun x => V.bool (bt x 0 (below - 1))) H →
    compGo (coTX E8 [] X) (coEX E8 (.call (.fn "_law_between") [(.loc 3), (.lit (.int 0)), (.bin .Sub (.loc 1) (.lit (.int 1)))]) X) (fun _ => True) [3] [some v0, some (.int below), some (.int most), t3, t4, t5] l acc H Q := by
  intro l
  induction l with
  | nil => intro acc _ q; rw [List.map_nil, List.append_nil] at q; exact q
  | cons x l ih =>
    intro acc ha q
    rw [coX_cons]
    simp only [↓X_lit, ↓X_loc, ↓X_bin, ↓negX_int, ↓X_neg, ↓X_not, ↓Y_not, ↓X_and, ↓Y_and, ↓X_or, ↓Y_or, ↓X_cmp, ↓X_cmp2, ↓X_ite, ↓Y_ite, ↓X_tup, ↓X_lst, ↓X_call, ↓X_meth, ↓X_sub, ↓X_comp, ↓Y_lit, ↓Y_loc, ↓Y_cmp, ↓Y_cmp2, ↓Y_call, ↓Y_sub, ↓XEs_nil, ↓XEs_cons, ↓XIfs_nil, ↓XIfs_cons, ↓Z_expr, ↓Z_assign, ↓Z_ret, ↓Z_retNone, ↓Z_ite, ↓Z_for, ↓Z_pass, ↓Z_brk, ↓Z_cont, ↓Zs_nil, ↓sqX_next, ↓sqX_brk, ↓sqX_cont, ↓sqX_ret, ↓Zs_cons, ↓wkX_next, ↓wkX_cont, ↓wkX_brk, ↓wkX_ret, ↓fkX_next, ↓fkX_cont, ↓fkX_brk, ↓fkX_ret, ↓xb_one, ↓oKK_some, ↓oK_some, ↓tX_bool, ↓iX_t, ↓iX_f, ↓iX_d, ↓q_add, ↓q_sub, ↓q_mul, ↓q_div, ↓q_mod, ↓q_pow, ↓q_list, ↓q_eq, ↓q_ne, ↓q_eqs, ↓q_nes, ↓q_eqb, ↓q_lt, ↓q_le, ↓q_gt, ↓q_ge, ↓q_in, ↓q_inl, ↓q_nin, ↓q_is, ↓q_isnot, ↓q_stup, ↓q_sref, ↓q_sscr, ↓q_fn, ↓q_lentup, ↓q_lenref, ↓q_lenscr, ↓q_isi, ↓q_all, ↓q_max, ↓q_min, ↓q_int, ↓q_tuple, ↓q_listc, ↓q_append, ↓q_clear, ↓q_index, ↓q_pop, ↓q_slicet, ↓q_revt, ↓q_revl, ↓q_set, ↓q_repr, ↓q_eqo, ↓X_rev, ↓Z_set, ↓q_addt, ↓q_listt, ↓q_ninl, ↓u_tup, ↓u_ref, ↓u_range, ↓q_slice, ↓oi_none, ↓oi_int, ↓X_slice, ↓XO_none, ↓XO_some, ↓u_rev, ↓u_zip, ↓xb_two, ↓u_range2, ↓retV_ret, ↓retV_next, List.getElem?_cons_zero, List.getElem?_cons_succ, List.set_cons_zero, List.set_cons_succ, Bool.not_true, Bool.not_false, idx_0, idx_1, idx_2, idx_3, idx_4, idx_5, Int.reduceAdd, Int.reduceSub, Int.reduceMul, Int.reduceNeg, Int.reducePow, Int.reduceLT, Int.reduceLE, Int.reduceEq, Int.reduceNe, Int.reduceToNat, Int.reduceAbs, Nat.reduceAdd, Nat.reduceLT, Nat.reduceLeDiff, Nat.reducePow, Nat.reduceLT, List.length_cons, List.length_nil, true_implies, false_implies, not_true_eq_false, not_false_eq_true, and_true, true_and, and_self, or_true, true_or, decide_true, decide_false, exists_eq_left', Option.some.injEq, ↓e8_b]
    refine ⟨x, _, _, rfl, ha x List.mem_cons_self, ih _ (fun y hy => ha y (List.mem_cons_of_mem _ hy)) ?_⟩
    rw [List.append_assoc]; exact q
theorem all_bools (f : V → Bool) : ∀ l : List V, allBools (l.map fun x => V.bool (f x)) = some (l.map f)
  | [] => rfl
  | k :: r => by
    show (allBools (r.map fun x => V.bool (f x))).map _ = _
    rw [all_bools f r]; rfl
theorem all_map (f : V → Bool) (l : List V) : (l.map f).all id = l.all f := by rw [List.all_map]; rfl
noncomputable def prL : List Int → List Bool
  | [] => []
  | [_] => []
  | a :: b :: r => decide (a < b) :: prL (b :: r)
theorem prL_all : ∀ is : List Int, (prL is).all id = prs is
  | [] => rfl
  | [_] => rfl
  | a :: b :: r => by
    show (decide (a < b) && (prL (b :: r)).all id) = (decide (a < b) && prsI b r)
    rw [prL_all (b :: r)]; rfl
theorem zip_comp {v0 : V} {below most : Int} {t3 t4 t5 : Option V} {X : XL} {H : Hp} {Q : List V → Hp → Prop} : ∀ (is : List Int) (acc : List V), Q (acc ++ (prL is).map V.bool) H →
    compGo (coTX E8 [] X) (coEX E8 (.cmp (.loc 3) .Lt (.loc 4)) X) (fun _ => True) [3, 4] [some v0, some (.int below), some (.int most), t3, t4, t5] (zipL (is.map V.int) (is.map V.int).tail) acc H Q := by
  intro is
  induction is with
  | nil => intro acc q; simp only [prL, List.map_nil, List.append_nil] at q; exact q
  | cons a r ih =>
    intro acc q
    cases r with
    | nil => simp only [prL, List.map_nil, List.append_nil] at q; exact q
    | cons b r =>
      show compGo _ _ _ _ _ (V.tup [.int a, .int b] :: zipL ((b :: r).map V.int) ((b :: r).map V.int).tail) acc H Q
      rw [coX_cons]
      simp only [↓X_lit, ↓X_loc, ↓X_bin, ↓negX_int, ↓X_neg, ↓X_not, ↓Y_not, ↓X_and, ↓Y_and, ↓X_or, ↓Y_or, ↓X_cmp, ↓X_cmp2, ↓X_ite, ↓Y_ite, ↓X_tup, ↓X_lst, ↓X_call, ↓X_meth, ↓X_sub, ↓X_comp, ↓Y_lit, ↓Y_loc, ↓Y_cmp, ↓Y_cmp2, ↓Y_call, ↓Y_sub, ↓XEs_nil, ↓XEs_cons, ↓XIfs_nil, ↓XIfs_cons, ↓Z_expr, ↓Z_assign, ↓Z_ret, ↓Z_retNone, ↓Z_ite, ↓Z_for, ↓Z_pass, ↓Z_brk, ↓Z_cont, ↓Zs_nil, ↓sqX_next, ↓sqX_brk, ↓sqX_cont, ↓sqX_ret, ↓Zs_cons, ↓wkX_next, ↓wkX_cont, ↓wkX_brk, ↓wkX_ret, ↓fkX_next, ↓fkX_cont, ↓fkX_brk, ↓fkX_ret, ↓xb_one, ↓oKK_some, ↓oK_some, ↓tX_bool, ↓iX_t, ↓iX_f, ↓iX_d, ↓q_add, ↓q_sub, ↓q_mul, ↓q_div, ↓q_mod, ↓q_pow, ↓q_list, ↓q_eq, ↓q_ne, ↓q_eqs, ↓q_nes, ↓q_eqb, ↓q_lt, ↓q_le, ↓q_gt, ↓q_ge, ↓q_in, ↓q_inl, ↓q_nin, ↓q_is, ↓q_isnot, ↓q_stup, ↓q_sref, ↓q_sscr, ↓q_fn, ↓q_lentup, ↓q_lenref, ↓q_lenscr, ↓q_isi, ↓q_all, ↓q_max, ↓q_min, ↓q_int, ↓q_tuple, ↓q_listc, ↓q_append, ↓q_clear, ↓q_index, ↓q_pop, ↓q_slicet, ↓q_revt, ↓q_revl, ↓q_set, ↓q_repr, ↓q_eqo, ↓X_rev, ↓Z_set, ↓q_addt, ↓q_listt, ↓q_ninl, ↓u_tup, ↓u_ref, ↓u_range, ↓q_slice, ↓oi_none, ↓oi_int, ↓X_slice, ↓XO_none, ↓XO_some, ↓u_rev, ↓u_zip, ↓xb_two, ↓u_range2, ↓retV_ret, ↓retV_next, List.getElem?_cons_zero, List.getElem?_cons_succ, List.set_cons_zero, List.set_cons_succ, Bool.not_true, Bool.not_false, idx_0, idx_1, idx_2, idx_3, idx_4, idx_5, Int.reduceAdd, Int.reduceSub, Int.reduceMul, Int.reduceNeg, Int.reducePow, Int.reduceLT, Int.reduceLE, Int.reduceEq, Int.reduceNe, Int.reduceToNat, Int.reduceAbs, Nat.reduceAdd, Nat.reduceLT, Nat.reduceLeDiff, Nat.reducePow, Nat.reduceLT, List.length_cons, List.length_nil, true_implies, false_implies, not_true_eq_false, not_false_eq_true, and_true, true_and, and_self, or_true, true_or, decide_true, decide_false, exists_eq_left', Option.some.injEq]
      refine ih _ ?_
      rw [List.append_assoc]; exact q
noncomputable def C_good_days : Ctr := fun vs H Q _ => ∃ v below most, vs = [v, .int below, .int most] ∧ al H v ∧ als H v ∧ (∀ l, v = .tup l → l.length ≤ 1000) ∧ ∀ H', H <+: H' → Q (.bool (goodD v below most)) H'
theorem all_bool_ints {bs : List Bool} : allBools (bs.map V.bool) = some bs := by
  induction bs with
  | nil => rfl
  | cons b r ih => show (allBools (r.map V.bool)).map _ = _; rw [ih]; rfl
theorem prL_len : ∀ is : List Int, (prL is).length ≤ is.length
  | [] => Nat.le_refl _
  | [_] => Nat.zero_le _
  | a :: b :: r => Nat.succ_le_succ (prL_len (b :: r))
theorem ints_of {below : Int} : ∀ {l : List V}, (l.all fun x => bt x 0 below) = true → l = (l.map intOf).map V.int
  | [], _ => rfl
  | v :: r, h => by
    rw [List.all_cons, Bool.and_eq_true] at h
    have hi : ∃ i, v = .int i := by cases v <;> first | exact ⟨_, rfl⟩ | exact absurd h.1 (by simp [bt])
    obtain ⟨i, rfl⟩ := hi
    rw [List.map_cons, List.map_cons, ← ints_of h.2]; rfl
theorem w_good_days : ∀ vs H Q X, C_good_days vs H Q X → wpFn E8 f_l_good_days vs H Q X := by
  rintro vs H Q X ⟨v, below, most, rfl, hv, hvs, hz, q⟩
  refine fn_of rfl ?_
  have q0 := q H (List.prefix_refl _)
  obtain ⟨_, _, h3, _⟩ := isi_of hv
  change wpSs E8 f_l_good_days.body [some v, some (.int below), some (.int most), none, none, none] H _ _
  refine zs_cons ?_
  generalize hK : sqX E8 (_ :: _) = K
  cases ht : tupLike v with
  | false =>
    have e : goodD v below most = false := by cases v <;> first | rfl | cases ht
    rw [e] at q0
    simp only [↓X_lit, ↓X_loc, ↓X_bin, ↓negX_int, ↓X_neg, ↓X_not, ↓Y_not, ↓X_and, ↓Y_and, ↓X_or, ↓Y_or, ↓X_cmp, ↓X_cmp2, ↓X_ite, ↓Y_ite, ↓X_tup, ↓X_lst, ↓X_call, ↓X_meth, ↓X_sub, ↓X_comp, ↓Y_lit, ↓Y_loc, ↓Y_cmp, ↓Y_cmp2, ↓Y_call, ↓Y_sub, ↓XEs_nil, ↓XEs_cons, ↓XIfs_nil, ↓XIfs_cons, ↓Z_expr, ↓Z_assign, ↓Z_ret, ↓Z_retNone, ↓Z_ite, ↓Z_for, ↓Z_pass, ↓Z_brk, ↓Z_cont, ↓Zs_nil, ↓sqX_next, ↓sqX_brk, ↓sqX_cont, ↓sqX_ret, ↓Zs_cons, ↓wkX_next, ↓wkX_cont, ↓wkX_brk, ↓wkX_ret, ↓fkX_next, ↓fkX_cont, ↓fkX_brk, ↓fkX_ret, ↓xb_one, ↓oKK_some, ↓oK_some, ↓tX_bool, ↓iX_t, ↓iX_f, ↓iX_d, ↓q_add, ↓q_sub, ↓q_mul, ↓q_div, ↓q_mod, ↓q_pow, ↓q_list, ↓q_eq, ↓q_ne, ↓q_eqs, ↓q_nes, ↓q_eqb, ↓q_lt, ↓q_le, ↓q_gt, ↓q_ge, ↓q_in, ↓q_inl, ↓q_nin, ↓q_is, ↓q_isnot, ↓q_stup, ↓q_sref, ↓q_sscr, ↓q_fn, ↓q_lentup, ↓q_lenref, ↓q_lenscr, ↓q_isi, ↓q_all, ↓q_max, ↓q_min, ↓q_int, ↓q_tuple, ↓q_listc, ↓q_append, ↓q_clear, ↓q_index, ↓q_pop, ↓q_slicet, ↓q_revt, ↓q_revl, ↓q_set, ↓q_repr, ↓q_eqo, ↓X_rev, ↓Z_set, ↓q_addt, ↓q_listt, ↓q_ninl, ↓u_tup, ↓u_ref, ↓u_range, ↓q_slice, ↓oi_none, ↓oi_int, ↓X_slice, ↓XO_none, ↓XO_some, ↓u_rev, ↓u_zip, ↓xb_two, ↓u_range2, ↓retV_ret, ↓retV_next, List.getElem?_cons_zero, List.getElem?_cons_succ, List.set_cons_zero, List.set_cons_succ, Bool.not_true, Bool.not_false, idx_0, idx_1, idx_2, idx_3, idx_4, idx_5, Int.reduceAdd, Int.reduceSub, Int.reduceMul, Int.reduceNeg, Int.reducePow, Int.reduceLT, Int.reduceLE, Int.reduceEq, Int.reduceNe, Int.reduceToNat, Int.reduceAbs, Nat.reduceAdd, Nat.reduceLT, Nat.reduceLeDiff, Nat.reducePow, Nat.reduceLT, List.length_cons, List.length_nil, true_implies, false_implies, not_true_eq_false, not_false_eq_true, and_true, true_and, and_self, or_true, true_or, decide_true, decide_false, exists_eq_left', Option.some.injEq, h3, ht]
    subst hK; exact q0
  | true =>
    have hl : ∃ l, v = .tup l := by cases v <;> first | exact ⟨_, rfl⟩ | cases ht
    obtain ⟨l, rfl⟩ := hl
    have hz := hz l rfl
    simp only [↓X_lit, ↓X_loc, ↓X_bin, ↓negX_int, ↓X_neg, ↓X_not, ↓Y_not, ↓X_and, ↓Y_and, ↓X_or, ↓Y_or, ↓X_cmp, ↓X_cmp2, ↓X_ite, ↓Y_ite, ↓X_tup, ↓X_lst, ↓X_call, ↓X_meth, ↓X_sub, ↓X_comp, ↓Y_lit, ↓Y_loc, ↓Y_cmp, ↓Y_cmp2, ↓Y_call, ↓Y_sub, ↓XEs_nil, ↓XEs_cons, ↓XIfs_nil, ↓XIfs_cons, ↓Z_expr, ↓Z_assign, ↓Z_ret, ↓Z_retNone, ↓Z_ite, ↓Z_for, ↓Z_pass, ↓Z_brk, ↓Z_cont, ↓Zs_nil, ↓sqX_next, ↓sqX_brk, ↓sqX_cont, ↓sqX_ret, ↓Zs_cons, ↓wkX_next, ↓wkX_cont, ↓wkX_brk, ↓wkX_ret, ↓fkX_next, ↓fkX_cont, ↓fkX_brk, ↓fkX_ret, ↓xb_one, ↓oKK_some, ↓oK_some, ↓tX_bool, ↓iX_t, ↓iX_f, ↓iX_d, ↓q_add, ↓q_sub, ↓q_mul, ↓q_div, ↓q_mod, ↓q_pow, ↓q_list, ↓q_eq, ↓q_ne, ↓q_eqs, ↓q_nes, ↓q_eqb, ↓q_lt, ↓q_le, ↓q_gt, ↓q_ge, ↓q_in, ↓q_inl, ↓q_nin, ↓q_is, ↓q_isnot, ↓q_stup, ↓q_sref, ↓q_sscr, ↓q_fn, ↓q_lentup, ↓q_lenref, ↓q_lenscr, ↓q_isi, ↓q_all, ↓q_max, ↓q_min, ↓q_int, ↓q_tuple, ↓q_listc, ↓q_append, ↓q_clear, ↓q_index, ↓q_pop, ↓q_slicet, ↓q_revt, ↓q_revl, ↓q_set, ↓q_repr, ↓q_eqo, ↓X_rev, ↓Z_set, ↓q_addt, ↓q_listt, ↓q_ninl, ↓u_tup, ↓u_ref, ↓u_range, ↓q_slice, ↓oi_none, ↓oi_int, ↓X_slice, ↓XO_none, ↓XO_some, ↓u_rev, ↓u_zip, ↓xb_two, ↓u_range2, ↓retV_ret, ↓retV_next, List.getElem?_cons_zero, List.getElem?_cons_succ, List.set_cons_zero, List.set_cons_succ, Bool.not_true, Bool.not_false, idx_0, idx_1, idx_2, idx_3, idx_4, idx_5, Int.reduceAdd, Int.reduceSub, Int.reduceMul, Int.reduceNeg, Int.reducePow, Int.reduceLT, Int.reduceLE, Int.reduceEq, Int.reduceNe, Int.reduceToNat, Int.reduceAbs, Nat.reduceAdd, Nat.reduceLT, Nat.reduceLeDiff, Nat.reducePow, Nat.reduceLT, List.length_cons, List.length_nil, true_implies, false_implies, not_true_eq_false, not_false_eq_true, and_true, true_and, and_self, or_true, true_or, decide_true, decide_false, exists_eq_left', Option.some.injEq, h3, ht]
    have qf : (decide (1 ≤ (l.length : Int)) && decide ((l.length : Int) ≤ most)) = false → Q (.bool false) H := fun h => by simp only [goodD, h, Bool.false_and] at q0; exact q0
    refine ⟨fun h1 => ?_, fun h1 => ?_⟩
    · by_cases h2 : (l.length : Int) ≤ most
      · simp only [decide_eq_true h2, Bool.not_true, iX_f]
        have eg : goodD (.tup l) below most = (l.all (fun x => bt x 0 (below - 1)) && prs (l.map intOf)) := by simp only [goodD, decide_eq_true h1, decide_eq_true h2, Bool.and_self, Bool.true_and]
        rw [eg] at q
        subst hK
        refine zs_cons ?_
        generalize hK : sqX E8 (_ :: _) = K
        simp only [↓X_lit, ↓X_loc, ↓X_bin, ↓negX_int, ↓X_neg, ↓X_not, ↓Y_not, ↓X_and, ↓Y_and, ↓X_or, ↓Y_or, ↓X_cmp, ↓X_cmp2, ↓X_ite, ↓Y_ite, ↓X_tup, ↓X_lst, ↓X_call, ↓X_meth, ↓X_sub, ↓X_comp, ↓Y_lit, ↓Y_loc, ↓Y_cmp, ↓Y_cmp2, ↓Y_call, ↓Y_sub, ↓XEs_nil, ↓XEs_cons, ↓XIfs_nil, ↓XIfs_cons, ↓Z_expr, ↓Z_assign, ↓Z_ret, ↓Z_retNone, ↓Z_ite, ↓Z_for, ↓Z_pass, ↓Z_brk, ↓Z_cont, ↓Zs_nil, ↓sqX_next, ↓sqX_brk, ↓sqX_cont, ↓sqX_ret, ↓Zs_cons, ↓wkX_next, ↓wkX_cont, ↓wkX_brk, ↓wkX_ret, ↓fkX_next, ↓fkX_cont, ↓fkX_brk, ↓fkX_ret, ↓xb_one, ↓oKK_some, ↓oK_some, ↓tX_bool, ↓iX_t, ↓iX_f, ↓iX_d, ↓q_add, ↓q_sub, ↓q_mul, ↓q_div, ↓q_mod, ↓q_pow, ↓q_list, ↓q_eq, ↓q_ne, ↓q_eqs, ↓q_nes, ↓q_eqb, ↓q_lt, ↓q_le, ↓q_gt, ↓q_ge, ↓q_in, ↓q_inl, ↓q_nin, ↓q_is, ↓q_isnot, ↓q_stup, ↓q_sref, ↓q_sscr, ↓q_fn, ↓q_lentup, ↓q_lenref, ↓q_lenscr, ↓q_isi, ↓q_all, ↓q_max, ↓q_min, ↓q_int, ↓q_tuple, ↓q_listc, ↓q_append, ↓q_clear, ↓q_index, ↓q_pop, ↓q_slicet, ↓q_revt, ↓q_revl, ↓q_set, ↓q_repr, ↓q_eqo, ↓X_rev, ↓Z_set, ↓q_addt, ↓q_listt, ↓q_ninl, ↓u_tup, ↓u_ref, ↓u_range, ↓q_slice, ↓oi_none, ↓oi_int, ↓X_slice, ↓XO_none, ↓XO_some, ↓u_rev, ↓u_zip, ↓xb_two, ↓u_range2, ↓retV_ret, ↓retV_next, List.getElem?_cons_zero, List.getElem?_cons_succ, List.set_cons_zero, List.set_cons_succ, Bool.not_true, Bool.not_false, idx_0, idx_1, idx_2, idx_3, idx_4, idx_5, Int.reduceAdd, Int.reduceSub, Int.reduceMul, Int.reduceNeg, Int.reducePow, Int.reduceLT, Int.reduceLE, Int.reduceEq, Int.reduceNe, Int.reduceToNat, Int.reduceAbs, Nat.reduceAdd, Nat.reduceLT, Nat.reduceLeDiff, Nat.reducePow, Nat.reduceLT, List.length_cons, List.length_nil, true_implies, false_implies, not_true_eq_false, not_false_eq_true, and_true, true_and, and_self, or_true, true_or, decide_true, decide_false, exists_eq_left', Option.some.injEq]
        refine bw_comp l [] hvs ?_
        rw [List.nil_append]
        refine ⟨by rw [List.length_map]; omega, ?_⟩
        simp only [↓X_lit, ↓X_loc, ↓X_bin, ↓negX_int, ↓X_neg, ↓X_not, ↓Y_not, ↓X_and, ↓Y_and, ↓X_or, ↓Y_or, ↓X_cmp, ↓X_cmp2, ↓X_ite, ↓Y_ite, ↓X_tup, ↓X_lst, ↓X_call, ↓X_meth, ↓X_sub, ↓X_comp, ↓Y_lit, ↓Y_loc, ↓Y_cmp, ↓Y_cmp2, ↓Y_call, ↓Y_sub, ↓XEs_nil, ↓XEs_cons, ↓XIfs_nil, ↓XIfs_cons, ↓Z_expr, ↓Z_assign, ↓Z_ret, ↓Z_retNone, ↓Z_ite, ↓Z_for, ↓Z_pass, ↓Z_brk, ↓Z_cont, ↓Zs_nil, ↓sqX_next, ↓sqX_brk, ↓sqX_cont, ↓sqX_ret, ↓Zs_cons, ↓wkX_next, ↓wkX_cont, ↓wkX_brk, ↓wkX_ret, ↓fkX_next, ↓fkX_cont, ↓fkX_brk, ↓fkX_ret, ↓xb_one, ↓oKK_some, ↓oK_some, ↓tX_bool, ↓iX_t, ↓iX_f, ↓iX_d, ↓q_add, ↓q_sub, ↓q_mul, ↓q_div, ↓q_mod, ↓q_pow, ↓q_list, ↓q_eq, ↓q_ne, ↓q_eqs, ↓q_nes, ↓q_eqb, ↓q_lt, ↓q_le, ↓q_gt, ↓q_ge, ↓q_in, ↓q_inl, ↓q_nin, ↓q_is, ↓q_isnot, ↓q_stup, ↓q_sref, ↓q_sscr, ↓q_fn, ↓q_lentup, ↓q_lenref, ↓q_lenscr, ↓q_isi, ↓q_all, ↓q_max, ↓q_min, ↓q_int, ↓q_tuple, ↓q_listc, ↓q_append, ↓q_clear, ↓q_index, ↓q_pop, ↓q_slicet, ↓q_revt, ↓q_revl, ↓q_set, ↓q_repr, ↓q_eqo, ↓X_rev, ↓Z_set, ↓q_addt, ↓q_listt, ↓q_ninl, ↓u_tup, ↓u_ref, ↓u_range, ↓q_slice, ↓oi_none, ↓oi_int, ↓X_slice, ↓XO_none, ↓XO_some, ↓u_rev, ↓u_zip, ↓xb_two, ↓u_range2, ↓retV_ret, ↓retV_next, List.getElem?_cons_zero, List.getElem?_cons_succ, List.set_cons_zero, List.set_cons_succ, Bool.not_true, Bool.not_false, idx_0, idx_1, idx_2, idx_3, idx_4, idx_5, Int.reduceAdd, Int.reduceSub, Int.reduceMul, Int.reduceNeg, Int.reducePow, Int.reduceLT, Int.reduceLE, Int.reduceEq, Int.reduceNe, Int.reduceToNat, Int.reduceAbs, Nat.reduceAdd, Nat.reduceLT, Nat.reduceLeDiff, Nat.reducePow, Nat.reduceLT, List.length_cons, List.length_nil, true_implies, false_implies, not_true_eq_false, not_false_eq_true, and_true, true_and, and_self, or_true, true_or, decide_true, decide_false, exists_eq_left', Option.some.injEq, listAt_new, all_bools, all_map]
        cases ha : l.all fun x => bt x 0 (below - 1) with
        | false => subst hK; have := q _ (pre_new (o := .list (l.map fun x => V.bool (bt x 0 (below - 1))))); rw [ha] at this; exact this
        | true =>
          subst hK
          simp only [↓X_lit, ↓X_loc, ↓X_bin, ↓negX_int, ↓X_neg, ↓X_not, ↓Y_not, ↓X_and, ↓Y_and, ↓X_or, ↓Y_or, ↓X_cmp, ↓X_cmp2, ↓X_ite, ↓Y_ite, ↓X_tup, ↓X_lst, ↓X_call, ↓X_meth, ↓X_sub, ↓X_comp, ↓Y_lit, ↓Y_loc, ↓Y_cmp, ↓Y_cmp2, ↓Y_call, ↓Y_sub, ↓XEs_nil, ↓XEs_cons, ↓XIfs_nil, ↓XIfs_cons, ↓Z_expr, ↓Z_assign, ↓Z_ret, ↓Z_retNone, ↓Z_ite, ↓Z_for, ↓Z_pass, ↓Z_brk, ↓Z_cont, ↓Zs_nil, ↓sqX_next, ↓sqX_brk, ↓sqX_cont, ↓sqX_ret, ↓Zs_cons, ↓wkX_next, ↓wkX_cont, ↓wkX_brk, ↓wkX_ret, ↓fkX_next, ↓fkX_cont, ↓fkX_brk, ↓fkX_ret, ↓xb_one, ↓oKK_some, ↓oK_some, ↓tX_bool, ↓iX_t, ↓iX_f, ↓iX_d, ↓q_add, ↓q_sub, ↓q_mul, ↓q_div, ↓q_mod, ↓q_pow, ↓q_list, ↓q_eq, ↓q_ne, ↓q_eqs, ↓q_nes, ↓q_eqb, ↓q_lt, ↓q_le, ↓q_gt, ↓q_ge, ↓q_in, ↓q_inl, ↓q_nin, ↓q_is, ↓q_isnot, ↓q_stup, ↓q_sref, ↓q_sscr, ↓q_fn, ↓q_lentup, ↓q_lenref, ↓q_lenscr, ↓q_isi, ↓q_all, ↓q_max, ↓q_min, ↓q_int, ↓q_tuple, ↓q_listc, ↓q_append, ↓q_clear, ↓q_index, ↓q_pop, ↓q_slicet, ↓q_revt, ↓q_revl, ↓q_set, ↓q_repr, ↓q_eqo, ↓X_rev, ↓Z_set, ↓q_addt, ↓q_listt, ↓q_ninl, ↓u_tup, ↓u_ref, ↓u_range, ↓q_slice, ↓oi_none, ↓oi_int, ↓X_slice, ↓XO_none, ↓XO_some, ↓u_rev, ↓u_zip, ↓xb_two, ↓u_range2, ↓retV_ret, ↓retV_next, List.getElem?_cons_zero, List.getElem?_cons_succ, List.set_cons_zero, List.set_cons_succ, Bool.not_true, Bool.not_false, idx_0, idx_1, idx_2, idx_3, idx_4, idx_5, Int.reduceAdd, Int.reduceSub, Int.reduceMul, Int.reduceNeg, Int.reducePow, Int.reduceLT, Int.reduceLE, Int.reduceEq, Int.reduceNe, Int.reduceToNat, Int.reduceAbs, Nat.reduceAdd, Nat.reduceLT, Nat.reduceLeDiff, Nat.reducePow, Nat.reduceLT, List.length_cons, List.length_nil, true_implies, false_implies, not_true_eq_false, not_false_eq_true, and_true, true_and, and_self, or_true, true_or, decide_true, decide_false, exists_eq_left', Option.some.injEq, slice_tail]
          have el := ints_of ha
          rw [ha, Bool.true_and] at q
          rw [el]
          refine zip_comp (l.map intOf) [] ?_
          rw [List.nil_append]
          refine ⟨by rw [List.length_map]; have := prL_len (l.map intOf); rw [List.length_map] at this; omega, ?_⟩
          simp only [↓X_lit, ↓X_loc, ↓X_bin, ↓negX_int, ↓X_neg, ↓X_not, ↓Y_not, ↓X_and, ↓Y_and, ↓X_or, ↓Y_or, ↓X_cmp, ↓X_cmp2, ↓X_ite, ↓Y_ite, ↓X_tup, ↓X_lst, ↓X_call, ↓X_meth, ↓X_sub, ↓X_comp, ↓Y_lit, ↓Y_loc, ↓Y_cmp, ↓Y_cmp2, ↓Y_call, ↓Y_sub, ↓XEs_nil, ↓XEs_cons, ↓XIfs_nil, ↓XIfs_cons, ↓Z_expr, ↓Z_assign, ↓Z_ret, ↓Z_retNone, ↓Z_ite, ↓Z_for, ↓Z_pass, ↓Z_brk, ↓Z_cont, ↓Zs_nil, ↓sqX_next, ↓sqX_brk, ↓sqX_cont, ↓sqX_ret, ↓Zs_cons, ↓wkX_next, ↓wkX_cont, ↓wkX_brk, ↓wkX_ret, ↓fkX_next, ↓fkX_cont, ↓fkX_brk, ↓fkX_ret, ↓xb_one, ↓oKK_some, ↓oK_some, ↓tX_bool, ↓iX_t, ↓iX_f, ↓iX_d, ↓q_add, ↓q_sub, ↓q_mul, ↓q_div, ↓q_mod, ↓q_pow, ↓q_list, ↓q_eq, ↓q_ne, ↓q_eqs, ↓q_nes, ↓q_eqb, ↓q_lt, ↓q_le, ↓q_gt, ↓q_ge, ↓q_in, ↓q_inl, ↓q_nin, ↓q_is, ↓q_isnot, ↓q_stup, ↓q_sref, ↓q_sscr, ↓q_fn, ↓q_lentup, ↓q_lenref, ↓q_lenscr, ↓q_isi, ↓q_all, ↓q_max, ↓q_min, ↓q_int, ↓q_tuple, ↓q_listc, ↓q_append, ↓q_clear, ↓q_index, ↓q_pop, ↓q_slicet, ↓q_revt, ↓q_revl, ↓q_set, ↓q_repr, ↓q_eqo, ↓X_rev, ↓Z_set, ↓q_addt, ↓q_listt, ↓q_ninl, ↓u_tup, ↓u_ref, ↓u_range, ↓q_slice, ↓oi_none, ↓oi_int, ↓X_slice, ↓XO_none, ↓XO_some, ↓u_rev, ↓u_zip, ↓xb_two, ↓u_range2, ↓retV_ret, ↓retV_next, List.getElem?_cons_zero, List.getElem?_cons_succ, List.set_cons_zero, List.set_cons_succ, Bool.not_true, Bool.not_false, idx_0, idx_1, idx_2, idx_3, idx_4, idx_5, Int.reduceAdd, Int.reduceSub, Int.reduceMul, Int.reduceNeg, Int.reducePow, Int.reduceLT, Int.reduceLE, Int.reduceEq, Int.reduceNe, Int.reduceToNat, Int.reduceAbs, Nat.reduceAdd, Nat.reduceLT, Nat.reduceLeDiff, Nat.reducePow, Nat.reduceLT, List.length_cons, List.length_nil, true_implies, false_implies, not_true_eq_false, not_false_eq_true, and_true, true_and, and_self, or_true, true_or, decide_true, decide_false, exists_eq_left', Option.some.injEq, listAt_new, all_bool_ints, prL_all]
          exact q _ (pre_new.trans pre_new)
      · simp only [decide_eq_false h2, Bool.not_false, iX_t]
        subst hK; exact qf (by rw [decide_eq_true h1, decide_eq_false h2]; rfl)
    · simp only [decide_eq_false h1, Bool.not_false, iX_t]
      subst hK; exact qf (by rw [decide_eq_false h1]; rfl)
noncomputable def E9 : Orc := ext "_law_good_days" C_good_days E8
end Mine

set_option autoImplicit false
set_option linter.unusedSimpArgs false
set_option maxRecDepth 20000
namespace Mine
open PySem

theorem e9_b : E9 "_law_between" = C_is_between := rfl
theorem e9_d : E9 "_law_good_days" = C_good_days := rfl
/- a first part that is data -/
noncomputable def Fd (a : V) : Prop := ∃ d, toPy a = some d ∧ d.depth ≤ 60
theorem toPys_strs : ∀ ws : List Str, toPys (ws.map V.str) = some (ws.map PyData.str)
  | [] => rfl
  | w :: r => by simp only [List.map_cons, toPys, toPy, toPys_strs r]
theorem any_ns {d : PyData} (h : ∀ w, PyData.eqv (.str w) d = false) : ∀ ws : List Str, ((ws.map PyData.str).any fun e => PyData.eqv e d) = false
  | [] => rfl
  | w :: r => by rw [List.map_cons, List.any_cons, h, any_ns h r]; rfl
theorem mem_ns {a : V} (h : Fd a) (hn : strLike a = false) (ws : List Str) : memV a (ws.map V.str) = some false := by
  obtain ⟨d, hd, hz⟩ := h
  have e3 : ∀ w, PyData.eqv (.str w) d = false := by
    intro w
    cases a with
    | none => cases hd; rfl
    | bool b => cases hd; rfl
    | int b => cases hd; rfl
    | str b => cases hn
    | tup l =>
      simp only [toPy, Option.map_eq_some_iff] at hd
      obtain ⟨ds, _, rfl⟩ := hd; rfl
    | _ => cases hd
  unfold memV
  rw [toPys_strs, hd]
  simp only
  rw [if_pos hz, any_ns e3]

noncomputable def anyW (ws : List Str) (u : Str) : Bool := (ws.map PyData.str).any fun e => PyData.eqv e (.str u)
theorem mem_w2 {u x y : Str} : memV (.str u) [V.str x, .str y] = some (anyW [x, y] u) := rfl
theorem anyW_two {x y u : Str} : anyW [x, y] u = (x == u || (y == u || false)) := rfl
theorem so1 : (Str.ofString "once" == Str.ofString "every") = false := by decide
theorem so2 : (Str.ofString "every" == Str.ofString "every") = true := by decide
theorem so3 : (Str.ofString "every" == Str.ofString "once") = false := by decide
theorem so4 : (Str.ofString "week" == Str.ofString "once") = false := by decide
theorem so5 : (Str.ofString "week" == Str.ofString "every") = false := by decide
theorem so6 : (Str.ofString "week" == Str.ofString "week") = true := by decide
theorem so7 : (Str.ofString "month" == Str.ofString "once") = false := by decide
theorem so8 : (Str.ofString "month" == Str.ofString "every") = false := by decide
theorem so9 : (Str.ofString "month" == Str.ofString "week") = false := by decide
theorem so0 : (Str.ofString "month" == Str.ofString "month") = true := by decide
theorem month_eq (x : V) : (bt x 1 31 || bt x (-31) (-1)) = (bt x (-31) 31 && nz x) := by
  cases x with
  | int i =>
    simp only [bt, nz]
    rw [Bool.eq_iff_iff]
    simp only [Bool.or_eq_true, Bool.and_eq_true, decide_eq_true_eq]
    omega
  | _ => rfl
noncomputable def goodPl (a : V) (r : List V) : Bool := match a with
  | .str u => isPl u r
  | _ => false
noncomputable def RowOk (H : Hp) (r : List V) : Prop := ∀ x ∈ r, al H x ∧ als H x ∧ ∀ l, x = .tup l → l.length ≤ 1000
theorem RowOk.pre {H H' : Hp} {r : List V} (p : H <+: H') (h : RowOk H r) : RowOk H' r := fun x hx => by
  obtain ⟨h1, h2, h3⟩ := h x hx
  refine ⟨al_pre p h1, ?_, h3⟩
  cases x with
  | tup l => exact fun y hy => al_pre p (h2 y hy)
  | _ => trivial
noncomputable def C_good_plain : Ctr := fun vs H Q _ => ∃ a r, vs = [.tup (a :: r)] ∧ Fd a ∧ RowOk H r ∧ ∀ H', H <+: H' → Q (.bool (goodPl a r)) H'
/- behind the first test -/
theorem gp_rest {a : V} {r : List V} {H : Hp} {Q : V → Hp → Prop} {X : XL} {t2 t3 t4 t5 : Option V} (hf : Fd a) (hr : RowOk H r) (hn : ∀ u, a = .str u → anyW ["once", "every"] u = false) (q : ∀ H', H <+: H' → Q (.bool (goodPl a r)) H') :
    wpSs E9 (f_l_good_plain.body.drop 2) [some (.tup (a :: r)), some (.tup r), t2, t3, t4, t5] H (fun fl _ H1 => Q (retV fl) H1) (fun x _ H1 => X x H1) := by
  refine zs_cons ?_
  generalize hK : sqX E9 (_ :: _) = K
  cases hs : strLike a with
  | false =>
    have e : goodPl a r = false := by cases a <;> first | rfl | cases hs
    rw [e] at q
    have hm := mem_ns hf hs ["week", "month"]
    simp only [List.map_cons, List.map_nil] at hm
    simp only [↓X_lit, ↓X_loc, ↓X_bin, ↓negX_int, ↓X_neg, ↓X_not, ↓Y_not, ↓X_and, ↓Y_and, ↓X_or, ↓Y_or, ↓X_cmp, ↓X_cmp2, ↓X_ite, ↓Y_ite, ↓X_tup, ↓X_lst, ↓X_call, ↓X_meth, ↓X_sub, ↓X_comp, ↓Y_lit, ↓Y_loc, ↓Y_cmp, ↓Y_cmp2, ↓Y_call, ↓Y_sub, ↓XEs_nil, ↓XEs_cons, ↓XIfs_nil, ↓XIfs_cons, ↓Z_expr, ↓Z_assign, ↓Z_ret, ↓Z_retNone, ↓Z_ite, ↓Z_for, ↓Z_pass, ↓Z_brk, ↓Z_cont, ↓Zs_nil, ↓sqX_next, ↓sqX_brk, ↓sqX_cont, ↓sqX_ret, ↓Zs_cons, ↓wkX_next, ↓wkX_cont, ↓wkX_brk, ↓wkX_ret, ↓fkX_next, ↓fkX_cont, ↓fkX_brk, ↓fkX_ret, ↓xb_one, ↓oKK_some, ↓oK_some, ↓tX_bool, ↓iX_t, ↓iX_f, ↓iX_d, ↓q_add, ↓q_sub, ↓q_mul, ↓q_div, ↓q_mod, ↓q_pow, ↓q_list, ↓q_eq, ↓q_ne, ↓q_eqs, ↓q_nes, ↓q_eqb, ↓q_lt, ↓q_le, ↓q_gt, ↓q_ge, ↓q_in, ↓q_inl, ↓q_nin, ↓q_is, ↓q_isnot, ↓q_stup, ↓q_sref, ↓q_sscr, ↓q_fn, ↓q_lentup, ↓q_lenref, ↓q_lenscr, ↓q_isi, ↓q_all, ↓q_max, ↓q_min, ↓q_int, ↓q_tuple, ↓q_listc, ↓q_append, ↓q_clear, ↓q_index, ↓q_pop, ↓q_slicet, ↓q_revt, ↓q_revl, ↓q_set, ↓q_repr, ↓q_eqo, ↓X_rev, ↓Z_set, ↓q_addt, ↓q_listt, ↓q_ninl, ↓u_tup, ↓u_ref, ↓u_range, ↓q_slice, ↓oi_none, ↓oi_int, ↓X_slice, ↓XO_none, ↓XO_some, ↓u_rev, ↓u_zip, ↓xb_two, ↓u_range2, ↓retV_ret, ↓retV_next, List.getElem?_cons_zero, List.getElem?_cons_succ, List.set_cons_zero, List.set_cons_succ, Bool.not_true, Bool.not_false, idx_0, idx_1, idx_2, idx_3, idx_4, idx_5, Int.reduceAdd, Int.reduceSub, Int.reduceMul, Int.reduceNeg, Int.reducePow, Int.reduceLT, Int.reduceLE, Int.reduceEq, Int.reduceNe, Int.reduceToNat, Int.reduceAbs, Nat.reduceAdd, Nat.reduceLT, Nat.reduceLeDiff, Nat.reducePow, Nat.reduceLT, List.length_cons, List.length_nil, true_implies, false_implies, not_true_eq_false, not_false_eq_true, and_true, true_and, and_self, or_true, true_or, decide_true, decide_false, exists_eq_left', Option.some.injEq, listAt_new, hm]
    subst hK; exact q _ pre_new
  | true =>
    have hu : ∃ u, a = .str u := by cases a <;> first | exact ⟨_, rfl⟩ | cases hs
    obtain ⟨u, rfl⟩ := hu
    have hn := hn u rfl
    replace q : ∀ H', H <+: H' → Q (.bool (isPl u r)) H' := q
    simp only [↓X_lit, ↓X_loc, ↓X_bin, ↓negX_int, ↓X_neg, ↓X_not, ↓Y_not, ↓X_and, ↓Y_and, ↓X_or, ↓Y_or, ↓X_cmp, ↓X_cmp2, ↓X_ite, ↓Y_ite, ↓X_tup, ↓X_lst, ↓X_call, ↓X_meth, ↓X_sub, ↓X_comp, ↓Y_lit, ↓Y_loc, ↓Y_cmp, ↓Y_cmp2, ↓Y_call, ↓Y_sub, ↓XEs_nil, ↓XEs_cons, ↓XIfs_nil, ↓XIfs_cons, ↓Z_expr, ↓Z_assign, ↓Z_ret, ↓Z_retNone, ↓Z_ite, ↓Z_for, ↓Z_pass, ↓Z_brk, ↓Z_cont, ↓Zs_nil, ↓sqX_next, ↓sqX_brk, ↓sqX_cont, ↓sqX_ret, ↓Zs_cons, ↓wkX_next, ↓wkX_cont, ↓wkX_brk, ↓wkX_ret, ↓fkX_next, ↓fkX_cont, ↓fkX_brk, ↓fkX_ret, ↓xb_one, ↓oKK_some, ↓oK_some, ↓tX_bool, ↓iX_t, ↓iX_f, ↓iX_d, ↓q_add, ↓q_sub, ↓q_mul, ↓q_div, ↓q_mod, ↓q_pow, ↓q_list, ↓q_eq, ↓q_ne, ↓q_eqs, ↓q_nes, ↓q_eqb, ↓q_lt, ↓q_le, ↓q_gt, ↓q_ge, ↓q_in, ↓q_inl, ↓q_nin, ↓q_is, ↓q_isnot, ↓q_stup, ↓q_sref, ↓q_sscr, ↓q_fn, ↓q_lentup, ↓q_lenref, ↓q_lenscr, ↓q_isi, ↓q_all, ↓q_max, ↓q_min, ↓q_int, ↓q_tuple, ↓q_listc, ↓q_append, ↓q_clear, ↓q_index, ↓q_pop, ↓q_slicet, ↓q_revt, ↓q_revl, ↓q_set, ↓q_repr, ↓q_eqo, ↓X_rev, ↓Z_set, ↓q_addt, ↓q_listt, ↓q_ninl, ↓u_tup, ↓u_ref, ↓u_range, ↓q_slice, ↓oi_none, ↓oi_int, ↓X_slice, ↓XO_none, ↓XO_some, ↓u_rev, ↓u_zip, ↓xb_two, ↓u_range2, ↓retV_ret, ↓retV_next, List.getElem?_cons_zero, List.getElem?_cons_succ, List.set_cons_zero, List.set_cons_succ, Bool.not_true, Bool.not_false, idx_0, idx_1, idx_2, idx_3, idx_4, idx_5, Int.reduceAdd, Int.reduceSub, Int.reduceMul, Int.reduceNeg, Int.reducePow, Int.reduceLT, Int.reduceLE, Int.reduceEq, Int.reduceNe, Int.reduceToNat, Int.reduceAbs, Nat.reduceAdd, Nat.reduceLT, Nat.reduceLeDiff, Nat.reducePow, Nat.reduceLT, List.length_cons, List.length_nil, true_implies, false_implies, not_true_eq_false, not_false_eq_true, and_true, true_and, and_self, or_true, true_or, decide_true, decide_false, exists_eq_left', Option.some.injEq, listAt_new, mem_w2]
    rw [anyW_two, Bool.or_false, Bool.or_eq_false_iff] at hn
    have h1 : (u == Str.ofString "once") = false := by rw [Bool.beq_comm]; exact hn.1
    have h2 : (u == Str.ofString "every") = false := by rw [Bool.beq_comm]; exact hn.2
    cases hw : anyW ["week", "month"] u with
    | false =>
      rw [anyW_two, Bool.or_false, Bool.or_eq_false_iff] at hw
      have h3 : (u == Str.ofString "week") = false := by rw [Bool.beq_comm]; exact hw.1
      have h4 : (u == Str.ofString "month") = false := by rw [Bool.beq_comm]; exact hw.2
      have e : isPl u r = false := by
        unfold isPl
        rw [h1, if_neg (by decide)]
        by_cases hl : r.length = 3
        · obtain ⟨x, y, z, rfl⟩ := three_list hl
          show isP3 u x y z = false
          unfold isP3
          simp only [h2, h3, h4, Bool.false_eq_true, if_false, Bool.false_and, ite_self]
        · exact not_three hl
      rw [e] at q
      simp only [↓X_lit, ↓X_loc, ↓X_bin, ↓negX_int, ↓X_neg, ↓X_not, ↓Y_not, ↓X_and, ↓Y_and, ↓X_or, ↓Y_or, ↓X_cmp, ↓X_cmp2, ↓X_ite, ↓Y_ite, ↓X_tup, ↓X_lst, ↓X_call, ↓X_meth, ↓X_sub, ↓X_comp, ↓Y_lit, ↓Y_loc, ↓Y_cmp, ↓Y_cmp2, ↓Y_call, ↓Y_sub, ↓XEs_nil, ↓XEs_cons, ↓XIfs_nil, ↓XIfs_cons, ↓Z_expr, ↓Z_assign, ↓Z_ret, ↓Z_retNone, ↓Z_ite, ↓Z_for, ↓Z_pass, ↓Z_brk, ↓Z_cont, ↓Zs_nil, ↓sqX_next, ↓sqX_brk, ↓sqX_cont, ↓sqX_ret, ↓Zs_cons, ↓wkX_next, ↓wkX_cont, ↓wkX_brk, ↓wkX_ret, ↓fkX_next, ↓fkX_cont, ↓fkX_brk, ↓fkX_ret, ↓xb_one, ↓oKK_some, ↓oK_some, ↓tX_bool, ↓iX_t, ↓iX_f, ↓iX_d, ↓q_add, ↓q_sub, ↓q_mul, ↓q_div, ↓q_mod, ↓q_pow, ↓q_list, ↓q_eq, ↓q_ne, ↓q_eqs, ↓q_nes, ↓q_eqb, ↓q_lt, ↓q_le, ↓q_gt, ↓q_ge, ↓q_in, ↓q_inl, ↓q_nin, ↓q_is, ↓q_isnot, ↓q_stup, ↓q_sref, ↓q_sscr, ↓q_fn, ↓q_lentup, ↓q_lenref, ↓q_lenscr, ↓q_isi, ↓q_all, ↓q_max, ↓q_min, ↓q_int, ↓q_tuple, ↓q_listc, ↓q_append, ↓q_clear, ↓q_index, ↓q_pop, ↓q_slicet, ↓q_revt, ↓q_revl, ↓q_set, ↓q_repr, ↓q_eqo, ↓X_rev, ↓Z_set, ↓q_addt, ↓q_listt, ↓q_ninl, ↓u_tup, ↓u_ref, ↓u_range, ↓q_slice, ↓oi_none, ↓oi_int, ↓X_slice, ↓XO_none, ↓XO_some, ↓u_rev, ↓u_zip, ↓xb_two, ↓u_range2, ↓retV_ret, ↓retV_next, List.getElem?_cons_zero, List.getElem?_cons_succ, List.set_cons_zero, List.set_cons_succ, Bool.not_true, Bool.not_false, idx_0, idx_1, idx_2, idx_3, idx_4, idx_5, Int.reduceAdd, Int.reduceSub, Int.reduceMul, Int.reduceNeg, Int.reducePow, Int.reduceLT, Int.reduceLE, Int.reduceEq, Int.reduceNe, Int.reduceToNat, Int.reduceAbs, Nat.reduceAdd, Nat.reduceLT, Nat.reduceLeDiff, Nat.reducePow, Nat.reduceLT, List.length_cons, List.length_nil, true_implies, false_implies, not_true_eq_false, not_false_eq_true, and_true, true_and, and_self, or_true, true_or, decide_true, decide_false, exists_eq_left', Option.some.injEq]
      subst hK; exact q _ pre_new
    | true =>
      simp only [↓X_lit, ↓X_loc, ↓X_bin, ↓negX_int, ↓X_neg, ↓X_not, ↓Y_not, ↓X_and, ↓Y_and, ↓X_or, ↓Y_or, ↓X_cmp, ↓X_cmp2, ↓X_ite, ↓Y_ite, ↓X_tup, ↓X_lst, ↓X_call, ↓X_meth, ↓X_sub, ↓X_comp, ↓Y_lit, ↓Y_loc, ↓Y_cmp, ↓Y_cmp2, ↓Y_call, ↓Y_sub, ↓XEs_nil, ↓XEs_cons, ↓XIfs_nil, ↓XIfs_cons, ↓Z_expr, ↓Z_assign, ↓Z_ret, ↓Z_retNone, ↓Z_ite, ↓Z_for, ↓Z_pass, ↓Z_brk, ↓Z_cont, ↓Zs_nil, ↓sqX_next, ↓sqX_brk, ↓sqX_cont, ↓sqX_ret, ↓Zs_cons, ↓wkX_next, ↓wkX_cont, ↓wkX_brk, ↓wkX_ret, ↓fkX_next, ↓fkX_cont, ↓fkX_brk, ↓fkX_ret, ↓xb_one, ↓oKK_some, ↓oK_some, ↓tX_bool, ↓iX_t, ↓iX_f, ↓iX_d, ↓q_add, ↓q_sub, ↓q_mul, ↓q_div, ↓q_mod, ↓q_pow, ↓q_list, ↓q_eq, ↓q_ne, ↓q_eqs, ↓q_nes, ↓q_eqb, ↓q_lt, ↓q_le, ↓q_gt, ↓q_ge, ↓q_in, ↓q_inl, ↓q_nin, ↓q_is, ↓q_isnot, ↓q_stup, ↓q_sref, ↓q_sscr, ↓q_fn, ↓q_lentup, ↓q_lenref, ↓q_lenscr, ↓q_isi, ↓q_all, ↓q_max, ↓q_min, ↓q_int, ↓q_tuple, ↓q_listc, ↓q_append, ↓q_clear, ↓q_index, ↓q_pop, ↓q_slicet, ↓q_revt, ↓q_revl, ↓q_set, ↓q_repr, ↓q_eqo, ↓X_rev, ↓Z_set, ↓q_addt, ↓q_listt, ↓q_ninl, ↓u_tup, ↓u_ref, ↓u_range, ↓q_slice, ↓oi_none, ↓oi_int, ↓X_slice, ↓XO_none, ↓XO_some, ↓u_rev, ↓u_zip, ↓xb_two, ↓u_range2, ↓retV_ret, ↓retV_next, List.getElem?_cons_zero, List.getElem?_cons_succ, List.set_cons_zero, List.set_cons_succ, Bool.not_true, Bool.not_false, idx_0, idx_1, idx_2, idx_3, idx_4, idx_5, Int.reduceAdd, Int.reduceSub, Int.reduceMul, Int.reduceNeg, Int.reducePow, Int.reduceLT, Int.reduceLE, Int.reduceEq, Int.reduceNe, Int.reduceToNat, Int.reduceAbs, Nat.reduceAdd, Nat.reduceLT, Nat.reduceLeDiff, Nat.reducePow, Nat.reduceLT, List.length_cons, List.length_nil, true_implies, false_implies, not_true_eq_false, not_false_eq_true, and_true, true_and, and_self, or_true, true_or, decide_true, decide_false, exists_eq_left', Option.some.injEq]
      refine ⟨fun h => ?_, fun h => ?_⟩
      · have e : isPl u r = false := by
          unfold isPl
          rw [h1, if_neg (by decide)]
          exact not_three (by omega)
        rw [e] at q
        subst hK; exact q _ pre_new
      · obtain ⟨x, y, z, rfl⟩ := three_list (r := r) (by omega)
        have e : isPl u [x, y, z] = (if bt y 0 23 && bt z 1 48 then (if u == "week" then rising x 7 6 else (u == "month") && (bt x (-31) 31 && nz x)) else false) := by
          unfold isPl
          rw [h1, if_neg (by decide)]
          show isP3 u x y z = _
          unfold isP3
          rw [h2, if_neg (by decide)]
        rw [e] at q
        have hr := hr.pre (pre_new (o := .list [.str "week", .str "month"]))
        have q : ∀ H', H ++ [.list [.str "week", .str "month"]] <+: H' → _ := fun H' hp => q H' (pre_new.trans hp)
        generalize H ++ [O.list [V.str "week", .str "month"]] = H1 at *
        have hx := hr x (by simp)
        have hy := hr y (by simp)
        have hz := hr z (by simp)
        subst hK
        refine zs_cons ?_
        generalize hK : sqX E9 (_ :: _) = K
        simp only [↓X_lit, ↓X_loc, ↓X_bin, ↓negX_int, ↓X_neg, ↓X_not, ↓Y_not, ↓X_and, ↓Y_and, ↓X_or, ↓Y_or, ↓X_cmp, ↓X_cmp2, ↓X_ite, ↓Y_ite, ↓X_tup, ↓X_lst, ↓X_call, ↓X_meth, ↓X_sub, ↓X_comp, ↓Y_lit, ↓Y_loc, ↓Y_cmp, ↓Y_cmp2, ↓Y_call, ↓Y_sub, ↓XEs_nil, ↓XEs_cons, ↓XIfs_nil, ↓XIfs_cons, ↓Z_expr, ↓Z_assign, ↓Z_ret, ↓Z_retNone, ↓Z_ite, ↓Z_for, ↓Z_pass, ↓Z_brk, ↓Z_cont, ↓Zs_nil, ↓sqX_next, ↓sqX_brk, ↓sqX_cont, ↓sqX_ret, ↓Zs_cons, ↓wkX_next, ↓wkX_cont, ↓wkX_brk, ↓wkX_ret, ↓fkX_next, ↓fkX_cont, ↓fkX_brk, ↓fkX_ret, ↓xb_one, ↓oKK_some, ↓oK_some, ↓tX_bool, ↓iX_t, ↓iX_f, ↓iX_d, ↓q_add, ↓q_sub, ↓q_mul, ↓q_div, ↓q_mod, ↓q_pow, ↓q_list, ↓q_eq, ↓q_ne, ↓q_eqs, ↓q_nes, ↓q_eqb, ↓q_lt, ↓q_le, ↓q_gt, ↓q_ge, ↓q_in, ↓q_inl, ↓q_nin, ↓q_is, ↓q_isnot, ↓q_stup, ↓q_sref, ↓q_sscr, ↓q_fn, ↓q_lentup, ↓q_lenref, ↓q_lenscr, ↓q_isi, ↓q_all, ↓q_max, ↓q_min, ↓q_int, ↓q_tuple, ↓q_listc, ↓q_append, ↓q_clear, ↓q_index, ↓q_pop, ↓q_slicet, ↓q_revt, ↓q_revl, ↓q_set, ↓q_repr, ↓q_eqo, ↓X_rev, ↓Z_set, ↓q_addt, ↓q_listt, ↓q_ninl, ↓u_tup, ↓u_ref, ↓u_range, ↓q_slice, ↓oi_none, ↓oi_int, ↓X_slice, ↓XO_none, ↓XO_some, ↓u_rev, ↓u_zip, ↓xb_two, ↓u_range2, ↓retV_ret, ↓retV_next, List.getElem?_cons_zero, List.getElem?_cons_succ, List.set_cons_zero, List.set_cons_succ, Bool.not_true, Bool.not_false, idx_0, idx_1, idx_2, idx_3, idx_4, idx_5, Int.reduceAdd, Int.reduceSub, Int.reduceMul, Int.reduceNeg, Int.reducePow, Int.reduceLT, Int.reduceLE, Int.reduceEq, Int.reduceNe, Int.reduceToNat, Int.reduceAbs, Nat.reduceAdd, Nat.reduceLT, Nat.reduceLeDiff, Nat.reducePow, Nat.reduceLT, List.length_cons, List.length_nil, true_implies, false_implies, not_true_eq_false, not_false_eq_true, and_true, true_and, and_self, or_true, true_or, decide_true, decide_false, exists_eq_left', Option.some.injEq, ↓e9_b]
        refine ⟨y, _, _, rfl, hy.1, ?_⟩
        simp only [↓X_lit, ↓X_loc, ↓X_bin, ↓negX_int, ↓X_neg, ↓X_not, ↓Y_not, ↓X_and, ↓Y_and, ↓X_or, ↓Y_or, ↓X_cmp, ↓X_cmp2, ↓X_ite, ↓Y_ite, ↓X_tup, ↓X_lst, ↓X_call, ↓X_meth, ↓X_sub, ↓X_comp, ↓Y_lit, ↓Y_loc, ↓Y_cmp, ↓Y_cmp2, ↓Y_call, ↓Y_sub, ↓XEs_nil, ↓XEs_cons, ↓XIfs_nil, ↓XIfs_cons, ↓Z_expr, ↓Z_assign, ↓Z_ret, ↓Z_retNone, ↓Z_ite, ↓Z_for, ↓Z_pass, ↓Z_brk, ↓Z_cont, ↓Zs_nil, ↓sqX_next, ↓sqX_brk, ↓sqX_cont, ↓sqX_ret, ↓Zs_cons, ↓wkX_next, ↓wkX_cont, ↓wkX_brk, ↓wkX_ret, ↓fkX_next, ↓fkX_cont, ↓fkX_brk, ↓fkX_ret, ↓xb_one, ↓oKK_some, ↓oK_some, ↓tX_bool, ↓iX_t, ↓iX_f, ↓iX_d, ↓q_add, ↓q_sub, ↓q_mul, ↓q_div, ↓q_mod, ↓q_pow, ↓q_list, ↓q_eq, ↓q_ne, ↓q_eqs, ↓q_nes, ↓q_eqb, ↓q_lt, ↓q_le, ↓q_gt, ↓q_ge, ↓q_in, ↓q_inl, ↓q_nin, ↓q_is, ↓q_isnot, ↓q_stup, ↓q_sref, ↓q_sscr, ↓q_fn, ↓q_lentup, ↓q_lenref, ↓q_lenscr, ↓q_isi, ↓q_all, ↓q_max, ↓q_min, ↓q_int, ↓q_tuple, ↓q_listc, ↓q_append, ↓q_clear, ↓q_index, ↓q_pop, ↓q_slicet, ↓q_revt, ↓q_revl, ↓q_set, ↓q_repr, ↓q_eqo, ↓X_rev, ↓Z_set, ↓q_addt, ↓q_listt, ↓q_ninl, ↓u_tup, ↓u_ref, ↓u_range, ↓q_slice, ↓oi_none, ↓oi_int, ↓X_slice, ↓XO_none, ↓XO_some, ↓u_rev, ↓u_zip, ↓xb_two, ↓u_range2, ↓retV_ret, ↓retV_next, List.getElem?_cons_zero, List.getElem?_cons_succ, List.set_cons_zero, List.set_cons_succ, Bool.not_true, Bool.not_false, idx_0, idx_1, idx_2, idx_3, idx_4, idx_5, Int.reduceAdd, Int.reduceSub, Int.reduceMul, Int.reduceNeg, Int.reducePow, Int.reduceLT, Int.reduceLE, Int.reduceEq, Int.reduceNe, Int.reduceToNat, Int.reduceAbs, Nat.reduceAdd, Nat.reduceLT, Nat.reduceLeDiff, Nat.reducePow, Nat.reduceLT, List.length_cons, List.length_nil, true_implies, false_implies, not_true_eq_false, not_false_eq_true, and_true, true_and, and_self, or_true, true_or, decide_true, decide_false, exists_eq_left', Option.some.injEq]
        cases e1 : bt y 0 23 with
        | false => have := q H1 (List.prefix_refl _); simp only [e1, Bool.false_and, Bool.false_eq_true, if_false] at this; subst hK; exact this
        | true =>
          simp only [↓X_lit, ↓X_loc, ↓X_bin, ↓negX_int, ↓X_neg, ↓X_not, ↓Y_not, ↓X_and, ↓Y_and, ↓X_or, ↓Y_or, ↓X_cmp, ↓X_cmp2, ↓X_ite, ↓Y_ite, ↓X_tup, ↓X_lst, ↓X_call, ↓X_meth, ↓X_sub, ↓X_comp, ↓Y_lit, ↓Y_loc, ↓Y_cmp, ↓Y_cmp2, ↓Y_call, ↓Y_sub, ↓XEs_nil, ↓XEs_cons, ↓XIfs_nil, ↓XIfs_cons, ↓Z_expr, ↓Z_assign, ↓Z_ret, ↓Z_retNone, ↓Z_ite, ↓Z_for, ↓Z_pass, ↓Z_brk, ↓Z_cont, ↓Zs_nil, ↓sqX_next, ↓sqX_brk, ↓sqX_cont, ↓sqX_ret, ↓Zs_cons, ↓wkX_next, ↓wkX_cont, ↓wkX_brk, ↓wkX_ret, ↓fkX_next, ↓fkX_cont, ↓fkX_brk, ↓fkX_ret, ↓xb_one, ↓oKK_some, ↓oK_some, ↓tX_bool, ↓iX_t, ↓iX_f, ↓iX_d, ↓q_add, ↓q_sub, ↓q_mul, ↓q_div, ↓q_mod, ↓q_pow, ↓q_list, ↓q_eq, ↓q_ne, ↓q_eqs, ↓q_nes, ↓q_eqb, ↓q_lt, ↓q_le, ↓q_gt, ↓q_ge, ↓q_in, ↓q_inl, ↓q_nin, ↓q_is, ↓q_isnot, ↓q_stup, ↓q_sref, ↓q_sscr, ↓q_fn, ↓q_lentup, ↓q_lenref, ↓q_lenscr, ↓q_isi, ↓q_all, ↓q_max, ↓q_min, ↓q_int, ↓q_tuple, ↓q_listc, ↓q_append, ↓q_clear, ↓q_index, ↓q_pop, ↓q_slicet, ↓q_revt, ↓q_revl, ↓q_set, ↓q_repr, ↓q_eqo, ↓X_rev, ↓Z_set, ↓q_addt, ↓q_listt, ↓q_ninl, ↓u_tup, ↓u_ref, ↓u_range, ↓q_slice, ↓oi_none, ↓oi_int, ↓X_slice, ↓XO_none, ↓XO_some, ↓u_rev, ↓u_zip, ↓xb_two, ↓u_range2, ↓retV_ret, ↓retV_next, List.getElem?_cons_zero, List.getElem?_cons_succ, List.set_cons_zero, List.set_cons_succ, Bool.not_true, Bool.not_false, idx_0, idx_1, idx_2, idx_3, idx_4, idx_5, Int.reduceAdd, Int.reduceSub, Int.reduceMul, Int.reduceNeg, Int.reducePow, Int.reduceLT, Int.reduceLE, Int.reduceEq, Int.reduceNe, Int.reduceToNat, Int.reduceAbs, Nat.reduceAdd, Nat.reduceLT, Nat.reduceLeDiff, Nat.reducePow, Nat.reduceLT, List.length_cons, List.length_nil, true_implies, false_implies, not_true_eq_false, not_false_eq_true, and_true, true_and, and_self, or_true, true_or, decide_true, decide_false, exists_eq_left', Option.some.injEq, ↓e9_b]
          refine ⟨z, _, _, rfl, hz.1, ?_⟩
          simp only [↓X_lit, ↓X_loc, ↓X_bin, ↓negX_int, ↓X_neg, ↓X_not, ↓Y_not, ↓X_and, ↓Y_and, ↓X_or, ↓Y_or, ↓X_cmp, ↓X_cmp2, ↓X_ite, ↓Y_ite, ↓X_tup, ↓X_lst, ↓X_call, ↓X_meth, ↓X_sub, ↓X_comp, ↓Y_lit, ↓Y_loc, ↓Y_cmp, ↓Y_cmp2, ↓Y_call, ↓Y_sub, ↓XEs_nil, ↓XEs_cons, ↓XIfs_nil, ↓XIfs_cons, ↓Z_expr, ↓Z_assign, ↓Z_ret, ↓Z_retNone, ↓Z_ite, ↓Z_for, ↓Z_pass, ↓Z_brk, ↓Z_cont, ↓Zs_nil, ↓sqX_next, ↓sqX_brk, ↓sqX_cont, ↓sqX_ret, ↓Zs_cons, ↓wkX_next, ↓wkX_cont, ↓wkX_brk, ↓wkX_ret, ↓fkX_next, ↓fkX_cont, ↓fkX_brk, ↓fkX_ret, ↓xb_one, ↓oKK_some, ↓oK_some, ↓tX_bool, ↓iX_t, ↓iX_f, ↓iX_d, ↓q_add, ↓q_sub, ↓q_mul, ↓q_div, ↓q_mod, ↓q_pow, ↓q_list, ↓q_eq, ↓q_ne, ↓q_eqs, ↓q_nes, ↓q_eqb, ↓q_lt, ↓q_le, ↓q_gt, ↓q_ge, ↓q_in, ↓q_inl, ↓q_nin, ↓q_is, ↓q_isnot, ↓q_stup, ↓q_sref, ↓q_sscr, ↓q_fn, ↓q_lentup, ↓q_lenref, ↓q_lenscr, ↓q_isi, ↓q_all, ↓q_max, ↓q_min, ↓q_int, ↓q_tuple, ↓q_listc, ↓q_append, ↓q_clear, ↓q_index, ↓q_pop, ↓q_slicet, ↓q_revt, ↓q_revl, ↓q_set, ↓q_repr, ↓q_eqo, ↓X_rev, ↓Z_set, ↓q_addt, ↓q_listt, ↓q_ninl, ↓u_tup, ↓u_ref, ↓u_range, ↓q_slice, ↓oi_none, ↓oi_int, ↓X_slice, ↓XO_none, ↓XO_some, ↓u_rev, ↓u_zip, ↓xb_two, ↓u_range2, ↓retV_ret, ↓retV_next, List.getElem?_cons_zero, List.getElem?_cons_succ, List.set_cons_zero, List.set_cons_succ, Bool.not_true, Bool.not_false, idx_0, idx_1, idx_2, idx_3, idx_4, idx_5, Int.reduceAdd, Int.reduceSub, Int.reduceMul, Int.reduceNeg, Int.reducePow, Int.reduceLT, Int.reduceLE, Int.reduceEq, Int.reduceNe, Int.reduceToNat, Int.reduceAbs, Nat.reduceAdd, Nat.reduceLT, Nat.reduceLeDiff, Nat.reducePow, Nat.reduceLT, List.length_cons, List.length_nil, true_implies, false_implies, not_true_eq_false, not_false_eq_true, and_true, true_and, and_self, or_true, true_or, decide_true, decide_false, exists_eq_left', Option.some.injEq]
          cases e2 : bt z 1 48 with
          | false => have := q H1 (List.prefix_refl _); simp only [e1, e2, Bool.and_false, Bool.false_eq_true, if_false] at this; subst hK; exact this
          | true =>
            simp only [e1, e2, Bool.and_self, if_true] at q
            subst hK
            refine zs_cons ?_
            show ifP (u == "week") _ _
            cases e3 : u == "week" with
            | true =>
              rw [e3, if_pos rfl] at q
              generalize hK : sqX E9 (_ :: _) = K
              simp only [↓X_lit, ↓X_loc, ↓X_bin, ↓negX_int, ↓X_neg, ↓X_not, ↓Y_not, ↓X_and, ↓Y_and, ↓X_or, ↓Y_or, ↓X_cmp, ↓X_cmp2, ↓X_ite, ↓Y_ite, ↓X_tup, ↓X_lst, ↓X_call, ↓X_meth, ↓X_sub, ↓X_comp, ↓Y_lit, ↓Y_loc, ↓Y_cmp, ↓Y_cmp2, ↓Y_call, ↓Y_sub, ↓XEs_nil, ↓XEs_cons, ↓XIfs_nil, ↓XIfs_cons, ↓Z_expr, ↓Z_assign, ↓Z_ret, ↓Z_retNone, ↓Z_ite, ↓Z_for, ↓Z_pass, ↓Z_brk, ↓Z_cont, ↓Zs_nil, ↓sqX_next, ↓sqX_brk, ↓sqX_cont, ↓sqX_ret, ↓Zs_cons, ↓wkX_next, ↓wkX_cont, ↓wkX_brk, ↓wkX_ret, ↓fkX_next, ↓fkX_cont, ↓fkX_brk, ↓fkX_ret, ↓xb_one, ↓oKK_some, ↓oK_some, ↓tX_bool, ↓iX_t, ↓iX_f, ↓iX_d, ↓q_add, ↓q_sub, ↓q_mul, ↓q_div, ↓q_mod, ↓q_pow, ↓q_list, ↓q_eq, ↓q_ne, ↓q_eqs, ↓q_nes, ↓q_eqb, ↓q_lt, ↓q_le, ↓q_gt, ↓q_ge, ↓q_in, ↓q_inl, ↓q_nin, ↓q_is, ↓q_isnot, ↓q_stup, ↓q_sref, ↓q_sscr, ↓q_fn, ↓q_lentup, ↓q_lenref, ↓q_lenscr, ↓q_isi, ↓q_all, ↓q_max, ↓q_min, ↓q_int, ↓q_tuple, ↓q_listc, ↓q_append, ↓q_clear, ↓q_index, ↓q_pop, ↓q_slicet, ↓q_revt, ↓q_revl, ↓q_set, ↓q_repr, ↓q_eqo, ↓X_rev, ↓Z_set, ↓q_addt, ↓q_listt, ↓q_ninl, ↓u_tup, ↓u_ref, ↓u_range, ↓q_slice, ↓oi_none, ↓oi_int, ↓X_slice, ↓XO_none, ↓XO_some, ↓u_rev, ↓u_zip, ↓xb_two, ↓u_range2, ↓retV_ret, ↓retV_next, List.getElem?_cons_zero, List.getElem?_cons_succ, List.set_cons_zero, List.set_cons_succ, Bool.not_true, Bool.not_false, idx_0, idx_1, idx_2, idx_3, idx_4, idx_5, Int.reduceAdd, Int.reduceSub, Int.reduceMul, Int.reduceNeg, Int.reducePow, Int.reduceLT, Int.reduceLE, Int.reduceEq, Int.reduceNe, Int.reduceToNat, Int.reduceAbs, Nat.reduceAdd, Nat.reduceLT, Nat.reduceLeDiff, Nat.reducePow, Nat.reduceLT, List.length_cons, List.length_nil, true_implies, false_implies, not_true_eq_false, not_false_eq_true, and_true, true_and, and_self, or_true, true_or, decide_true, decide_false, exists_eq_left', Option.some.injEq, ↓e9_d]
              refine ⟨x, _, _, rfl, hx.1, hx.2.1, hx.2.2, fun H2 hp => ?_⟩
              have := q H2 hp
              rw [← rising_good] at this
              subst hK; exact this
            | false =>
              have e4 : (u == Str.ofString "month") = true := by
                rw [anyW_two, Bool.or_false] at hw
                have e3' : (Str.ofString "week" == u) = false := by rw [Bool.beq_comm]; exact e3
                rw [e3', Bool.false_or] at hw
                rw [Bool.beq_comm]; exact hw
              rw [e3, if_neg (by decide), e4, Bool.true_and, ← month_eq] at q
              refine zs_cons ?_
              generalize hK : sqX E9 [] = K
              simp only [↓X_lit, ↓X_loc, ↓X_bin, ↓negX_int, ↓X_neg, ↓X_not, ↓Y_not, ↓X_and, ↓Y_and, ↓X_or, ↓Y_or, ↓X_cmp, ↓X_cmp2, ↓X_ite, ↓Y_ite, ↓X_tup, ↓X_lst, ↓X_call, ↓X_meth, ↓X_sub, ↓X_comp, ↓Y_lit, ↓Y_loc, ↓Y_cmp, ↓Y_cmp2, ↓Y_call, ↓Y_sub, ↓XEs_nil, ↓XEs_cons, ↓XIfs_nil, ↓XIfs_cons, ↓Z_expr, ↓Z_assign, ↓Z_ret, ↓Z_retNone, ↓Z_ite, ↓Z_for, ↓Z_pass, ↓Z_brk, ↓Z_cont, ↓Zs_nil, ↓sqX_next, ↓sqX_brk, ↓sqX_cont, ↓sqX_ret, ↓Zs_cons, ↓wkX_next, ↓wkX_cont, ↓wkX_brk, ↓wkX_ret, ↓fkX_next, ↓fkX_cont, ↓fkX_brk, ↓fkX_ret, ↓xb_one, ↓oKK_some, ↓oK_some, ↓tX_bool, ↓iX_t, ↓iX_f, ↓iX_d, ↓q_add, ↓q_sub, ↓q_mul, ↓q_div, ↓q_mod, ↓q_pow, ↓q_list, ↓q_eq, ↓q_ne, ↓q_eqs, ↓q_nes, ↓q_eqb, ↓q_lt, ↓q_le, ↓q_gt, ↓q_ge, ↓q_in, ↓q_inl, ↓q_nin, ↓q_is, ↓q_isnot, ↓q_stup, ↓q_sref, ↓q_sscr, ↓q_fn, ↓q_lentup, ↓q_lenref, ↓q_lenscr, ↓q_isi, ↓q_all, ↓q_max, ↓q_min, ↓q_int, ↓q_tuple, ↓q_listc, ↓q_append, ↓q_clear, ↓q_index, ↓q_pop, ↓q_slicet, ↓q_revt, ↓q_revl, ↓q_set, ↓q_repr, ↓q_eqo, ↓X_rev, ↓Z_set, ↓q_addt, ↓q_listt, ↓q_ninl, ↓u_tup, ↓u_ref, ↓u_range, ↓q_slice, ↓oi_none, ↓oi_int, ↓X_slice, ↓XO_none, ↓XO_some, ↓u_rev, ↓u_zip, ↓xb_two, ↓u_range2, ↓retV_ret, ↓retV_next, List.getElem?_cons_zero, List.getElem?_cons_succ, List.set_cons_zero, List.set_cons_succ, Bool.not_true, Bool.not_false, idx_0, idx_1, idx_2, idx_3, idx_4, idx_5, Int.reduceAdd, Int.reduceSub, Int.reduceMul, Int.reduceNeg, Int.reducePow, Int.reduceLT, Int.reduceLE, Int.reduceEq, Int.reduceNe, Int.reduceToNat, Int.reduceAbs, Nat.reduceAdd, Nat.reduceLT, Nat.reduceLeDiff, Nat.reducePow, Nat.reduceLT, List.length_cons, List.length_nil, true_implies, false_implies, not_true_eq_false, not_false_eq_true, and_true, true_and, and_self, or_true, true_or, decide_true, decide_false, exists_eq_left', Option.some.injEq, ↓e9_b]
              refine ⟨x, _, _, rfl, hx.1, ?_⟩
              simp only [↓X_lit, ↓X_loc, ↓X_bin, ↓negX_int, ↓X_neg, ↓X_not, ↓Y_not, ↓X_and, ↓Y_and, ↓X_or, ↓Y_or, ↓X_cmp, ↓X_cmp2, ↓X_ite, ↓Y_ite, ↓X_tup, ↓X_lst, ↓X_call, ↓X_meth, ↓X_sub, ↓X_comp, ↓Y_lit, ↓Y_loc, ↓Y_cmp, ↓Y_cmp2, ↓Y_call, ↓Y_sub, ↓XEs_nil, ↓XEs_cons, ↓XIfs_nil, ↓XIfs_cons, ↓Z_expr, ↓Z_assign, ↓Z_ret, ↓Z_retNone, ↓Z_ite, ↓Z_for, ↓Z_pass, ↓Z_brk, ↓Z_cont, ↓Zs_nil, ↓sqX_next, ↓sqX_brk, ↓sqX_cont, ↓sqX_ret, ↓Zs_cons, ↓wkX_next, ↓wkX_cont, ↓wkX_brk, ↓wkX_ret, ↓fkX_next, ↓fkX_cont, ↓fkX_brk, ↓fkX_ret, ↓xb_one, ↓oKK_some, ↓oK_some, ↓tX_bool, ↓iX_t, ↓iX_f, ↓iX_d, ↓q_add, ↓q_sub, ↓q_mul, ↓q_div, ↓q_mod, ↓q_pow, ↓q_list, ↓q_eq, ↓q_ne, ↓q_eqs, ↓q_nes, ↓q_eqb, ↓q_lt, ↓q_le, ↓q_gt, ↓q_ge, ↓q_in, ↓q_inl, ↓q_nin, ↓q_is, ↓q_isnot, ↓q_stup, ↓q_sref, ↓q_sscr, ↓q_fn, ↓q_lentup, ↓q_lenref, ↓q_lenscr, ↓q_isi, ↓q_all, ↓q_max, ↓q_min, ↓q_int, ↓q_tuple, ↓q_listc, ↓q_append, ↓q_clear, ↓q_index, ↓q_pop, ↓q_slicet, ↓q_revt, ↓q_revl, ↓q_set, ↓q_repr, ↓q_eqo, ↓X_rev, ↓Z_set, ↓q_addt, ↓q_listt, ↓q_ninl, ↓u_tup, ↓u_ref, ↓u_range, ↓q_slice, ↓oi_none, ↓oi_int, ↓X_slice, ↓XO_none, ↓XO_some, ↓u_rev, ↓u_zip, ↓xb_two, ↓u_range2, ↓retV_ret, ↓retV_next, List.getElem?_cons_zero, List.getElem?_cons_succ, List.set_cons_zero, List.set_cons_succ, Bool.not_true, Bool.not_false, idx_0, idx_1, idx_2, idx_3, idx_4, idx_5, Int.reduceAdd, Int.reduceSub, Int.reduceMul, Int.reduceNeg, Int.reducePow, Int.reduceLT, Int.reduceLE, Int.reduceEq, Int.reduceNe, Int.reduceToNat, Int.reduceAbs, Nat.reduceAdd, Nat.reduceLT, Nat.reduceLeDiff, Nat.reducePow, Nat.reduceLT, List.length_cons, List.length_nil, true_implies, false_implies, not_true_eq_false, not_false_eq_true, and_true, true_and, and_self, or_true, true_or, decide_true, decide_false, exists_eq_left', Option.some.injEq]
              have q1 := q H1 (List.prefix_refl _)
              cases e5 : bt x 1 31 with
              | true => rw [e5] at q1; subst hK; exact q1
              | false =>
                rw [e5, Bool.false_or] at q1
                simp only [↓X_lit, ↓X_loc, ↓X_bin, ↓negX_int, ↓X_neg, ↓X_not, ↓Y_not, ↓X_and, ↓Y_and, ↓X_or, ↓Y_or, ↓X_cmp, ↓X_cmp2, ↓X_ite, ↓Y_ite, ↓X_tup, ↓X_lst, ↓X_call, ↓X_meth, ↓X_sub, ↓X_comp, ↓Y_lit, ↓Y_loc, ↓Y_cmp, ↓Y_cmp2, ↓Y_call, ↓Y_sub, ↓XEs_nil, ↓XEs_cons, ↓XIfs_nil, ↓XIfs_cons, ↓Z_expr, ↓Z_assign, ↓Z_ret, ↓Z_retNone, ↓Z_ite, ↓Z_for, ↓Z_pass, ↓Z_brk, ↓Z_cont, ↓Zs_nil, ↓sqX_next, ↓sqX_brk, ↓sqX_cont, ↓sqX_ret, ↓Zs_cons, ↓wkX_next, ↓wkX_cont, ↓wkX_brk, ↓wkX_ret, ↓fkX_next, ↓fkX_cont, ↓fkX_brk, ↓fkX_ret, ↓xb_one, ↓oKK_some, ↓oK_some, ↓tX_bool, ↓iX_t, ↓iX_f, ↓iX_d, ↓q_add, ↓q_sub, ↓q_mul, ↓q_div, ↓q_mod, ↓q_pow, ↓q_list, ↓q_eq, ↓q_ne, ↓q_eqs, ↓q_nes, ↓q_eqb, ↓q_lt, ↓q_le, ↓q_gt, ↓q_ge, ↓q_in, ↓q_inl, ↓q_nin, ↓q_is, ↓q_isnot, ↓q_stup, ↓q_sref, ↓q_sscr, ↓q_fn, ↓q_lentup, ↓q_lenref, ↓q_lenscr, ↓q_isi, ↓q_all, ↓q_max, ↓q_min, ↓q_int, ↓q_tuple, ↓q_listc, ↓q_append, ↓q_clear, ↓q_index, ↓q_pop, ↓q_slicet, ↓q_revt, ↓q_revl, ↓q_set, ↓q_repr, ↓q_eqo, ↓X_rev, ↓Z_set, ↓q_addt, ↓q_listt, ↓q_ninl, ↓u_tup, ↓u_ref, ↓u_range, ↓q_slice, ↓oi_none, ↓oi_int, ↓X_slice, ↓XO_none, ↓XO_some, ↓u_rev, ↓u_zip, ↓xb_two, ↓u_range2, ↓retV_ret, ↓retV_next, List.getElem?_cons_zero, List.getElem?_cons_succ, List.set_cons_zero, List.set_cons_succ, Bool.not_true, Bool.not_false, idx_0, idx_1, idx_2, idx_3, idx_4, idx_5, Int.reduceAdd, Int.reduceSub, Int.reduceMul, Int.reduceNeg, Int.reducePow, Int.reduceLT, Int.reduceLE, Int.reduceEq, Int.reduceNe, Int.reduceToNat, Int.reduceAbs, Nat.reduceAdd, Nat.reduceLT, Nat.reduceLeDiff, Nat.reducePow, Nat.reduceLT, List.length_cons, List.length_nil, true_implies, false_implies, not_true_eq_false, not_false_eq_true, and_true, true_and, and_self, or_true, true_or, decide_true, decide_false, exists_eq_left', Option.some.injEq, ↓e9_b]
                exact ⟨x, _, _, rfl, hx.1, by subst hK; exact q1⟩
theorem gp_once {r : List V} {H : Hp} {Q : V → Hp → Prop} {X : XL} {t2 t3 t4 t5 : Option V} {K : QS} (hr : RowOk H r) (hK : ∀ v L' H', K (.ret v) L' H' = Q v H') (q : ∀ H', H <+: H' → Q (.bool (pl2 r)) H') :
    wpSs E9 [(.ite (.cmp (.call (.bi .len) [(.loc 1)]) .NotEq (.sub (.lst [(.lit (.int 2)), (.lit (.int 3))]) (.call (.ty .int) [(.cmp (.sub (.loc 0) (.lit (.int 0))) .Eq (.lit (.str "every")))]))) [(.ret (.lit (.bool false)))] []), (.assign 2 (.ite (.cmp (.call (.bi .len) [(.loc 1)]) .Eq (.lit (.int 3))) (.sub (.loc 1) (.neg (.lit (.int 1)))) (.lit (.int 1)))), (.ite (.or (.not (.call (.fn "_law_between") [(.loc 2), (.lit (.int 1)), (.bin .Pow (.lit (.int 10)) (.lit (.int 6)))])) (.not (.call (.fn "_law_between") [(.sub (.loc 1) (.lit (.int 1))), (.lit (.int 1)), (.lit (.int 48))]))) [(.ret (.lit (.bool false)))] []), (.ret (.call (.fn "_law_between") [(.sub (.loc 1) (.lit (.int 0))), (.lit (.int 0)), (.bin .Sub (.bin .Pow (.lit (.int 10)) (.lit (.int 12))) (.lit (.int 1)))]))]
      [some (.tup (.str "once" :: r)), some (.tup r), t2, t3, t4, t5] H K (fun x _ H1 => X x H1) := by
  have e0 : idx [V.int 2, .int 3] (if (Str.ofString "once" == Str.ofString "every") = true then 1 else 0) = some (.int 2) := by rw [so1]; rfl
  refine zs_cons ?_
  generalize hK2 : sqX E9 (_ :: _) = K2
  simp only [↓X_lit, ↓X_loc, ↓X_bin, ↓negX_int, ↓X_neg, ↓X_not, ↓Y_not, ↓X_and, ↓Y_and, ↓X_or, ↓Y_or, ↓X_cmp, ↓X_cmp2, ↓X_ite, ↓Y_ite, ↓X_tup, ↓X_lst, ↓X_call, ↓X_meth, ↓X_sub, ↓X_comp, ↓Y_lit, ↓Y_loc, ↓Y_cmp, ↓Y_cmp2, ↓Y_call, ↓Y_sub, ↓XEs_nil, ↓XEs_cons, ↓XIfs_nil, ↓XIfs_cons, ↓Z_expr, ↓Z_assign, ↓Z_ret, ↓Z_retNone, ↓Z_ite, ↓Z_for, ↓Z_pass, ↓Z_brk, ↓Z_cont, ↓Zs_nil, ↓sqX_next, ↓sqX_brk, ↓sqX_cont, ↓sqX_ret, ↓Zs_cons, ↓wkX_next, ↓wkX_cont, ↓wkX_brk, ↓wkX_ret, ↓fkX_next, ↓fkX_cont, ↓fkX_brk, ↓fkX_ret, ↓xb_one, ↓oKK_some, ↓oK_some, ↓tX_bool, ↓iX_t, ↓iX_f, ↓iX_d, ↓q_add, ↓q_sub, ↓q_mul, ↓q_div, ↓q_mod, ↓q_pow, ↓q_list, ↓q_eq, ↓q_ne, ↓q_eqs, ↓q_nes, ↓q_eqb, ↓q_lt, ↓q_le, ↓q_gt, ↓q_ge, ↓q_in, ↓q_inl, ↓q_nin, ↓q_is, ↓q_isnot, ↓q_stup, ↓q_sref, ↓q_sscr, ↓q_fn, ↓q_lentup, ↓q_lenref, ↓q_lenscr, ↓q_isi, ↓q_all, ↓q_max, ↓q_min, ↓q_int, ↓q_tuple, ↓q_listc, ↓q_append, ↓q_clear, ↓q_index, ↓q_pop, ↓q_slicet, ↓q_revt, ↓q_revl, ↓q_set, ↓q_repr, ↓q_eqo, ↓X_rev, ↓Z_set, ↓q_addt, ↓q_listt, ↓q_ninl, ↓u_tup, ↓u_ref, ↓u_range, ↓q_slice, ↓oi_none, ↓oi_int, ↓X_slice, ↓XO_none, ↓XO_some, ↓u_rev, ↓u_zip, ↓xb_two, ↓u_range2, ↓retV_ret, ↓retV_next, List.getElem?_cons_zero, List.getElem?_cons_succ, List.set_cons_zero, List.set_cons_succ, Bool.not_true, Bool.not_false, idx_0, idx_1, idx_2, idx_3, idx_4, idx_5, Int.reduceAdd, Int.reduceSub, Int.reduceMul, Int.reduceNeg, Int.reducePow, Int.reduceLT, Int.reduceLE, Int.reduceEq, Int.reduceNe, Int.reduceToNat, Int.reduceAbs, Nat.reduceAdd, Nat.reduceLT, Nat.reduceLeDiff, Nat.reducePow, Nat.reduceLT, List.length_cons, List.length_nil, true_implies, false_implies, not_true_eq_false, not_false_eq_true, and_true, true_and, and_self, or_true, true_or, decide_true, decide_false, exists_eq_left', Option.some.injEq, listAt_new, e0]
  refine ⟨fun h => ?_, fun h => ?_⟩
  · have := q _ (pre_new (o := .list [.int 2, .int 3])); rw [not_two (by omega)] at this
    subst hK2; show K (.ret _) _ _; rw [hK]; exact this
  · obtain ⟨x, y, rfl⟩ := two_list (r := r) (by omega)
    have hr := hr.pre (pre_new (o := .list [.int 2, .int 3]))
    have q : ∀ H', H ++ [.list [.int 2, .int 3]] <+: H' → Q (.bool (bt x 0 999999999999 && bt y 1 48)) H' := fun H' hp => q H' (pre_new.trans hp)
    generalize H ++ [O.list [V.int 2, .int 3]] = H1 at *
    have q1 := q H1 (List.prefix_refl _)
    have hx := hr x (by simp)
    have hy := hr y (by simp)
    subst hK2
    refine zs_cons ?_
    generalize hK2 : sqX E9 (_ :: _) = K2
    simp only [↓X_lit, ↓X_loc, ↓X_bin, ↓negX_int, ↓X_neg, ↓X_not, ↓Y_not, ↓X_and, ↓Y_and, ↓X_or, ↓Y_or, ↓X_cmp, ↓X_cmp2, ↓X_ite, ↓Y_ite, ↓X_tup, ↓X_lst, ↓X_call, ↓X_meth, ↓X_sub, ↓X_comp, ↓Y_lit, ↓Y_loc, ↓Y_cmp, ↓Y_cmp2, ↓Y_call, ↓Y_sub, ↓XEs_nil, ↓XEs_cons, ↓XIfs_nil, ↓XIfs_cons, ↓Z_expr, ↓Z_assign, ↓Z_ret, ↓Z_retNone, ↓Z_ite, ↓Z_for, ↓Z_pass, ↓Z_brk, ↓Z_cont, ↓Zs_nil, ↓sqX_next, ↓sqX_brk, ↓sqX_cont, ↓sqX_ret, ↓Zs_cons, ↓wkX_next, ↓wkX_cont, ↓wkX_brk, ↓wkX_ret, ↓fkX_next, ↓fkX_cont, ↓fkX_brk, ↓fkX_ret, ↓xb_one, ↓oKK_some, ↓oK_some, ↓tX_bool, ↓iX_t, ↓iX_f, ↓iX_d, ↓q_add, ↓q_sub, ↓q_mul, ↓q_div, ↓q_mod, ↓q_pow, ↓q_list, ↓q_eq, ↓q_ne, ↓q_eqs, ↓q_nes, ↓q_eqb, ↓q_lt, ↓q_le, ↓q_gt, ↓q_ge, ↓q_in, ↓q_inl, ↓q_nin, ↓q_is, ↓q_isnot, ↓q_stup, ↓q_sref, ↓q_sscr, ↓q_fn, ↓q_lentup, ↓q_lenref, ↓q_lenscr, ↓q_isi, ↓q_all, ↓q_max, ↓q_min, ↓q_int, ↓q_tuple, ↓q_listc, ↓q_append, ↓q_clear, ↓q_index, ↓q_pop, ↓q_slicet, ↓q_revt, ↓q_revl, ↓q_set, ↓q_repr, ↓q_eqo, ↓X_rev, ↓Z_set, ↓q_addt, ↓q_listt, ↓q_ninl, ↓u_tup, ↓u_ref, ↓u_range, ↓q_slice, ↓oi_none, ↓oi_int, ↓X_slice, ↓XO_none, ↓XO_some, ↓u_rev, ↓u_zip, ↓xb_two, ↓u_range2, ↓retV_ret, ↓retV_next, List.getElem?_cons_zero, List.getElem?_cons_succ, List.set_cons_zero, List.set_cons_succ, Bool.not_true, Bool.not_false, idx_0, idx_1, idx_2, idx_3, idx_4, idx_5, Int.reduceAdd, Int.reduceSub, Int.reduceMul, Int.reduceNeg, Int.reducePow, Int.reduceLT, Int.reduceLE, Int.reduceEq, Int.reduceNe, Int.reduceToNat, Int.reduceAbs, Nat.reduceAdd, Nat.reduceLT, Nat.reduceLeDiff, Nat.reducePow, Nat.reduceLT, List.length_cons, List.length_nil, true_implies, false_implies, not_true_eq_false, not_false_eq_true, and_true, true_and, and_self, or_true, true_or, decide_true, decide_false, exists_eq_left', Option.some.injEq]
    refine ⟨fun h => absurd h (by decide), fun _ => ?_⟩
    subst hK2
    refine zs_cons ?_
    generalize hK2 : sqX E9 (_ :: _) = K2
    simp only [↓X_lit, ↓X_loc, ↓X_bin, ↓negX_int, ↓X_neg, ↓X_not, ↓Y_not, ↓X_and, ↓Y_and, ↓X_or, ↓Y_or, ↓X_cmp, ↓X_cmp2, ↓X_ite, ↓Y_ite, ↓X_tup, ↓X_lst, ↓X_call, ↓X_meth, ↓X_sub, ↓X_comp, ↓Y_lit, ↓Y_loc, ↓Y_cmp, ↓Y_cmp2, ↓Y_call, ↓Y_sub, ↓XEs_nil, ↓XEs_cons, ↓XIfs_nil, ↓XIfs_cons, ↓Z_expr, ↓Z_assign, ↓Z_ret, ↓Z_retNone, ↓Z_ite, ↓Z_for, ↓Z_pass, ↓Z_brk, ↓Z_cont, ↓Zs_nil, ↓sqX_next, ↓sqX_brk, ↓sqX_cont, ↓sqX_ret, ↓Zs_cons, ↓wkX_next, ↓wkX_cont, ↓wkX_brk, ↓wkX_ret, ↓fkX_next, ↓fkX_cont, ↓fkX_brk, ↓fkX_ret, ↓xb_one, ↓oKK_some, ↓oK_some, ↓tX_bool, ↓iX_t, ↓iX_f, ↓iX_d, ↓q_add, ↓q_sub, ↓q_mul, ↓q_div, ↓q_mod, ↓q_pow, ↓q_list, ↓q_eq, ↓q_ne, ↓q_eqs, ↓q_nes, ↓q_eqb, ↓q_lt, ↓q_le, ↓q_gt, ↓q_ge, ↓q_in, ↓q_inl, ↓q_nin, ↓q_is, ↓q_isnot, ↓q_stup, ↓q_sref, ↓q_sscr, ↓q_fn, ↓q_lentup, ↓q_lenref, ↓q_lenscr, ↓q_isi, ↓q_all, ↓q_max, ↓q_min, ↓q_int, ↓q_tuple, ↓q_listc, ↓q_append, ↓q_clear, ↓q_index, ↓q_pop, ↓q_slicet, ↓q_revt, ↓q_revl, ↓q_set, ↓q_repr, ↓q_eqo, ↓X_rev, ↓Z_set, ↓q_addt, ↓q_listt, ↓q_ninl, ↓u_tup, ↓u_ref, ↓u_range, ↓q_slice, ↓oi_none, ↓oi_int, ↓X_slice, ↓XO_none, ↓XO_some, ↓u_rev, ↓u_zip, ↓xb_two, ↓u_range2, ↓retV_ret, ↓retV_next, List.getElem?_cons_zero, List.getElem?_cons_succ, List.set_cons_zero, List.set_cons_succ, Bool.not_true, Bool.not_false, idx_0, idx_1, idx_2, idx_3, idx_4, idx_5, Int.reduceAdd, Int.reduceSub, Int.reduceMul, Int.reduceNeg, Int.reducePow, Int.reduceLT, Int.reduceLE, Int.reduceEq, Int.reduceNe, Int.reduceToNat, Int.reduceAbs, Nat.reduceAdd, Nat.reduceLT, Nat.reduceLeDiff, Nat.reducePow, Nat.reduceLT, List.length_cons, List.length_nil, true_implies, false_implies, not_true_eq_false, not_false_eq_true, and_true, true_and, and_self, or_true, true_or, decide_true, decide_false, exists_eq_left', Option.some.injEq, ↓e9_b]
    refine ⟨_, _, _, rfl, trivial, ?_⟩
    simp only [↓X_lit, ↓X_loc, ↓X_bin, ↓negX_int, ↓X_neg, ↓X_not, ↓Y_not, ↓X_and, ↓Y_and, ↓X_or, ↓Y_or, ↓X_cmp, ↓X_cmp2, ↓X_ite, ↓Y_ite, ↓X_tup, ↓X_lst, ↓X_call, ↓X_meth, ↓X_sub, ↓X_comp, ↓Y_lit, ↓Y_loc, ↓Y_cmp, ↓Y_cmp2, ↓Y_call, ↓Y_sub, ↓XEs_nil, ↓XEs_cons, ↓XIfs_nil, ↓XIfs_cons, ↓Z_expr, ↓Z_assign, ↓Z_ret, ↓Z_retNone, ↓Z_ite, ↓Z_for, ↓Z_pass, ↓Z_brk, ↓Z_cont, ↓Zs_nil, ↓sqX_next, ↓sqX_brk, ↓sqX_cont, ↓sqX_ret, ↓Zs_cons, ↓wkX_next, ↓wkX_cont, ↓wkX_brk, ↓wkX_ret, ↓fkX_next, ↓fkX_cont, ↓fkX_brk, ↓fkX_ret, ↓xb_one, ↓oKK_some, ↓oK_some, ↓tX_bool, ↓iX_t, ↓iX_f, ↓iX_d, ↓q_add, ↓q_sub, ↓q_mul, ↓q_div, ↓q_mod, ↓q_pow, ↓q_list, ↓q_eq, ↓q_ne, ↓q_eqs, ↓q_nes, ↓q_eqb, ↓q_lt, ↓q_le, ↓q_gt, ↓q_ge, ↓q_in, ↓q_inl, ↓q_nin, ↓q_is, ↓q_isnot, ↓q_stup, ↓q_sref, ↓q_sscr, ↓q_fn, ↓q_lentup, ↓q_lenref, ↓q_lenscr, ↓q_isi, ↓q_all, ↓q_max, ↓q_min, ↓q_int, ↓q_tuple, ↓q_listc, ↓q_append, ↓q_clear, ↓q_index, ↓q_pop, ↓q_slicet, ↓q_revt, ↓q_revl, ↓q_set, ↓q_repr, ↓q_eqo, ↓X_rev, ↓Z_set, ↓q_addt, ↓q_listt, ↓q_ninl, ↓u_tup, ↓u_ref, ↓u_range, ↓q_slice, ↓oi_none, ↓oi_int, ↓X_slice, ↓XO_none, ↓XO_some, ↓u_rev, ↓u_zip, ↓xb_two, ↓u_range2, ↓retV_ret, ↓retV_next, List.getElem?_cons_zero, List.getElem?_cons_succ, List.set_cons_zero, List.set_cons_succ, Bool.not_true, Bool.not_false, idx_0, idx_1, idx_2, idx_3, idx_4, idx_5, Int.reduceAdd, Int.reduceSub, Int.reduceMul, Int.reduceNeg, Int.reducePow, Int.reduceLT, Int.reduceLE, Int.reduceEq, Int.reduceNe, Int.reduceToNat, Int.reduceAbs, Nat.reduceAdd, Nat.reduceLT, Nat.reduceLeDiff, Nat.reducePow, Nat.reduceLT, List.length_cons, List.length_nil, true_implies, false_implies, not_true_eq_false, not_false_eq_true, and_true, true_and, and_self, or_true, true_or, decide_true, decide_false, exists_eq_left', Option.some.injEq, show bt (.int 1) 1 1000000 = true from by decide, ↓e9_b]
    refine ⟨y, _, _, rfl, hy.1, ?_⟩
    simp only [↓X_lit, ↓X_loc, ↓X_bin, ↓negX_int, ↓X_neg, ↓X_not, ↓Y_not, ↓X_and, ↓Y_and, ↓X_or, ↓Y_or, ↓X_cmp, ↓X_cmp2, ↓X_ite, ↓Y_ite, ↓X_tup, ↓X_lst, ↓X_call, ↓X_meth, ↓X_sub, ↓X_comp, ↓Y_lit, ↓Y_loc, ↓Y_cmp, ↓Y_cmp2, ↓Y_call, ↓Y_sub, ↓XEs_nil, ↓XEs_cons, ↓XIfs_nil, ↓XIfs_cons, ↓Z_expr, ↓Z_assign, ↓Z_ret, ↓Z_retNone, ↓Z_ite, ↓Z_for, ↓Z_pass, ↓Z_brk, ↓Z_cont, ↓Zs_nil, ↓sqX_next, ↓sqX_brk, ↓sqX_cont, ↓sqX_ret, ↓Zs_cons, ↓wkX_next, ↓wkX_cont, ↓wkX_brk, ↓wkX_ret, ↓fkX_next, ↓fkX_cont, ↓fkX_brk, ↓fkX_ret, ↓xb_one, ↓oKK_some, ↓oK_some, ↓tX_bool, ↓iX_t, ↓iX_f, ↓iX_d, ↓q_add, ↓q_sub, ↓q_mul, ↓q_div, ↓q_mod, ↓q_pow, ↓q_list, ↓q_eq, ↓q_ne, ↓q_eqs, ↓q_nes, ↓q_eqb, ↓q_lt, ↓q_le, ↓q_gt, ↓q_ge, ↓q_in, ↓q_inl, ↓q_nin, ↓q_is, ↓q_isnot, ↓q_stup, ↓q_sref, ↓q_sscr, ↓q_fn, ↓q_lentup, ↓q_lenref, ↓q_lenscr, ↓q_isi, ↓q_all, ↓q_max, ↓q_min, ↓q_int, ↓q_tuple, ↓q_listc, ↓q_append, ↓q_clear, ↓q_index, ↓q_pop, ↓q_slicet, ↓q_revt, ↓q_revl, ↓q_set, ↓q_repr, ↓q_eqo, ↓X_rev, ↓Z_set, ↓q_addt, ↓q_listt, ↓q_ninl, ↓u_tup, ↓u_ref, ↓u_range, ↓q_slice, ↓oi_none, ↓oi_int, ↓X_slice, ↓XO_none, ↓XO_some, ↓u_rev, ↓u_zip, ↓xb_two, ↓u_range2, ↓retV_ret, ↓retV_next, List.getElem?_cons_zero, List.getElem?_cons_succ, List.set_cons_zero, List.set_cons_succ, Bool.not_true, Bool.not_false, idx_0, idx_1, idx_2, idx_3, idx_4, idx_5, Int.reduceAdd, Int.reduceSub, Int.reduceMul, Int.reduceNeg, Int.reducePow, Int.reduceLT, Int.reduceLE, Int.reduceEq, Int.reduceNe, Int.reduceToNat, Int.reduceAbs, Nat.reduceAdd, Nat.reduceLT, Nat.reduceLeDiff, Nat.reducePow, Nat.reduceLT, List.length_cons, List.length_nil, true_implies, false_implies, not_true_eq_false, not_false_eq_true, and_true, true_and, and_self, or_true, true_or, decide_true, decide_false, exists_eq_left', Option.some.injEq]
    cases e1 : bt y 1 48 with
    | false => rw [e1, Bool.and_false] at q1; subst hK2; show K (.ret _) _ _; rw [hK]; exact q1
    | true =>
      rw [e1, Bool.and_true] at q1
      subst hK2
      simp only [↓X_lit, ↓X_loc, ↓X_bin, ↓negX_int, ↓X_neg, ↓X_not, ↓Y_not, ↓X_and, ↓Y_and, ↓X_or, ↓Y_or, ↓X_cmp, ↓X_cmp2, ↓X_ite, ↓Y_ite, ↓X_tup, ↓X_lst, ↓X_call, ↓X_meth, ↓X_sub, ↓X_comp, ↓Y_lit, ↓Y_loc, ↓Y_cmp, ↓Y_cmp2, ↓Y_call, ↓Y_sub, ↓XEs_nil, ↓XEs_cons, ↓XIfs_nil, ↓XIfs_cons, ↓Z_expr, ↓Z_assign, ↓Z_ret, ↓Z_retNone, ↓Z_ite, ↓Z_for, ↓Z_pass, ↓Z_brk, ↓Z_cont, ↓Zs_nil, ↓sqX_next, ↓sqX_brk, ↓sqX_cont, ↓sqX_ret, ↓Zs_cons, ↓wkX_next, ↓wkX_cont, ↓wkX_brk, ↓wkX_ret, ↓fkX_next, ↓fkX_cont, ↓fkX_brk, ↓fkX_ret, ↓xb_one, ↓oKK_some, ↓oK_some, ↓tX_bool, ↓iX_t, ↓iX_f, ↓iX_d, ↓q_add, ↓q_sub, ↓q_mul, ↓q_div, ↓q_mod, ↓q_pow, ↓q_list, ↓q_eq, ↓q_ne, ↓q_eqs, ↓q_nes, ↓q_eqb, ↓q_lt, ↓q_le, ↓q_gt, ↓q_ge, ↓q_in, ↓q_inl, ↓q_nin, ↓q_is, ↓q_isnot, ↓q_stup, ↓q_sref, ↓q_sscr, ↓q_fn, ↓q_lentup, ↓q_lenref, ↓q_lenscr, ↓q_isi, ↓q_all, ↓q_max, ↓q_min, ↓q_int, ↓q_tuple, ↓q_listc, ↓q_append, ↓q_clear, ↓q_index, ↓q_pop, ↓q_slicet, ↓q_revt, ↓q_revl, ↓q_set, ↓q_repr, ↓q_eqo, ↓X_rev, ↓Z_set, ↓q_addt, ↓q_listt, ↓q_ninl, ↓u_tup, ↓u_ref, ↓u_range, ↓q_slice, ↓oi_none, ↓oi_int, ↓X_slice, ↓XO_none, ↓XO_some, ↓u_rev, ↓u_zip, ↓xb_two, ↓u_range2, ↓retV_ret, ↓retV_next, List.getElem?_cons_zero, List.getElem?_cons_succ, List.set_cons_zero, List.set_cons_succ, Bool.not_true, Bool.not_false, idx_0, idx_1, idx_2, idx_3, idx_4, idx_5, Int.reduceAdd, Int.reduceSub, Int.reduceMul, Int.reduceNeg, Int.reducePow, Int.reduceLT, Int.reduceLE, Int.reduceEq, Int.reduceNe, Int.reduceToNat, Int.reduceAbs, Nat.reduceAdd, Nat.reduceLT, Nat.reduceLeDiff, Nat.reducePow, Nat.reduceLT, List.length_cons, List.length_nil, true_implies, false_implies, not_true_eq_false, not_false_eq_true, and_true, true_and, and_self, or_true, true_or, decide_true, decide_false, exists_eq_left', Option.some.injEq, ↓e9_b]
      exact ⟨x, _, _, rfl, hx.1, by show K (.ret _) _ _; rw [hK]; exact q1⟩
theorem gp_every {r : List V} {H : Hp} {Q : V → Hp → Prop} {X : XL} {t2 t3 t4 t5 : Option V} {K : QS} (hr : RowOk H r) (hK : ∀ v L' H', K (.ret v) L' H' = Q v H') (q : ∀ H', H <+: H' → Q (.bool (pl3 "every" r)) H') :
    wpSs E9 [(.ite (.cmp (.call (.bi .len) [(.loc 1)]) .NotEq (.sub (.lst [(.lit (.int 2)), (.lit (.int 3))]) (.call (.ty .int) [(.cmp (.sub (.loc 0) (.lit (.int 0))) .Eq (.lit (.str "every")))]))) [(.ret (.lit (.bool false)))] []), (.assign 2 (.ite (.cmp (.call (.bi .len) [(.loc 1)]) .Eq (.lit (.int 3))) (.sub (.loc 1) (.neg (.lit (.int 1)))) (.lit (.int 1)))), (.ite (.or (.not (.call (.fn "_law_between") [(.loc 2), (.lit (.int 1)), (.bin .Pow (.lit (.int 10)) (.lit (.int 6)))])) (.not (.call (.fn "_law_between") [(.sub (.loc 1) (.lit (.int 1))), (.lit (.int 1)), (.lit (.int 48))]))) [(.ret (.lit (.bool false)))] []), (.ret (.call (.fn "_law_between") [(.sub (.loc 1) (.lit (.int 0))), (.lit (.int 0)), (.bin .Sub (.bin .Pow (.lit (.int 10)) (.lit (.int 12))) (.lit (.int 1)))]))]
      [some (.tup (.str "every" :: r)), some (.tup r), t2, t3, t4, t5] H K (fun x _ H1 => X x H1) := by
  have e0 : idx [V.int 2, .int 3] (if (Str.ofString "every" == Str.ofString "every") = true then 1 else 0) = some (.int 3) := by rw [so2]; rfl
  refine zs_cons ?_
  generalize hK2 : sqX E9 (_ :: _) = K2
  simp only [↓X_lit, ↓X_loc, ↓X_bin, ↓negX_int, ↓X_neg, ↓X_not, ↓Y_not, ↓X_and, ↓Y_and, ↓X_or, ↓Y_or, ↓X_cmp, ↓X_cmp2, ↓X_ite, ↓Y_ite, ↓X_tup, ↓X_lst, ↓X_call, ↓X_meth, ↓X_sub, ↓X_comp, ↓Y_lit, ↓Y_loc, ↓Y_cmp, ↓Y_cmp2, ↓Y_call, ↓Y_sub, ↓XEs_nil, ↓XEs_cons, ↓XIfs_nil, ↓XIfs_cons, ↓Z_expr, ↓Z_assign, ↓Z_ret, ↓Z_retNone, ↓Z_ite, ↓Z_for, ↓Z_pass, ↓Z_brk, ↓Z_cont, ↓Zs_nil, ↓sqX_next, ↓sqX_brk, ↓sqX_cont, ↓sqX_ret, ↓Zs_cons, ↓wkX_next, ↓wkX_cont, ↓wkX_brk, ↓wkX_ret, ↓fkX_next, ↓fkX_cont, ↓fkX_brk, ↓fkX_ret, ↓xb_one, ↓oKK_some, ↓oK_some, ↓tX_bool, ↓iX_t, ↓iX_f, ↓iX_d, ↓q_add, ↓q_sub, ↓q_mul, ↓q_div, ↓q_mod, ↓q_pow, ↓q_list, ↓q_eq, ↓q_ne, ↓q_eqs, ↓q_nes, ↓q_eqb, ↓q_lt, ↓q_le, ↓q_gt, ↓q_ge, ↓q_in, ↓q_inl, ↓q_nin, ↓q_is, ↓q_isnot, ↓q_stup, ↓q_sref, ↓q_sscr, ↓q_fn, ↓q_lentup, ↓q_lenref, ↓q_lenscr, ↓q_isi, ↓q_all, ↓q_max, ↓q_min, ↓q_int, ↓q_tuple, ↓q_listc, ↓q_append, ↓q_clear, ↓q_index, ↓q_pop, ↓q_slicet, ↓q_revt, ↓q_revl, ↓q_set, ↓q_repr, ↓q_eqo, ↓X_rev, ↓Z_set, ↓q_addt, ↓q_listt, ↓q_ninl, ↓u_tup, ↓u_ref, ↓u_range, ↓q_slice, ↓oi_none, ↓oi_int, ↓X_slice, ↓XO_none, ↓XO_some, ↓u_rev, ↓u_zip, ↓xb_two, ↓u_range2, ↓retV_ret, ↓retV_next, List.getElem?_cons_zero, List.getElem?_cons_succ, List.set_cons_zero, List.set_cons_succ, Bool.not_true, Bool.not_false, idx_0, idx_1, idx_2, idx_3, idx_4, idx_5, Int.reduceAdd, Int.reduceSub, Int.reduceMul, Int.reduceNeg, Int.reducePow, Int.reduceLT, Int.reduceLE, Int.reduceEq, Int.reduceNe, Int.reduceToNat, Int.reduceAbs, Nat.reduceAdd, Nat.reduceLT, Nat.reduceLeDiff, Nat.reducePow, Nat.reduceLT, List.length_cons, List.length_nil, true_implies, false_implies, not_true_eq_false, not_false_eq_true, and_true, true_and, and_self, or_true, true_or, decide_true, decide_false, exists_eq_left', Option.some.injEq, listAt_new, e0]
  refine ⟨fun h => ?_, fun h => ?_⟩
  · have := q _ (pre_new (o := .list [.int 2, .int 3])); rw [not_three (by omega)] at this
    subst hK2; show K (.ret _) _ _; rw [hK]; exact this
  · obtain ⟨x, y, z, rfl⟩ := three_list (r := r) (by omega)
    have hr := hr.pre (pre_new (o := .list [.int 2, .int 3]))
    have e3 : pl3 "every" [x, y, z] = (bt x 0 999999999999 && (bt y 1 48 && bt z 1 1000000)) := by
      show isP3 "every" x y z = _
      unfold isP3
      rw [so2, if_pos rfl]
    rw [e3] at q
    have q : ∀ H', H ++ [.list [.int 2, .int 3]] <+: H' → Q (.bool (bt x 0 999999999999 && (bt y 1 48 && bt z 1 1000000))) H' := fun H' hp => q H' (pre_new.trans hp)
    generalize H ++ [O.list [V.int 2, .int 3]] = H1 at *
    have q1 := q H1 (List.prefix_refl _)
    have hx := hr x (by simp)
    have hy := hr y (by simp)
    have hz := hr z (by simp)
    have ez : idx [x, y, z] (-1) = some z := rfl
    subst hK2
    refine zs_cons ?_
    generalize hK2 : sqX E9 (_ :: _) = K2
    simp only [↓X_lit, ↓X_loc, ↓X_bin, ↓negX_int, ↓X_neg, ↓X_not, ↓Y_not, ↓X_and, ↓Y_and, ↓X_or, ↓Y_or, ↓X_cmp, ↓X_cmp2, ↓X_ite, ↓Y_ite, ↓X_tup, ↓X_lst, ↓X_call, ↓X_meth, ↓X_sub, ↓X_comp, ↓Y_lit, ↓Y_loc, ↓Y_cmp, ↓Y_cmp2, ↓Y_call, ↓Y_sub, ↓XEs_nil, ↓XEs_cons, ↓XIfs_nil, ↓XIfs_cons, ↓Z_expr, ↓Z_assign, ↓Z_ret, ↓Z_retNone, ↓Z_ite, ↓Z_for, ↓Z_pass, ↓Z_brk, ↓Z_cont, ↓Zs_nil, ↓sqX_next, ↓sqX_brk, ↓sqX_cont, ↓sqX_ret, ↓Zs_cons, ↓wkX_next, ↓wkX_cont, ↓wkX_brk, ↓wkX_ret, ↓fkX_next, ↓fkX_cont, ↓fkX_brk, ↓fkX_ret, ↓xb_one, ↓oKK_some, ↓oK_some, ↓tX_bool, ↓iX_t, ↓iX_f, ↓iX_d, ↓q_add, ↓q_sub, ↓q_mul, ↓q_div, ↓q_mod, ↓q_pow, ↓q_list, ↓q_eq, ↓q_ne, ↓q_eqs, ↓q_nes, ↓q_eqb, ↓q_lt, ↓q_le, ↓q_gt, ↓q_ge, ↓q_in, ↓q_inl, ↓q_nin, ↓q_is, ↓q_isnot, ↓q_stup, ↓q_sref, ↓q_sscr, ↓q_fn, ↓q_lentup, ↓q_lenref, ↓q_lenscr, ↓q_isi, ↓q_all, ↓q_max, ↓q_min, ↓q_int, ↓q_tuple, ↓q_listc, ↓q_append, ↓q_clear, ↓q_index, ↓q_pop, ↓q_slicet, ↓q_revt, ↓q_revl, ↓q_set, ↓q_repr, ↓q_eqo, ↓X_rev, ↓Z_set, ↓q_addt, ↓q_listt, ↓q_ninl, ↓u_tup, ↓u_ref, ↓u_range, ↓q_slice, ↓oi_none, ↓oi_int, ↓X_slice, ↓XO_none, ↓XO_some, ↓u_rev, ↓u_zip, ↓xb_two, ↓u_range2, ↓retV_ret, ↓retV_next, List.getElem?_cons_zero, List.getElem?_cons_succ, List.set_cons_zero, List.set_cons_succ, Bool.not_true, Bool.not_false, idx_0, idx_1, idx_2, idx_3, idx_4, idx_5, Int.reduceAdd, Int.reduceSub, Int.reduceMul, Int.reduceNeg, Int.reducePow, Int.reduceLT, Int.reduceLE, Int.reduceEq, Int.reduceNe, Int.reduceToNat, Int.reduceAbs, Nat.reduceAdd, Nat.reduceLT, Nat.reduceLeDiff, Nat.reducePow, Nat.reduceLT, List.length_cons, List.length_nil, true_implies, false_implies, not_true_eq_false, not_false_eq_true, and_true, true_and, and_self, or_true, true_or, decide_true, decide_false, exists_eq_left', Option.some.injEq, ez]
    refine ⟨fun _ => ?_, fun h => absurd (by decide) h⟩
    subst hK2
    refine zs_cons ?_
    generalize hK2 : sqX E9 (_ :: _) = K2
    simp only [↓X_lit, ↓X_loc, ↓X_bin, ↓negX_int, ↓X_neg, ↓X_not, ↓Y_not, ↓X_and, ↓Y_and, ↓X_or, ↓Y_or, ↓X_cmp, ↓X_cmp2, ↓X_ite, ↓Y_ite, ↓X_tup, ↓X_lst, ↓X_call, ↓X_meth, ↓X_sub, ↓X_comp, ↓Y_lit, ↓Y_loc, ↓Y_cmp, ↓Y_cmp2, ↓Y_call, ↓Y_sub, ↓XEs_nil, ↓XEs_cons, ↓XIfs_nil, ↓XIfs_cons, ↓Z_expr, ↓Z_assign, ↓Z_ret, ↓Z_retNone, ↓Z_ite, ↓Z_for, ↓Z_pass, ↓Z_brk, ↓Z_cont, ↓Zs_nil, ↓sqX_next, ↓sqX_brk, ↓sqX_cont, ↓sqX_ret, ↓Zs_cons, ↓wkX_next, ↓wkX_cont, ↓wkX_brk, ↓wkX_ret, ↓fkX_next, ↓fkX_cont, ↓fkX_brk, ↓fkX_ret, ↓xb_one, ↓oKK_some, ↓oK_some, ↓tX_bool, ↓iX_t, ↓iX_f, ↓iX_d, ↓q_add, ↓q_sub, ↓q_mul, ↓q_div, ↓q_mod, ↓q_pow, ↓q_list, ↓q_eq, ↓q_ne, ↓q_eqs, ↓q_nes, ↓q_eqb, ↓q_lt, ↓q_le, ↓q_gt, ↓q_ge, ↓q_in, ↓q_inl, ↓q_nin, ↓q_is, ↓q_isnot, ↓q_stup, ↓q_sref, ↓q_sscr, ↓q_fn, ↓q_lentup, ↓q_lenref, ↓q_lenscr, ↓q_isi, ↓q_all, ↓q_max, ↓q_min, ↓q_int, ↓q_tuple, ↓q_listc, ↓q_append, ↓q_clear, ↓q_index, ↓q_pop, ↓q_slicet, ↓q_revt, ↓q_revl, ↓q_set, ↓q_repr, ↓q_eqo, ↓X_rev, ↓Z_set, ↓q_addt, ↓q_listt, ↓q_ninl, ↓u_tup, ↓u_ref, ↓u_range, ↓q_slice, ↓oi_none, ↓oi_int, ↓X_slice, ↓XO_none, ↓XO_some, ↓u_rev, ↓u_zip, ↓xb_two, ↓u_range2, ↓retV_ret, ↓retV_next, List.getElem?_cons_zero, List.getElem?_cons_succ, List.set_cons_zero, List.set_cons_succ, Bool.not_true, Bool.not_false, idx_0, idx_1, idx_2, idx_3, idx_4, idx_5, Int.reduceAdd, Int.reduceSub, Int.reduceMul, Int.reduceNeg, Int.reducePow, Int.reduceLT, Int.reduceLE, Int.reduceEq, Int.reduceNe, Int.reduceToNat, Int.reduceAbs, Nat.reduceAdd, Nat.reduceLT, Nat.reduceLeDiff, Nat.reducePow, Nat.reduceLT, List.length_cons, List.length_nil, true_implies, false_implies, not_true_eq_false, not_false_eq_true, and_true, true_and, and_self, or_true, true_or, decide_true, decide_false, exists_eq_left', Option.some.injEq, ↓e9_b]
    refine ⟨z, _, _, rfl, hz.1, ?_⟩
    simp only [↓X_lit, ↓X_loc, ↓X_bin, ↓negX_int, ↓X_neg, ↓X_not, ↓Y_not, ↓X_and, ↓Y_and, ↓X_or, ↓Y_or, ↓X_cmp, ↓X_cmp2, ↓X_ite, ↓Y_ite, ↓X_tup, ↓X_lst, ↓X_call, ↓X_meth, ↓X_sub, ↓X_comp, ↓Y_lit, ↓Y_loc, ↓Y_cmp, ↓Y_cmp2, ↓Y_call, ↓Y_sub, ↓XEs_nil, ↓XEs_cons, ↓XIfs_nil, ↓XIfs_cons, ↓Z_expr, ↓Z_assign, ↓Z_ret, ↓Z_retNone, ↓Z_ite, ↓Z_for, ↓Z_pass, ↓Z_brk, ↓Z_cont, ↓Zs_nil, ↓sqX_next, ↓sqX_brk, ↓sqX_cont, ↓sqX_ret, ↓Zs_cons, ↓wkX_next, ↓wkX_cont, ↓wkX_brk, ↓wkX_ret, ↓fkX_next, ↓fkX_cont, ↓fkX_brk, ↓fkX_ret, ↓xb_one, ↓oKK_some, ↓oK_some, ↓tX_bool, ↓iX_t, ↓iX_f, ↓iX_d, ↓q_add, ↓q_sub, ↓q_mul, ↓q_div, ↓q_mod, ↓q_pow, ↓q_list, ↓q_eq, ↓q_ne, ↓q_eqs, ↓q_nes, ↓q_eqb, ↓q_lt, ↓q_le, ↓q_gt, ↓q_ge, ↓q_in, ↓q_inl, ↓q_nin, ↓q_is, ↓q_isnot, ↓q_stup, ↓q_sref, ↓q_sscr, ↓q_fn, ↓q_lentup, ↓q_lenref, ↓q_lenscr, ↓q_isi, ↓q_all, ↓q_max, ↓q_min, ↓q_int, ↓q_tuple, ↓q_listc, ↓q_append, ↓q_clear, ↓q_index, ↓q_pop, ↓q_slicet, ↓q_revt, ↓q_revl, ↓q_set, ↓q_repr, ↓q_eqo, ↓X_rev, ↓Z_set, ↓q_addt, ↓q_listt, ↓q_ninl, ↓u_tup, ↓u_ref, ↓u_range, ↓q_slice, ↓oi_none, ↓oi_int, ↓X_slice, ↓XO_none, ↓XO_some, ↓u_rev, ↓u_zip, ↓xb_two, ↓u_range2, ↓retV_ret, ↓retV_next, List.getElem?_cons_zero, List.getElem?_cons_succ, List.set_cons_zero, List.set_cons_succ, Bool.not_true, Bool.not_false, idx_0, idx_1, idx_2, idx_3, idx_4, idx_5, Int.reduceAdd, Int.reduceSub, Int.reduceMul, Int.reduceNeg, Int.reducePow, Int.reduceLT, Int.reduceLE, Int.reduceEq, Int.reduceNe, Int.reduceToNat, Int.reduceAbs, Nat.reduceAdd, Nat.reduceLT, Nat.reduceLeDiff, Nat.reducePow, Nat.reduceLT, List.length_cons, List.length_nil, true_implies, false_implies, not_true_eq_false, not_false_eq_true, and_true, true_and, and_self, or_true, true_or, decide_true, decide_false, exists_eq_left', Option.some.injEq]
    cases e1 : bt z 1 1000000 with
    | false => rw [e1, Bool.and_false, Bool.and_false] at q1; subst hK2; show K (.ret _) _ _; rw [hK]; exact q1
    | true =>
      rw [e1, Bool.and_true] at q1
      simp only [↓X_lit, ↓X_loc, ↓X_bin, ↓negX_int, ↓X_neg, ↓X_not, ↓Y_not, ↓X_and, ↓Y_and, ↓X_or, ↓Y_or, ↓X_cmp, ↓X_cmp2, ↓X_ite, ↓Y_ite, ↓X_tup, ↓X_lst, ↓X_call, ↓X_meth, ↓X_sub, ↓X_comp, ↓Y_lit, ↓Y_loc, ↓Y_cmp, ↓Y_cmp2, ↓Y_call, ↓Y_sub, ↓XEs_nil, ↓XEs_cons, ↓XIfs_nil, ↓XIfs_cons, ↓Z_expr, ↓Z_assign, ↓Z_ret, ↓Z_retNone, ↓Z_ite, ↓Z_for, ↓Z_pass, ↓Z_brk, ↓Z_cont, ↓Zs_nil, ↓sqX_next, ↓sqX_brk, ↓sqX_cont, ↓sqX_ret, ↓Zs_cons, ↓wkX_next, ↓wkX_cont, ↓wkX_brk, ↓wkX_ret, ↓fkX_next, ↓fkX_cont, ↓fkX_brk, ↓fkX_ret, ↓xb_one, ↓oKK_some, ↓oK_some, ↓tX_bool, ↓iX_t, ↓iX_f, ↓iX_d, ↓q_add, ↓q_sub, ↓q_mul, ↓q_div, ↓q_mod, ↓q_pow, ↓q_list, ↓q_eq, ↓q_ne, ↓q_eqs, ↓q_nes, ↓q_eqb, ↓q_lt, ↓q_le, ↓q_gt, ↓q_ge, ↓q_in, ↓q_inl, ↓q_nin, ↓q_is, ↓q_isnot, ↓q_stup, ↓q_sref, ↓q_sscr, ↓q_fn, ↓q_lentup, ↓q_lenref, ↓q_lenscr, ↓q_isi, ↓q_all, ↓q_max, ↓q_min, ↓q_int, ↓q_tuple, ↓q_listc, ↓q_append, ↓q_clear, ↓q_index, ↓q_pop, ↓q_slicet, ↓q_revt, ↓q_revl, ↓q_set, ↓q_repr, ↓q_eqo, ↓X_rev, ↓Z_set, ↓q_addt, ↓q_listt, ↓q_ninl, ↓u_tup, ↓u_ref, ↓u_range, ↓q_slice, ↓oi_none, ↓oi_int, ↓X_slice, ↓XO_none, ↓XO_some, ↓u_rev, ↓u_zip, ↓xb_two, ↓u_range2, ↓retV_ret, ↓retV_next, List.getElem?_cons_zero, List.getElem?_cons_succ, List.set_cons_zero, List.set_cons_succ, Bool.not_true, Bool.not_false, idx_0, idx_1, idx_2, idx_3, idx_4, idx_5, Int.reduceAdd, Int.reduceSub, Int.reduceMul, Int.reduceNeg, Int.reducePow, Int.reduceLT, Int.reduceLE, Int.reduceEq, Int.reduceNe, Int.reduceToNat, Int.reduceAbs, Nat.reduceAdd, Nat.reduceLT, Nat.reduceLeDiff, Nat.reducePow, Nat.reduceLT, List.length_cons, List.length_nil, true_implies, false_implies, not_true_eq_false, not_false_eq_true, and_true, true_and, and_self, or_true, true_or, decide_true, decide_false, exists_eq_left', Option.some.injEq, ↓e9_b]
      refine ⟨y, _, _, rfl, hy.1, ?_⟩
      simp only [↓X_lit, ↓X_loc, ↓X_bin, ↓negX_int, ↓X_neg, ↓X_not, ↓Y_not, ↓X_and, ↓Y_and, ↓X_or, ↓Y_or, ↓X_cmp, ↓X_cmp2, ↓X_ite, ↓Y_ite, ↓X_tup, ↓X_lst, ↓X_call, ↓X_meth, ↓X_sub, ↓X_comp, ↓Y_lit, ↓Y_loc, ↓Y_cmp, ↓Y_cmp2, ↓Y_call, ↓Y_sub, ↓XEs_nil, ↓XEs_cons, ↓XIfs_nil, ↓XIfs_cons, ↓Z_expr, ↓Z_assign, ↓Z_ret, ↓Z_retNone, ↓Z_ite, ↓Z_for, ↓Z_pass, ↓Z_brk, ↓Z_cont, ↓Zs_nil, ↓sqX_next, ↓sqX_brk, ↓sqX_cont, ↓sqX_ret, ↓Zs_cons, ↓wkX_next, ↓wkX_cont, ↓wkX_brk, ↓wkX_ret, ↓fkX_next, ↓fkX_cont, ↓fkX_brk, ↓fkX_ret, ↓xb_one, ↓oKK_some, ↓oK_some, ↓tX_bool, ↓iX_t, ↓iX_f, ↓iX_d, ↓q_add, ↓q_sub, ↓q_mul, ↓q_div, ↓q_mod, ↓q_pow, ↓q_list, ↓q_eq, ↓q_ne, ↓q_eqs, ↓q_nes, ↓q_eqb, ↓q_lt, ↓q_le, ↓q_gt, ↓q_ge, ↓q_in, ↓q_inl, ↓q_nin, ↓q_is, ↓q_isnot, ↓q_stup, ↓q_sref, ↓q_sscr, ↓q_fn, ↓q_lentup, ↓q_lenref, ↓q_lenscr, ↓q_isi, ↓q_all, ↓q_max, ↓q_min, ↓q_int, ↓q_tuple, ↓q_listc, ↓q_append, ↓q_clear, ↓q_index, ↓q_pop, ↓q_slicet, ↓q_revt, ↓q_revl, ↓q_set, ↓q_repr, ↓q_eqo, ↓X_rev, ↓Z_set, ↓q_addt, ↓q_listt, ↓q_ninl, ↓u_tup, ↓u_ref, ↓u_range, ↓q_slice, ↓oi_none, ↓oi_int, ↓X_slice, ↓XO_none, ↓XO_some, ↓u_rev, ↓u_zip, ↓xb_two, ↓u_range2, ↓retV_ret, ↓retV_next, List.getElem?_cons_zero, List.getElem?_cons_succ, List.set_cons_zero, List.set_cons_succ, Bool.not_true, Bool.not_false, idx_0, idx_1, idx_2, idx_3, idx_4, idx_5, Int.reduceAdd, Int.reduceSub, Int.reduceMul, Int.reduceNeg, Int.reducePow, Int.reduceLT, Int.reduceLE, Int.reduceEq, Int.reduceNe, Int.reduceToNat, Int.reduceAbs, Nat.reduceAdd, Nat.reduceLT, Nat.reduceLeDiff, Nat.reducePow, Nat.reduceLT, List.length_cons, List.length_nil, true_implies, false_implies, not_true_eq_false, not_false_eq_true, and_true, true_and, and_self, or_true, true_or, decide_true, decide_false, exists_eq_left', Option.some.injEq]
      cases e2 : bt y 1 48 with
      | false => rw [e2, Bool.and_false] at q1; subst hK2; show K (.ret _) _ _; rw [hK]; exact q1
      | true =>
        rw [e2, Bool.and_true] at q1
        subst hK2
        simp only [↓X_lit, ↓X_loc, ↓X_bin, ↓negX_int, ↓X_neg, ↓X_not, ↓Y_not, ↓X_and, ↓Y_and, ↓X_or, ↓Y_or, ↓X_cmp, ↓X_cmp2, ↓X_ite, ↓Y_ite, ↓X_tup, ↓X_lst, ↓X_call, ↓X_meth, ↓X_sub, ↓X_comp, ↓Y_lit, ↓Y_loc, ↓Y_cmp, ↓Y_cmp2, ↓Y_call, ↓Y_sub, ↓XEs_nil, ↓XEs_cons, ↓XIfs_nil, ↓XIfs_cons, ↓Z_expr, ↓Z_assign, ↓Z_ret, ↓Z_retNone, ↓Z_ite, ↓Z_for, ↓Z_pass, ↓Z_brk, ↓Z_cont, ↓Zs_nil, ↓sqX_next, ↓sqX_brk, ↓sqX_cont, ↓sqX_ret, ↓Zs_cons, ↓wkX_next, ↓wkX_cont, ↓wkX_brk, ↓wkX_ret, ↓fkX_next, ↓fkX_cont, ↓fkX_brk, ↓fkX_ret, ↓xb_one, ↓oKK_some, ↓oK_some, ↓tX_bool, ↓iX_t, ↓iX_f, ↓iX_d, ↓q_add, ↓q_sub, ↓q_mul, ↓q_div, ↓q_mod, ↓q_pow, ↓q_list, ↓q_eq, ↓q_ne, ↓q_eqs, ↓q_nes, ↓q_eqb, ↓q_lt, ↓q_le, ↓q_gt, ↓q_ge, ↓q_in, ↓q_inl, ↓q_nin, ↓q_is, ↓q_isnot, ↓q_stup, ↓q_sref, ↓q_sscr, ↓q_fn, ↓q_lentup, ↓q_lenref, ↓q_lenscr, ↓q_isi, ↓q_all, ↓q_max, ↓q_min, ↓q_int, ↓q_tuple, ↓q_listc, ↓q_append, ↓q_clear, ↓q_index, ↓q_pop, ↓q_slicet, ↓q_revt, ↓q_revl, ↓q_set, ↓q_repr, ↓q_eqo, ↓X_rev, ↓Z_set, ↓q_addt, ↓q_listt, ↓q_ninl, ↓u_tup, ↓u_ref, ↓u_range, ↓q_slice, ↓oi_none, ↓oi_int, ↓X_slice, ↓XO_none, ↓XO_some, ↓u_rev, ↓u_zip, ↓xb_two, ↓u_range2, ↓retV_ret, ↓retV_next, List.getElem?_cons_zero, List.getElem?_cons_succ, List.set_cons_zero, List.set_cons_succ, Bool.not_true, Bool.not_false, idx_0, idx_1, idx_2, idx_3, idx_4, idx_5, Int.reduceAdd, Int.reduceSub, Int.reduceMul, Int.reduceNeg, Int.reducePow, Int.reduceLT, Int.reduceLE, Int.reduceEq, Int.reduceNe, Int.reduceToNat, Int.reduceAbs, Nat.reduceAdd, Nat.reduceLT, Nat.reduceLeDiff, Nat.reducePow, Nat.reduceLT, List.length_cons, List.length_nil, true_implies, false_implies, not_true_eq_false, not_false_eq_true, and_true, true_and, and_self, or_true, true_or, decide_true, decide_false, exists_eq_left', Option.some.injEq, ↓e9_b]
        exact ⟨x, _, _, rfl, hx.1, by show K (.ret _) _ _; rw [hK]; exact q1⟩
theorem ite_in2 {Φ : Orc} {x y u : Str} {rest : List V} {Lr : Lc} {a b : List IS} {H : Hp} {QF : QS} {XF : XS} (h : ifP (anyW [x, y] u) (wpSs Φ a (some (.tup (.str u :: rest)) :: Lr) (H ++ [.list [.str x, .str y]]) QF XF) (wpSs Φ b (some (.tup (.str u :: rest)) :: Lr) (H ++ [.list [.str x, .str y]]) QF XF)) :
    wpS Φ (.ite (.cmp (.sub (.loc 0) (.lit (.int 0))) .In (.lst [.lit (.str x), .lit (.str y)])) a b) (some (.tup (.str u :: rest)) :: Lr) H QF XF := by
  simp only [↓X_lit, ↓X_loc, ↓X_bin, ↓negX_int, ↓X_neg, ↓X_not, ↓Y_not, ↓X_and, ↓Y_and, ↓X_or, ↓Y_or, ↓X_cmp, ↓X_cmp2, ↓X_ite, ↓Y_ite, ↓X_tup, ↓X_lst, ↓X_call, ↓X_meth, ↓X_sub, ↓X_comp, ↓Y_lit, ↓Y_loc, ↓Y_cmp, ↓Y_cmp2, ↓Y_call, ↓Y_sub, ↓XEs_nil, ↓XEs_cons, ↓XIfs_nil, ↓XIfs_cons, ↓Z_expr, ↓Z_assign, ↓Z_ret, ↓Z_retNone, ↓Z_ite, ↓Z_for, ↓Z_pass, ↓Z_brk, ↓Z_cont, ↓Zs_nil, ↓sqX_next, ↓sqX_brk, ↓sqX_cont, ↓sqX_ret, ↓Zs_cons, ↓wkX_next, ↓wkX_cont, ↓wkX_brk, ↓wkX_ret, ↓fkX_next, ↓fkX_cont, ↓fkX_brk, ↓fkX_ret, ↓xb_one, ↓oKK_some, ↓oK_some, ↓tX_bool, ↓iX_t, ↓iX_f, ↓iX_d, ↓q_add, ↓q_sub, ↓q_mul, ↓q_div, ↓q_mod, ↓q_pow, ↓q_list, ↓q_eq, ↓q_ne, ↓q_eqs, ↓q_nes, ↓q_eqb, ↓q_lt, ↓q_le, ↓q_gt, ↓q_ge, ↓q_in, ↓q_inl, ↓q_nin, ↓q_is, ↓q_isnot, ↓q_stup, ↓q_sref, ↓q_sscr, ↓q_fn, ↓q_lentup, ↓q_lenref, ↓q_lenscr, ↓q_isi, ↓q_all, ↓q_max, ↓q_min, ↓q_int, ↓q_tuple, ↓q_listc, ↓q_append, ↓q_clear, ↓q_index, ↓q_pop, ↓q_slicet, ↓q_revt, ↓q_revl, ↓q_set, ↓q_repr, ↓q_eqo, ↓X_rev, ↓Z_set, ↓q_addt, ↓q_listt, ↓q_ninl, ↓u_tup, ↓u_ref, ↓u_range, ↓q_slice, ↓oi_none, ↓oi_int, ↓X_slice, ↓XO_none, ↓XO_some, ↓u_rev, ↓u_zip, ↓xb_two, ↓u_range2, ↓retV_ret, ↓retV_next, List.getElem?_cons_zero, List.getElem?_cons_succ, List.set_cons_zero, List.set_cons_succ, Bool.not_true, Bool.not_false, idx_0, idx_1, idx_2, idx_3, idx_4, idx_5, Int.reduceAdd, Int.reduceSub, Int.reduceMul, Int.reduceNeg, Int.reducePow, Int.reduceLT, Int.reduceLE, Int.reduceEq, Int.reduceNe, Int.reduceToNat, Int.reduceAbs, Nat.reduceAdd, Nat.reduceLT, Nat.reduceLeDiff, Nat.reducePow, Nat.reduceLT, List.length_cons, List.length_nil, true_implies, false_implies, not_true_eq_false, not_false_eq_true, and_true, true_and, and_self, or_true, true_or, decide_true, decide_false, exists_eq_left', Option.some.injEq, listAt_new, mem_w2]
  exact h
theorem w_good_plain : ∀ vs H Q X, C_good_plain vs H Q X → wpFn E9 f_l_good_plain vs H Q X := by
  rintro vs H Q X ⟨a, r, rfl, hf, hr, q⟩
  refine fn_of rfl ?_
  change wpSs E9 f_l_good_plain.body [some (.tup (a :: r)), none, none, none, none, none] H _ _
  refine zs_cons ?_
  generalize hK : sqX E9 (_ :: _) = K
  simp only [↓X_lit, ↓X_loc, ↓X_bin, ↓negX_int, ↓X_neg, ↓X_not, ↓Y_not, ↓X_and, ↓Y_and, ↓X_or, ↓Y_or, ↓X_cmp, ↓X_cmp2, ↓X_ite, ↓Y_ite, ↓X_tup, ↓X_lst, ↓X_call, ↓X_meth, ↓X_sub, ↓X_comp, ↓Y_lit, ↓Y_loc, ↓Y_cmp, ↓Y_cmp2, ↓Y_call, ↓Y_sub, ↓XEs_nil, ↓XEs_cons, ↓XIfs_nil, ↓XIfs_cons, ↓Z_expr, ↓Z_assign, ↓Z_ret, ↓Z_retNone, ↓Z_ite, ↓Z_for, ↓Z_pass, ↓Z_brk, ↓Z_cont, ↓Zs_nil, ↓sqX_next, ↓sqX_brk, ↓sqX_cont, ↓sqX_ret, ↓Zs_cons, ↓wkX_next, ↓wkX_cont, ↓wkX_brk, ↓wkX_ret, ↓fkX_next, ↓fkX_cont, ↓fkX_brk, ↓fkX_ret, ↓xb_one, ↓oKK_some, ↓oK_some, ↓tX_bool, ↓iX_t, ↓iX_f, ↓iX_d, ↓q_add, ↓q_sub, ↓q_mul, ↓q_div, ↓q_mod, ↓q_pow, ↓q_list, ↓q_eq, ↓q_ne, ↓q_eqs, ↓q_nes, ↓q_eqb, ↓q_lt, ↓q_le, ↓q_gt, ↓q_ge, ↓q_in, ↓q_inl, ↓q_nin, ↓q_is, ↓q_isnot, ↓q_stup, ↓q_sref, ↓q_sscr, ↓q_fn, ↓q_lentup, ↓q_lenref, ↓q_lenscr, ↓q_isi, ↓q_all, ↓q_max, ↓q_min, ↓q_int, ↓q_tuple, ↓q_listc, ↓q_append, ↓q_clear, ↓q_index, ↓q_pop, ↓q_slicet, ↓q_revt, ↓q_revl, ↓q_set, ↓q_repr, ↓q_eqo, ↓X_rev, ↓Z_set, ↓q_addt, ↓q_listt, ↓q_ninl, ↓u_tup, ↓u_ref, ↓u_range, ↓q_slice, ↓oi_none, ↓oi_int, ↓X_slice, ↓XO_none, ↓XO_some, ↓u_rev, ↓u_zip, ↓xb_two, ↓u_range2, ↓retV_ret, ↓retV_next, List.getElem?_cons_zero, List.getElem?_cons_succ, List.set_cons_zero, List.set_cons_succ, Bool.not_true, Bool.not_false, idx_0, idx_1, idx_2, idx_3, idx_4, idx_5, Int.reduceAdd, Int.reduceSub, Int.reduceMul, Int.reduceNeg, Int.reducePow, Int.reduceLT, Int.reduceLE, Int.reduceEq, Int.reduceNe, Int.reduceToNat, Int.reduceAbs, Nat.reduceAdd, Nat.reduceLT, Nat.reduceLeDiff, Nat.reducePow, Nat.reduceLT, List.length_cons, List.length_nil, true_implies, false_implies, not_true_eq_false, not_false_eq_true, and_true, true_and, and_self, or_true, true_or, decide_true, decide_false, exists_eq_left', Option.some.injEq, slice_tail, List.tail_cons]
  subst hK
  refine zs_cons ?_
  cases hs : strLike a with
  | false =>
    have hm := mem_ns hf hs ["once", "every"]
    simp only [List.map_cons, List.map_nil] at hm
    generalize hK : sqX E9 (_ :: _) = K
    simp only [↓X_lit, ↓X_loc, ↓X_bin, ↓negX_int, ↓X_neg, ↓X_not, ↓Y_not, ↓X_and, ↓Y_and, ↓X_or, ↓Y_or, ↓X_cmp, ↓X_cmp2, ↓X_ite, ↓Y_ite, ↓X_tup, ↓X_lst, ↓X_call, ↓X_meth, ↓X_sub, ↓X_comp, ↓Y_lit, ↓Y_loc, ↓Y_cmp, ↓Y_cmp2, ↓Y_call, ↓Y_sub, ↓XEs_nil, ↓XEs_cons, ↓XIfs_nil, ↓XIfs_cons, ↓Z_expr, ↓Z_assign, ↓Z_ret, ↓Z_retNone, ↓Z_ite, ↓Z_for, ↓Z_pass, ↓Z_brk, ↓Z_cont, ↓Zs_nil, ↓sqX_next, ↓sqX_brk, ↓sqX_cont, ↓sqX_ret, ↓Zs_cons, ↓wkX_next, ↓wkX_cont, ↓wkX_brk, ↓wkX_ret, ↓fkX_next, ↓fkX_cont, ↓fkX_brk, ↓fkX_ret, ↓xb_one, ↓oKK_some, ↓oK_some, ↓tX_bool, ↓iX_t, ↓iX_f, ↓iX_d, ↓q_add, ↓q_sub, ↓q_mul, ↓q_div, ↓q_mod, ↓q_pow, ↓q_list, ↓q_eq, ↓q_ne, ↓q_eqs, ↓q_nes, ↓q_eqb, ↓q_lt, ↓q_le, ↓q_gt, ↓q_ge, ↓q_in, ↓q_inl, ↓q_nin, ↓q_is, ↓q_isnot, ↓q_stup, ↓q_sref, ↓q_sscr, ↓q_fn, ↓q_lentup, ↓q_lenref, ↓q_lenscr, ↓q_isi, ↓q_all, ↓q_max, ↓q_min, ↓q_int, ↓q_tuple, ↓q_listc, ↓q_append, ↓q_clear, ↓q_index, ↓q_pop, ↓q_slicet, ↓q_revt, ↓q_revl, ↓q_set, ↓q_repr, ↓q_eqo, ↓X_rev, ↓Z_set, ↓q_addt, ↓q_listt, ↓q_ninl, ↓u_tup, ↓u_ref, ↓u_range, ↓q_slice, ↓oi_none, ↓oi_int, ↓X_slice, ↓XO_none, ↓XO_some, ↓u_rev, ↓u_zip, ↓xb_two, ↓u_range2, ↓retV_ret, ↓retV_next, List.getElem?_cons_zero, List.getElem?_cons_succ, List.set_cons_zero, List.set_cons_succ, Bool.not_true, Bool.not_false, idx_0, idx_1, idx_2, idx_3, idx_4, idx_5, Int.reduceAdd, Int.reduceSub, Int.reduceMul, Int.reduceNeg, Int.reducePow, Int.reduceLT, Int.reduceLE, Int.reduceEq, Int.reduceNe, Int.reduceToNat, Int.reduceAbs, Nat.reduceAdd, Nat.reduceLT, Nat.reduceLeDiff, Nat.reducePow, Nat.reduceLT, List.length_cons, List.length_nil, true_implies, false_implies, not_true_eq_false, not_false_eq_true, and_true, true_and, and_self, or_true, true_or, decide_true, decide_false, exists_eq_left', Option.some.injEq, listAt_new, hm]
    subst hK
    exact gp_rest hf (hr.pre pre_new) (fun u e => by subst e; cases hs) fun H' hp => q H' (pre_new.trans hp)
  | true =>
    have hu : ∃ u, a = .str u := by cases a <;> first | exact ⟨_, rfl⟩ | cases hs
    obtain ⟨u, rfl⟩ := hu
    cases hw : anyW ["once", "every"] u with
    | false =>
      generalize hK : sqX E9 (_ :: _) = K
      simp only [↓X_lit, ↓X_loc, ↓X_bin, ↓negX_int, ↓X_neg, ↓X_not, ↓Y_not, ↓X_and, ↓Y_and, ↓X_or, ↓Y_or, ↓X_cmp, ↓X_cmp2, ↓X_ite, ↓Y_ite, ↓X_tup, ↓X_lst, ↓X_call, ↓X_meth, ↓X_sub, ↓X_comp, ↓Y_lit, ↓Y_loc, ↓Y_cmp, ↓Y_cmp2, ↓Y_call, ↓Y_sub, ↓XEs_nil, ↓XEs_cons, ↓XIfs_nil, ↓XIfs_cons, ↓Z_expr, ↓Z_assign, ↓Z_ret, ↓Z_retNone, ↓Z_ite, ↓Z_for, ↓Z_pass, ↓Z_brk, ↓Z_cont, ↓Zs_nil, ↓sqX_next, ↓sqX_brk, ↓sqX_cont, ↓sqX_ret, ↓Zs_cons, ↓wkX_next, ↓wkX_cont, ↓wkX_brk, ↓wkX_ret, ↓fkX_next, ↓fkX_cont, ↓fkX_brk, ↓fkX_ret, ↓xb_one, ↓oKK_some, ↓oK_some, ↓tX_bool, ↓iX_t, ↓iX_f, ↓iX_d, ↓q_add, ↓q_sub, ↓q_mul, ↓q_div, ↓q_mod, ↓q_pow, ↓q_list, ↓q_eq, ↓q_ne, ↓q_eqs, ↓q_nes, ↓q_eqb, ↓q_lt, ↓q_le, ↓q_gt, ↓q_ge, ↓q_in, ↓q_inl, ↓q_nin, ↓q_is, ↓q_isnot, ↓q_stup, ↓q_sref, ↓q_sscr, ↓q_fn, ↓q_lentup, ↓q_lenref, ↓q_lenscr, ↓q_isi, ↓q_all, ↓q_max, ↓q_min, ↓q_int, ↓q_tuple, ↓q_listc, ↓q_append, ↓q_clear, ↓q_index, ↓q_pop, ↓q_slicet, ↓q_revt, ↓q_revl, ↓q_set, ↓q_repr, ↓q_eqo, ↓X_rev, ↓Z_set, ↓q_addt, ↓q_listt, ↓q_ninl, ↓u_tup, ↓u_ref, ↓u_range, ↓q_slice, ↓oi_none, ↓oi_int, ↓X_slice, ↓XO_none, ↓XO_some, ↓u_rev, ↓u_zip, ↓xb_two, ↓u_range2, ↓retV_ret, ↓retV_next, List.getElem?_cons_zero, List.getElem?_cons_succ, List.set_cons_zero, List.set_cons_succ, Bool.not_true, Bool.not_false, idx_0, idx_1, idx_2, idx_3, idx_4, idx_5, Int.reduceAdd, Int.reduceSub, Int.reduceMul, Int.reduceNeg, Int.reducePow, Int.reduceLT, Int.reduceLE, Int.reduceEq, Int.reduceNe, Int.reduceToNat, Int.reduceAbs, Nat.reduceAdd, Nat.reduceLT, Nat.reduceLeDiff, Nat.reducePow, Nat.reduceLT, List.length_cons, List.length_nil, true_implies, false_implies, not_true_eq_false, not_false_eq_true, and_true, true_and, and_self, or_true, true_or, decide_true, decide_false, exists_eq_left', Option.some.injEq, listAt_new, mem_w2, hw]
      subst hK
      exact gp_rest hf (hr.pre pre_new) (fun u e => by cases e; exact hw) fun H' hp => q H' (pre_new.trans hp)
    | true =>
      have hw' := hw
      rw [anyW_two, Bool.or_false, Bool.or_eq_true] at hw'
      rcases hw' with e | e
      · have e := eq_of_beq e; subst e
        refine ite_in2 ?_
        rw [hw]
        exact gp_once (Q := Q) (hr.pre pre_new) (fun _ _ _ => rfl) fun H' hp => q H' (pre_new.trans hp)
      · have e := eq_of_beq e; subst e
        refine ite_in2 ?_
        rw [hw]
        exact gp_every (Q := Q) (hr.pre pre_new) (fun _ _ _ => rfl) fun H' hp => q H' (pre_new.trans hp)
noncomputable def Ea : Orc := ext "_law_good_plain" C_good_plain E9
end Mine

set_option autoImplicit false
set_option linter.unusedSimpArgs false
set_option maxRecDepth 20000
namespace Mine
open PySem

theorem ea_b : Ea "_law_between" = C_is_between := rfl
theorem ea_d : Ea "_law_good_days" = C_good_days := rfl
theorem ea_p : Ea "_law_good_plain" = C_good_plain := rfl
noncomputable def Ff : List V → Prop
  | [] => True
  | a :: _ => Fd a
mutual
noncomputable def Fs : V → Prop
  | .tup l => l.length ≤ 1000 ∧ Ff l ∧ Fss l
  | _ => True
noncomputable def Fss : List V → Prop
  | [] => True
  | v :: r => Fs v ∧ Fss r
end
theorem Fss.mem : ∀ {l : List V}, Fss l → ∀ x ∈ l, Fs x
  | _ :: _, h, x, hx => by
    rcases List.mem_cons.mp hx with q | q
    · subst q; exact h.1
    · exact Fss.mem h.2 x q
theorem Fs.len {v : V} (h : Fs v) : ∀ l, v = .tup l → l.length ≤ 1000 := by rintro l rfl; exact h.1
mutual
noncomputable def vd : V → Nat
  | .tup l => vds l + 1
  | _ => 0
noncomputable def vds : List V → Nat
  | [] => 0
  | v :: r => max (vd v) (vds r)
end
theorem vds_mem : ∀ {l : List V} {x : V}, x ∈ l → vd x ≤ vds l
  | v :: r, x, h => by
    show vd x ≤ max (vd v) (vds r)
    rcases List.mem_cons.mp h with q | q
    · subst q; exact Nat.le_max_left ..
    · exact Nat.le_trans (vds_mem q) (Nat.le_max_right ..)
noncomputable def fin (v : V) (d : Int) : Bool := decide (d ≤ 8) && (match v with
  | .tup l => (match l with | a :: r => goodPl a r | [] => false)
  | _ => false)
noncomputable def gd : Nat → V → Int → Bool
  | 0, _, _ => false
  | f + 1, v, d => match v with
    | .tup l => (match l with
      | [w, a, t] => (match w with
        | .str u => if inOut u then hdT2 u a && gd f t (d + 1) else fin v d
        | _ => fin v d)
      | _ => fin v d)
    | _ => fin v d
theorem gd_not {f : Nat} {v : V} {d : Int} (h : tupLike v = false) : gd (f + 1) v d = fin v d := by cases v <;> first | rfl | cases h
theorem gd_n3 {f : Nat} {d : Int} : ∀ {l : List V}, l.length ≠ 3 → gd (f + 1) (.tup l) d = fin (.tup l) d
  | [], _ => rfl
  | [_], _ => rfl
  | [_, _], _ => rfl
  | [_, _, _], h => absurd rfl h
  | _ :: _ :: _ :: _ :: _, _ => rfl
theorem gd_ns {f : Nat} {d : Int} {w a t : V} (h : strLike w = false) : gd (f + 1) (.tup [w, a, t]) d = fin (.tup [w, a, t]) d := by cases w <;> first | rfl | cases h
noncomputable abbrev glT : IE := .and (.call (.bi .isinstance) [(.loc 0), (.lit (.ty .tuple))]) (.and (.cmp (.call (.bi .len) [(.loc 0)]) .Eq (.lit (.int 3))) (.cmp (.sub (.loc 0) (.lit (.int 0))) .In (.lst [(.lit (.str "from")), (.lit (.str "until")), (.lit (.str "also")), (.lit (.str "but"))])))
noncomputable abbrev glB : List IS := [(.ite (.and (.cmp (.sub (.loc 0) (.lit (.int 0))) .Eq (.lit (.str "but"))) (.not (.call (.fn "_law_good_days") [(.sub (.loc 0) (.lit (.int 1))), (.bin .Pow (.lit (.int 10)) (.lit (.int 11))), (.lit (.int 20))]))) [(.ret (.lit (.bool false)))] []), (.ite (.and (.cmp (.sub (.loc 0) (.lit (.int 0))) .NotEq (.lit (.str "but"))) (.not (.call (.fn "_law_between") [(.sub (.loc 0) (.lit (.int 1))), (.lit (.int 0)), (.bin .Sub (.bin .Pow (.lit (.int 10)) (.lit (.int 12))) (.lit (.int 1)))]))) [(.ret (.lit (.bool false)))] []), (.assign 0 (.sub (.loc 0) (.lit (.int 2)))), (.assign 1 (.bin .Add (.loc 1) (.lit (.int 1))))]
theorem gl_test {v : V} {Lr : Lc} {H : Hp} {P : Bool → Hp → Prop} {X : XL} (hv : Th H v) (hf : Fs v)
    (h0 : (tupLike v = false ∨ (∃ l, v = .tup l ∧ l.length ≠ 3)) → P false H)
    (h1 : ∀ w a t, v = .tup [w, a, t] → (strLike w = false ∨ ∃ u, w = .str u ∧ inOut u = false) → P false (H ++ [.list [.str "from", .str "until", .str "also", .str "but"]]))
    (h2 : ∀ u a t, v = .tup [.str u, a, t] → inOut u = true → P true (H ++ [.list [.str "from", .str "until", .str "also", .str "but"]])) : (wp2 Ea glT).T (some v :: Lr) H P X := by
  obtain ⟨_, _, h3, _⟩ := isi_of hv.al
  cases ht : tupLike v with
  | false => simp only [↓X_lit, ↓X_loc, ↓X_bin, ↓negX_int, ↓X_neg, ↓X_not, ↓Y_not, ↓X_and, ↓Y_and, ↓X_or, ↓Y_or, ↓X_cmp, ↓X_cmp2, ↓X_ite, ↓Y_ite, ↓X_tup, ↓X_lst, ↓X_call, ↓X_meth, ↓X_sub, ↓X_comp, ↓Y_lit, ↓Y_loc, ↓Y_cmp, ↓Y_cmp2, ↓Y_call, ↓Y_sub, ↓XEs_nil, ↓XEs_cons, ↓XIfs_nil, ↓XIfs_cons, ↓Z_expr, ↓Z_assign, ↓Z_ret, ↓Z_retNone, ↓Z_ite, ↓Z_for, ↓Z_pass, ↓Z_brk, ↓Z_cont, ↓Zs_nil, ↓sqX_next, ↓sqX_brk, ↓sqX_cont, ↓sqX_ret, ↓Zs_cons, ↓wkX_next, ↓wkX_cont, ↓wkX_brk, ↓wkX_ret, ↓fkX_next, ↓fkX_cont, ↓fkX_brk, ↓fkX_ret, ↓xb_one, ↓oKK_some, ↓oK_some, ↓tX_bool, ↓iX_t, ↓iX_f, ↓iX_d, ↓q_add, ↓q_sub, ↓q_mul, ↓q_div, ↓q_mod, ↓q_pow, ↓q_list, ↓q_eq, ↓q_ne, ↓q_eqs, ↓q_nes, ↓q_eqb, ↓q_lt, ↓q_le, ↓q_gt, ↓q_ge, ↓q_in, ↓q_inl, ↓q_nin, ↓q_is, ↓q_isnot, ↓q_stup, ↓q_sref, ↓q_sscr, ↓q_fn, ↓q_lentup, ↓q_lenref, ↓q_lenscr, ↓q_isi, ↓q_all, ↓q_max, ↓q_min, ↓q_int, ↓q_tuple, ↓q_listc, ↓q_append, ↓q_clear, ↓q_index, ↓q_pop, ↓q_slicet, ↓q_revt, ↓q_revl, ↓q_set, ↓q_repr, ↓q_eqo, ↓X_rev, ↓Z_set, ↓q_addt, ↓q_listt, ↓q_ninl, ↓u_tup, ↓u_ref, ↓u_range, ↓q_slice, ↓oi_none, ↓oi_int, ↓X_slice, ↓XO_none, ↓XO_some, ↓u_rev, ↓u_zip, ↓xb_two, ↓u_range2, ↓retV_ret, ↓retV_next, List.getElem?_cons_zero, List.getElem?_cons_succ, List.set_cons_zero, List.set_cons_succ, Bool.not_true, Bool.not_false, idx_0, idx_1, idx_2, idx_3, idx_4, idx_5, Int.reduceAdd, Int.reduceSub, Int.reduceMul, Int.reduceNeg, Int.reducePow, Int.reduceLT, Int.reduceLE, Int.reduceEq, Int.reduceNe, Int.reduceToNat, Int.reduceAbs, Nat.reduceAdd, Nat.reduceLT, Nat.reduceLeDiff, Nat.reducePow, Nat.reduceLT, List.length_cons, List.length_nil, true_implies, false_implies, not_true_eq_false, not_false_eq_true, and_true, true_and, and_self, or_true, true_or, decide_true, decide_false, exists_eq_left', Option.some.injEq, h3, ht]; exact h0 (.inl ht)
  | true =>
    have hl : ∃ l, v = .tup l := by cases v <;> first | exact ⟨_, rfl⟩ | cases ht
    obtain ⟨l, rfl⟩ := hl
    simp only [↓X_lit, ↓X_loc, ↓X_bin, ↓negX_int, ↓X_neg, ↓X_not, ↓Y_not, ↓X_and, ↓Y_and, ↓X_or, ↓Y_or, ↓X_cmp, ↓X_cmp2, ↓X_ite, ↓Y_ite, ↓X_tup, ↓X_lst, ↓X_call, ↓X_meth, ↓X_sub, ↓X_comp, ↓Y_lit, ↓Y_loc, ↓Y_cmp, ↓Y_cmp2, ↓Y_call, ↓Y_sub, ↓XEs_nil, ↓XEs_cons, ↓XIfs_nil, ↓XIfs_cons, ↓Z_expr, ↓Z_assign, ↓Z_ret, ↓Z_retNone, ↓Z_ite, ↓Z_for, ↓Z_pass, ↓Z_brk, ↓Z_cont, ↓Zs_nil, ↓sqX_next, ↓sqX_brk, ↓sqX_cont, ↓sqX_ret, ↓Zs_cons, ↓wkX_next, ↓wkX_cont, ↓wkX_brk, ↓wkX_ret, ↓fkX_next, ↓fkX_cont, ↓fkX_brk, ↓fkX_ret, ↓xb_one, ↓oKK_some, ↓oK_some, ↓tX_bool, ↓iX_t, ↓iX_f, ↓iX_d, ↓q_add, ↓q_sub, ↓q_mul, ↓q_div, ↓q_mod, ↓q_pow, ↓q_list, ↓q_eq, ↓q_ne, ↓q_eqs, ↓q_nes, ↓q_eqb, ↓q_lt, ↓q_le, ↓q_gt, ↓q_ge, ↓q_in, ↓q_inl, ↓q_nin, ↓q_is, ↓q_isnot, ↓q_stup, ↓q_sref, ↓q_sscr, ↓q_fn, ↓q_lentup, ↓q_lenref, ↓q_lenscr, ↓q_isi, ↓q_all, ↓q_max, ↓q_min, ↓q_int, ↓q_tuple, ↓q_listc, ↓q_append, ↓q_clear, ↓q_index, ↓q_pop, ↓q_slicet, ↓q_revt, ↓q_revl, ↓q_set, ↓q_repr, ↓q_eqo, ↓X_rev, ↓Z_set, ↓q_addt, ↓q_listt, ↓q_ninl, ↓u_tup, ↓u_ref, ↓u_range, ↓q_slice, ↓oi_none, ↓oi_int, ↓X_slice, ↓XO_none, ↓XO_some, ↓u_rev, ↓u_zip, ↓xb_two, ↓u_range2, ↓retV_ret, ↓retV_next, List.getElem?_cons_zero, List.getElem?_cons_succ, List.set_cons_zero, List.set_cons_succ, Bool.not_true, Bool.not_false, idx_0, idx_1, idx_2, idx_3, idx_4, idx_5, Int.reduceAdd, Int.reduceSub, Int.reduceMul, Int.reduceNeg, Int.reducePow, Int.reduceLT, Int.reduceLE, Int.reduceEq, Int.reduceNe, Int.reduceToNat, Int.reduceAbs, Nat.reduceAdd, Nat.reduceLT, Nat.reduceLeDiff, Nat.reducePow, Nat.reduceLT, List.length_cons, List.length_nil, true_implies, false_implies, not_true_eq_false, not_false_eq_true, and_true, true_and, and_self, or_true, true_or, decide_true, decide_false, exists_eq_left', Option.some.injEq, h3, ht]
    refine ⟨fun hl => ?_, fun hl => h0 (.inr ⟨l, rfl, by omega⟩)⟩
    obtain ⟨w, a, t, rfl⟩ := three_list (r := l) (by omega)
    cases hs : strLike w with
    | false =>
      have hm := mem_ns (show Fd w from hf.2.1) hs ["from", "until", "also", "but"]
      simp only [List.map_cons, List.map_nil] at hm
      simp only [↓X_lit, ↓X_loc, ↓X_bin, ↓negX_int, ↓X_neg, ↓X_not, ↓Y_not, ↓X_and, ↓Y_and, ↓X_or, ↓Y_or, ↓X_cmp, ↓X_cmp2, ↓X_ite, ↓Y_ite, ↓X_tup, ↓X_lst, ↓X_call, ↓X_meth, ↓X_sub, ↓X_comp, ↓Y_lit, ↓Y_loc, ↓Y_cmp, ↓Y_cmp2, ↓Y_call, ↓Y_sub, ↓XEs_nil, ↓XEs_cons, ↓XIfs_nil, ↓XIfs_cons, ↓Z_expr, ↓Z_assign, ↓Z_ret, ↓Z_retNone, ↓Z_ite, ↓Z_for, ↓Z_pass, ↓Z_brk, ↓Z_cont, ↓Zs_nil, ↓sqX_next, ↓sqX_brk, ↓sqX_cont, ↓sqX_ret, ↓Zs_cons, ↓wkX_next, ↓wkX_cont, ↓wkX_brk, ↓wkX_ret, ↓fkX_next, ↓fkX_cont, ↓fkX_brk, ↓fkX_ret, ↓xb_one, ↓oKK_some, ↓oK_some, ↓tX_bool, ↓iX_t, ↓iX_f, ↓iX_d, ↓q_add, ↓q_sub, ↓q_mul, ↓q_div, ↓q_mod, ↓q_pow, ↓q_list, ↓q_eq, ↓q_ne, ↓q_eqs, ↓q_nes, ↓q_eqb, ↓q_lt, ↓q_le, ↓q_gt, ↓q_ge, ↓q_in, ↓q_inl, ↓q_nin, ↓q_is, ↓q_isnot, ↓q_stup, ↓q_sref, ↓q_sscr, ↓q_fn, ↓q_lentup, ↓q_lenref, ↓q_lenscr, ↓q_isi, ↓q_all, ↓q_max, ↓q_min, ↓q_int, ↓q_tuple, ↓q_listc, ↓q_append, ↓q_clear, ↓q_index, ↓q_pop, ↓q_slicet, ↓q_revt, ↓q_revl, ↓q_set, ↓q_repr, ↓q_eqo, ↓X_rev, ↓Z_set, ↓q_addt, ↓q_listt, ↓q_ninl, ↓u_tup, ↓u_ref, ↓u_range, ↓q_slice, ↓oi_none, ↓oi_int, ↓X_slice, ↓XO_none, ↓XO_some, ↓u_rev, ↓u_zip, ↓xb_two, ↓u_range2, ↓retV_ret, ↓retV_next, List.getElem?_cons_zero, List.getElem?_cons_succ, List.set_cons_zero, List.set_cons_succ, Bool.not_true, Bool.not_false, idx_0, idx_1, idx_2, idx_3, idx_4, idx_5, Int.reduceAdd, Int.reduceSub, Int.reduceMul, Int.reduceNeg, Int.reducePow, Int.reduceLT, Int.reduceLE, Int.reduceEq, Int.reduceNe, Int.reduceToNat, Int.reduceAbs, Nat.reduceAdd, Nat.reduceLT, Nat.reduceLeDiff, Nat.reducePow, Nat.reduceLT, List.length_cons, List.length_nil, true_implies, false_implies, not_true_eq_false, not_false_eq_true, and_true, true_and, and_self, or_true, true_or, decide_true, decide_false, exists_eq_left', Option.some.injEq, listAt_new, hm]
      exact h1 w a t rfl (.inl hs)
    | true =>
      have hu : ∃ u, w = .str u := by cases w <;> first | exact ⟨_, rfl⟩ | cases hs
      obtain ⟨u, rfl⟩ := hu
      simp only [↓X_lit, ↓X_loc, ↓X_bin, ↓negX_int, ↓X_neg, ↓X_not, ↓Y_not, ↓X_and, ↓Y_and, ↓X_or, ↓Y_or, ↓X_cmp, ↓X_cmp2, ↓X_ite, ↓Y_ite, ↓X_tup, ↓X_lst, ↓X_call, ↓X_meth, ↓X_sub, ↓X_comp, ↓Y_lit, ↓Y_loc, ↓Y_cmp, ↓Y_cmp2, ↓Y_call, ↓Y_sub, ↓XEs_nil, ↓XEs_cons, ↓XIfs_nil, ↓XIfs_cons, ↓Z_expr, ↓Z_assign, ↓Z_ret, ↓Z_retNone, ↓Z_ite, ↓Z_for, ↓Z_pass, ↓Z_brk, ↓Z_cont, ↓Zs_nil, ↓sqX_next, ↓sqX_brk, ↓sqX_cont, ↓sqX_ret, ↓Zs_cons, ↓wkX_next, ↓wkX_cont, ↓wkX_brk, ↓wkX_ret, ↓fkX_next, ↓fkX_cont, ↓fkX_brk, ↓fkX_ret, ↓xb_one, ↓oKK_some, ↓oK_some, ↓tX_bool, ↓iX_t, ↓iX_f, ↓iX_d, ↓q_add, ↓q_sub, ↓q_mul, ↓q_div, ↓q_mod, ↓q_pow, ↓q_list, ↓q_eq, ↓q_ne, ↓q_eqs, ↓q_nes, ↓q_eqb, ↓q_lt, ↓q_le, ↓q_gt, ↓q_ge, ↓q_in, ↓q_inl, ↓q_nin, ↓q_is, ↓q_isnot, ↓q_stup, ↓q_sref, ↓q_sscr, ↓q_fn, ↓q_lentup, ↓q_lenref, ↓q_lenscr, ↓q_isi, ↓q_all, ↓q_max, ↓q_min, ↓q_int, ↓q_tuple, ↓q_listc, ↓q_append, ↓q_clear, ↓q_index, ↓q_pop, ↓q_slicet, ↓q_revt, ↓q_revl, ↓q_set, ↓q_repr, ↓q_eqo, ↓X_rev, ↓Z_set, ↓q_addt, ↓q_listt, ↓q_ninl, ↓u_tup, ↓u_ref, ↓u_range, ↓q_slice, ↓oi_none, ↓oi_int, ↓X_slice, ↓XO_none, ↓XO_some, ↓u_rev, ↓u_zip, ↓xb_two, ↓u_range2, ↓retV_ret, ↓retV_next, List.getElem?_cons_zero, List.getElem?_cons_succ, List.set_cons_zero, List.set_cons_succ, Bool.not_true, Bool.not_false, idx_0, idx_1, idx_2, idx_3, idx_4, idx_5, Int.reduceAdd, Int.reduceSub, Int.reduceMul, Int.reduceNeg, Int.reducePow, Int.reduceLT, Int.reduceLE, Int.reduceEq, Int.reduceNe, Int.reduceToNat, Int.reduceAbs, Nat.reduceAdd, Nat.reduceLT, Nat.reduceLeDiff, Nat.reducePow, Nat.reduceLT, List.length_cons, List.length_nil, true_implies, false_implies, not_true_eq_false, not_false_eq_true, and_true, true_and, and_self, or_true, true_or, decide_true, decide_false, exists_eq_left', Option.some.injEq, listAt_new, mem_out]
      cases ho : inOut u with
      | false => exact h1 _ a t rfl (.inr ⟨u, rfl, ho⟩)
      | true => exact h2 u a t rfl ho
theorem gl_loop {XF : XS} {t2 t3 t4 : Option V} {Q : QS} : ∀ (f : Nat) (v : V) (d : Int) (H : Hp), vd v < f → Th H v → Fs v →
    (∀ v' d' H2, H <+: H2 → Th H2 v' → Fs v' → gd f v d = fin v' d' → Q .next [some v', some (.int d'), t2, t3, t4] H2) →
    (∀ L' H2, H <+: H2 → gd f v d = false → Q (.ret (.bool false)) L' H2) →
    whileGo (whTX Ea glT XF) (whBX Ea glB XF) f [some v, some (.int d), t2, t3, t4] H Q := by
  intro f
  induction f with
  | zero => intro v d H h; exact absurd h (Nat.not_lt_zero _)
  | succ f ih =>
    intro v d H hd hv hf hn hr
    rw [whX_s]
    refine gl_test hv hf (fun h => ?_) (fun w a t e h => ?_) (fun u a t e ho => ?_)
    · refine hn v d H (List.prefix_refl _) hv hf ?_
      rcases h with h | ⟨l, rfl, h⟩
      · exact gd_not h
      · exact gd_n3 h
    · subst e
      refine hn _ d _ pre_new (hv.pre pre_new) hf ?_
      rcases h with h | ⟨u, rfl, h⟩
      · exact gd_ns h
      · show (if inOut u then _ else _) = _
        rw [h, if_neg (by decide)]
    · subst e
      have eg : gd (f + 1) (.tup [.str u, a, t]) d = (hdT2 u a && gd f t (d + 1)) := by
        show (if inOut u then _ else _) = _
        rw [ho, if_pos rfl]
      rw [eg] at hn hr
      have ht : Th (H ++ [.list [.str "from", .str "until", .str "also", .str "but"]]) t := (Ths.mem (l := [.str u, a, t]) hv t (by simp)).pre pre_new
      have ha : Th (H ++ [.list [.str "from", .str "until", .str "also", .str "but"]]) a := (Ths.mem (l := [.str u, a, t]) hv a (by simp)).pre pre_new
      have hft := Fss.mem hf.2.2 t (by simp)
      have hfa := Fss.mem hf.2.2 a (by simp)
      have hdt : vd t < f := by
        have h1 := vds_mem (l := [.str u, a, t]) (x := t) (by simp)
        have h2 : vd (.tup [.str u, a, t]) = vds [.str u, a, t] + 1 := rfl
        omega
      have hn : ∀ v' d' H2, H ++ [.list [.str "from", .str "until", .str "also", .str "but"]] <+: H2 → _ := fun v' d' H2 hp => hn v' d' H2 (pre_new.trans hp)
      have hr : ∀ L' H2, H ++ [.list [.str "from", .str "until", .str "also", .str "but"]] <+: H2 → _ := fun L' H2 hp => hr L' H2 (pre_new.trans hp)
      generalize H ++ [O.list [V.str "from", .str "until", .str "also", .str "but"]] = H1 at *
      have nxt : ∀ H2, H1 <+: H2 → hdT2 u a = true → whileGo (whTX Ea glT XF) (whBX Ea glB XF) f [some t, some (.int (d + 1)), t2, t3, t4] H2 Q := by
        intro H2 hp e
        rw [e, Bool.true_and] at hn hr
        exact ih t (d + 1) H2 hdt (ht.pre hp) hft (fun v' d' H3 hp3 => hn v' d' H3 (hp.trans hp3)) (fun L' H3 hp3 => hr L' H3 (hp.trans hp3))
      show wpSs Ea glB [some (.tup [.str u, a, t]), some (.int d), t2, t3, t4] H1 _ _
      refine zs_cons ?_
      show ifP (u == "but") _ _
      cases hb : u == "but" with
      | true =>
        have ed : hdT2 u a = rising a 20 99999999999 := by unfold hdT2; rw [hb, if_pos rfl]
        generalize hK : sqX Ea (_ :: _) = K
        simp only [↓X_lit, ↓X_loc, ↓X_bin, ↓negX_int, ↓X_neg, ↓X_not, ↓Y_not, ↓X_and, ↓Y_and, ↓X_or, ↓Y_or, ↓X_cmp, ↓X_cmp2, ↓X_ite, ↓Y_ite, ↓X_tup, ↓X_lst, ↓X_call, ↓X_meth, ↓X_sub, ↓X_comp, ↓Y_lit, ↓Y_loc, ↓Y_cmp, ↓Y_cmp2, ↓Y_call, ↓Y_sub, ↓XEs_nil, ↓XEs_cons, ↓XIfs_nil, ↓XIfs_cons, ↓Z_expr, ↓Z_assign, ↓Z_ret, ↓Z_retNone, ↓Z_ite, ↓Z_for, ↓Z_pass, ↓Z_brk, ↓Z_cont, ↓Zs_nil, ↓sqX_next, ↓sqX_brk, ↓sqX_cont, ↓sqX_ret, ↓Zs_cons, ↓wkX_next, ↓wkX_cont, ↓wkX_brk, ↓wkX_ret, ↓fkX_next, ↓fkX_cont, ↓fkX_brk, ↓fkX_ret, ↓xb_one, ↓oKK_some, ↓oK_some, ↓tX_bool, ↓iX_t, ↓iX_f, ↓iX_d, ↓q_add, ↓q_sub, ↓q_mul, ↓q_div, ↓q_mod, ↓q_pow, ↓q_list, ↓q_eq, ↓q_ne, ↓q_eqs, ↓q_nes, ↓q_eqb, ↓q_lt, ↓q_le, ↓q_gt, ↓q_ge, ↓q_in, ↓q_inl, ↓q_nin, ↓q_is, ↓q_isnot, ↓q_stup, ↓q_sref, ↓q_sscr, ↓q_fn, ↓q_lentup, ↓q_lenref, ↓q_lenscr, ↓q_isi, ↓q_all, ↓q_max, ↓q_min, ↓q_int, ↓q_tuple, ↓q_listc, ↓q_append, ↓q_clear, ↓q_index, ↓q_pop, ↓q_slicet, ↓q_revt, ↓q_revl, ↓q_set, ↓q_repr, ↓q_eqo, ↓X_rev, ↓Z_set, ↓q_addt, ↓q_listt, ↓q_ninl, ↓u_tup, ↓u_ref, ↓u_range, ↓q_slice, ↓oi_none, ↓oi_int, ↓X_slice, ↓XO_none, ↓XO_some, ↓u_rev, ↓u_zip, ↓xb_two, ↓u_range2, ↓retV_ret, ↓retV_next, List.getElem?_cons_zero, List.getElem?_cons_succ, List.set_cons_zero, List.set_cons_succ, Bool.not_true, Bool.not_false, idx_0, idx_1, idx_2, idx_3, idx_4, idx_5, Int.reduceAdd, Int.reduceSub, Int.reduceMul, Int.reduceNeg, Int.reducePow, Int.reduceLT, Int.reduceLE, Int.reduceEq, Int.reduceNe, Int.reduceToNat, Int.reduceAbs, Nat.reduceAdd, Nat.reduceLT, Nat.reduceLeDiff, Nat.reducePow, Nat.reduceLT, List.length_cons, List.length_nil, true_implies, false_implies, not_true_eq_false, not_false_eq_true, and_true, true_and, and_self, or_true, true_or, decide_true, decide_false, exists_eq_left', Option.some.injEq, ↓ea_d]
        refine ⟨a, _, _, rfl, ha.al, ha.als, hfa.len, fun H2 hp2 => ?_⟩
        have eg2 : goodD a 100000000000 20 = rising a 20 99999999999 := rising_good a 20 99999999999
        rw [eg2]
        simp only [↓X_lit, ↓X_loc, ↓X_bin, ↓negX_int, ↓X_neg, ↓X_not, ↓Y_not, ↓X_and, ↓Y_and, ↓X_or, ↓Y_or, ↓X_cmp, ↓X_cmp2, ↓X_ite, ↓Y_ite, ↓X_tup, ↓X_lst, ↓X_call, ↓X_meth, ↓X_sub, ↓X_comp, ↓Y_lit, ↓Y_loc, ↓Y_cmp, ↓Y_cmp2, ↓Y_call, ↓Y_sub, ↓XEs_nil, ↓XEs_cons, ↓XIfs_nil, ↓XIfs_cons, ↓Z_expr, ↓Z_assign, ↓Z_ret, ↓Z_retNone, ↓Z_ite, ↓Z_for, ↓Z_pass, ↓Z_brk, ↓Z_cont, ↓Zs_nil, ↓sqX_next, ↓sqX_brk, ↓sqX_cont, ↓sqX_ret, ↓Zs_cons, ↓wkX_next, ↓wkX_cont, ↓wkX_brk, ↓wkX_ret, ↓fkX_next, ↓fkX_cont, ↓fkX_brk, ↓fkX_ret, ↓xb_one, ↓oKK_some, ↓oK_some, ↓tX_bool, ↓iX_t, ↓iX_f, ↓iX_d, ↓q_add, ↓q_sub, ↓q_mul, ↓q_div, ↓q_mod, ↓q_pow, ↓q_list, ↓q_eq, ↓q_ne, ↓q_eqs, ↓q_nes, ↓q_eqb, ↓q_lt, ↓q_le, ↓q_gt, ↓q_ge, ↓q_in, ↓q_inl, ↓q_nin, ↓q_is, ↓q_isnot, ↓q_stup, ↓q_sref, ↓q_sscr, ↓q_fn, ↓q_lentup, ↓q_lenref, ↓q_lenscr, ↓q_isi, ↓q_all, ↓q_max, ↓q_min, ↓q_int, ↓q_tuple, ↓q_listc, ↓q_append, ↓q_clear, ↓q_index, ↓q_pop, ↓q_slicet, ↓q_revt, ↓q_revl, ↓q_set, ↓q_repr, ↓q_eqo, ↓X_rev, ↓Z_set, ↓q_addt, ↓q_listt, ↓q_ninl, ↓u_tup, ↓u_ref, ↓u_range, ↓q_slice, ↓oi_none, ↓oi_int, ↓X_slice, ↓XO_none, ↓XO_some, ↓u_rev, ↓u_zip, ↓xb_two, ↓u_range2, ↓retV_ret, ↓retV_next, List.getElem?_cons_zero, List.getElem?_cons_succ, List.set_cons_zero, List.set_cons_succ, Bool.not_true, Bool.not_false, idx_0, idx_1, idx_2, idx_3, idx_4, idx_5, Int.reduceAdd, Int.reduceSub, Int.reduceMul, Int.reduceNeg, Int.reducePow, Int.reduceLT, Int.reduceLE, Int.reduceEq, Int.reduceNe, Int.reduceToNat, Int.reduceAbs, Nat.reduceAdd, Nat.reduceLT, Nat.reduceLeDiff, Nat.reducePow, Nat.reduceLT, List.length_cons, List.length_nil, true_implies, false_implies, not_true_eq_false, not_false_eq_true, and_true, true_and, and_self, or_true, true_or, decide_true, decide_false, exists_eq_left', Option.some.injEq]
        cases er : rising a 20 99999999999 with
        | false => subst hK; exact hr _ _ hp2 (by rw [ed, er]; rfl)
        | true =>
          subst hK
          refine zs_cons ?_
          show ifP (!(u == "but")) _ _
          rw [hb]
          exact nxt H2 hp2 (by rw [ed, er])
      | false =>
        have ed : hdT2 u a = bt a 0 999999999999 := by unfold hdT2; rw [hb, if_neg (by decide)]
        refine zs_cons ?_
        show ifP (!(u == "but")) _ _
        rw [hb]
        generalize hK : sqX Ea (_ :: _) = K
        simp only [↓X_lit, ↓X_loc, ↓X_bin, ↓negX_int, ↓X_neg, ↓X_not, ↓Y_not, ↓X_and, ↓Y_and, ↓X_or, ↓Y_or, ↓X_cmp, ↓X_cmp2, ↓X_ite, ↓Y_ite, ↓X_tup, ↓X_lst, ↓X_call, ↓X_meth, ↓X_sub, ↓X_comp, ↓Y_lit, ↓Y_loc, ↓Y_cmp, ↓Y_cmp2, ↓Y_call, ↓Y_sub, ↓XEs_nil, ↓XEs_cons, ↓XIfs_nil, ↓XIfs_cons, ↓Z_expr, ↓Z_assign, ↓Z_ret, ↓Z_retNone, ↓Z_ite, ↓Z_for, ↓Z_pass, ↓Z_brk, ↓Z_cont, ↓Zs_nil, ↓sqX_next, ↓sqX_brk, ↓sqX_cont, ↓sqX_ret, ↓Zs_cons, ↓wkX_next, ↓wkX_cont, ↓wkX_brk, ↓wkX_ret, ↓fkX_next, ↓fkX_cont, ↓fkX_brk, ↓fkX_ret, ↓xb_one, ↓oKK_some, ↓oK_some, ↓tX_bool, ↓iX_t, ↓iX_f, ↓iX_d, ↓q_add, ↓q_sub, ↓q_mul, ↓q_div, ↓q_mod, ↓q_pow, ↓q_list, ↓q_eq, ↓q_ne, ↓q_eqs, ↓q_nes, ↓q_eqb, ↓q_lt, ↓q_le, ↓q_gt, ↓q_ge, ↓q_in, ↓q_inl, ↓q_nin, ↓q_is, ↓q_isnot, ↓q_stup, ↓q_sref, ↓q_sscr, ↓q_fn, ↓q_lentup, ↓q_lenref, ↓q_lenscr, ↓q_isi, ↓q_all, ↓q_max, ↓q_min, ↓q_int, ↓q_tuple, ↓q_listc, ↓q_append, ↓q_clear, ↓q_index, ↓q_pop, ↓q_slicet, ↓q_revt, ↓q_revl, ↓q_set, ↓q_repr, ↓q_eqo, ↓X_rev, ↓Z_set, ↓q_addt, ↓q_listt, ↓q_ninl, ↓u_tup, ↓u_ref, ↓u_range, ↓q_slice, ↓oi_none, ↓oi_int, ↓X_slice, ↓XO_none, ↓XO_some, ↓u_rev, ↓u_zip, ↓xb_two, ↓u_range2, ↓retV_ret, ↓retV_next, List.getElem?_cons_zero, List.getElem?_cons_succ, List.set_cons_zero, List.set_cons_succ, Bool.not_true, Bool.not_false, idx_0, idx_1, idx_2, idx_3, idx_4, idx_5, Int.reduceAdd, Int.reduceSub, Int.reduceMul, Int.reduceNeg, Int.reducePow, Int.reduceLT, Int.reduceLE, Int.reduceEq, Int.reduceNe, Int.reduceToNat, Int.reduceAbs, Nat.reduceAdd, Nat.reduceLT, Nat.reduceLeDiff, Nat.reducePow, Nat.reduceLT, List.length_cons, List.length_nil, true_implies, false_implies, not_true_eq_false, not_false_eq_true, and_true, true_and, and_self, or_true, true_or, decide_true, decide_false, exists_eq_left', Option.some.injEq, ↓ea_b]
        refine ⟨a, _, _, rfl, ha.al, ?_⟩
        simp only [↓X_lit, ↓X_loc, ↓X_bin, ↓negX_int, ↓X_neg, ↓X_not, ↓Y_not, ↓X_and, ↓Y_and, ↓X_or, ↓Y_or, ↓X_cmp, ↓X_cmp2, ↓X_ite, ↓Y_ite, ↓X_tup, ↓X_lst, ↓X_call, ↓X_meth, ↓X_sub, ↓X_comp, ↓Y_lit, ↓Y_loc, ↓Y_cmp, ↓Y_cmp2, ↓Y_call, ↓Y_sub, ↓XEs_nil, ↓XEs_cons, ↓XIfs_nil, ↓XIfs_cons, ↓Z_expr, ↓Z_assign, ↓Z_ret, ↓Z_retNone, ↓Z_ite, ↓Z_for, ↓Z_pass, ↓Z_brk, ↓Z_cont, ↓Zs_nil, ↓sqX_next, ↓sqX_brk, ↓sqX_cont, ↓sqX_ret, ↓Zs_cons, ↓wkX_next, ↓wkX_cont, ↓wkX_brk, ↓wkX_ret, ↓fkX_next, ↓fkX_cont, ↓fkX_brk, ↓fkX_ret, ↓xb_one, ↓oKK_some, ↓oK_some, ↓tX_bool, ↓iX_t, ↓iX_f, ↓iX_d, ↓q_add, ↓q_sub, ↓q_mul, ↓q_div, ↓q_mod, ↓q_pow, ↓q_list, ↓q_eq, ↓q_ne, ↓q_eqs, ↓q_nes, ↓q_eqb, ↓q_lt, ↓q_le, ↓q_gt, ↓q_ge, ↓q_in, ↓q_inl, ↓q_nin, ↓q_is, ↓q_isnot, ↓q_stup, ↓q_sref, ↓q_sscr, ↓q_fn, ↓q_lentup, ↓q_lenref, ↓q_lenscr, ↓q_isi, ↓q_all, ↓q_max, ↓q_min, ↓q_int, ↓q_tuple, ↓q_listc, ↓q_append, ↓q_clear, ↓q_index, ↓q_pop, ↓q_slicet, ↓q_revt, ↓q_revl, ↓q_set, ↓q_repr, ↓q_eqo, ↓X_rev, ↓Z_set, ↓q_addt, ↓q_listt, ↓q_ninl, ↓u_tup, ↓u_ref, ↓u_range, ↓q_slice, ↓oi_none, ↓oi_int, ↓X_slice, ↓XO_none, ↓XO_some, ↓u_rev, ↓u_zip, ↓xb_two, ↓u_range2, ↓retV_ret, ↓retV_next, List.getElem?_cons_zero, List.getElem?_cons_succ, List.set_cons_zero, List.set_cons_succ, Bool.not_true, Bool.not_false, idx_0, idx_1, idx_2, idx_3, idx_4, idx_5, Int.reduceAdd, Int.reduceSub, Int.reduceMul, Int.reduceNeg, Int.reducePow, Int.reduceLT, Int.reduceLE, Int.reduceEq, Int.reduceNe, Int.reduceToNat, Int.reduceAbs, Nat.reduceAdd, Nat.reduceLT, Nat.reduceLeDiff, Nat.reducePow, Nat.reduceLT, List.length_cons, List.length_nil, true_implies, false_implies, not_true_eq_false, not_false_eq_true, and_true, true_and, and_self, or_true, true_or, decide_true, decide_false, exists_eq_left', Option.some.injEq]
        cases er : bt a 0 999999999999 with
        | false => subst hK; exact hr _ _ (List.prefix_refl _) (by rw [ed, er]; rfl)
        | true => subst hK; exact nxt H1 (List.prefix_refl _) (by rw [ed, er])
theorem gd_deep : ∀ (f : Nat) (v : V) (d : Int), 9 ≤ d → gd f v d = false := by
  intro f
  induction f with
  | zero => intro v d _; rfl
  | succ f ih =>
    intro v d hd
    have hfin : ∀ v, fin v d = false := fun v => by unfold fin; rw [decide_eq_false (by omega), Bool.false_and]
    cases ht : tupLike v with
    | false => rw [gd_not ht, hfin]
    | true =>
      have hl : ∃ l, v = .tup l := by cases v <;> first | exact ⟨_, rfl⟩ | cases ht
      obtain ⟨l, rfl⟩ := hl
      by_cases h3 : l.length = 3
      · obtain ⟨w, a, t, rfl⟩ := three_list h3
        cases hs : strLike w with
        | false => rw [gd_ns hs, hfin]
        | true =>
          have hu : ∃ u, w = .str u := by cases w <;> first | exact ⟨_, rfl⟩ | cases hs
          obtain ⟨u, rfl⟩ := hu
          show (if inOut u then _ else _) = _
          split
          · rw [ih t (d + 1) (by omega), Bool.and_false]
          · exact hfin _
      · rw [gd_n3 h3, hfin]
theorem inOut_eq (u : Str) : inOut u = (Str.ofString "from" == u || (Str.ofString "until" == u || (Str.ofString "also" == u || (Str.ofString "but" == u || false)))) := rfl
theorem no_plain : ∀ u ∈ ([Str.ofString "from", Str.ofString "until", Str.ofString "also", Str.ofString "but"] : List Str), (u == Str.ofString "once") = false ∧ (u == Str.ofString "every") = false ∧ (u == Str.ofString "week") = false ∧ (u == Str.ofString "month") = false := by decide
theorem isPl_out {u : Str} (h : inOut u = true) (r : List V) : isPl u r = false := by
  have hm : u ∈ ([Str.ofString "from", Str.ofString "until", Str.ofString "also", Str.ofString "but"] : List Str) := by
    rw [inOut_eq] at h
    simp only [Bool.or_eq_true, beq_iff_eq, Bool.or_false] at h
    simp only [List.mem_cons, List.not_mem_nil, or_false]
    rcases h with h | h | h | h
    · exact .inl h.symm
    · exact .inr (.inl h.symm)
    · exact .inr (.inr (.inl h.symm))
    · exact .inr (.inr (.inr h.symm))
  obtain ⟨h1, h2, h3, h4⟩ := no_plain u hm
  unfold isPl
  rw [h1, if_neg (by decide)]
  by_cases hl : r.length = 3
  · obtain ⟨x, y, z, rfl⟩ := three_list hl
    show isP3 u x y z = false
    unfold isP3
    simp only [h2, h3, h4, Bool.false_eq_true, if_false, Bool.false_and, ite_self]
  · exact not_three hl
theorem rl_gd : ∀ (n f : Nat) (v : V), vd v < f → n ≤ 8 → isRl n v = gd f v (9 - (n : Int)) := by
  intro n
  induction n with
  | zero => intro f v _ _; rw [gd_deep f v _ (by omega)]; rfl
  | succ n ih =>
    intro f v hf hn
    cases f with
    | zero => exact absurd hf (Nat.not_lt_zero _)
    | succ f =>
      have hd : decide ((9 : Int) - ((n + 1 : Nat) : Int) ≤ 8) = true := decide_eq_true (by omega)
      cases ht : tupLike v with
      | false => rw [gd_not ht]; cases v <;> first | (unfold fin; rw [Bool.and_false]; rfl) | cases ht
      | true =>
        have hl : ∃ l, v = .tup l := by cases v <;> first | exact ⟨_, rfl⟩ | cases ht
        obtain ⟨l, rfl⟩ := hl
        cases l with
        | nil => rw [gd_n3 (by decide)]; unfold fin; rw [Bool.and_false]; rfl
        | cons w r =>
          cases hs : strLike w with
          | false =>
            have e1 : isRl (n + 1) (.tup (w :: r)) = false := by cases w <;> first | rfl | cases hs
            have e2 : fin (.tup (w :: r)) (9 - ((n + 1 : Nat) : Int)) = false := by
              unfold fin
              have : goodPl w r = false := by cases w <;> first | rfl | cases hs
              simp only [this, Bool.and_false]
            rw [e1]
            by_cases h3 : (w :: r).length = 3
            · obtain ⟨a, t, rfl⟩ := two_list (r := r) (by simpa using h3)
              rw [gd_ns hs, e2]
            · rw [gd_n3 h3, e2]
          | true =>
            have hu : ∃ u, w = .str u := by cases w <;> first | exact ⟨_, rfl⟩ | cases hs
            obtain ⟨u, rfl⟩ := hu
            have e2 : fin (.tup (.str u :: r)) (9 - ((n + 1 : Nat) : Int)) = isPl u r := by
              unfold fin; rw [hd, Bool.true_and]; rfl
            cases ho : inOut u with
            | false =>
              have e1 : isRl (n + 1) (.tup (.str u :: r)) = isPl u r := by simp only [isRl, ho, Bool.false_eq_true, if_false]
              rw [e1]
              by_cases h3 : (V.str u :: r).length = 3
              · obtain ⟨a, t, rfl⟩ := two_list (r := r) (by simpa using h3)
                show _ = (if inOut u then _ else _)
                rw [ho, if_neg (by decide), e2]
              · rw [gd_n3 h3, e2]
            | true =>
              by_cases h3 : (V.str u :: r).length = 3
              · obtain ⟨a, t, rfl⟩ := two_list (r := r) (by simpa using h3)
                have e1 : isRl (n + 1) (.tup [.str u, a, t]) = (hdT2 u a && isRl n t) := by simp only [isRl, ho, if_true]
                rw [e1]
                show _ = (if inOut u then _ else _)
                rw [ho, if_pos rfl]
                have h1 := vds_mem (l := [.str u, a, t]) (x := t) (by simp)
                have h2 : vd (.tup [.str u, a, t]) = vds [.str u, a, t] + 1 := rfl
                have e3 : (9 : Int) - ((n + 1 : Nat) : Int) + 1 = 9 - (n : Int) := by omega
                rw [ih f t (by omega) (by omega), e3]
              · rw [rl_not_two ho (by simpa using h3), gd_n3 h3, e2, isPl_out ho]
noncomputable def C_good : Ctr := fun vs H Q _ => ∃ v, vs = [v] ∧ Th H v ∧ Fs v ∧ ∀ H', H <+: H' → Q (.bool (isRl 8 v)) H'
theorem w_good : ∀ vs H Q X, C_good vs H Q X → wpFn Ea f_l_good vs H Q X := by
  rintro vs H Q X ⟨v, rfl, hv, hf, q⟩
  refine fn_of rfl ?_
  change wpSs Ea f_l_good.body [some v, none, none, none, none] H _ _
  refine zs_cons ?_
  change wpSs Ea (f_l_good.body.drop 1) [some v, some (.int 1), none, none, none] H _ _
  rw [rl_gd 8 (vd v + 1) v (Nat.lt_succ_self _) (Nat.le_refl _)] at q
  refine zs_cons ?_
  rw [Z_while]
  refine ⟨vd v + 1, gl_loop (vd v + 1) v 1 H (Nat.lt_succ_self _) hv hf (fun v' d' H2 hp2 hv' hf' e => ?_) (fun L' H2 hp2 e => ?_)⟩
  · have q2 : Q (.bool (fin v' d')) H2 := by rw [← e]; exact q H2 hp2
    have q3 : ∀ H3, H2 <+: H3 → Q (.bool (fin v' d')) H3 := fun H3 hp3 => by rw [← e]; exact q H3 (hp2.trans hp3)
    obtain ⟨_, _, h3, _⟩ := isi_of hv'.al
    unfold fin at q2 q3
    simp only [↓X_lit, ↓X_loc, ↓X_bin, ↓negX_int, ↓X_neg, ↓X_not, ↓Y_not, ↓X_and, ↓Y_and, ↓X_or, ↓Y_or, ↓X_cmp, ↓X_cmp2, ↓X_ite, ↓Y_ite, ↓X_tup, ↓X_lst, ↓X_call, ↓X_meth, ↓X_sub, ↓X_comp, ↓Y_lit, ↓Y_loc, ↓Y_cmp, ↓Y_cmp2, ↓Y_call, ↓Y_sub, ↓XEs_nil, ↓XEs_cons, ↓XIfs_nil, ↓XIfs_cons, ↓Z_expr, ↓Z_assign, ↓Z_ret, ↓Z_retNone, ↓Z_ite, ↓Z_for, ↓Z_pass, ↓Z_brk, ↓Z_cont, ↓Zs_nil, ↓sqX_next, ↓sqX_brk, ↓sqX_cont, ↓sqX_ret, ↓Zs_cons, ↓wkX_next, ↓wkX_cont, ↓wkX_brk, ↓wkX_ret, ↓fkX_next, ↓fkX_cont, ↓fkX_brk, ↓fkX_ret, ↓xb_one, ↓oKK_some, ↓oK_some, ↓tX_bool, ↓iX_t, ↓iX_f, ↓iX_d, ↓q_add, ↓q_sub, ↓q_mul, ↓q_div, ↓q_mod, ↓q_pow, ↓q_list, ↓q_eq, ↓q_ne, ↓q_eqs, ↓q_nes, ↓q_eqb, ↓q_lt, ↓q_le, ↓q_gt, ↓q_ge, ↓q_in, ↓q_inl, ↓q_nin, ↓q_is, ↓q_isnot, ↓q_stup, ↓q_sref, ↓q_sscr, ↓q_fn, ↓q_lentup, ↓q_lenref, ↓q_lenscr, ↓q_isi, ↓q_all, ↓q_max, ↓q_min, ↓q_int, ↓q_tuple, ↓q_listc, ↓q_append, ↓q_clear, ↓q_index, ↓q_pop, ↓q_slicet, ↓q_revt, ↓q_revl, ↓q_set, ↓q_repr, ↓q_eqo, ↓X_rev, ↓Z_set, ↓q_addt, ↓q_listt, ↓q_ninl, ↓u_tup, ↓u_ref, ↓u_range, ↓q_slice, ↓oi_none, ↓oi_int, ↓X_slice, ↓XO_none, ↓XO_some, ↓u_rev, ↓u_zip, ↓xb_two, ↓u_range2, ↓retV_ret, ↓retV_next, List.getElem?_cons_zero, List.getElem?_cons_succ, List.set_cons_zero, List.set_cons_succ, Bool.not_true, Bool.not_false, idx_0, idx_1, idx_2, idx_3, idx_4, idx_5, Int.reduceAdd, Int.reduceSub, Int.reduceMul, Int.reduceNeg, Int.reducePow, Int.reduceLT, Int.reduceLE, Int.reduceEq, Int.reduceNe, Int.reduceToNat, Int.reduceAbs, Nat.reduceAdd, Nat.reduceLT, Nat.reduceLeDiff, Nat.reducePow, Nat.reduceLT, List.length_cons, List.length_nil, true_implies, false_implies, not_true_eq_false, not_false_eq_true, and_true, true_and, and_self, or_true, true_or, decide_true, decide_false, exists_eq_left', Option.some.injEq, h3]
    refine ⟨fun h8 => ?_, fun h8 => ?_⟩
    · rw [decide_eq_true h8, Bool.true_and] at q2 q3
      cases ht : tupLike v' with
      | false =>
        simp only [↓X_lit, ↓X_loc, ↓X_bin, ↓negX_int, ↓X_neg, ↓X_not, ↓Y_not, ↓X_and, ↓Y_and, ↓X_or, ↓Y_or, ↓X_cmp, ↓X_cmp2, ↓X_ite, ↓Y_ite, ↓X_tup, ↓X_lst, ↓X_call, ↓X_meth, ↓X_sub, ↓X_comp, ↓Y_lit, ↓Y_loc, ↓Y_cmp, ↓Y_cmp2, ↓Y_call, ↓Y_sub, ↓XEs_nil, ↓XEs_cons, ↓XIfs_nil, ↓XIfs_cons, ↓Z_expr, ↓Z_assign, ↓Z_ret, ↓Z_retNone, ↓Z_ite, ↓Z_for, ↓Z_pass, ↓Z_brk, ↓Z_cont, ↓Zs_nil, ↓sqX_next, ↓sqX_brk, ↓sqX_cont, ↓sqX_ret, ↓Zs_cons, ↓wkX_next, ↓wkX_cont, ↓wkX_brk, ↓wkX_ret, ↓fkX_next, ↓fkX_cont, ↓fkX_brk, ↓fkX_ret, ↓xb_one, ↓oKK_some, ↓oK_some, ↓tX_bool, ↓iX_t, ↓iX_f, ↓iX_d, ↓q_add, ↓q_sub, ↓q_mul, ↓q_div, ↓q_mod, ↓q_pow, ↓q_list, ↓q_eq, ↓q_ne, ↓q_eqs, ↓q_nes, ↓q_eqb, ↓q_lt, ↓q_le, ↓q_gt, ↓q_ge, ↓q_in, ↓q_inl, ↓q_nin, ↓q_is, ↓q_isnot, ↓q_stup, ↓q_sref, ↓q_sscr, ↓q_fn, ↓q_lentup, ↓q_lenref, ↓q_lenscr, ↓q_isi, ↓q_all, ↓q_max, ↓q_min, ↓q_int, ↓q_tuple, ↓q_listc, ↓q_append, ↓q_clear, ↓q_index, ↓q_pop, ↓q_slicet, ↓q_revt, ↓q_revl, ↓q_set, ↓q_repr, ↓q_eqo, ↓X_rev, ↓Z_set, ↓q_addt, ↓q_listt, ↓q_ninl, ↓u_tup, ↓u_ref, ↓u_range, ↓q_slice, ↓oi_none, ↓oi_int, ↓X_slice, ↓XO_none, ↓XO_some, ↓u_rev, ↓u_zip, ↓xb_two, ↓u_range2, ↓retV_ret, ↓retV_next, List.getElem?_cons_zero, List.getElem?_cons_succ, List.set_cons_zero, List.set_cons_succ, Bool.not_true, Bool.not_false, idx_0, idx_1, idx_2, idx_3, idx_4, idx_5, Int.reduceAdd, Int.reduceSub, Int.reduceMul, Int.reduceNeg, Int.reducePow, Int.reduceLT, Int.reduceLE, Int.reduceEq, Int.reduceNe, Int.reduceToNat, Int.reduceAbs, Nat.reduceAdd, Nat.reduceLT, Nat.reduceLeDiff, Nat.reducePow, Nat.reduceLT, List.length_cons, List.length_nil, true_implies, false_implies, not_true_eq_false, not_false_eq_true, and_true, true_and, and_self, or_true, true_or, decide_true, decide_false, exists_eq_left', Option.some.injEq]
        cases v' <;> first | exact q2 | cases ht
      | true =>
        have hl : ∃ l, v' = .tup l := by cases v' <;> first | exact ⟨_, rfl⟩ | cases ht
        obtain ⟨l, rfl⟩ := hl
        cases l with
        | nil => simp only [↓X_lit, ↓X_loc, ↓X_bin, ↓negX_int, ↓X_neg, ↓X_not, ↓Y_not, ↓X_and, ↓Y_and, ↓X_or, ↓Y_or, ↓X_cmp, ↓X_cmp2, ↓X_ite, ↓Y_ite, ↓X_tup, ↓X_lst, ↓X_call, ↓X_meth, ↓X_sub, ↓X_comp, ↓Y_lit, ↓Y_loc, ↓Y_cmp, ↓Y_cmp2, ↓Y_call, ↓Y_sub, ↓XEs_nil, ↓XEs_cons, ↓XIfs_nil, ↓XIfs_cons, ↓Z_expr, ↓Z_assign, ↓Z_ret, ↓Z_retNone, ↓Z_ite, ↓Z_for, ↓Z_pass, ↓Z_brk, ↓Z_cont, ↓Zs_nil, ↓sqX_next, ↓sqX_brk, ↓sqX_cont, ↓sqX_ret, ↓Zs_cons, ↓wkX_next, ↓wkX_cont, ↓wkX_brk, ↓wkX_ret, ↓fkX_next, ↓fkX_cont, ↓fkX_brk, ↓fkX_ret, ↓xb_one, ↓oKK_some, ↓oK_some, ↓tX_bool, ↓iX_t, ↓iX_f, ↓iX_d, ↓q_add, ↓q_sub, ↓q_mul, ↓q_div, ↓q_mod, ↓q_pow, ↓q_list, ↓q_eq, ↓q_ne, ↓q_eqs, ↓q_nes, ↓q_eqb, ↓q_lt, ↓q_le, ↓q_gt, ↓q_ge, ↓q_in, ↓q_inl, ↓q_nin, ↓q_is, ↓q_isnot, ↓q_stup, ↓q_sref, ↓q_sscr, ↓q_fn, ↓q_lentup, ↓q_lenref, ↓q_lenscr, ↓q_isi, ↓q_all, ↓q_max, ↓q_min, ↓q_int, ↓q_tuple, ↓q_listc, ↓q_append, ↓q_clear, ↓q_index, ↓q_pop, ↓q_slicet, ↓q_revt, ↓q_revl, ↓q_set, ↓q_repr, ↓q_eqo, ↓X_rev, ↓Z_set, ↓q_addt, ↓q_listt, ↓q_ninl, ↓u_tup, ↓u_ref, ↓u_range, ↓q_slice, ↓oi_none, ↓oi_int, ↓X_slice, ↓XO_none, ↓XO_some, ↓u_rev, ↓u_zip, ↓xb_two, ↓u_range2, ↓retV_ret, ↓retV_next, List.getElem?_cons_zero, List.getElem?_cons_succ, List.set_cons_zero, List.set_cons_succ, Bool.not_true, Bool.not_false, idx_0, idx_1, idx_2, idx_3, idx_4, idx_5, Int.reduceAdd, Int.reduceSub, Int.reduceMul, Int.reduceNeg, Int.reducePow, Int.reduceLT, Int.reduceLE, Int.reduceEq, Int.reduceNe, Int.reduceToNat, Int.reduceAbs, Nat.reduceAdd, Nat.reduceLT, Nat.reduceLeDiff, Nat.reducePow, Nat.reduceLT, List.length_cons, List.length_nil, true_implies, false_implies, not_true_eq_false, not_false_eq_true, and_true, true_and, and_self, or_true, true_or, decide_true, decide_false, exists_eq_left', Option.some.injEq]; exact ⟨fun h => absurd h (by decide), fun h => q2⟩
        | cons a r =>
          simp only [↓X_lit, ↓X_loc, ↓X_bin, ↓negX_int, ↓X_neg, ↓X_not, ↓Y_not, ↓X_and, ↓Y_and, ↓X_or, ↓Y_or, ↓X_cmp, ↓X_cmp2, ↓X_ite, ↓Y_ite, ↓X_tup, ↓X_lst, ↓X_call, ↓X_meth, ↓X_sub, ↓X_comp, ↓Y_lit, ↓Y_loc, ↓Y_cmp, ↓Y_cmp2, ↓Y_call, ↓Y_sub, ↓XEs_nil, ↓XEs_cons, ↓XIfs_nil, ↓XIfs_cons, ↓Z_expr, ↓Z_assign, ↓Z_ret, ↓Z_retNone, ↓Z_ite, ↓Z_for, ↓Z_pass, ↓Z_brk, ↓Z_cont, ↓Zs_nil, ↓sqX_next, ↓sqX_brk, ↓sqX_cont, ↓sqX_ret, ↓Zs_cons, ↓wkX_next, ↓wkX_cont, ↓wkX_brk, ↓wkX_ret, ↓fkX_next, ↓fkX_cont, ↓fkX_brk, ↓fkX_ret, ↓xb_one, ↓oKK_some, ↓oK_some, ↓tX_bool, ↓iX_t, ↓iX_f, ↓iX_d, ↓q_add, ↓q_sub, ↓q_mul, ↓q_div, ↓q_mod, ↓q_pow, ↓q_list, ↓q_eq, ↓q_ne, ↓q_eqs, ↓q_nes, ↓q_eqb, ↓q_lt, ↓q_le, ↓q_gt, ↓q_ge, ↓q_in, ↓q_inl, ↓q_nin, ↓q_is, ↓q_isnot, ↓q_stup, ↓q_sref, ↓q_sscr, ↓q_fn, ↓q_lentup, ↓q_lenref, ↓q_lenscr, ↓q_isi, ↓q_all, ↓q_max, ↓q_min, ↓q_int, ↓q_tuple, ↓q_listc, ↓q_append, ↓q_clear, ↓q_index, ↓q_pop, ↓q_slicet, ↓q_revt, ↓q_revl, ↓q_set, ↓q_repr, ↓q_eqo, ↓X_rev, ↓Z_set, ↓q_addt, ↓q_listt, ↓q_ninl, ↓u_tup, ↓u_ref, ↓u_range, ↓q_slice, ↓oi_none, ↓oi_int, ↓X_slice, ↓XO_none, ↓XO_some, ↓u_rev, ↓u_zip, ↓xb_two, ↓u_range2, ↓retV_ret, ↓retV_next, List.getElem?_cons_zero, List.getElem?_cons_succ, List.set_cons_zero, List.set_cons_succ, Bool.not_true, Bool.not_false, idx_0, idx_1, idx_2, idx_3, idx_4, idx_5, Int.reduceAdd, Int.reduceSub, Int.reduceMul, Int.reduceNeg, Int.reducePow, Int.reduceLT, Int.reduceLE, Int.reduceEq, Int.reduceNe, Int.reduceToNat, Int.reduceAbs, Nat.reduceAdd, Nat.reduceLT, Nat.reduceLeDiff, Nat.reducePow, Nat.reduceLT, List.length_cons, List.length_nil, true_implies, false_implies, not_true_eq_false, not_false_eq_true, and_true, true_and, and_self, or_true, true_or, decide_true, decide_false, exists_eq_left', Option.some.injEq, ↓ea_p]
          refine ⟨fun _ => ⟨a, r, rfl, hf'.2.1, fun x hx => ?_, q3⟩, fun h => absurd (by omega) h⟩
          have h1 := Ths.mem (l := a :: r) hv' x (List.mem_cons_of_mem _ hx)
          have h2 := Fss.mem hf'.2.2 x (List.mem_cons_of_mem _ hx)
          exact ⟨h1.al, h1.als, h2.len⟩
    · rw [decide_eq_false h8, Bool.false_and] at q2
      rw [decide_eq_false h8]; exact q2
  · have := q H2 hp2
    have e' : gd (vd v + 1) v (9 - ((8 : Nat) : Int)) = false := e
    rw [e'] at this; exact this
noncomputable def Eb : Orc := ext "_law_good" C_good Ea
end Mine

set_option autoImplicit false
set_option linter.unusedSimpArgs false
set_option maxRecDepth 20000
/- Law 05: things that can be shown. -/
namespace Mine
open PySem

noncomputable def okD (n k : Nat) (d : PyData) : Prop := d.showable = true ∧ d.depth ≤ k ∧ d.shown.length ≤ n
noncomputable def szs (ds : List PyData) : Nat := ((PyData.shownAll ds).map (·.length)).sum + 2 * ds.length
noncomputable def okDs (n k : Nat) (ds : List PyData) : Prop := PyData.showableAll ds = true ∧ PyData.depthAll ds ≤ k ∧ szs ds ≤ n
theorem okD.mono {n k n' k' : Nat} {d : PyData} (h : okD n k d) (h1 : n ≤ n') (h2 : k ≤ k') : okD n' k' d := ⟨h.1, Nat.le_trans h.2.1 h2, Nat.le_trans h.2.2 h1⟩
theorem okDs.mono {n k n' k' : Nat} {d : List PyData} (h : okDs n k d) (h1 : n ≤ n') (h2 : k ≤ k') : okDs n' k' d := ⟨h.1, Nat.le_trans h.2.1 h2, Nat.le_trans h.2.2 h1⟩
theorem okDs_nil {n k : Nat} : okDs n k [] := ⟨rfl, Nat.zero_le _, Nat.zero_le _⟩
theorem szs_cons {d : PyData} {ds : List PyData} : szs (d :: ds) = d.shown.length + 2 + szs ds := by
  show ((d.shown.length :: (PyData.shownAll ds).map (·.length)).sum + 2 * (ds.length + 1)) = _
  unfold szs
  rw [List.sum_cons]; omega
theorem okDs_cons {n m k : Nat} {d : PyData} {ds : List PyData} (h1 : okD n k d) (h2 : okDs m k ds) : okDs (n + 2 + m) k (d :: ds) := by
  refine ⟨?_, ?_, ?_⟩
  · show (d.showable && PyData.showableAll ds) = true
    rw [h1.1, h2.1]; rfl
  · show max d.depth (PyData.depthAll ds) ≤ k
    exact Nat.max_le.mpr ⟨h1.2.1, h2.2.1⟩
  · rw [szs_cons]
    have := h1.2.2
    have := h2.2.2
    omega
theorem okD_tuple {n k : Nat} {ds : List PyData} (h : okDs n k ds) : okD (n + 3) (k + 1) (.tuple ds) := by
  refine ⟨h.1, Nat.succ_le_succ h.2.1, ?_⟩
  have h1 := tupleText_len_le (PyData.shownAll ds)
  rw [PyData.shownAll_length] at h1
  exact Nat.le_trans h1 (Nat.add_le_add_right h.2.2 3)
theorem okD_list {n k : Nat} {ds : List PyData} (h : okDs n k ds) : okD (n + 3) (k + 1) (.list ds) := by
  refine ⟨h.1, Nat.succ_le_succ h.2.1, ?_⟩
  have h1 := listText_len_le (PyData.shownAll ds)
  rw [PyData.shownAll_length] at h1
  exact Nat.le_trans h1 (Nat.add_le_add_right h.2.2 3)
theorem okD.fit {n k : Nat} {d : PyData} (h : okD n k d) (hn : n ≤ 1000000) (hk : k ≤ 60) : d.showable = true ∧ d.depth ≤ 60 ∧ d.shown.length ≤ 1000000 :=
  ⟨h.1, Nat.le_trans h.2.1 hk, Nat.le_trans h.2.2 hn⟩

/- a plain thing, a thing, in its heap -/
noncomputable def Pv (n k : Nat) (v : V) : Prop := (∃ d, toPy v = some d ∧ okD n k d) ∧ Fs v
noncomputable def Tg (H : Hp) (n k : Nat) (v : V) : Prop := (∃ d, toPyT H v = some d ∧ okD n k d) ∧ Th H v ∧ Fs v
mutual
theorem toPyT_of {H : Hp} : ∀ {v : V} {d : PyData}, toPy v = some d → toPyT H v = some d ∧ Th H v
  | .none, _, h => ⟨h, trivial⟩
  | .bool _, _, h => ⟨h, trivial⟩
  | .int _, _, h => ⟨h, trivial⟩
  | .str _, _, h => ⟨h, trivial⟩
  | .tup l, d, h => by
    have h' : (toPys l).map PyData.tuple = some d := h
    cases e : toPys l with
    | none => rw [e] at h'; cases h'
    | some ds =>
      rw [e] at h'
      obtain ⟨h1, h2⟩ := toPysT_of (H := H) e
      refine ⟨?_, h2⟩
      show (toPysT H l).map PyData.tuple = some d
      rw [h1]; exact h'
theorem toPysT_of {H : Hp} : ∀ {l : List V} {ds : List PyData}, toPys l = some ds → toPysT H l = some ds ∧ Ths H l
  | [], _, h => ⟨h, trivial⟩
  | v :: r, ds, h => by
    have h' : (match toPy v, toPys r with
      | some d, some ds => some (d :: ds)
      | _, _ => none) = some ds := h
    cases e1 : toPy v with
    | none => rw [e1] at h'; cases h'
    | some d =>
      cases e2 : toPys r with
      | none => rw [e1, e2] at h'; cases h'
      | some es =>
        rw [e1, e2] at h'
        obtain ⟨a1, a2⟩ := toPyT_of (H := H) e1
        obtain ⟨b1, b2⟩ := toPysT_of (H := H) e2
        refine ⟨?_, a2, b2⟩
        show (match toPyT H v, toPysT H r with
          | some d, some ds => some (d :: ds)
          | _, _ => none) = some ds
        rw [a1, b1]; exact h'
end
theorem Pv.tg {n k : Nat} {v : V} {H : Hp} (h : Pv n k v) : Tg H n k v := by
  obtain ⟨⟨d, h1, h2⟩, h3⟩ := h
  obtain ⟨a, b⟩ := toPyT_of (H := H) h1
  exact ⟨⟨d, a, h2⟩, b, h3⟩
theorem Pv.mono {n k n' k' : Nat} {v : V} (h : Pv n k v) (h1 : n ≤ n') (h2 : k ≤ k') : Pv n' k' v := ⟨h.1.imp fun _ hd => ⟨hd.1, hd.2.mono h1 h2⟩, h.2⟩
theorem Tg.mono {H : Hp} {n k n' k' : Nat} {v : V} (h : Tg H n k v) (h1 : n ≤ n') (h2 : k ≤ k') : Tg H n' k' v := ⟨h.1.imp fun _ hd => ⟨hd.1, hd.2.mono h1 h2⟩, h.2⟩
mutual
theorem toPyT_pre {H H' : Hp} (p : H <+: H') : ∀ {v : V} {d : PyData}, toPyT H v = some d → toPyT H' v = some d
  | .none, _, h => h
  | .bool _, _, h => h
  | .int _, _, h => h
  | .str _, _, h => h
  | .ref i, d, h => by
    have h' : ((listAt H i).bind toPys).map PyData.list = some d := h
    show ((listAt H' i).bind toPys).map PyData.list = some d
    cases e : listAt H i with
    | none => rw [e] at h'; cases h'
    | some l => rw [e] at h'; rw [listAt_pre p e]; exact h'
  | .tup l, d, h => by
    have h' : (toPysT H l).map PyData.tuple = some d := h
    show (toPysT H' l).map PyData.tuple = some d
    cases e : toPysT H l with
    | none => rw [e] at h'; cases h'
    | some ds => rw [e] at h'; rw [toPysT_pre p e]; exact h'
theorem toPysT_pre {H H' : Hp} (p : H <+: H') : ∀ {l : List V} {ds : List PyData}, toPysT H l = some ds → toPysT H' l = some ds
  | [], _, h => h
  | v :: r, ds, h => by
    have h' : (match toPyT H v, toPysT H r with
      | some d, some ds => some (d :: ds)
      | _, _ => none) = some ds := h
    show (match toPyT H' v, toPysT H' r with
      | some d, some ds => some (d :: ds)
      | _, _ => none) = some ds
    cases e1 : toPyT H v with
    | none => rw [e1] at h'; cases h'
    | some d =>
      cases e2 : toPysT H r with
      | none => rw [e1, e2] at h'; cases h'
      | some es =>
        rw [e1, e2] at h'
        rw [toPyT_pre p e1, toPysT_pre p e2]; exact h'
end
theorem Tg.pre {H H' : Hp} {n k : Nat} {v : V} (p : H <+: H') (h : Tg H n k v) : Tg H' n k v := by
  obtain ⟨⟨d, h1, h2⟩, h3, h4⟩ := h
  exact ⟨⟨d, toPyT_pre p h1, h2⟩, h3.pre p, h4⟩

/- plain values -/
theorem pv_none {n k : Nat} (h : 35 ≤ n) : Pv n k .none := ⟨⟨.none, rfl, rfl, Nat.zero_le _, Nat.le_trans (show (PyData.shown .none).length ≤ 35 by decide) h⟩, trivial⟩
theorem pv_bool {n k : Nat} {b : Bool} (h : 35 ≤ n) : Pv n k (.bool b) := ⟨⟨.bool b, rfl, rfl, Nat.zero_le _, Nat.le_trans (show (PyData.shown (.bool b)).length ≤ 35 by cases b <;> decide) h⟩, trivial⟩
theorem pv_int {n k : Nat} {i : Int} (h : 35 ≤ n) (h1 : -(10 ^ 31) < i) (h2 : i < 10 ^ 31) : Pv n k (.int i) := by
  have hn : i.natAbs < 10 ^ 31 := by omega
  refine ⟨⟨.int i, rfl, ?_, Nat.zero_le _, ?_⟩, trivial⟩
  · show decide (i.natAbs.log2 < 1920) = true
    refine decide_eq_true ?_
    by_cases h0 : i.natAbs = 0
    · rw [h0]; decide
    · exact (Nat.log2_lt h0).mpr (Nat.lt_of_lt_of_le hn (by decide))
  · show (Str.ofString (toString i)).length ≤ n
    have e := int_text_length_le10 (k := 31) (by decide) hn
    rw [ofString_length]; omega
noncomputable def okStr (s : Str) : Bool := (s.cps.toList.all fun c => decide (c < 16 ^ 8)) && decide (s.cps.size ≤ 10)
theorem pv_str {n k : Nat} {s : Str} (hn : 102 ≤ n) (h : okStr s = true) : Pv n k (.str s) := by
  unfold okStr at h
  rw [Bool.and_eq_true, decide_eq_true_eq] at h
  refine ⟨⟨.str s, rfl, rfl, Nat.zero_le _, ?_⟩, trivial⟩
  have e := StrLaws.reprText_len s (by simpa only [List.all_eq_true, decide_eq_true_eq] using h.1)
  have e2 : s.length = s.cps.size := rfl
  show (reprText s).length ≤ n
  have := h.2
  omega
/- rows -/
noncomputable def PvL (n k : Nat) (l : List V) : Prop := ∀ x ∈ l, Pv n k x
theorem pvl_ds {n k : Nat} : ∀ {l : List V}, PvL n k l → ∃ ds, toPys l = some ds ∧ okDs ((n + 2) * l.length) k ds ∧ Fss l
  | [], _ => ⟨[], rfl, okDs_nil, trivial⟩
  | v :: r, h => by
    obtain ⟨⟨d, h1, h2⟩, h3⟩ := h v List.mem_cons_self
    obtain ⟨ds, e1, e2, e3⟩ := pvl_ds (l := r) fun x hx => h x (List.mem_cons_of_mem _ hx)
    refine ⟨d :: ds, ?_, ?_, h3, e3⟩
    · show (match toPy v, toPys r with
        | some d, some ds => some (d :: ds)
        | _, _ => none) = some (d :: ds)
      rw [h1, e1]
    · have := okDs_cons h2 e2
      rw [List.length_cons, Nat.mul_succ, Nat.add_comm]; exact this
noncomputable def TgL (H : Hp) (n k : Nat) (l : List V) : Prop := ∀ x ∈ l, Tg H n k x
theorem tgl_ds {H : Hp} {n k : Nat} : ∀ {l : List V}, TgL H n k l → ∃ ds, toPysT H l = some ds ∧ okDs ((n + 2) * l.length) k ds ∧ Ths H l ∧ Fss l
  | [], _ => ⟨[], rfl, okDs_nil, trivial, trivial⟩
  | v :: r, h => by
    obtain ⟨⟨d, h1, h2⟩, h3, h4⟩ := h v List.mem_cons_self
    obtain ⟨ds, e1, e2, e3, e4⟩ := tgl_ds (l := r) fun x hx => h x (List.mem_cons_of_mem _ hx)
    refine ⟨d :: ds, ?_, ?_, ⟨h3, e3⟩, h4, e4⟩
    · show (match toPyT H v, toPysT H r with
        | some d, some ds => some (d :: ds)
        | _, _ => none) = some (d :: ds)
      rw [h1, e1]
    · have := okDs_cons h2 e2
      rw [List.length_cons, Nat.mul_succ, Nat.add_comm]; exact this
theorem ff_pv {n k : Nat} {l : List V} (h : PvL n k l) (hk : k ≤ 60) : Ff l := by
  cases l with
  | nil => trivial
  | cons a r => obtain ⟨⟨d, h1, h2⟩, _⟩ := h a List.mem_cons_self; exact ⟨d, h1, Nat.le_trans h2.2.1 hk⟩
theorem pv_tup {n k m : Nat} {l : List V} (h : PvL n k l) (hl : l.length ≤ m) (hm : m ≤ 1000) (hk : k ≤ 60) : Pv ((n + 2) * m + 3) (k + 1) (.tup l) := by
  obtain ⟨ds, e1, e2, e3⟩ := pvl_ds h
  refine ⟨⟨.tuple ds, ?_, okD_tuple (e2.mono (Nat.mul_le_mul_left _ hl) (Nat.le_refl _))⟩, ?_⟩
  · show (toPys l).map PyData.tuple = _
    rw [e1]; rfl
  · exact ⟨Nat.le_trans hl hm, ff_pv h hk, e3⟩
theorem tg_list {H : Hp} {n k m i : Nat} {l : List V} (h : PvL n k l) (hi : listAt H i = some l) (hl : l.length ≤ m) : Tg H ((n + 2) * m + 3) (k + 1) (.ref i) := by
  obtain ⟨ds, e1, e2, e3⟩ := pvl_ds h
  refine ⟨⟨.list ds, ?_, okD_list (e2.mono (Nat.mul_le_mul_left _ hl) (Nat.le_refl _))⟩, ⟨l, hi⟩, trivial⟩
  show ((listAt H i).bind toPys).map PyData.list = _
  rw [hi]
  show (toPys l).map PyData.list = _
  rw [e1]; rfl
theorem tg_tup {H : Hp} {n k m : Nat} {l : List V} (h : TgL H n k l) (hf : Ff l) (hl : l.length ≤ m) (hm : m ≤ 1000) : Tg H ((n + 2) * m + 3) (k + 1) (.tup l) := by
  obtain ⟨ds, e1, e2, e3, e4⟩ := tgl_ds h
  refine ⟨⟨.tuple ds, ?_, okD_tuple (e2.mono (Nat.mul_le_mul_left _ hl) (Nat.le_refl _))⟩, e3, Nat.le_trans hl hm, hf, e4⟩
  show (toPysT H l).map PyData.tuple = _
  rw [e1]; rfl
/- a row with a tail -/
theorem okDs_snoc {n m k : Nat} {d : PyData} : ∀ {ds : List PyData}, okDs m k ds → okD n k d → okDs (m + n + 2) k (ds ++ [d])
  | [], h1, h2 => (okDs_cons h2 (okDs_nil (n := 0) (k := k))).mono (by omega) (Nat.le_refl _)
  | e :: ds, h1, h2 => by
    have a1 : (e.showable && PyData.showableAll ds) = true := h1.1
    have a3 : max e.depth (PyData.depthAll ds) ≤ k := h1.2.1
    have a4 := h1.2.2
    rw [szs_cons] at a4
    rw [Bool.and_eq_true] at a1
    have := okDs_snoc (m := m - (e.shown.length + 2)) (ds := ds) ⟨a1.2, Nat.le_trans (Nat.le_max_right ..) a3, by omega⟩ h2
    have h3 := okDs_cons (n := e.shown.length) (d := e) (k := k) ⟨a1.1, Nat.le_trans (Nat.le_max_left ..) a3, Nat.le_refl _⟩ this
    exact h3.mono (by omega) (Nat.le_refl _)
theorem toPys_snoc {v : V} {d : PyData} (h : toPy v = some d) : ∀ {l : List V} {ds : List PyData}, toPys l = some ds → toPys (l ++ [v]) = some (ds ++ [d])
  | [], _, e => by
    cases e
    show (match toPy v, toPys [] with
      | some d, some ds => some (d :: ds)
      | _, _ => none) = _
    rw [h]; rfl
  | a :: r, ds, e => by
    have h' : (match toPy a, toPys r with
      | some d, some ds => some (d :: ds)
      | _, _ => none) = some ds := e
    show (match toPy a, toPys (r ++ [v]) with
      | some d, some ds => some (d :: ds)
      | _, _ => none) = _
    cases e1 : toPy a with
    | none => rw [e1] at h'; cases h'
    | some d1 =>
      cases e2 : toPys r with
      | none => rw [e1, e2] at h'; cases h'
      | some es =>
        rw [e1, e2] at h'; cases h'
        rw [toPys_snoc h e2]; rfl
theorem toPysT_snoc {H : Hp} {v : V} {d : PyData} (h : toPyT H v = some d) : ∀ {l : List V} {ds : List PyData}, toPysT H l = some ds → toPysT H (l ++ [v]) = some (ds ++ [d])
  | [], _, e => by
    cases e
    show (match toPyT H v, toPysT H [] with
      | some d, some ds => some (d :: ds)
      | _, _ => none) = _
    rw [h]; rfl
  | a :: r, ds, e => by
    have h' : (match toPyT H a, toPysT H r with
      | some d, some ds => some (d :: ds)
      | _, _ => none) = some ds := e
    show (match toPyT H a, toPysT H (r ++ [v]) with
      | some d, some ds => some (d :: ds)
      | _, _ => none) = _
    cases e1 : toPyT H a with
    | none => rw [e1] at h'; cases h'
    | some d1 =>
      cases e2 : toPysT H r with
      | none => rw [e1, e2] at h'; cases h'
      | some es =>
        rw [e1, e2] at h'; cases h'
        rw [toPysT_snoc h e2]; rfl
theorem Fss_snoc {v : V} (h : Fs v) : ∀ {l : List V}, Fss l → Fss (l ++ [v])
  | [], _ => ⟨h, trivial⟩
  | _ :: _, e => ⟨e.1, Fss_snoc h e.2⟩
theorem Ths_snoc {H : Hp} {v : V} (h : Th H v) : ∀ {l : List V}, Ths H l → Ths H (l ++ [v])
  | [], _ => ⟨h, trivial⟩
  | _ :: _, e => ⟨e.1, Ths_snoc h e.2⟩
theorem Ff_snoc {v : V} {l : List V} (h : Ff l) (hl : 1 ≤ l.length) : Ff (l ++ [v]) := by
  cases l with
  | nil => exact absurd hl (by decide)
  | cons a r => exact h
theorem pv_row {n k N K : Nat} {l : List V} {v : V} (h : PvL n k l) (hv : Pv N K v) (hk : k ≤ K) (hK : K ≤ 60) (h1 : 1 ≤ l.length) (h6 : l.length ≤ 6) :
    Pv ((n + 2) * 6 + N + 5) (K + 1) (.tup (l ++ [v])) ∧ ∀ {H : Hp} {i : Nat}, listAt H i = some (l ++ [v]) → Tg H ((n + 2) * 6 + N + 5) (K + 1) (.ref i) := by
  obtain ⟨ds, e1, e2, e3⟩ := pvl_ds h
  obtain ⟨⟨d, hd, ho⟩, hf⟩ := hv
  have e2' : okDs ((n + 2) * 6) K ds := e2.mono (Nat.mul_le_mul_left _ h6) hk
  have ed := okDs_snoc e2' ho
  have ep := toPys_snoc hd e1
  refine ⟨⟨⟨.tuple (ds ++ [d]), ?_, okD_tuple ed⟩, ?_, Ff_snoc (ff_pv h (Nat.le_trans hk hK)) h1, Fss_snoc hf e3⟩, fun {H i} hi => ⟨⟨.list (ds ++ [d]), ?_, okD_list ed⟩, ⟨_, hi⟩, trivial⟩⟩
  · show (toPys (l ++ [v])).map PyData.tuple = _
    rw [ep]; rfl
  · rw [List.length_append]; show l.length + 1 ≤ 1000; omega
  · show ((listAt H i).bind toPys).map PyData.list = _
    rw [hi]
    show (toPys (l ++ [v])).map PyData.list = _
    rw [ep]; rfl
theorem tg_row {H : Hp} {n k N K : Nat} {l : List V} {v : V} (h : TgL H n k l) (hf : Ff l) (hv : Tg H N K v) (hk : k ≤ K) (h1 : 1 ≤ l.length) (h6 : l.length ≤ 6) :
    Tg H ((n + 2) * 6 + N + 5) (K + 1) (.tup (l ++ [v])) := by
  obtain ⟨ds, e1, e2, e3, e4⟩ := tgl_ds h
  obtain ⟨⟨d, hd, ho⟩, ht, hfs⟩ := hv
  have e2' : okDs ((n + 2) * 6) K ds := e2.mono (Nat.mul_le_mul_left _ h6) hk
  have ed := okDs_snoc e2' ho
  have ep := toPysT_snoc hd e1
  refine ⟨⟨.tuple (ds ++ [d]), ?_, okD_tuple ed⟩, Ths_snoc ht e3, ?_, Ff_snoc hf h1, Fss_snoc hfs e4⟩
  · show (toPysT H (l ++ [v])).map PyData.tuple = _
    rw [ep]; rfl
  · rw [List.length_append]; show l.length + 1 ≤ 1000; omega
end Mine

set_option autoImplicit false
set_option linter.unusedSimpArgs false
set_option maxRecDepth 20000
/- Law 05: what is built. -/
namespace Mine
open PySem

theorem idx_any {α : Type} {l : List α} {k : Int} {P : α → Prop} (h0 : 0 ≤ k) (h1 : k < (l.length : Int)) (h : ∀ v ∈ l, P v) : oK (idx l k) P := by
  have hk : k.toNat < l.length := by omega
  unfold idx
  rw [if_pos h0, List.getElem?_eq_getElem hk]
  exact h _ (List.getElem_mem hk)
theorem mod_in {c m : Int} (hm : 0 < m) : 0 ≤ c % m ∧ c % m < m := ⟨Int.emod_nonneg _ (by omega), Int.emod_lt_of_pos _ hm⟩

noncomputable def C_cell5 : Ctr := fun vs H Q _ => ∃ ns k, vs = [.scr ns, .int k] ∧ 0 ≤ k ∧ ∀ i, Q (.int i) H
theorem w_cell5 : ∀ vs H Q X, C_cell5 vs H Q X → wpFn Eb f_l_cell_at vs H Q X := by
  rintro vs H Q X ⟨ns, k, rfl, hk, q⟩
  refine fn_of rfl ?_
  change wpSs Eb f_l_cell_at.body [some (.scr ns), some (.int k), none, none, none] H _ _
  refine zs_cons ?_
  generalize hK : sqX Eb (_ :: _) = K
  simp only [↓X_lit, ↓X_loc, ↓X_bin, ↓negX_int, ↓X_neg, ↓X_not, ↓Y_not, ↓X_and, ↓Y_and, ↓X_or, ↓Y_or, ↓X_cmp, ↓X_cmp2, ↓X_ite, ↓Y_ite, ↓X_tup, ↓X_lst, ↓X_call, ↓X_meth, ↓X_sub, ↓X_comp, ↓Y_lit, ↓Y_loc, ↓Y_cmp, ↓Y_cmp2, ↓Y_call, ↓Y_sub, ↓XEs_nil, ↓XEs_cons, ↓XIfs_nil, ↓XIfs_cons, ↓Z_expr, ↓Z_assign, ↓Z_ret, ↓Z_retNone, ↓Z_ite, ↓Z_for, ↓Z_pass, ↓Z_brk, ↓Z_cont, ↓Zs_nil, ↓sqX_next, ↓sqX_brk, ↓sqX_cont, ↓sqX_ret, ↓Zs_cons, ↓wkX_next, ↓wkX_cont, ↓wkX_brk, ↓wkX_ret, ↓fkX_next, ↓fkX_cont, ↓fkX_brk, ↓fkX_ret, ↓xb_one, ↓oKK_some, ↓oK_some, ↓tX_bool, ↓iX_t, ↓iX_f, ↓iX_d, ↓q_add, ↓q_sub, ↓q_mul, ↓q_div, ↓q_mod, ↓q_pow, ↓q_list, ↓q_eq, ↓q_ne, ↓q_eqs, ↓q_nes, ↓q_eqb, ↓q_lt, ↓q_le, ↓q_gt, ↓q_ge, ↓q_in, ↓q_inl, ↓q_nin, ↓q_is, ↓q_isnot, ↓q_stup, ↓q_sref, ↓q_sscr, ↓q_fn, ↓q_lentup, ↓q_lenref, ↓q_lenscr, ↓q_isi, ↓q_all, ↓q_max, ↓q_min, ↓q_int, ↓q_tuple, ↓q_listc, ↓q_append, ↓q_clear, ↓q_index, ↓q_pop, ↓q_slicet, ↓q_revt, ↓q_revl, ↓q_set, ↓q_repr, ↓q_eqo, ↓X_rev, ↓Z_set, ↓q_addt, ↓q_listt, ↓q_ninl, ↓u_tup, ↓u_ref, ↓u_range, ↓q_slice, ↓oi_none, ↓oi_int, ↓X_slice, ↓XO_none, ↓XO_some, ↓u_rev, ↓u_zip, ↓xb_two, ↓u_range2, ↓retV_ret, ↓retV_next, List.getElem?_cons_zero, List.getElem?_cons_succ, List.set_cons_zero, List.set_cons_succ, Bool.not_true, Bool.not_false, idx_0, idx_1, idx_2, idx_3, idx_4, idx_5, Int.reduceAdd, Int.reduceSub, Int.reduceMul, Int.reduceNeg, Int.reducePow, Int.reduceLT, Int.reduceLE, Int.reduceEq, Int.reduceNe, Int.reduceToNat, Int.reduceAbs, Nat.reduceAdd, Nat.reduceLT, Nat.reduceLeDiff, Nat.reducePow, Nat.reduceLT, List.length_cons, List.length_nil, true_implies, false_implies, not_true_eq_false, not_false_eq_true, and_true, true_and, and_self, or_true, true_or, decide_true, decide_false, exists_eq_left', Option.some.injEq]
  refine ⟨fun h => idx_any hk h fun v _ => ?_, fun h => ?_⟩
  · subst hK; exact q v
  · subst hK; exact q 0
noncomputable def Ec : Orc := ext "_law_cell_at" C_cell5 Eb
noncomputable def C_wd5 : Ctr := fun vs H Q _ => ∃ b, vs = [.int b] ∧ ∀ l H', H <+: H' → l.length ≤ 7 → PvL 35 0 l → Q (.tup l) H'
noncomputable abbrev wdB : List IS := [(.ite (.cmp (.bin .Mod (.loc 0) (.lit (.int 2))) .Eq (.lit (.int 1))) [(.expr (.meth (.loc 1) .append [(.loc 2)]))] []), (.assign 0 (.bin .FloorDiv (.loc 0) (.lit (.int 2))))]
theorem pvl_snoc {n k : Nat} {l : List V} {v : V} (h : PvL n k l) (hv : Pv n k v) : PvL n k (l ++ [v]) := fun x hx => by
  rcases List.mem_append.mp hx with q | q
  · exact h x q
  · rw [List.mem_singleton.mp q]; exact hv
theorem wd_loop {Φ : Orc} {XF : XS} {H0 : Hp} {t3 t4 t5 : Option V} {Q : QS} : ∀ (ks : List V) (b : Int) (l : List V) (t2 : Option V), (∀ k ∈ ks, Pv 35 0 k) → PvL 35 0 l → l.length + ks.length ≤ 7 →
    (∀ b' l' t2', PvL 35 0 l' → l'.length ≤ 7 → Q .next [some (.int b'), some (.ref H0.length), t2', t3, t4, t5] (H0 ++ [.list l'])) →
    forGo (whBX Φ wdB XF) (fun _ => True) [2] ks [some (.int b), some (.ref H0.length), t2, t3, t4, t5] (H0 ++ [.list l]) Q := by
  intro ks
  induction ks with
  | nil => intro b l t2 _ hl hn q; exact q _ _ _ hl hn
  | cons k ks ih =>
    intro b l t2 hk hl hn q
    rw [List.length_cons] at hn
    rw [foX_cons]
    show wpSs Φ wdB [some (.int b), some (.ref H0.length), some k, t3, t4, t5] (H0 ++ [.list l]) _ _
    refine zs_cons ?_
    generalize hK : sqX Φ (_ :: _) = K
    simp only [↓X_lit, ↓X_loc, ↓X_bin, ↓negX_int, ↓X_neg, ↓X_not, ↓Y_not, ↓X_and, ↓Y_and, ↓X_or, ↓Y_or, ↓X_cmp, ↓X_cmp2, ↓X_ite, ↓Y_ite, ↓X_tup, ↓X_lst, ↓X_call, ↓X_meth, ↓X_sub, ↓X_comp, ↓Y_lit, ↓Y_loc, ↓Y_cmp, ↓Y_cmp2, ↓Y_call, ↓Y_sub, ↓XEs_nil, ↓XEs_cons, ↓XIfs_nil, ↓XIfs_cons, ↓Z_expr, ↓Z_assign, ↓Z_ret, ↓Z_retNone, ↓Z_ite, ↓Z_for, ↓Z_pass, ↓Z_brk, ↓Z_cont, ↓Zs_nil, ↓sqX_next, ↓sqX_brk, ↓sqX_cont, ↓sqX_ret, ↓Zs_cons, ↓wkX_next, ↓wkX_cont, ↓wkX_brk, ↓wkX_ret, ↓fkX_next, ↓fkX_cont, ↓fkX_brk, ↓fkX_ret, ↓xb_one, ↓oKK_some, ↓oK_some, ↓tX_bool, ↓iX_t, ↓iX_f, ↓iX_d, ↓q_add, ↓q_sub, ↓q_mul, ↓q_div, ↓q_mod, ↓q_pow, ↓q_list, ↓q_eq, ↓q_ne, ↓q_eqs, ↓q_nes, ↓q_eqb, ↓q_lt, ↓q_le, ↓q_gt, ↓q_ge, ↓q_in, ↓q_inl, ↓q_nin, ↓q_is, ↓q_isnot, ↓q_stup, ↓q_sref, ↓q_sscr, ↓q_fn, ↓q_lentup, ↓q_lenref, ↓q_lenscr, ↓q_isi, ↓q_all, ↓q_max, ↓q_min, ↓q_int, ↓q_tuple, ↓q_listc, ↓q_append, ↓q_clear, ↓q_index, ↓q_pop, ↓q_slicet, ↓q_revt, ↓q_revl, ↓q_set, ↓q_repr, ↓q_eqo, ↓X_rev, ↓Z_set, ↓q_addt, ↓q_listt, ↓q_ninl, ↓u_tup, ↓u_ref, ↓u_range, ↓q_slice, ↓oi_none, ↓oi_int, ↓X_slice, ↓XO_none, ↓XO_some, ↓u_rev, ↓u_zip, ↓xb_two, ↓u_range2, ↓retV_ret, ↓retV_next, List.getElem?_cons_zero, List.getElem?_cons_succ, List.set_cons_zero, List.set_cons_succ, Bool.not_true, Bool.not_false, idx_0, idx_1, idx_2, idx_3, idx_4, idx_5, Int.reduceAdd, Int.reduceSub, Int.reduceMul, Int.reduceNeg, Int.reducePow, Int.reduceLT, Int.reduceLE, Int.reduceEq, Int.reduceNe, Int.reduceToNat, Int.reduceAbs, Nat.reduceAdd, Nat.reduceLT, Nat.reduceLeDiff, Nat.reducePow, Nat.reduceLT, List.length_cons, List.length_nil, true_implies, false_implies, not_true_eq_false, not_false_eq_true, and_true, true_and, and_self, or_true, true_or, decide_true, decide_false, exists_eq_left', Option.some.injEq, okMeth, listAt_new, set_new]
    refine ⟨fun _ => ⟨⟨l, rfl⟩, by omega, ?_⟩, fun _ => ?_⟩
    · subst hK
      exact ⟨⟨by decide, by decide⟩, trivial, ih _ _ _ (fun x hx => hk x (List.mem_cons_of_mem _ hx)) (pvl_snoc hl (hk k List.mem_cons_self)) (by rw [List.length_append]; show l.length + 1 + ks.length ≤ 7; omega) q⟩
    · subst hK
      exact ⟨⟨by decide, by decide⟩, trivial, ih _ _ _ (fun x hx => hk x (List.mem_cons_of_mem _ hx)) hl (by omega) q⟩
theorem pv_range {a b : Int} (h1 : -(10 ^ 31) < a) (h2 : b ≤ 10 ^ 31) : ∀ k ∈ rangeL a b, Pv 35 0 k := by
  intro k hk
  obtain ⟨m, hm, rfl⟩ := List.mem_map.mp hk
  have := List.mem_range.mp hm
  exact pv_int (by decide) (by omega) (by omega)
theorem w_wd5 : ∀ vs H Q X, C_wd5 vs H Q X → wpFn Ec f_l_weekdays vs H Q X := by
  rintro vs H Q X ⟨b, rfl, q⟩
  refine fn_of rfl ?_
  change wpSs Ec f_l_weekdays.body [some (.int b), none, none, none, none, none] H _ _
  refine zs_cons ⟨by decide, ?_⟩
  change wpSs Ec (f_l_weekdays.body.drop 1) [some (.int b), some (.ref H.length), none, none, none, none] (H ++ [.list []]) _ _
  refine zs_cons ⟨⟨by decide, by decide⟩, ?_⟩
  refine wd_loop (rangeL 0 7) b [] none (pv_range (by decide) (by decide)) (fun x hx => nomatch hx) (by decide) fun b' l' t2' hl' hn' => ?_
  refine zs_cons ?_
  generalize hK : sqX Ec [] = K
  simp only [↓X_lit, ↓X_loc, ↓X_bin, ↓negX_int, ↓X_neg, ↓X_not, ↓Y_not, ↓X_and, ↓Y_and, ↓X_or, ↓Y_or, ↓X_cmp, ↓X_cmp2, ↓X_ite, ↓Y_ite, ↓X_tup, ↓X_lst, ↓X_call, ↓X_meth, ↓X_sub, ↓X_comp, ↓Y_lit, ↓Y_loc, ↓Y_cmp, ↓Y_cmp2, ↓Y_call, ↓Y_sub, ↓XEs_nil, ↓XEs_cons, ↓XIfs_nil, ↓XIfs_cons, ↓Z_expr, ↓Z_assign, ↓Z_ret, ↓Z_retNone, ↓Z_ite, ↓Z_for, ↓Z_pass, ↓Z_brk, ↓Z_cont, ↓Zs_nil, ↓sqX_next, ↓sqX_brk, ↓sqX_cont, ↓sqX_ret, ↓Zs_cons, ↓wkX_next, ↓wkX_cont, ↓wkX_brk, ↓wkX_ret, ↓fkX_next, ↓fkX_cont, ↓fkX_brk, ↓fkX_ret, ↓xb_one, ↓oKK_some, ↓oK_some, ↓tX_bool, ↓iX_t, ↓iX_f, ↓iX_d, ↓q_add, ↓q_sub, ↓q_mul, ↓q_div, ↓q_mod, ↓q_pow, ↓q_list, ↓q_eq, ↓q_ne, ↓q_eqs, ↓q_nes, ↓q_eqb, ↓q_lt, ↓q_le, ↓q_gt, ↓q_ge, ↓q_in, ↓q_inl, ↓q_nin, ↓q_is, ↓q_isnot, ↓q_stup, ↓q_sref, ↓q_sscr, ↓q_fn, ↓q_lentup, ↓q_lenref, ↓q_lenscr, ↓q_isi, ↓q_all, ↓q_max, ↓q_min, ↓q_int, ↓q_tuple, ↓q_listc, ↓q_append, ↓q_clear, ↓q_index, ↓q_pop, ↓q_slicet, ↓q_revt, ↓q_revl, ↓q_set, ↓q_repr, ↓q_eqo, ↓X_rev, ↓Z_set, ↓q_addt, ↓q_listt, ↓q_ninl, ↓u_tup, ↓u_ref, ↓u_range, ↓q_slice, ↓oi_none, ↓oi_int, ↓X_slice, ↓XO_none, ↓XO_some, ↓u_rev, ↓u_zip, ↓xb_two, ↓u_range2, ↓retV_ret, ↓retV_next, List.getElem?_cons_zero, List.getElem?_cons_succ, List.set_cons_zero, List.set_cons_succ, Bool.not_true, Bool.not_false, idx_0, idx_1, idx_2, idx_3, idx_4, idx_5, Int.reduceAdd, Int.reduceSub, Int.reduceMul, Int.reduceNeg, Int.reducePow, Int.reduceLT, Int.reduceLE, Int.reduceEq, Int.reduceNe, Int.reduceToNat, Int.reduceAbs, Nat.reduceAdd, Nat.reduceLT, Nat.reduceLeDiff, Nat.reducePow, Nat.reduceLT, List.length_cons, List.length_nil, true_implies, false_implies, not_true_eq_false, not_false_eq_true, and_true, true_and, and_self, or_true, true_or, decide_true, decide_false, exists_eq_left', Option.some.injEq, listAt_new]
  subst hK
  exact q l' _ pre_new hn' hl'
noncomputable def Ed : Orc := ext "_law_weekdays" C_wd5 Ec
noncomputable def C_tm5 : Ctr := fun vs H Q _ => ∃ c, vs = [.int c] ∧ ∀ i H', H <+: H' → 0 ≤ i → i < 10 ^ 12 → Q (.int i) H'
theorem w_tm5 : ∀ vs H Q X, C_tm5 vs H Q X → wpFn Ed f_l_time vs H Q X := by
  rintro vs H Q X ⟨c, rfl, q⟩
  refine fn_of rfl ?_
  change wpSs Ed f_l_time.body [some (.int c), none, none, none] H _ _
  refine zs_cons ?_
  generalize hK : sqX Ed [] = K
  simp only [↓X_lit, ↓X_loc, ↓X_bin, ↓negX_int, ↓X_neg, ↓X_not, ↓Y_not, ↓X_and, ↓Y_and, ↓X_or, ↓Y_or, ↓X_cmp, ↓X_cmp2, ↓X_ite, ↓Y_ite, ↓X_tup, ↓X_lst, ↓X_call, ↓X_meth, ↓X_sub, ↓X_comp, ↓Y_lit, ↓Y_loc, ↓Y_cmp, ↓Y_cmp2, ↓Y_call, ↓Y_sub, ↓XEs_nil, ↓XEs_cons, ↓XIfs_nil, ↓XIfs_cons, ↓Z_expr, ↓Z_assign, ↓Z_ret, ↓Z_retNone, ↓Z_ite, ↓Z_for, ↓Z_pass, ↓Z_brk, ↓Z_cont, ↓Zs_nil, ↓sqX_next, ↓sqX_brk, ↓sqX_cont, ↓sqX_ret, ↓Zs_cons, ↓wkX_next, ↓wkX_cont, ↓wkX_brk, ↓wkX_ret, ↓fkX_next, ↓fkX_cont, ↓fkX_brk, ↓fkX_ret, ↓xb_one, ↓oKK_some, ↓oK_some, ↓tX_bool, ↓iX_t, ↓iX_f, ↓iX_d, ↓q_add, ↓q_sub, ↓q_mul, ↓q_div, ↓q_mod, ↓q_pow, ↓q_list, ↓q_eq, ↓q_ne, ↓q_eqs, ↓q_nes, ↓q_eqb, ↓q_lt, ↓q_le, ↓q_gt, ↓q_ge, ↓q_in, ↓q_inl, ↓q_nin, ↓q_is, ↓q_isnot, ↓q_stup, ↓q_sref, ↓q_sscr, ↓q_fn, ↓q_lentup, ↓q_lenref, ↓q_lenscr, ↓q_isi, ↓q_all, ↓q_max, ↓q_min, ↓q_int, ↓q_tuple, ↓q_listc, ↓q_append, ↓q_clear, ↓q_index, ↓q_pop, ↓q_slicet, ↓q_revt, ↓q_revl, ↓q_set, ↓q_repr, ↓q_eqo, ↓X_rev, ↓Z_set, ↓q_addt, ↓q_listt, ↓q_ninl, ↓u_tup, ↓u_ref, ↓u_range, ↓q_slice, ↓oi_none, ↓oi_int, ↓X_slice, ↓XO_none, ↓XO_some, ↓u_rev, ↓u_zip, ↓xb_two, ↓u_range2, ↓retV_ret, ↓retV_next, List.getElem?_cons_zero, List.getElem?_cons_succ, List.set_cons_zero, List.set_cons_succ, Bool.not_true, Bool.not_false, idx_0, idx_1, idx_2, idx_3, idx_4, idx_5, Int.reduceAdd, Int.reduceSub, Int.reduceMul, Int.reduceNeg, Int.reducePow, Int.reduceLT, Int.reduceLE, Int.reduceEq, Int.reduceNe, Int.reduceToNat, Int.reduceAbs, Nat.reduceAdd, Nat.reduceLT, Nat.reduceLeDiff, Nat.reducePow, Nat.reduceLT, List.length_cons, List.length_nil, true_implies, false_implies, not_true_eq_false, not_false_eq_true, and_true, true_and, and_self, or_true, true_or, decide_true, decide_false, exists_eq_left', Option.some.injEq, listAt_new]
  have e3 := mod_in (c := c) (m := 3) (by decide)
  have e4 := mod_in (c := c / 3) (m := 3) (by decide)
  have e5 := mod_in (c := c / 3) (m := 200) (by decide)
  have e6 := mod_in (c := c / 3) (m := 1000000000000) (by decide)
  refine idx_any e3.1 e3.2 fun v hv => ?_
  subst hK
  simp only [List.mem_cons, List.not_mem_nil, or_false] at hv
  rcases hv with rfl | rfl | rfl
  · exact q _ _ pre_new e5.1 (by omega)
  · exact q _ _ pre_new e6.1 (by omega)
  · exact q _ _ pre_new (by omega) (by omega)
noncomputable def Ee : Orc := ext "_law_time" C_tm5 Ed
theorem ee_t : Ee "_law_time" = C_tm5 := rfl
theorem ee_w : Ee "_law_weekdays" = C_wd5 := rfl
/- a row: its first part a word -/
noncomputable def ItP (x : V) : Prop := Pv 2000 2 x ∧ ∀ ds, x = .tup ds → ds.length ≤ 20 ∧ PvL 35 0 ds
theorem it_int {i : Int} (h1 : -(10 ^ 31) < i) (h2 : i < 10 ^ 31) : ItP (.int i) := ⟨pv_int (by decide) h1 h2, fun _ e => nomatch e⟩
theorem it_nat {i : Int} (h1 : 0 ≤ i) (h2 : i < 10 ^ 12) : ItP (.int i) := it_int (by omega) (by omega)
theorem it_str {w : Str} (h : okStr w = true) : ItP (.str w) := ⟨pv_str (by decide) h, fun _ e => nomatch e⟩
theorem tup_pv {l : List V} (h : PvL 35 0 l) (hl : l.length ≤ 45) : Pv 2000 2 (.tup l) := (pv_tup h hl (by decide) (by decide)).mono (by decide) (by decide)
theorem it_days {l : List V} (h : PvL 35 0 l) (hl : l.length ≤ 20) : ItP (.tup l) := ⟨tup_pv h (by omega), fun ds e => by cases e; exact ⟨hl, h⟩⟩
theorem itl1 {a : V} (ha : ItP a) : ∀ x ∈ [a], ItP x := fun x hx => by
  rw [List.mem_singleton.mp hx]; exact ha
theorem itl2 {a : V} {r : List V} (ha : ItP a) (hb : ∀ x ∈ r, ItP x) : ∀ x ∈ a :: r, ItP x := fun x hx => by
  rcases List.mem_cons.mp hx with q | q
  · rw [q]; exact ha
  · exact hb x q
noncomputable def Row (m : Nat) (l : List V) : Prop := 2 ≤ l.length ∧ l.length ≤ m ∧ (∀ x ∈ l, ItP x) ∧ ∃ w r, l = .str w :: r
noncomputable def C_wp5 : Ctr := fun vs H Q _ => ∃ i a b c, vs = [.ref i] ∧ listAt H i = some [.int a, .int b, .int c] ∧ ∀ l H', H <+: H' → Row 4 l → Q (.tup l) H'
theorem row_of {w : Str} {r : List V} {m : Nat} (hw : okStr w = true) (h1 : 1 ≤ r.length) (h2 : r.length + 1 ≤ m) (h : ∀ x ∈ r, ItP x) : Row m (.str w :: r) := by
  refine ⟨by rw [List.length_cons]; omega, by rw [List.length_cons]; omega, fun x hx => ?_, w, r, rfl⟩
  rcases List.mem_cons.mp hx with q | q
  · rw [q]; exact it_str hw
  · exact h x q
theorem w_wp5 : ∀ vs H Q X, C_wp5 vs H Q X → wpFn Ee f_l_wide_plain vs H Q X := by
  rintro vs H Q X ⟨i, a, b, c, rfl, hl, q⟩
  refine fn_of rfl ?_
  change wpSs Ee f_l_wide_plain.body [some (.ref i), none, none, none, none, none, none] H _ _
  refine zs_cons ?_
  generalize hK : sqX Ee (_ :: _) = K
  simp only [↓X_lit, ↓X_loc, ↓X_bin, ↓negX_int, ↓X_neg, ↓X_not, ↓Y_not, ↓X_and, ↓Y_and, ↓X_or, ↓Y_or, ↓X_cmp, ↓X_cmp2, ↓X_ite, ↓Y_ite, ↓X_tup, ↓X_lst, ↓X_call, ↓X_meth, ↓X_sub, ↓X_comp, ↓Y_lit, ↓Y_loc, ↓Y_cmp, ↓Y_cmp2, ↓Y_call, ↓Y_sub, ↓XEs_nil, ↓XEs_cons, ↓XIfs_nil, ↓XIfs_cons, ↓Z_expr, ↓Z_assign, ↓Z_ret, ↓Z_retNone, ↓Z_ite, ↓Z_for, ↓Z_pass, ↓Z_brk, ↓Z_cont, ↓Zs_nil, ↓sqX_next, ↓sqX_brk, ↓sqX_cont, ↓sqX_ret, ↓Zs_cons, ↓wkX_next, ↓wkX_cont, ↓wkX_brk, ↓wkX_ret, ↓fkX_next, ↓fkX_cont, ↓fkX_brk, ↓fkX_ret, ↓xb_one, ↓oKK_some, ↓oK_some, ↓tX_bool, ↓iX_t, ↓iX_f, ↓iX_d, ↓q_add, ↓q_sub, ↓q_mul, ↓q_div, ↓q_mod, ↓q_pow, ↓q_list, ↓q_eq, ↓q_ne, ↓q_eqs, ↓q_nes, ↓q_eqb, ↓q_lt, ↓q_le, ↓q_gt, ↓q_ge, ↓q_in, ↓q_inl, ↓q_nin, ↓q_is, ↓q_isnot, ↓q_stup, ↓q_sref, ↓q_sscr, ↓q_fn, ↓q_lentup, ↓q_lenref, ↓q_lenscr, ↓q_isi, ↓q_all, ↓q_max, ↓q_min, ↓q_int, ↓q_tuple, ↓q_listc, ↓q_append, ↓q_clear, ↓q_index, ↓q_pop, ↓q_slicet, ↓q_revt, ↓q_revl, ↓q_set, ↓q_repr, ↓q_eqo, ↓X_rev, ↓Z_set, ↓q_addt, ↓q_listt, ↓q_ninl, ↓u_tup, ↓u_ref, ↓u_range, ↓q_slice, ↓oi_none, ↓oi_int, ↓X_slice, ↓XO_none, ↓XO_some, ↓u_rev, ↓u_zip, ↓xb_two, ↓u_range2, ↓retV_ret, ↓retV_next, List.getElem?_cons_zero, List.getElem?_cons_succ, List.set_cons_zero, List.set_cons_succ, Bool.not_true, Bool.not_false, idx_0, idx_1, idx_2, idx_3, idx_4, idx_5, Int.reduceAdd, Int.reduceSub, Int.reduceMul, Int.reduceNeg, Int.reducePow, Int.reduceLT, Int.reduceLE, Int.reduceEq, Int.reduceNe, Int.reduceToNat, Int.reduceAbs, Nat.reduceAdd, Nat.reduceLT, Nat.reduceLeDiff, Nat.reducePow, Nat.reduceLT, List.length_cons, List.length_nil, true_implies, false_implies, not_true_eq_false, not_false_eq_true, and_true, true_and, and_self, or_true, true_or, decide_true, decide_false, exists_eq_left', Option.some.injEq, hl]
  subst hK
  change wpSs Ee (f_l_wide_plain.body.drop 1) [some (.ref i), some (.int (a % 4)), none, none, none, none, none] H _ _
  refine zs_cons ?_
  generalize hK : sqX Ee (_ :: _) = K
  simp only [↓X_lit, ↓X_loc, ↓X_bin, ↓negX_int, ↓X_neg, ↓X_not, ↓Y_not, ↓X_and, ↓Y_and, ↓X_or, ↓Y_or, ↓X_cmp, ↓X_cmp2, ↓X_ite, ↓Y_ite, ↓X_tup, ↓X_lst, ↓X_call, ↓X_meth, ↓X_sub, ↓X_comp, ↓Y_lit, ↓Y_loc, ↓Y_cmp, ↓Y_cmp2, ↓Y_call, ↓Y_sub, ↓XEs_nil, ↓XEs_cons, ↓XIfs_nil, ↓XIfs_cons, ↓Z_expr, ↓Z_assign, ↓Z_ret, ↓Z_retNone, ↓Z_ite, ↓Z_for, ↓Z_pass, ↓Z_brk, ↓Z_cont, ↓Zs_nil, ↓sqX_next, ↓sqX_brk, ↓sqX_cont, ↓sqX_ret, ↓Zs_cons, ↓wkX_next, ↓wkX_cont, ↓wkX_brk, ↓wkX_ret, ↓fkX_next, ↓fkX_cont, ↓fkX_brk, ↓fkX_ret, ↓xb_one, ↓oKK_some, ↓oK_some, ↓tX_bool, ↓iX_t, ↓iX_f, ↓iX_d, ↓q_add, ↓q_sub, ↓q_mul, ↓q_div, ↓q_mod, ↓q_pow, ↓q_list, ↓q_eq, ↓q_ne, ↓q_eqs, ↓q_nes, ↓q_eqb, ↓q_lt, ↓q_le, ↓q_gt, ↓q_ge, ↓q_in, ↓q_inl, ↓q_nin, ↓q_is, ↓q_isnot, ↓q_stup, ↓q_sref, ↓q_sscr, ↓q_fn, ↓q_lentup, ↓q_lenref, ↓q_lenscr, ↓q_isi, ↓q_all, ↓q_max, ↓q_min, ↓q_int, ↓q_tuple, ↓q_listc, ↓q_append, ↓q_clear, ↓q_index, ↓q_pop, ↓q_slicet, ↓q_revt, ↓q_revl, ↓q_set, ↓q_repr, ↓q_eqo, ↓X_rev, ↓Z_set, ↓q_addt, ↓q_listt, ↓q_ninl, ↓u_tup, ↓u_ref, ↓u_range, ↓q_slice, ↓oi_none, ↓oi_int, ↓X_slice, ↓XO_none, ↓XO_some, ↓u_rev, ↓u_zip, ↓xb_two, ↓u_range2, ↓retV_ret, ↓retV_next, List.getElem?_cons_zero, List.getElem?_cons_succ, List.set_cons_zero, List.set_cons_succ, Bool.not_true, Bool.not_false, idx_0, idx_1, idx_2, idx_3, idx_4, idx_5, Int.reduceAdd, Int.reduceSub, Int.reduceMul, Int.reduceNeg, Int.reducePow, Int.reduceLT, Int.reduceLE, Int.reduceEq, Int.reduceNe, Int.reduceToNat, Int.reduceAbs, Nat.reduceAdd, Nat.reduceLT, Nat.reduceLeDiff, Nat.reducePow, Nat.reduceLT, List.length_cons, List.length_nil, true_implies, false_implies, not_true_eq_false, not_false_eq_true, and_true, true_and, and_self, or_true, true_or, decide_true, decide_false, exists_eq_left', Option.some.injEq, hl]
  subst hK
  have e48 := mod_in (c := a / 4) (m := 48) (by decide)
  generalize hz : 1 + a / 4 % 48 = z
  generalize hk : a % 4 = k
  change wpSs Ee (f_l_wide_plain.body.drop 2) [some (.ref i), some (.int k), some (.int z), none, none, none, none] H _ _
  have hzp : ItP (.int z) := it_nat (by omega) (by omega)
  have e24 := mod_in (c := b) (m := 24) (by decide)
  refine zs_cons ?_
  generalize hK : sqX Ee (_ :: _) = K
  simp only [↓X_lit, ↓X_loc, ↓X_bin, ↓negX_int, ↓X_neg, ↓X_not, ↓Y_not, ↓X_and, ↓Y_and, ↓X_or, ↓Y_or, ↓X_cmp, ↓X_cmp2, ↓X_ite, ↓Y_ite, ↓X_tup, ↓X_lst, ↓X_call, ↓X_meth, ↓X_sub, ↓X_comp, ↓Y_lit, ↓Y_loc, ↓Y_cmp, ↓Y_cmp2, ↓Y_call, ↓Y_sub, ↓XEs_nil, ↓XEs_cons, ↓XIfs_nil, ↓XIfs_cons, ↓Z_expr, ↓Z_assign, ↓Z_ret, ↓Z_retNone, ↓Z_ite, ↓Z_for, ↓Z_pass, ↓Z_brk, ↓Z_cont, ↓Zs_nil, ↓sqX_next, ↓sqX_brk, ↓sqX_cont, ↓sqX_ret, ↓Zs_cons, ↓wkX_next, ↓wkX_cont, ↓wkX_brk, ↓wkX_ret, ↓fkX_next, ↓fkX_cont, ↓fkX_brk, ↓fkX_ret, ↓xb_one, ↓oKK_some, ↓oK_some, ↓tX_bool, ↓iX_t, ↓iX_f, ↓iX_d, ↓q_add, ↓q_sub, ↓q_mul, ↓q_div, ↓q_mod, ↓q_pow, ↓q_list, ↓q_eq, ↓q_ne, ↓q_eqs, ↓q_nes, ↓q_eqb, ↓q_lt, ↓q_le, ↓q_gt, ↓q_ge, ↓q_in, ↓q_inl, ↓q_nin, ↓q_is, ↓q_isnot, ↓q_stup, ↓q_sref, ↓q_sscr, ↓q_fn, ↓q_lentup, ↓q_lenref, ↓q_lenscr, ↓q_isi, ↓q_all, ↓q_max, ↓q_min, ↓q_int, ↓q_tuple, ↓q_listc, ↓q_append, ↓q_clear, ↓q_index, ↓q_pop, ↓q_slicet, ↓q_revt, ↓q_revl, ↓q_set, ↓q_repr, ↓q_eqo, ↓X_rev, ↓Z_set, ↓q_addt, ↓q_listt, ↓q_ninl, ↓u_tup, ↓u_ref, ↓u_range, ↓q_slice, ↓oi_none, ↓oi_int, ↓X_slice, ↓XO_none, ↓XO_some, ↓u_rev, ↓u_zip, ↓xb_two, ↓u_range2, ↓retV_ret, ↓retV_next, List.getElem?_cons_zero, List.getElem?_cons_succ, List.set_cons_zero, List.set_cons_succ, Bool.not_true, Bool.not_false, idx_0, idx_1, idx_2, idx_3, idx_4, idx_5, Int.reduceAdd, Int.reduceSub, Int.reduceMul, Int.reduceNeg, Int.reducePow, Int.reduceLT, Int.reduceLE, Int.reduceEq, Int.reduceNe, Int.reduceToNat, Int.reduceAbs, Nat.reduceAdd, Nat.reduceLT, Nat.reduceLeDiff, Nat.reducePow, Nat.reduceLT, List.length_cons, List.length_nil, true_implies, false_implies, not_true_eq_false, not_false_eq_true, and_true, true_and, and_self, or_true, true_or, decide_true, decide_false, exists_eq_left', Option.some.injEq, hl, ↓ee_t]
  refine ⟨fun _ => ⟨b, rfl, fun t H' hp h1 h2 => ?_⟩, fun _ => ?_⟩
  · simp only [↓X_lit, ↓X_loc, ↓X_bin, ↓negX_int, ↓X_neg, ↓X_not, ↓Y_not, ↓X_and, ↓Y_and, ↓X_or, ↓Y_or, ↓X_cmp, ↓X_cmp2, ↓X_ite, ↓Y_ite, ↓X_tup, ↓X_lst, ↓X_call, ↓X_meth, ↓X_sub, ↓X_comp, ↓Y_lit, ↓Y_loc, ↓Y_cmp, ↓Y_cmp2, ↓Y_call, ↓Y_sub, ↓XEs_nil, ↓XEs_cons, ↓XIfs_nil, ↓XIfs_cons, ↓Z_expr, ↓Z_assign, ↓Z_ret, ↓Z_retNone, ↓Z_ite, ↓Z_for, ↓Z_pass, ↓Z_brk, ↓Z_cont, ↓Zs_nil, ↓sqX_next, ↓sqX_brk, ↓sqX_cont, ↓sqX_ret, ↓Zs_cons, ↓wkX_next, ↓wkX_cont, ↓wkX_brk, ↓wkX_ret, ↓fkX_next, ↓fkX_cont, ↓fkX_brk, ↓fkX_ret, ↓xb_one, ↓oKK_some, ↓oK_some, ↓tX_bool, ↓iX_t, ↓iX_f, ↓iX_d, ↓q_add, ↓q_sub, ↓q_mul, ↓q_div, ↓q_mod, ↓q_pow, ↓q_list, ↓q_eq, ↓q_ne, ↓q_eqs, ↓q_nes, ↓q_eqb, ↓q_lt, ↓q_le, ↓q_gt, ↓q_ge, ↓q_in, ↓q_inl, ↓q_nin, ↓q_is, ↓q_isnot, ↓q_stup, ↓q_sref, ↓q_sscr, ↓q_fn, ↓q_lentup, ↓q_lenref, ↓q_lenscr, ↓q_isi, ↓q_all, ↓q_max, ↓q_min, ↓q_int, ↓q_tuple, ↓q_listc, ↓q_append, ↓q_clear, ↓q_index, ↓q_pop, ↓q_slicet, ↓q_revt, ↓q_revl, ↓q_set, ↓q_repr, ↓q_eqo, ↓X_rev, ↓Z_set, ↓q_addt, ↓q_listt, ↓q_ninl, ↓u_tup, ↓u_ref, ↓u_range, ↓q_slice, ↓oi_none, ↓oi_int, ↓X_slice, ↓XO_none, ↓XO_some, ↓u_rev, ↓u_zip, ↓xb_two, ↓u_range2, ↓retV_ret, ↓retV_next, List.getElem?_cons_zero, List.getElem?_cons_succ, List.set_cons_zero, List.set_cons_succ, Bool.not_true, Bool.not_false, idx_0, idx_1, idx_2, idx_3, idx_4, idx_5, Int.reduceAdd, Int.reduceSub, Int.reduceMul, Int.reduceNeg, Int.reducePow, Int.reduceLT, Int.reduceLE, Int.reduceEq, Int.reduceNe, Int.reduceToNat, Int.reduceAbs, Nat.reduceAdd, Nat.reduceLT, Nat.reduceLeDiff, Nat.reducePow, Nat.reduceLT, List.length_cons, List.length_nil, true_implies, false_implies, not_true_eq_false, not_false_eq_true, and_true, true_and, and_self, or_true, true_or, decide_true, decide_false, exists_eq_left', Option.some.injEq]
    subst hK
    exact q _ _ hp (row_of (by decide) (Nat.le_of_ble_eq_true rfl) (Nat.le_of_ble_eq_true rfl) (itl2 (it_nat h1 h2) (itl1 hzp)))
  subst hK
  refine zs_cons ?_
  generalize hK : sqX Ee (_ :: _) = K
  simp only [↓X_lit, ↓X_loc, ↓X_bin, ↓negX_int, ↓X_neg, ↓X_not, ↓Y_not, ↓X_and, ↓Y_and, ↓X_or, ↓Y_or, ↓X_cmp, ↓X_cmp2, ↓X_ite, ↓Y_ite, ↓X_tup, ↓X_lst, ↓X_call, ↓X_meth, ↓X_sub, ↓X_comp, ↓Y_lit, ↓Y_loc, ↓Y_cmp, ↓Y_cmp2, ↓Y_call, ↓Y_sub, ↓XEs_nil, ↓XEs_cons, ↓XIfs_nil, ↓XIfs_cons, ↓Z_expr, ↓Z_assign, ↓Z_ret, ↓Z_retNone, ↓Z_ite, ↓Z_for, ↓Z_pass, ↓Z_brk, ↓Z_cont, ↓Zs_nil, ↓sqX_next, ↓sqX_brk, ↓sqX_cont, ↓sqX_ret, ↓Zs_cons, ↓wkX_next, ↓wkX_cont, ↓wkX_brk, ↓wkX_ret, ↓fkX_next, ↓fkX_cont, ↓fkX_brk, ↓fkX_ret, ↓xb_one, ↓oKK_some, ↓oK_some, ↓tX_bool, ↓iX_t, ↓iX_f, ↓iX_d, ↓q_add, ↓q_sub, ↓q_mul, ↓q_div, ↓q_mod, ↓q_pow, ↓q_list, ↓q_eq, ↓q_ne, ↓q_eqs, ↓q_nes, ↓q_eqb, ↓q_lt, ↓q_le, ↓q_gt, ↓q_ge, ↓q_in, ↓q_inl, ↓q_nin, ↓q_is, ↓q_isnot, ↓q_stup, ↓q_sref, ↓q_sscr, ↓q_fn, ↓q_lentup, ↓q_lenref, ↓q_lenscr, ↓q_isi, ↓q_all, ↓q_max, ↓q_min, ↓q_int, ↓q_tuple, ↓q_listc, ↓q_append, ↓q_clear, ↓q_index, ↓q_pop, ↓q_slicet, ↓q_revt, ↓q_revl, ↓q_set, ↓q_repr, ↓q_eqo, ↓X_rev, ↓Z_set, ↓q_addt, ↓q_listt, ↓q_ninl, ↓u_tup, ↓u_ref, ↓u_range, ↓q_slice, ↓oi_none, ↓oi_int, ↓X_slice, ↓XO_none, ↓XO_some, ↓u_rev, ↓u_zip, ↓xb_two, ↓u_range2, ↓retV_ret, ↓retV_next, List.getElem?_cons_zero, List.getElem?_cons_succ, List.set_cons_zero, List.set_cons_succ, Bool.not_true, Bool.not_false, idx_0, idx_1, idx_2, idx_3, idx_4, idx_5, Int.reduceAdd, Int.reduceSub, Int.reduceMul, Int.reduceNeg, Int.reducePow, Int.reduceLT, Int.reduceLE, Int.reduceEq, Int.reduceNe, Int.reduceToNat, Int.reduceAbs, Nat.reduceAdd, Nat.reduceLT, Nat.reduceLeDiff, Nat.reducePow, Nat.reduceLT, List.length_cons, List.length_nil, true_implies, false_implies, not_true_eq_false, not_false_eq_true, and_true, true_and, and_self, or_true, true_or, decide_true, decide_false, exists_eq_left', Option.some.injEq, hl, ↓ee_t]
  refine ⟨fun _ => ⟨b, rfl, fun t H' hp h1 h2 => ?_⟩, fun _ => ?_⟩
  · simp only [↓X_lit, ↓X_loc, ↓X_bin, ↓negX_int, ↓X_neg, ↓X_not, ↓Y_not, ↓X_and, ↓Y_and, ↓X_or, ↓Y_or, ↓X_cmp, ↓X_cmp2, ↓X_ite, ↓Y_ite, ↓X_tup, ↓X_lst, ↓X_call, ↓X_meth, ↓X_sub, ↓X_comp, ↓Y_lit, ↓Y_loc, ↓Y_cmp, ↓Y_cmp2, ↓Y_call, ↓Y_sub, ↓XEs_nil, ↓XEs_cons, ↓XIfs_nil, ↓XIfs_cons, ↓Z_expr, ↓Z_assign, ↓Z_ret, ↓Z_retNone, ↓Z_ite, ↓Z_for, ↓Z_pass, ↓Z_brk, ↓Z_cont, ↓Zs_nil, ↓sqX_next, ↓sqX_brk, ↓sqX_cont, ↓sqX_ret, ↓Zs_cons, ↓wkX_next, ↓wkX_cont, ↓wkX_brk, ↓wkX_ret, ↓fkX_next, ↓fkX_cont, ↓fkX_brk, ↓fkX_ret, ↓xb_one, ↓oKK_some, ↓oK_some, ↓tX_bool, ↓iX_t, ↓iX_f, ↓iX_d, ↓q_add, ↓q_sub, ↓q_mul, ↓q_div, ↓q_mod, ↓q_pow, ↓q_list, ↓q_eq, ↓q_ne, ↓q_eqs, ↓q_nes, ↓q_eqb, ↓q_lt, ↓q_le, ↓q_gt, ↓q_ge, ↓q_in, ↓q_inl, ↓q_nin, ↓q_is, ↓q_isnot, ↓q_stup, ↓q_sref, ↓q_sscr, ↓q_fn, ↓q_lentup, ↓q_lenref, ↓q_lenscr, ↓q_isi, ↓q_all, ↓q_max, ↓q_min, ↓q_int, ↓q_tuple, ↓q_listc, ↓q_append, ↓q_clear, ↓q_index, ↓q_pop, ↓q_slicet, ↓q_revt, ↓q_revl, ↓q_set, ↓q_repr, ↓q_eqo, ↓X_rev, ↓Z_set, ↓q_addt, ↓q_listt, ↓q_ninl, ↓u_tup, ↓u_ref, ↓u_range, ↓q_slice, ↓oi_none, ↓oi_int, ↓X_slice, ↓XO_none, ↓XO_some, ↓u_rev, ↓u_zip, ↓xb_two, ↓u_range2, ↓retV_ret, ↓retV_next, List.getElem?_cons_zero, List.getElem?_cons_succ, List.set_cons_zero, List.set_cons_succ, Bool.not_true, Bool.not_false, idx_0, idx_1, idx_2, idx_3, idx_4, idx_5, Int.reduceAdd, Int.reduceSub, Int.reduceMul, Int.reduceNeg, Int.reducePow, Int.reduceLT, Int.reduceLE, Int.reduceEq, Int.reduceNe, Int.reduceToNat, Int.reduceAbs, Nat.reduceAdd, Nat.reduceLT, Nat.reduceLeDiff, Nat.reducePow, Nat.reduceLT, List.length_cons, List.length_nil, true_implies, false_implies, not_true_eq_false, not_false_eq_true, and_true, true_and, and_self, or_true, true_or, decide_true, decide_false, exists_eq_left', Option.some.injEq, listAt_pre hp hl, listAt_pre pre_new (listAt_pre hp hl), listAt_new]
    have e3 := mod_in (c := c) (m := 2) (by decide)
    have e5 := mod_in (c := c / 2) (m := 30) (by decide)
    have e6 := mod_in (c := c / 2) (m := 1000000) (by decide)
    refine idx_any e3.1 e3.2 fun v hv => ?_
    simp only [List.mem_cons, List.not_mem_nil, or_false] at hv
    subst hK
    rcases hv with rfl | rfl
    · exact q _ _ (hp.trans pre_new) (row_of (by decide) (Nat.le_of_ble_eq_true rfl) (Nat.le_of_ble_eq_true rfl) (itl2 (it_nat h1 h2) (itl2 hzp (itl1 (it_nat (by omega) (by omega))))))
    · exact q _ _ (hp.trans pre_new) (row_of (by decide) (Nat.le_of_ble_eq_true rfl) (Nat.le_of_ble_eq_true rfl) (itl2 (it_nat h1 h2) (itl2 hzp (itl1 (it_nat (by omega) (by omega))))))
  subst hK
  refine zs_cons ?_
  generalize hK : sqX Ee (_ :: _) = K
  simp only [↓X_lit, ↓X_loc, ↓X_bin, ↓negX_int, ↓X_neg, ↓X_not, ↓Y_not, ↓X_and, ↓Y_and, ↓X_or, ↓Y_or, ↓X_cmp, ↓X_cmp2, ↓X_ite, ↓Y_ite, ↓X_tup, ↓X_lst, ↓X_call, ↓X_meth, ↓X_sub, ↓X_comp, ↓Y_lit, ↓Y_loc, ↓Y_cmp, ↓Y_cmp2, ↓Y_call, ↓Y_sub, ↓XEs_nil, ↓XEs_cons, ↓XIfs_nil, ↓XIfs_cons, ↓Z_expr, ↓Z_assign, ↓Z_ret, ↓Z_retNone, ↓Z_ite, ↓Z_for, ↓Z_pass, ↓Z_brk, ↓Z_cont, ↓Zs_nil, ↓sqX_next, ↓sqX_brk, ↓sqX_cont, ↓sqX_ret, ↓Zs_cons, ↓wkX_next, ↓wkX_cont, ↓wkX_brk, ↓wkX_ret, ↓fkX_next, ↓fkX_cont, ↓fkX_brk, ↓fkX_ret, ↓xb_one, ↓oKK_some, ↓oK_some, ↓tX_bool, ↓iX_t, ↓iX_f, ↓iX_d, ↓q_add, ↓q_sub, ↓q_mul, ↓q_div, ↓q_mod, ↓q_pow, ↓q_list, ↓q_eq, ↓q_ne, ↓q_eqs, ↓q_nes, ↓q_eqb, ↓q_lt, ↓q_le, ↓q_gt, ↓q_ge, ↓q_in, ↓q_inl, ↓q_nin, ↓q_is, ↓q_isnot, ↓q_stup, ↓q_sref, ↓q_sscr, ↓q_fn, ↓q_lentup, ↓q_lenref, ↓q_lenscr, ↓q_isi, ↓q_all, ↓q_max, ↓q_min, ↓q_int, ↓q_tuple, ↓q_listc, ↓q_append, ↓q_clear, ↓q_index, ↓q_pop, ↓q_slicet, ↓q_revt, ↓q_revl, ↓q_set, ↓q_repr, ↓q_eqo, ↓X_rev, ↓Z_set, ↓q_addt, ↓q_listt, ↓q_ninl, ↓u_tup, ↓u_ref, ↓u_range, ↓q_slice, ↓oi_none, ↓oi_int, ↓X_slice, ↓XO_none, ↓XO_some, ↓u_rev, ↓u_zip, ↓xb_two, ↓u_range2, ↓retV_ret, ↓retV_next, List.getElem?_cons_zero, List.getElem?_cons_succ, List.set_cons_zero, List.set_cons_succ, Bool.not_true, Bool.not_false, idx_0, idx_1, idx_2, idx_3, idx_4, idx_5, Int.reduceAdd, Int.reduceSub, Int.reduceMul, Int.reduceNeg, Int.reducePow, Int.reduceLT, Int.reduceLE, Int.reduceEq, Int.reduceNe, Int.reduceToNat, Int.reduceAbs, Nat.reduceAdd, Nat.reduceLT, Nat.reduceLeDiff, Nat.reducePow, Nat.reduceLT, List.length_cons, List.length_nil, true_implies, false_implies, not_true_eq_false, not_false_eq_true, and_true, true_and, and_self, or_true, true_or, decide_true, decide_false, exists_eq_left', Option.some.injEq, hl, ↓ee_w]
  refine ⟨fun _ => ⟨_, rfl, fun l H' hp h1 h2 => ?_⟩, fun _ => ?_⟩
  · simp only [↓X_lit, ↓X_loc, ↓X_bin, ↓negX_int, ↓X_neg, ↓X_not, ↓Y_not, ↓X_and, ↓Y_and, ↓X_or, ↓Y_or, ↓X_cmp, ↓X_cmp2, ↓X_ite, ↓Y_ite, ↓X_tup, ↓X_lst, ↓X_call, ↓X_meth, ↓X_sub, ↓X_comp, ↓Y_lit, ↓Y_loc, ↓Y_cmp, ↓Y_cmp2, ↓Y_call, ↓Y_sub, ↓XEs_nil, ↓XEs_cons, ↓XIfs_nil, ↓XIfs_cons, ↓Z_expr, ↓Z_assign, ↓Z_ret, ↓Z_retNone, ↓Z_ite, ↓Z_for, ↓Z_pass, ↓Z_brk, ↓Z_cont, ↓Zs_nil, ↓sqX_next, ↓sqX_brk, ↓sqX_cont, ↓sqX_ret, ↓Zs_cons, ↓wkX_next, ↓wkX_cont, ↓wkX_brk, ↓wkX_ret, ↓fkX_next, ↓fkX_cont, ↓fkX_brk, ↓fkX_ret, ↓xb_one, ↓oKK_some, ↓oK_some, ↓tX_bool, ↓iX_t, ↓iX_f, ↓iX_d, ↓q_add, ↓q_sub, ↓q_mul, ↓q_div, ↓q_mod, ↓q_pow, ↓q_list, ↓q_eq, ↓q_ne, ↓q_eqs, ↓q_nes, ↓q_eqb, ↓q_lt, ↓q_le, ↓q_gt, ↓q_ge, ↓q_in, ↓q_inl, ↓q_nin, ↓q_is, ↓q_isnot, ↓q_stup, ↓q_sref, ↓q_sscr, ↓q_fn, ↓q_lentup, ↓q_lenref, ↓q_lenscr, ↓q_isi, ↓q_all, ↓q_max, ↓q_min, ↓q_int, ↓q_tuple, ↓q_listc, ↓q_append, ↓q_clear, ↓q_index, ↓q_pop, ↓q_slicet, ↓q_revt, ↓q_revl, ↓q_set, ↓q_repr, ↓q_eqo, ↓X_rev, ↓Z_set, ↓q_addt, ↓q_listt, ↓q_ninl, ↓u_tup, ↓u_ref, ↓u_range, ↓q_slice, ↓oi_none, ↓oi_int, ↓X_slice, ↓XO_none, ↓XO_some, ↓u_rev, ↓u_zip, ↓xb_two, ↓u_range2, ↓retV_ret, ↓retV_next, List.getElem?_cons_zero, List.getElem?_cons_succ, List.set_cons_zero, List.set_cons_succ, Bool.not_true, Bool.not_false, idx_0, idx_1, idx_2, idx_3, idx_4, idx_5, Int.reduceAdd, Int.reduceSub, Int.reduceMul, Int.reduceNeg, Int.reducePow, Int.reduceLT, Int.reduceLE, Int.reduceEq, Int.reduceNe, Int.reduceToNat, Int.reduceAbs, Nat.reduceAdd, Nat.reduceLT, Nat.reduceLeDiff, Nat.reducePow, Nat.reduceLT, List.length_cons, List.length_nil, true_implies, false_implies, not_true_eq_false, not_false_eq_true, and_true, true_and, and_self, or_true, true_or, decide_true, decide_false, exists_eq_left', Option.some.injEq, listAt_pre hp hl]
    subst hK
    exact q _ _ hp (row_of (by decide) (Nat.le_of_ble_eq_true rfl) (Nat.le_of_ble_eq_true rfl) (itl2 (it_days h2 (by omega)) (itl2 (it_nat e24.1 (by omega)) (itl1 hzp))))
  subst hK
  have e62 := mod_in (c := c) (m := 62) (by decide)
  refine zs_cons ?_
  generalize hK : sqX Ee (_ :: _) = K
  simp only [↓X_lit, ↓X_loc, ↓X_bin, ↓negX_int, ↓X_neg, ↓X_not, ↓Y_not, ↓X_and, ↓Y_and, ↓X_or, ↓Y_or, ↓X_cmp, ↓X_cmp2, ↓X_ite, ↓Y_ite, ↓X_tup, ↓X_lst, ↓X_call, ↓X_meth, ↓X_sub, ↓X_comp, ↓Y_lit, ↓Y_loc, ↓Y_cmp, ↓Y_cmp2, ↓Y_call, ↓Y_sub, ↓XEs_nil, ↓XEs_cons, ↓XIfs_nil, ↓XIfs_cons, ↓Z_expr, ↓Z_assign, ↓Z_ret, ↓Z_retNone, ↓Z_ite, ↓Z_for, ↓Z_pass, ↓Z_brk, ↓Z_cont, ↓Zs_nil, ↓sqX_next, ↓sqX_brk, ↓sqX_cont, ↓sqX_ret, ↓Zs_cons, ↓wkX_next, ↓wkX_cont, ↓wkX_brk, ↓wkX_ret, ↓fkX_next, ↓fkX_cont, ↓fkX_brk, ↓fkX_ret, ↓xb_one, ↓oKK_some, ↓oK_some, ↓tX_bool, ↓iX_t, ↓iX_f, ↓iX_d, ↓q_add, ↓q_sub, ↓q_mul, ↓q_div, ↓q_mod, ↓q_pow, ↓q_list, ↓q_eq, ↓q_ne, ↓q_eqs, ↓q_nes, ↓q_eqb, ↓q_lt, ↓q_le, ↓q_gt, ↓q_ge, ↓q_in, ↓q_inl, ↓q_nin, ↓q_is, ↓q_isnot, ↓q_stup, ↓q_sref, ↓q_sscr, ↓q_fn, ↓q_lentup, ↓q_lenref, ↓q_lenscr, ↓q_isi, ↓q_all, ↓q_max, ↓q_min, ↓q_int, ↓q_tuple, ↓q_listc, ↓q_append, ↓q_clear, ↓q_index, ↓q_pop, ↓q_slicet, ↓q_revt, ↓q_revl, ↓q_set, ↓q_repr, ↓q_eqo, ↓X_rev, ↓Z_set, ↓q_addt, ↓q_listt, ↓q_ninl, ↓u_tup, ↓u_ref, ↓u_range, ↓q_slice, ↓oi_none, ↓oi_int, ↓X_slice, ↓XO_none, ↓XO_some, ↓u_rev, ↓u_zip, ↓xb_two, ↓u_range2, ↓retV_ret, ↓retV_next, List.getElem?_cons_zero, List.getElem?_cons_succ, List.set_cons_zero, List.set_cons_succ, Bool.not_true, Bool.not_false, idx_0, idx_1, idx_2, idx_3, idx_4, idx_5, Int.reduceAdd, Int.reduceSub, Int.reduceMul, Int.reduceNeg, Int.reducePow, Int.reduceLT, Int.reduceLE, Int.reduceEq, Int.reduceNe, Int.reduceToNat, Int.reduceAbs, Nat.reduceAdd, Nat.reduceLT, Nat.reduceLeDiff, Nat.reducePow, Nat.reduceLT, List.length_cons, List.length_nil, true_implies, false_implies, not_true_eq_false, not_false_eq_true, and_true, true_and, and_self, or_true, true_or, decide_true, decide_false, exists_eq_left', Option.some.injEq, hl]
  subst hK
  generalize hd : c % 62 - 31 = d
  change wpSs Ee (f_l_wide_plain.body.drop 6) [some (.ref i), some (.int k), some (.int z), some (.int d), none, none, none] H _ _
  refine zs_cons ?_
  generalize hK : sqX Ee [] = K
  simp only [↓X_lit, ↓X_loc, ↓X_bin, ↓negX_int, ↓X_neg, ↓X_not, ↓Y_not, ↓X_and, ↓Y_and, ↓X_or, ↓Y_or, ↓X_cmp, ↓X_cmp2, ↓X_ite, ↓Y_ite, ↓X_tup, ↓X_lst, ↓X_call, ↓X_meth, ↓X_sub, ↓X_comp, ↓Y_lit, ↓Y_loc, ↓Y_cmp, ↓Y_cmp2, ↓Y_call, ↓Y_sub, ↓XEs_nil, ↓XEs_cons, ↓XIfs_nil, ↓XIfs_cons, ↓Z_expr, ↓Z_assign, ↓Z_ret, ↓Z_retNone, ↓Z_ite, ↓Z_for, ↓Z_pass, ↓Z_brk, ↓Z_cont, ↓Zs_nil, ↓sqX_next, ↓sqX_brk, ↓sqX_cont, ↓sqX_ret, ↓Zs_cons, ↓wkX_next, ↓wkX_cont, ↓wkX_brk, ↓wkX_ret, ↓fkX_next, ↓fkX_cont, ↓fkX_brk, ↓fkX_ret, ↓xb_one, ↓oKK_some, ↓oK_some, ↓tX_bool, ↓iX_t, ↓iX_f, ↓iX_d, ↓q_add, ↓q_sub, ↓q_mul, ↓q_div, ↓q_mod, ↓q_pow, ↓q_list, ↓q_eq, ↓q_ne, ↓q_eqs, ↓q_nes, ↓q_eqb, ↓q_lt, ↓q_le, ↓q_gt, ↓q_ge, ↓q_in, ↓q_inl, ↓q_nin, ↓q_is, ↓q_isnot, ↓q_stup, ↓q_sref, ↓q_sscr, ↓q_fn, ↓q_lentup, ↓q_lenref, ↓q_lenscr, ↓q_isi, ↓q_all, ↓q_max, ↓q_min, ↓q_int, ↓q_tuple, ↓q_listc, ↓q_append, ↓q_clear, ↓q_index, ↓q_pop, ↓q_slicet, ↓q_revt, ↓q_revl, ↓q_set, ↓q_repr, ↓q_eqo, ↓X_rev, ↓Z_set, ↓q_addt, ↓q_listt, ↓q_ninl, ↓u_tup, ↓u_ref, ↓u_range, ↓q_slice, ↓oi_none, ↓oi_int, ↓X_slice, ↓XO_none, ↓XO_some, ↓u_rev, ↓u_zip, ↓xb_two, ↓u_range2, ↓retV_ret, ↓retV_next, List.getElem?_cons_zero, List.getElem?_cons_succ, List.set_cons_zero, List.set_cons_succ, Bool.not_true, Bool.not_false, idx_0, idx_1, idx_2, idx_3, idx_4, idx_5, Int.reduceAdd, Int.reduceSub, Int.reduceMul, Int.reduceNeg, Int.reducePow, Int.reduceLT, Int.reduceLE, Int.reduceEq, Int.reduceNe, Int.reduceToNat, Int.reduceAbs, Nat.reduceAdd, Nat.reduceLT, Nat.reduceLeDiff, Nat.reducePow, Nat.reduceLT, List.length_cons, List.length_nil, true_implies, false_implies, not_true_eq_false, not_false_eq_true, and_true, true_and, and_self, or_true, true_or, decide_true, decide_false, exists_eq_left', Option.some.injEq, hl]
  subst hK
  have hb : -1 ≤ (if decide ((0 : Int) ≤ d) = true then (1 : Int) else 0) ∧ (if decide ((0 : Int) ≤ d) = true then (1 : Int) else 0) ≤ 1 := by split <;> exact ⟨by decide, by decide⟩
  exact q _ _ (List.prefix_refl _) (row_of (by decide) (Nat.le_of_ble_eq_true rfl) (Nat.le_of_ble_eq_true rfl) (itl2 (it_int (by omega) (by omega)) (itl2 (it_nat e24.1 (by omega)) (itl1 hzp))))
noncomputable def Ef : Orc := ext "_law_wide_plain" C_wp5 Ee
end Mine

set_option autoImplicit false
set_option linter.unusedSimpArgs false
set_option maxRecDepth 20000
namespace Mine
open PySem

/- a comprehension of which only a property of its parts is asked -/
theorem comp_any {Φ : Orc} {X : XL} {elt : IE} {j : Nat} {L : Lc} {R : Hp → Prop} {P : V → Prop} {QL : List V → Hp → Prop} : ∀ (items acc : List V) (H : Hp),
    (∀ x ∈ items, ∀ H', R H' → ∀ K : V → Hp → Prop, (∀ y H2, R H2 → P y → K y H2) → (wp2 Φ elt).E (L.set j (some x)) H' K X) →
    R H → (∀ y ∈ acc, P y) → (∀ ys H', R H' → ys.length = acc.length + items.length → (∀ y ∈ ys, P y) → QL ys H') →
    compGo (coTX Φ [] X) (coEX Φ elt X) (fun _ => True) [j] L items acc H QL := by
  intro items
  induction items with
  | nil => intro acc H _ hR ha q; exact q acc H hR rfl ha
  | cons x r ih =>
    intro acc H st hR ha q
    rw [coX_cons]
    show (wp2 Φ elt).E (L.set j (some x)) H _ X
    refine st x List.mem_cons_self H hR _ fun y H2 hR2 hy => ⟨trivial, ?_⟩
    refine ih (acc ++ [y]) H2 (fun x' hx' => st x' (List.mem_cons_of_mem _ hx')) hR2 (fun z hz => ?_) fun ys H' hR' hl => q ys H' hR' ?_
    · rcases List.mem_append.mp hz with h | h
      · exact ha z h
      · rw [List.mem_singleton.mp h]; exact hy
    · rw [hl]; simp only [List.length_append, List.length_cons, List.length_nil]; omega
theorem rangeL_len {b : Int} : (rangeL 0 b).length = b.toNat := by simp only [rangeL, List.length_map, List.length_range]; omega
theorem rangeL_mem {b : Int} {x : V} (h : x ∈ rangeL 0 b) : ∃ k : Int, x = .int k ∧ 0 ≤ k ∧ k < b := by
  obtain ⟨m, hm, rfl⟩ := List.mem_map.mp h
  have := List.mem_range.mp hm
  exact ⟨_, rfl, by omega, by omega⟩

theorem ef_t : Ef "_law_time" = C_tm5 := rfl
noncomputable def C_wh5 : Ctr := fun vs H Q _ => ∃ c r, vs = [.int c, r] ∧ ∀ w x H', H <+: H' → okStr w = true → ItP x → Q (.tup [.str w, x, r]) H'
theorem w_wh5 : ∀ vs H Q X, C_wh5 vs H Q X → wpFn Ef f_l_wide_head vs H Q X := by
  rintro vs H Q X ⟨c, r, rfl, q⟩
  refine fn_of rfl ?_
  change wpSs Ef f_l_wide_head.body [some (.int c), some r, none, none, none, none, none, none] H _ _
  refine zs_cons ?_
  generalize hK : sqX Ef (_ :: _) = K
  simp only [↓X_lit, ↓X_loc, ↓X_bin, ↓negX_int, ↓X_neg, ↓X_not, ↓Y_not, ↓X_and, ↓Y_and, ↓X_or, ↓Y_or, ↓X_cmp, ↓X_cmp2, ↓X_ite, ↓Y_ite, ↓X_tup, ↓X_lst, ↓X_call, ↓X_meth, ↓X_sub, ↓X_comp, ↓Y_lit, ↓Y_loc, ↓Y_cmp, ↓Y_cmp2, ↓Y_call, ↓Y_sub, ↓XEs_nil, ↓XEs_cons, ↓XIfs_nil, ↓XIfs_cons, ↓Z_expr, ↓Z_assign, ↓Z_ret, ↓Z_retNone, ↓Z_ite, ↓Z_for, ↓Z_pass, ↓Z_brk, ↓Z_cont, ↓Zs_nil, ↓sqX_next, ↓sqX_brk, ↓sqX_cont, ↓sqX_ret, ↓Zs_cons, ↓wkX_next, ↓wkX_cont, ↓wkX_brk, ↓wkX_ret, ↓fkX_next, ↓fkX_cont, ↓fkX_brk, ↓fkX_ret, ↓xb_one, ↓oKK_some, ↓oK_some, ↓tX_bool, ↓iX_t, ↓iX_f, ↓iX_d, ↓q_add, ↓q_sub, ↓q_mul, ↓q_div, ↓q_mod, ↓q_pow, ↓q_list, ↓q_eq, ↓q_ne, ↓q_eqs, ↓q_nes, ↓q_eqb, ↓q_lt, ↓q_le, ↓q_gt, ↓q_ge, ↓q_in, ↓q_inl, ↓q_nin, ↓q_is, ↓q_isnot, ↓q_stup, ↓q_sref, ↓q_sscr, ↓q_fn, ↓q_lentup, ↓q_lenref, ↓q_lenscr, ↓q_isi, ↓q_all, ↓q_max, ↓q_min, ↓q_int, ↓q_tuple, ↓q_listc, ↓q_append, ↓q_clear, ↓q_index, ↓q_pop, ↓q_slicet, ↓q_revt, ↓q_revl, ↓q_set, ↓q_repr, ↓q_eqo, ↓X_rev, ↓Z_set, ↓q_addt, ↓q_listt, ↓q_ninl, ↓u_tup, ↓u_ref, ↓u_range, ↓q_slice, ↓oi_none, ↓oi_int, ↓X_slice, ↓XO_none, ↓XO_some, ↓u_rev, ↓u_zip, ↓xb_two, ↓u_range2, ↓retV_ret, ↓retV_next, List.getElem?_cons_zero, List.getElem?_cons_succ, List.set_cons_zero, List.set_cons_succ, Bool.not_true, Bool.not_false, idx_0, idx_1, idx_2, idx_3, idx_4, idx_5, Int.reduceAdd, Int.reduceSub, Int.reduceMul, Int.reduceNeg, Int.reducePow, Int.reduceLT, Int.reduceLE, Int.reduceEq, Int.reduceNe, Int.reduceToNat, Int.reduceAbs, Nat.reduceAdd, Nat.reduceLT, Nat.reduceLeDiff, Nat.reducePow, Nat.reduceLT, List.length_cons, List.length_nil, true_implies, false_implies, not_true_eq_false, not_false_eq_true, and_true, true_and, and_self, or_true, true_or, decide_true, decide_false, exists_eq_left', Option.some.injEq, listAt_new]
  have e4 := mod_in (c := c) (m := 4) (by decide)
  refine idx_any e4.1 e4.2 fun v hv => ?_
  have hw : ∃ w, v = .str w ∧ okStr w = true := by
    simp only [List.mem_cons, List.not_mem_nil, or_false] at hv
    rcases hv with rfl | rfl | rfl | rfl <;> exact ⟨_, rfl, by decide⟩
  obtain ⟨w, rfl, hw⟩ := hw
  subst hK
  clear hv
  have hp : H <+: H ++ [O.list [V.str "from", .str "until", .str "also", .str "but"]] := pre_new
  revert hp
  generalize H ++ [O.list [V.str "from", .str "until", .str "also", .str "but"]] = H1
  intro hp
  change wpSs Ef (f_l_wide_head.body.drop 1) [some (.int c), some r, some (.str w), none, none, none, none, none] H1 _ _
  refine zs_cons ?_
  show ifP (!(w == "but")) _ _
  cases hb : w == "but" with
  | false =>
    generalize hK : sqX Ef (_ :: _) = K
    simp only [↓X_lit, ↓X_loc, ↓X_bin, ↓negX_int, ↓X_neg, ↓X_not, ↓Y_not, ↓X_and, ↓Y_and, ↓X_or, ↓Y_or, ↓X_cmp, ↓X_cmp2, ↓X_ite, ↓Y_ite, ↓X_tup, ↓X_lst, ↓X_call, ↓X_meth, ↓X_sub, ↓X_comp, ↓Y_lit, ↓Y_loc, ↓Y_cmp, ↓Y_cmp2, ↓Y_call, ↓Y_sub, ↓XEs_nil, ↓XEs_cons, ↓XIfs_nil, ↓XIfs_cons, ↓Z_expr, ↓Z_assign, ↓Z_ret, ↓Z_retNone, ↓Z_ite, ↓Z_for, ↓Z_pass, ↓Z_brk, ↓Z_cont, ↓Zs_nil, ↓sqX_next, ↓sqX_brk, ↓sqX_cont, ↓sqX_ret, ↓Zs_cons, ↓wkX_next, ↓wkX_cont, ↓wkX_brk, ↓wkX_ret, ↓fkX_next, ↓fkX_cont, ↓fkX_brk, ↓fkX_ret, ↓xb_one, ↓oKK_some, ↓oK_some, ↓tX_bool, ↓iX_t, ↓iX_f, ↓iX_d, ↓q_add, ↓q_sub, ↓q_mul, ↓q_div, ↓q_mod, ↓q_pow, ↓q_list, ↓q_eq, ↓q_ne, ↓q_eqs, ↓q_nes, ↓q_eqb, ↓q_lt, ↓q_le, ↓q_gt, ↓q_ge, ↓q_in, ↓q_inl, ↓q_nin, ↓q_is, ↓q_isnot, ↓q_stup, ↓q_sref, ↓q_sscr, ↓q_fn, ↓q_lentup, ↓q_lenref, ↓q_lenscr, ↓q_isi, ↓q_all, ↓q_max, ↓q_min, ↓q_int, ↓q_tuple, ↓q_listc, ↓q_append, ↓q_clear, ↓q_index, ↓q_pop, ↓q_slicet, ↓q_revt, ↓q_revl, ↓q_set, ↓q_repr, ↓q_eqo, ↓X_rev, ↓Z_set, ↓q_addt, ↓q_listt, ↓q_ninl, ↓u_tup, ↓u_ref, ↓u_range, ↓q_slice, ↓oi_none, ↓oi_int, ↓X_slice, ↓XO_none, ↓XO_some, ↓u_rev, ↓u_zip, ↓xb_two, ↓u_range2, ↓retV_ret, ↓retV_next, List.getElem?_cons_zero, List.getElem?_cons_succ, List.set_cons_zero, List.set_cons_succ, Bool.not_true, Bool.not_false, idx_0, idx_1, idx_2, idx_3, idx_4, idx_5, Int.reduceAdd, Int.reduceSub, Int.reduceMul, Int.reduceNeg, Int.reducePow, Int.reduceLT, Int.reduceLE, Int.reduceEq, Int.reduceNe, Int.reduceToNat, Int.reduceAbs, Nat.reduceAdd, Nat.reduceLT, Nat.reduceLeDiff, Nat.reducePow, Nat.reduceLT, List.length_cons, List.length_nil, true_implies, false_implies, not_true_eq_false, not_false_eq_true, and_true, true_and, and_self, or_true, true_or, decide_true, decide_false, exists_eq_left', Option.some.injEq, ↓ef_t]
    refine ⟨_, rfl, fun t H2 hp2 h1 h2 => ?_⟩
    simp only [↓X_lit, ↓X_loc, ↓X_bin, ↓negX_int, ↓X_neg, ↓X_not, ↓Y_not, ↓X_and, ↓Y_and, ↓X_or, ↓Y_or, ↓X_cmp, ↓X_cmp2, ↓X_ite, ↓Y_ite, ↓X_tup, ↓X_lst, ↓X_call, ↓X_meth, ↓X_sub, ↓X_comp, ↓Y_lit, ↓Y_loc, ↓Y_cmp, ↓Y_cmp2, ↓Y_call, ↓Y_sub, ↓XEs_nil, ↓XEs_cons, ↓XIfs_nil, ↓XIfs_cons, ↓Z_expr, ↓Z_assign, ↓Z_ret, ↓Z_retNone, ↓Z_ite, ↓Z_for, ↓Z_pass, ↓Z_brk, ↓Z_cont, ↓Zs_nil, ↓sqX_next, ↓sqX_brk, ↓sqX_cont, ↓sqX_ret, ↓Zs_cons, ↓wkX_next, ↓wkX_cont, ↓wkX_brk, ↓wkX_ret, ↓fkX_next, ↓fkX_cont, ↓fkX_brk, ↓fkX_ret, ↓xb_one, ↓oKK_some, ↓oK_some, ↓tX_bool, ↓iX_t, ↓iX_f, ↓iX_d, ↓q_add, ↓q_sub, ↓q_mul, ↓q_div, ↓q_mod, ↓q_pow, ↓q_list, ↓q_eq, ↓q_ne, ↓q_eqs, ↓q_nes, ↓q_eqb, ↓q_lt, ↓q_le, ↓q_gt, ↓q_ge, ↓q_in, ↓q_inl, ↓q_nin, ↓q_is, ↓q_isnot, ↓q_stup, ↓q_sref, ↓q_sscr, ↓q_fn, ↓q_lentup, ↓q_lenref, ↓q_lenscr, ↓q_isi, ↓q_all, ↓q_max, ↓q_min, ↓q_int, ↓q_tuple, ↓q_listc, ↓q_append, ↓q_clear, ↓q_index, ↓q_pop, ↓q_slicet, ↓q_revt, ↓q_revl, ↓q_set, ↓q_repr, ↓q_eqo, ↓X_rev, ↓Z_set, ↓q_addt, ↓q_listt, ↓q_ninl, ↓u_tup, ↓u_ref, ↓u_range, ↓q_slice, ↓oi_none, ↓oi_int, ↓X_slice, ↓XO_none, ↓XO_some, ↓u_rev, ↓u_zip, ↓xb_two, ↓u_range2, ↓retV_ret, ↓retV_next, List.getElem?_cons_zero, List.getElem?_cons_succ, List.set_cons_zero, List.set_cons_succ, Bool.not_true, Bool.not_false, idx_0, idx_1, idx_2, idx_3, idx_4, idx_5, Int.reduceAdd, Int.reduceSub, Int.reduceMul, Int.reduceNeg, Int.reducePow, Int.reduceLT, Int.reduceLE, Int.reduceEq, Int.reduceNe, Int.reduceToNat, Int.reduceAbs, Nat.reduceAdd, Nat.reduceLT, Nat.reduceLeDiff, Nat.reducePow, Nat.reduceLT, List.length_cons, List.length_nil, true_implies, false_implies, not_true_eq_false, not_false_eq_true, and_true, true_and, and_self, or_true, true_or, decide_true, decide_false, exists_eq_left', Option.some.injEq]
    subst hK
    exact q w _ _ (hp.trans hp2) hw (it_nat h1 h2)
  | true =>
    refine zs_cons ?_
    generalize hK : sqX Ef (_ :: _) = K
    simp only [↓X_lit, ↓X_loc, ↓X_bin, ↓negX_int, ↓X_neg, ↓X_not, ↓Y_not, ↓X_and, ↓Y_and, ↓X_or, ↓Y_or, ↓X_cmp, ↓X_cmp2, ↓X_ite, ↓Y_ite, ↓X_tup, ↓X_lst, ↓X_call, ↓X_meth, ↓X_sub, ↓X_comp, ↓Y_lit, ↓Y_loc, ↓Y_cmp, ↓Y_cmp2, ↓Y_call, ↓Y_sub, ↓XEs_nil, ↓XEs_cons, ↓XIfs_nil, ↓XIfs_cons, ↓Z_expr, ↓Z_assign, ↓Z_ret, ↓Z_retNone, ↓Z_ite, ↓Z_for, ↓Z_pass, ↓Z_brk, ↓Z_cont, ↓Zs_nil, ↓sqX_next, ↓sqX_brk, ↓sqX_cont, ↓sqX_ret, ↓Zs_cons, ↓wkX_next, ↓wkX_cont, ↓wkX_brk, ↓wkX_ret, ↓fkX_next, ↓fkX_cont, ↓fkX_brk, ↓fkX_ret, ↓xb_one, ↓oKK_some, ↓oK_some, ↓tX_bool, ↓iX_t, ↓iX_f, ↓iX_d, ↓q_add, ↓q_sub, ↓q_mul, ↓q_div, ↓q_mod, ↓q_pow, ↓q_list, ↓q_eq, ↓q_ne, ↓q_eqs, ↓q_nes, ↓q_eqb, ↓q_lt, ↓q_le, ↓q_gt, ↓q_ge, ↓q_in, ↓q_inl, ↓q_nin, ↓q_is, ↓q_isnot, ↓q_stup, ↓q_sref, ↓q_sscr, ↓q_fn, ↓q_lentup, ↓q_lenref, ↓q_lenscr, ↓q_isi, ↓q_all, ↓q_max, ↓q_min, ↓q_int, ↓q_tuple, ↓q_listc, ↓q_append, ↓q_clear, ↓q_index, ↓q_pop, ↓q_slicet, ↓q_revt, ↓q_revl, ↓q_set, ↓q_repr, ↓q_eqo, ↓X_rev, ↓Z_set, ↓q_addt, ↓q_listt, ↓q_ninl, ↓u_tup, ↓u_ref, ↓u_range, ↓q_slice, ↓oi_none, ↓oi_int, ↓X_slice, ↓XO_none, ↓XO_some, ↓u_rev, ↓u_zip, ↓xb_two, ↓u_range2, ↓retV_ret, ↓retV_next, List.getElem?_cons_zero, List.getElem?_cons_succ, List.set_cons_zero, List.set_cons_succ, Bool.not_true, Bool.not_false, idx_0, idx_1, idx_2, idx_3, idx_4, idx_5, Int.reduceAdd, Int.reduceSub, Int.reduceMul, Int.reduceNeg, Int.reducePow, Int.reduceLT, Int.reduceLE, Int.reduceEq, Int.reduceNe, Int.reduceToNat, Int.reduceAbs, Nat.reduceAdd, Nat.reduceLT, Nat.reduceLeDiff, Nat.reducePow, Nat.reduceLT, List.length_cons, List.length_nil, true_implies, false_implies, not_true_eq_false, not_false_eq_true, and_true, true_and, and_self, or_true, true_or, decide_true, decide_false, exists_eq_left', Option.some.injEq]
    subst hK
    have e20 := mod_in (c := c / 4) (m := 20) (by decide)
    generalize hm : 1 + c / 4 % 20 = m
    change wpSs Ef (f_l_wide_head.body.drop 3) [some (.int c), some r, some (.str w), some (.int m), none, none, none, none] H1 _ _
    refine zs_cons ?_
    generalize hK : sqX Ef (_ :: _) = K
    simp only [↓X_lit, ↓X_loc, ↓X_bin, ↓negX_int, ↓X_neg, ↓X_not, ↓Y_not, ↓X_and, ↓Y_and, ↓X_or, ↓Y_or, ↓X_cmp, ↓X_cmp2, ↓X_ite, ↓Y_ite, ↓X_tup, ↓X_lst, ↓X_call, ↓X_meth, ↓X_sub, ↓X_comp, ↓Y_lit, ↓Y_loc, ↓Y_cmp, ↓Y_cmp2, ↓Y_call, ↓Y_sub, ↓XEs_nil, ↓XEs_cons, ↓XIfs_nil, ↓XIfs_cons, ↓Z_expr, ↓Z_assign, ↓Z_ret, ↓Z_retNone, ↓Z_ite, ↓Z_for, ↓Z_pass, ↓Z_brk, ↓Z_cont, ↓Zs_nil, ↓sqX_next, ↓sqX_brk, ↓sqX_cont, ↓sqX_ret, ↓Zs_cons, ↓wkX_next, ↓wkX_cont, ↓wkX_brk, ↓wkX_ret, ↓fkX_next, ↓fkX_cont, ↓fkX_brk, ↓fkX_ret, ↓xb_one, ↓oKK_some, ↓oK_some, ↓tX_bool, ↓iX_t, ↓iX_f, ↓iX_d, ↓q_add, ↓q_sub, ↓q_mul, ↓q_div, ↓q_mod, ↓q_pow, ↓q_list, ↓q_eq, ↓q_ne, ↓q_eqs, ↓q_nes, ↓q_eqb, ↓q_lt, ↓q_le, ↓q_gt, ↓q_ge, ↓q_in, ↓q_inl, ↓q_nin, ↓q_is, ↓q_isnot, ↓q_stup, ↓q_sref, ↓q_sscr, ↓q_fn, ↓q_lentup, ↓q_lenref, ↓q_lenscr, ↓q_isi, ↓q_all, ↓q_max, ↓q_min, ↓q_int, ↓q_tuple, ↓q_listc, ↓q_append, ↓q_clear, ↓q_index, ↓q_pop, ↓q_slicet, ↓q_revt, ↓q_revl, ↓q_set, ↓q_repr, ↓q_eqo, ↓X_rev, ↓Z_set, ↓q_addt, ↓q_listt, ↓q_ninl, ↓u_tup, ↓u_ref, ↓u_range, ↓q_slice, ↓oi_none, ↓oi_int, ↓X_slice, ↓XO_none, ↓XO_some, ↓u_rev, ↓u_zip, ↓xb_two, ↓u_range2, ↓retV_ret, ↓retV_next, List.getElem?_cons_zero, List.getElem?_cons_succ, List.set_cons_zero, List.set_cons_succ, Bool.not_true, Bool.not_false, idx_0, idx_1, idx_2, idx_3, idx_4, idx_5, Int.reduceAdd, Int.reduceSub, Int.reduceMul, Int.reduceNeg, Int.reducePow, Int.reduceLT, Int.reduceLE, Int.reduceEq, Int.reduceNe, Int.reduceToNat, Int.reduceAbs, Nat.reduceAdd, Nat.reduceLT, Nat.reduceLeDiff, Nat.reducePow, Nat.reduceLT, List.length_cons, List.length_nil, true_implies, false_implies, not_true_eq_false, not_false_eq_true, and_true, true_and, and_self, or_true, true_or, decide_true, decide_false, exists_eq_left', Option.some.injEq, listAt_new]
    have e3 := mod_in (c := c / 7) (m := 3) (by decide)
    have e100 := mod_in (c := c / 80) (m := 100) (by decide)
    have e11 := mod_in (c := c / 80) (m := 99999999800) (by decide)
    refine idx_any e3.1 e3.2 fun v hv => ?_
    have hd : ∃ d, v = .int d ∧ 0 ≤ d ∧ d < 10 ^ 12 := by
      simp only [List.mem_cons, List.not_mem_nil, or_false] at hv
      rcases hv with rfl | rfl | rfl <;> exact ⟨_, rfl, by omega, by omega⟩
    obtain ⟨d, rfl, hd0, hd1⟩ := hd
    clear hv
    subst hK
    have hp2 : H <+: H1 ++ [O.list [V.int (c / 80 % 100), .int (c / 80 % 99999999800), .int (100000000000 - m * 3)]] := hp.trans pre_new
    revert hp2
    generalize H1 ++ [O.list [V.int (c / 80 % 100), .int (c / 80 % 99999999800), .int (100000000000 - m * 3)]] = H2
    intro hp2
    change wpSs Ef (f_l_wide_head.body.drop 4) [some (.int c), some r, some (.str w), some (.int m), some (.int d), none, none, none] H2 _ _
    refine zs_cons ?_
    generalize hK : sqX Ef [] = K
    simp only [↓X_lit, ↓X_loc, ↓X_bin, ↓negX_int, ↓X_neg, ↓X_not, ↓Y_not, ↓X_and, ↓Y_and, ↓X_or, ↓Y_or, ↓X_cmp, ↓X_cmp2, ↓X_ite, ↓Y_ite, ↓X_tup, ↓X_lst, ↓X_call, ↓X_meth, ↓X_sub, ↓X_comp, ↓Y_lit, ↓Y_loc, ↓Y_cmp, ↓Y_cmp2, ↓Y_call, ↓Y_sub, ↓XEs_nil, ↓XEs_cons, ↓XIfs_nil, ↓XIfs_cons, ↓Z_expr, ↓Z_assign, ↓Z_ret, ↓Z_retNone, ↓Z_ite, ↓Z_for, ↓Z_pass, ↓Z_brk, ↓Z_cont, ↓Zs_nil, ↓sqX_next, ↓sqX_brk, ↓sqX_cont, ↓sqX_ret, ↓Zs_cons, ↓wkX_next, ↓wkX_cont, ↓wkX_brk, ↓wkX_ret, ↓fkX_next, ↓fkX_cont, ↓fkX_brk, ↓fkX_ret, ↓xb_one, ↓oKK_some, ↓oK_some, ↓tX_bool, ↓iX_t, ↓iX_f, ↓iX_d, ↓q_add, ↓q_sub, ↓q_mul, ↓q_div, ↓q_mod, ↓q_pow, ↓q_list, ↓q_eq, ↓q_ne, ↓q_eqs, ↓q_nes, ↓q_eqb, ↓q_lt, ↓q_le, ↓q_gt, ↓q_ge, ↓q_in, ↓q_inl, ↓q_nin, ↓q_is, ↓q_isnot, ↓q_stup, ↓q_sref, ↓q_sscr, ↓q_fn, ↓q_lentup, ↓q_lenref, ↓q_lenscr, ↓q_isi, ↓q_all, ↓q_max, ↓q_min, ↓q_int, ↓q_tuple, ↓q_listc, ↓q_append, ↓q_clear, ↓q_index, ↓q_pop, ↓q_slicet, ↓q_revt, ↓q_revl, ↓q_set, ↓q_repr, ↓q_eqo, ↓X_rev, ↓Z_set, ↓q_addt, ↓q_listt, ↓q_ninl, ↓u_tup, ↓u_ref, ↓u_range, ↓q_slice, ↓oi_none, ↓oi_int, ↓X_slice, ↓XO_none, ↓XO_some, ↓u_rev, ↓u_zip, ↓xb_two, ↓u_range2, ↓retV_ret, ↓retV_next, List.getElem?_cons_zero, List.getElem?_cons_succ, List.set_cons_zero, List.set_cons_succ, Bool.not_true, Bool.not_false, idx_0, idx_1, idx_2, idx_3, idx_4, idx_5, Int.reduceAdd, Int.reduceSub, Int.reduceMul, Int.reduceNeg, Int.reducePow, Int.reduceLT, Int.reduceLE, Int.reduceEq, Int.reduceNe, Int.reduceToNat, Int.reduceAbs, Nat.reduceAdd, Nat.reduceLT, Nat.reduceLeDiff, Nat.reducePow, Nat.reduceLT, List.length_cons, List.length_nil, true_implies, false_implies, not_true_eq_false, not_false_eq_true, and_true, true_and, and_self, or_true, true_or, decide_true, decide_false, exists_eq_left', Option.some.injEq]
    refine ⟨⟨by omega, by omega⟩, ?_⟩
    have e33 := mod_in (c := c / 11) (m := 3) (by decide)
    refine comp_any (R := fun H' => H <+: H') (P := fun y => Pv 35 0 y) _ [] H2 (fun x hx H' hR K' hK' => ?_) hp2 (fun y hy => nomatch hy) fun ys H' hR hl hys => ?_
    · obtain ⟨k, rfl, hk0, hk1⟩ := rangeL_mem hx
      simp only [↓X_lit, ↓X_loc, ↓X_bin, ↓negX_int, ↓X_neg, ↓X_not, ↓Y_not, ↓X_and, ↓Y_and, ↓X_or, ↓Y_or, ↓X_cmp, ↓X_cmp2, ↓X_ite, ↓Y_ite, ↓X_tup, ↓X_lst, ↓X_call, ↓X_meth, ↓X_sub, ↓X_comp, ↓Y_lit, ↓Y_loc, ↓Y_cmp, ↓Y_cmp2, ↓Y_call, ↓Y_sub, ↓XEs_nil, ↓XEs_cons, ↓XIfs_nil, ↓XIfs_cons, ↓Z_expr, ↓Z_assign, ↓Z_ret, ↓Z_retNone, ↓Z_ite, ↓Z_for, ↓Z_pass, ↓Z_brk, ↓Z_cont, ↓Zs_nil, ↓sqX_next, ↓sqX_brk, ↓sqX_cont, ↓sqX_ret, ↓Zs_cons, ↓wkX_next, ↓wkX_cont, ↓wkX_brk, ↓wkX_ret, ↓fkX_next, ↓fkX_cont, ↓fkX_brk, ↓fkX_ret, ↓xb_one, ↓oKK_some, ↓oK_some, ↓tX_bool, ↓iX_t, ↓iX_f, ↓iX_d, ↓q_add, ↓q_sub, ↓q_mul, ↓q_div, ↓q_mod, ↓q_pow, ↓q_list, ↓q_eq, ↓q_ne, ↓q_eqs, ↓q_nes, ↓q_eqb, ↓q_lt, ↓q_le, ↓q_gt, ↓q_ge, ↓q_in, ↓q_inl, ↓q_nin, ↓q_is, ↓q_isnot, ↓q_stup, ↓q_sref, ↓q_sscr, ↓q_fn, ↓q_lentup, ↓q_lenref, ↓q_lenscr, ↓q_isi, ↓q_all, ↓q_max, ↓q_min, ↓q_int, ↓q_tuple, ↓q_listc, ↓q_append, ↓q_clear, ↓q_index, ↓q_pop, ↓q_slicet, ↓q_revt, ↓q_revl, ↓q_set, ↓q_repr, ↓q_eqo, ↓X_rev, ↓Z_set, ↓q_addt, ↓q_listt, ↓q_ninl, ↓u_tup, ↓u_ref, ↓u_range, ↓q_slice, ↓oi_none, ↓oi_int, ↓X_slice, ↓XO_none, ↓XO_some, ↓u_rev, ↓u_zip, ↓xb_two, ↓u_range2, ↓retV_ret, ↓retV_next, List.getElem?_cons_zero, List.getElem?_cons_succ, List.set_cons_zero, List.set_cons_succ, Bool.not_true, Bool.not_false, idx_0, idx_1, idx_2, idx_3, idx_4, idx_5, Int.reduceAdd, Int.reduceSub, Int.reduceMul, Int.reduceNeg, Int.reducePow, Int.reduceLT, Int.reduceLE, Int.reduceEq, Int.reduceNe, Int.reduceToNat, Int.reduceAbs, Nat.reduceAdd, Nat.reduceLT, Nat.reduceLeDiff, Nat.reducePow, Nat.reduceLT, List.length_cons, List.length_nil, true_implies, false_implies, not_true_eq_false, not_false_eq_true, and_true, true_and, and_self, or_true, true_or, decide_true, decide_false, exists_eq_left', Option.some.injEq]
      refine ⟨.inl ⟨by omega, by omega⟩, hK' _ _ hR (pv_int (by decide) ?_ ?_)⟩
      · have : 0 ≤ k * (1 + c / 11 % 3) := Int.mul_nonneg hk0 (by omega)
        omega
      · have : k * (1 + c / 11 % 3) ≤ 20 * 3 := Int.mul_le_mul (by omega) (by omega) (by omega) (by omega)
        omega
    · rw [rangeL_len] at hl
      have hl2 : ys.length ≤ 20 := by rw [hl, List.length_nil]; omega
      refine ⟨by omega, ?_⟩
      simp only [↓X_lit, ↓X_loc, ↓X_bin, ↓negX_int, ↓X_neg, ↓X_not, ↓Y_not, ↓X_and, ↓Y_and, ↓X_or, ↓Y_or, ↓X_cmp, ↓X_cmp2, ↓X_ite, ↓Y_ite, ↓X_tup, ↓X_lst, ↓X_call, ↓X_meth, ↓X_sub, ↓X_comp, ↓Y_lit, ↓Y_loc, ↓Y_cmp, ↓Y_cmp2, ↓Y_call, ↓Y_sub, ↓XEs_nil, ↓XEs_cons, ↓XIfs_nil, ↓XIfs_cons, ↓Z_expr, ↓Z_assign, ↓Z_ret, ↓Z_retNone, ↓Z_ite, ↓Z_for, ↓Z_pass, ↓Z_brk, ↓Z_cont, ↓Zs_nil, ↓sqX_next, ↓sqX_brk, ↓sqX_cont, ↓sqX_ret, ↓Zs_cons, ↓wkX_next, ↓wkX_cont, ↓wkX_brk, ↓wkX_ret, ↓fkX_next, ↓fkX_cont, ↓fkX_brk, ↓fkX_ret, ↓xb_one, ↓oKK_some, ↓oK_some, ↓tX_bool, ↓iX_t, ↓iX_f, ↓iX_d, ↓q_add, ↓q_sub, ↓q_mul, ↓q_div, ↓q_mod, ↓q_pow, ↓q_list, ↓q_eq, ↓q_ne, ↓q_eqs, ↓q_nes, ↓q_eqb, ↓q_lt, ↓q_le, ↓q_gt, ↓q_ge, ↓q_in, ↓q_inl, ↓q_nin, ↓q_is, ↓q_isnot, ↓q_stup, ↓q_sref, ↓q_sscr, ↓q_fn, ↓q_lentup, ↓q_lenref, ↓q_lenscr, ↓q_isi, ↓q_all, ↓q_max, ↓q_min, ↓q_int, ↓q_tuple, ↓q_listc, ↓q_append, ↓q_clear, ↓q_index, ↓q_pop, ↓q_slicet, ↓q_revt, ↓q_revl, ↓q_set, ↓q_repr, ↓q_eqo, ↓X_rev, ↓Z_set, ↓q_addt, ↓q_listt, ↓q_ninl, ↓u_tup, ↓u_ref, ↓u_range, ↓q_slice, ↓oi_none, ↓oi_int, ↓X_slice, ↓XO_none, ↓XO_some, ↓u_rev, ↓u_zip, ↓xb_two, ↓u_range2, ↓retV_ret, ↓retV_next, List.getElem?_cons_zero, List.getElem?_cons_succ, List.set_cons_zero, List.set_cons_succ, Bool.not_true, Bool.not_false, idx_0, idx_1, idx_2, idx_3, idx_4, idx_5, Int.reduceAdd, Int.reduceSub, Int.reduceMul, Int.reduceNeg, Int.reducePow, Int.reduceLT, Int.reduceLE, Int.reduceEq, Int.reduceNe, Int.reduceToNat, Int.reduceAbs, Nat.reduceAdd, Nat.reduceLT, Nat.reduceLeDiff, Nat.reducePow, Nat.reduceLT, List.length_cons, List.length_nil, true_implies, false_implies, not_true_eq_false, not_false_eq_true, and_true, true_and, and_self, or_true, true_or, decide_true, decide_false, exists_eq_left', Option.some.injEq, listAt_new]
      subst hK
      exact q w _ _ (hR.trans pre_new) hw (it_days hys hl2)
noncomputable def Eg : Orc := ext "_law_wide_head" C_wh5 Ef
/- an odd value -/
noncomputable def OddV (H H' : Hp) (v : V) : Prop := Pv 2000 2 v ∨ ∃ j l, v = .ref j ∧ H.length ≤ j ∧ listAt H' j = some l ∧ l.length ≤ 45 ∧ PvL 35 0 l
noncomputable def C_odd5 : Ctr := fun vs H Q _ => ∃ c, vs = [.int c] ∧ ∀ v H', H <+: H' → OddV H H' v → Q v H'
theorem OddV.pre {H H' H2 : Hp} {v : V} (p : H' <+: H2) (h : OddV H H' v) : OddV H H2 v := by
  rcases h with h | ⟨j, l, e, h1, h2, h3⟩
  · exact .inl h
  · exact .inr ⟨j, l, e, h1, listAt_pre p h2, h3⟩
theorem odd_lit {H H' : Hp} {i : Int} (h1 : -(10 ^ 31) < i) (h2 : i < 10 ^ 31) : OddV H H' (.int i) := .inl (pv_int (by decide) h1 h2)
theorem pvl_ints {l : List Int} (h : (l.all fun i => decide (-(10 ^ 31) < i) && decide (i < 10 ^ 31)) = true) : PvL 35 0 (l.map V.int) := fun x hx => by
  obtain ⟨i, hi, rfl⟩ := List.mem_map.mp hx
  have := List.all_eq_true.mp h i hi
  rw [Bool.and_eq_true, decide_eq_true_eq, decide_eq_true_eq] at this
  exact pv_int (by decide) this.1 this.2
theorem odd_tup {H H' : Hp} (l : List Int) (h : (l.all fun i => decide (-(10 ^ 31) < i) && decide (i < 10 ^ 31)) = true) (hl : l.length ≤ 45) : OddV H H' (.tup (l.map V.int)) := .inl (tup_pv (pvl_ints h) (by rw [List.length_map]; exact hl))
noncomputable def OddL (H H' : Hp) (l : List V) : Prop := ∀ v ∈ l, OddV H H' v
theorem OddL.pre {H H' H2 : Hp} {l : List V} (p : H' <+: H2) (h : OddL H H' l) : OddL H H2 l := fun v hv => (h v hv).pre p
theorem OddL.app {H H' : Hp} {l m : List V} (h1 : OddL H H' l) (h2 : OddL H H' m) : OddL H H' (l ++ m) := fun v hv => by
  rcases List.mem_append.mp hv with q | q
  · exact h1 v q
  · exact h2 v q
theorem oddl_nil {H H' : Hp} : OddL H H' [] := fun _ h => nomatch h
theorem oddl_cons {H H' : Hp} {a : V} {r : List V} (ha : OddV H H' a) (hb : OddL H H' r) : OddL H H' (a :: r) := fun x hx => by
  rcases List.mem_cons.mp hx with q | q
  · rw [q]; exact ha
  · exact hb x q
theorem oddl_ints {H H' : Hp} (l : List Int) (h : (l.all fun i => decide (-(10 ^ 31) < i) && decide (i < 10 ^ 31)) = true) : OddL H H' (l.map V.int) := fun x hx => .inl ((pvl_ints h x hx).mono (by decide) (by decide))
theorem odd_p {H H' : Hp} {v : V} (h : Pv 2000 2 v) : OddV H H' v := .inl h
theorem odd4 {H H1 : Hp} {a : Nat} {l : List V} {c : Int} {Q : V → Hp → Prop} {X : XL} {t2 t3 t4 : Option V} (q : ∀ v H', H <+: H' → OddV H H' v → Q v H') (hp : H <+: H1) (h1 : listAt H1 a = some l) (h2 : OddL H H1 l) (h3 : l.length = 33) :
    wpSs Eg (f_l_odd.body.drop 3) [some (.int c), some (.ref a), t2, t3, t4] H1 (fun fl _ H1 => Q (retV fl) H1) (fun x _ H1 => X x H1) := by
  refine zs_cons ?_
  generalize hK : sqX Eg [] = K
  simp only [↓X_lit, ↓X_loc, ↓X_bin, ↓negX_int, ↓X_neg, ↓X_not, ↓Y_not, ↓X_and, ↓Y_and, ↓X_or, ↓Y_or, ↓X_cmp, ↓X_cmp2, ↓X_ite, ↓Y_ite, ↓X_tup, ↓X_lst, ↓X_call, ↓X_meth, ↓X_sub, ↓X_comp, ↓Y_lit, ↓Y_loc, ↓Y_cmp, ↓Y_cmp2, ↓Y_call, ↓Y_sub, ↓XEs_nil, ↓XEs_cons, ↓XIfs_nil, ↓XIfs_cons, ↓Z_expr, ↓Z_assign, ↓Z_ret, ↓Z_retNone, ↓Z_ite, ↓Z_for, ↓Z_pass, ↓Z_brk, ↓Z_cont, ↓Zs_nil, ↓sqX_next, ↓sqX_brk, ↓sqX_cont, ↓sqX_ret, ↓Zs_cons, ↓wkX_next, ↓wkX_cont, ↓wkX_brk, ↓wkX_ret, ↓fkX_next, ↓fkX_cont, ↓fkX_brk, ↓fkX_ret, ↓xb_one, ↓oKK_some, ↓oK_some, ↓tX_bool, ↓iX_t, ↓iX_f, ↓iX_d, ↓q_add, ↓q_sub, ↓q_mul, ↓q_div, ↓q_mod, ↓q_pow, ↓q_list, ↓q_eq, ↓q_ne, ↓q_eqs, ↓q_nes, ↓q_eqb, ↓q_lt, ↓q_le, ↓q_gt, ↓q_ge, ↓q_in, ↓q_inl, ↓q_nin, ↓q_is, ↓q_isnot, ↓q_stup, ↓q_sref, ↓q_sscr, ↓q_fn, ↓q_lentup, ↓q_lenref, ↓q_lenscr, ↓q_isi, ↓q_all, ↓q_max, ↓q_min, ↓q_int, ↓q_tuple, ↓q_listc, ↓q_append, ↓q_clear, ↓q_index, ↓q_pop, ↓q_slicet, ↓q_revt, ↓q_revl, ↓q_set, ↓q_repr, ↓q_eqo, ↓X_rev, ↓Z_set, ↓q_addt, ↓q_listt, ↓q_ninl, ↓u_tup, ↓u_ref, ↓u_range, ↓q_slice, ↓oi_none, ↓oi_int, ↓X_slice, ↓XO_none, ↓XO_some, ↓u_rev, ↓u_zip, ↓xb_two, ↓u_range2, ↓retV_ret, ↓retV_next, List.getElem?_cons_zero, List.getElem?_cons_succ, List.set_cons_zero, List.set_cons_succ, Bool.not_true, Bool.not_false, idx_0, idx_1, idx_2, idx_3, idx_4, idx_5, Int.reduceAdd, Int.reduceSub, Int.reduceMul, Int.reduceNeg, Int.reducePow, Int.reduceLT, Int.reduceLE, Int.reduceEq, Int.reduceNe, Int.reduceToNat, Int.reduceAbs, Nat.reduceAdd, Nat.reduceLT, Nat.reduceLeDiff, Nat.reducePow, Nat.reduceLT, List.length_cons, List.length_nil, true_implies, false_implies, not_true_eq_false, not_false_eq_true, and_true, true_and, and_self, or_true, true_or, decide_true, decide_false, exists_eq_left', Option.some.injEq, h1]
  have e3 := mod_in (c := c) (m := 33) (by decide)
  refine idx_any e3.1 (by rw [h3]; exact e3.2) fun v hv => ?_
  subst hK
  exact q v H1 hp (h2 v hv)
theorem odd3 {H H1 : Hp} {a : Nat} {l : List V} {c : Int} {Q : V → Hp → Prop} {X : XL} {t2 t3 t4 : Option V} (q : ∀ v H', H <+: H' → OddV H H' v → Q v H') (hp : H <+: H1) (h1 : listAt H1 a = some l) (h2 : OddL H H1 l) (h3 : l.length = 30) :
    wpSs Eg (f_l_odd.body.drop 2) [some (.int c), some (.ref a), t2, t3, t4] H1 (fun fl _ H1 => Q (retV fl) H1) (fun x _ H1 => X x H1) := by
  refine zs_cons ?_
  generalize hK : sqX Eg (_ :: _) = K
  simp only [↓X_lit, ↓X_loc, ↓X_bin, ↓negX_int, ↓X_neg, ↓X_not, ↓Y_not, ↓X_and, ↓Y_and, ↓X_or, ↓Y_or, ↓X_cmp, ↓X_cmp2, ↓X_ite, ↓Y_ite, ↓X_tup, ↓X_lst, ↓X_call, ↓X_meth, ↓X_sub, ↓X_comp, ↓Y_lit, ↓Y_loc, ↓Y_cmp, ↓Y_cmp2, ↓Y_call, ↓Y_sub, ↓XEs_nil, ↓XEs_cons, ↓XIfs_nil, ↓XIfs_cons, ↓Z_expr, ↓Z_assign, ↓Z_ret, ↓Z_retNone, ↓Z_ite, ↓Z_for, ↓Z_pass, ↓Z_brk, ↓Z_cont, ↓Zs_nil, ↓sqX_next, ↓sqX_brk, ↓sqX_cont, ↓sqX_ret, ↓Zs_cons, ↓wkX_next, ↓wkX_cont, ↓wkX_brk, ↓wkX_ret, ↓fkX_next, ↓fkX_cont, ↓fkX_brk, ↓fkX_ret, ↓xb_one, ↓oKK_some, ↓oK_some, ↓tX_bool, ↓iX_t, ↓iX_f, ↓iX_d, ↓q_add, ↓q_sub, ↓q_mul, ↓q_div, ↓q_mod, ↓q_pow, ↓q_eq, ↓q_ne, ↓q_eqs, ↓q_nes, ↓q_eqb, ↓q_lt, ↓q_le, ↓q_gt, ↓q_ge, ↓q_in, ↓q_inl, ↓q_nin, ↓q_is, ↓q_isnot, ↓q_stup, ↓q_sref, ↓q_sscr, ↓q_fn, ↓q_lentup, ↓q_lenref, ↓q_lenscr, ↓q_isi, ↓q_all, ↓q_max, ↓q_min, ↓q_int, ↓q_tuple, ↓q_listc, ↓q_append, ↓q_clear, ↓q_index, ↓q_pop, ↓q_slicet, ↓q_revt, ↓q_revl, ↓q_set, ↓q_repr, ↓q_eqo, ↓X_rev, ↓Z_set, ↓q_addt, ↓q_listt, ↓q_ninl, ↓u_tup, ↓u_ref, ↓u_range, ↓q_slice, ↓oi_none, ↓oi_int, ↓X_slice, ↓XO_none, ↓XO_some, ↓u_rev, ↓u_zip, ↓xb_two, ↓u_range2, ↓retV_ret, ↓retV_next, List.getElem?_cons_zero, List.getElem?_cons_succ, List.set_cons_zero, List.set_cons_succ, Bool.not_true, Bool.not_false, idx_0, idx_1, idx_2, idx_3, idx_4, idx_5, Int.reduceAdd, Int.reduceSub, Int.reduceMul, Int.reduceNeg, Int.reducePow, Int.reduceLT, Int.reduceLE, Int.reduceEq, Int.reduceNe, Int.reduceToNat, Int.reduceAbs, Nat.reduceAdd, Nat.reduceLT, Nat.reduceLeDiff, Nat.reducePow, Nat.reduceLT, List.length_cons, List.length_nil, true_implies, false_implies, not_true_eq_false, not_false_eq_true, and_true, true_and, and_self, or_true, true_or, decide_true, decide_false, exists_eq_left', Option.some.injEq]
  have hit : ∀ k ∈ rangeL 0 21, Pv 35 0 k := pv_range (by decide) (by decide)
  have hil : (rangeL 0 21).length = 21 := by rw [rangeL_len]; decide
  revert hit hil
  generalize rangeL 0 21 = items
  intro hit hil
  refine comp_any (R := fun H' => H1 <+: H') (P := fun y => Pv 35 0 y) _ [] H1 (fun x hx H' hR K' hK' => ?_) (List.prefix_refl _) (fun y hy => nomatch hy) fun ys H' hR hl hys => ?_
  · simp only [↓X_lit, ↓X_loc, ↓X_bin, ↓negX_int, ↓X_neg, ↓X_not, ↓Y_not, ↓X_and, ↓Y_and, ↓X_or, ↓Y_or, ↓X_cmp, ↓X_cmp2, ↓X_ite, ↓Y_ite, ↓X_tup, ↓X_lst, ↓X_call, ↓X_meth, ↓X_sub, ↓X_comp, ↓Y_lit, ↓Y_loc, ↓Y_cmp, ↓Y_cmp2, ↓Y_call, ↓Y_sub, ↓XEs_nil, ↓XEs_cons, ↓XIfs_nil, ↓XIfs_cons, ↓Z_expr, ↓Z_assign, ↓Z_ret, ↓Z_retNone, ↓Z_ite, ↓Z_for, ↓Z_pass, ↓Z_brk, ↓Z_cont, ↓Zs_nil, ↓sqX_next, ↓sqX_brk, ↓sqX_cont, ↓sqX_ret, ↓Zs_cons, ↓wkX_next, ↓wkX_cont, ↓wkX_brk, ↓wkX_ret, ↓fkX_next, ↓fkX_cont, ↓fkX_brk, ↓fkX_ret, ↓xb_one, ↓oKK_some, ↓oK_some, ↓tX_bool, ↓iX_t, ↓iX_f, ↓iX_d, ↓q_add, ↓q_sub, ↓q_mul, ↓q_div, ↓q_mod, ↓q_pow, ↓q_list, ↓q_eq, ↓q_ne, ↓q_eqs, ↓q_nes, ↓q_eqb, ↓q_lt, ↓q_le, ↓q_gt, ↓q_ge, ↓q_in, ↓q_inl, ↓q_nin, ↓q_is, ↓q_isnot, ↓q_stup, ↓q_sref, ↓q_sscr, ↓q_fn, ↓q_lentup, ↓q_lenref, ↓q_lenscr, ↓q_isi, ↓q_all, ↓q_max, ↓q_min, ↓q_int, ↓q_tuple, ↓q_listc, ↓q_append, ↓q_clear, ↓q_index, ↓q_pop, ↓q_slicet, ↓q_revt, ↓q_revl, ↓q_set, ↓q_repr, ↓q_eqo, ↓X_rev, ↓Z_set, ↓q_addt, ↓q_listt, ↓q_ninl, ↓u_tup, ↓u_ref, ↓u_range, ↓q_slice, ↓oi_none, ↓oi_int, ↓X_slice, ↓XO_none, ↓XO_some, ↓u_rev, ↓u_zip, ↓xb_two, ↓u_range2, ↓retV_ret, ↓retV_next, List.getElem?_cons_zero, List.getElem?_cons_succ, List.set_cons_zero, List.set_cons_succ, Bool.not_true, Bool.not_false, idx_0, idx_1, idx_2, idx_3, idx_4, idx_5, Int.reduceAdd, Int.reduceSub, Int.reduceMul, Int.reduceNeg, Int.reducePow, Int.reduceLT, Int.reduceLE, Int.reduceEq, Int.reduceNe, Int.reduceToNat, Int.reduceAbs, Nat.reduceAdd, Nat.reduceLT, Nat.reduceLeDiff, Nat.reducePow, Nat.reduceLT, List.length_cons, List.length_nil, true_implies, false_implies, not_true_eq_false, not_false_eq_true, and_true, true_and, and_self, or_true, true_or, decide_true, decide_false, exists_eq_left', Option.some.injEq]
    exact hK' _ _ hR (hit x hx)
  · have hl2 : ys.length = 21 := by rw [hl, hil, List.length_nil]
    refine ⟨by omega, ?_⟩
    have hR2 : H1 <+: H' ++ [O.list ys] := hR.trans pre_new
    simp only [↓X_lit, ↓X_loc, ↓X_bin, ↓negX_int, ↓X_neg, ↓X_not, ↓Y_not, ↓X_and, ↓Y_and, ↓X_or, ↓Y_or, ↓X_cmp, ↓X_cmp2, ↓X_ite, ↓Y_ite, ↓X_tup, ↓X_lst, ↓X_call, ↓X_meth, ↓X_sub, ↓X_comp, ↓Y_lit, ↓Y_loc, ↓Y_cmp, ↓Y_cmp2, ↓Y_call, ↓Y_sub, ↓XEs_nil, ↓XEs_cons, ↓XIfs_nil, ↓XIfs_cons, ↓Z_expr, ↓Z_assign, ↓Z_ret, ↓Z_retNone, ↓Z_ite, ↓Z_for, ↓Z_pass, ↓Z_brk, ↓Z_cont, ↓Zs_nil, ↓sqX_next, ↓sqX_brk, ↓sqX_cont, ↓sqX_ret, ↓Zs_cons, ↓wkX_next, ↓wkX_cont, ↓wkX_brk, ↓wkX_ret, ↓fkX_next, ↓fkX_cont, ↓fkX_brk, ↓fkX_ret, ↓xb_one, ↓oKK_some, ↓oK_some, ↓tX_bool, ↓iX_t, ↓iX_f, ↓iX_d, ↓q_add, ↓q_sub, ↓q_mul, ↓q_div, ↓q_mod, ↓q_pow, ↓q_list, ↓q_eq, ↓q_ne, ↓q_eqs, ↓q_nes, ↓q_eqb, ↓q_lt, ↓q_le, ↓q_gt, ↓q_ge, ↓q_in, ↓q_inl, ↓q_nin, ↓q_is, ↓q_isnot, ↓q_stup, ↓q_sref, ↓q_sscr, ↓q_fn, ↓q_lentup, ↓q_lenref, ↓q_lenscr, ↓q_isi, ↓q_all, ↓q_max, ↓q_min, ↓q_int, ↓q_tuple, ↓q_listc, ↓q_append, ↓q_clear, ↓q_index, ↓q_pop, ↓q_slicet, ↓q_revt, ↓q_revl, ↓q_set, ↓q_repr, ↓q_eqo, ↓X_rev, ↓Z_set, ↓q_addt, ↓q_listt, ↓q_ninl, ↓u_tup, ↓u_ref, ↓u_range, ↓q_slice, ↓oi_none, ↓oi_int, ↓X_slice, ↓XO_none, ↓XO_some, ↓u_rev, ↓u_zip, ↓xb_two, ↓u_range2, ↓retV_ret, ↓retV_next, List.getElem?_cons_zero, List.getElem?_cons_succ, List.set_cons_zero, List.set_cons_succ, Bool.not_true, Bool.not_false, idx_0, idx_1, idx_2, idx_3, idx_4, idx_5, Int.reduceAdd, Int.reduceSub, Int.reduceMul, Int.reduceNeg, Int.reducePow, Int.reduceLT, Int.reduceLE, Int.reduceEq, Int.reduceNe, Int.reduceToNat, Int.reduceAbs, Nat.reduceAdd, Nat.reduceLT, Nat.reduceLeDiff, Nat.reducePow, Nat.reduceLT, List.length_cons, List.length_nil, true_implies, false_implies, not_true_eq_false, not_false_eq_true, and_true, true_and, and_self, or_true, true_or, decide_true, decide_false, exists_eq_left', Option.some.injEq, listAt_new, listAt_pre pre_new (listAt_pre hR2 h1), h3, Nat.reduceAdd]
    have ho : Pv 2000 2 (.tup [.str "once", .int 5, .int 1]) := (pv_tup (n := 102) (k := 0) (m := 3) (fun x hx => by
        simp only [List.mem_cons, List.not_mem_nil, or_false] at hx
        rcases hx with rfl | rfl | rfl
        · exact pv_str (by decide) (by decide)
        · exact pv_int (by decide) (by decide) (by decide)
        · exact pv_int (by decide) (by decide) (by decide)) (Nat.le_refl _) (by decide) (by decide)).mono (by decide) (by decide)
    subst hK
    refine odd4 q ((hp.trans hR2).trans (pre_new.trans pre_new)) listAt_new ?_ (by rw [List.length_append, h3]; rfl)
    refine ((h2.pre hR2).pre (pre_new.trans pre_new)).app (oddl_cons (odd_p (tup_pv hys (by omega))) (oddl_cons (odd_p ho) (oddl_cons (odd_lit (by decide) (by decide)) oddl_nil)))
theorem odd2 {H H1 : Hp} {a : Nat} {l : List V} {c : Int} {Q : V → Hp → Prop} {X : XL} {t2 t3 t4 : Option V} (q : ∀ v H', H <+: H' → OddV H H' v → Q v H') (hp : H <+: H1) (h1 : listAt H1 a = some l) (h2 : OddL H H1 l) (h3 : l.length = 20) :
    wpSs Eg (f_l_odd.body.drop 1) [some (.int c), some (.ref a), t2, t3, t4] H1 (fun fl _ H1 => Q (retV fl) H1) (fun x _ H1 => X x H1) := by
  refine zs_cons ?_
  generalize hK : sqX Eg (_ :: _) = K
  simp only [↓X_lit, ↓X_loc, ↓X_bin, ↓negX_int, ↓X_neg, ↓X_not, ↓Y_not, ↓X_and, ↓Y_and, ↓X_or, ↓Y_or, ↓X_cmp, ↓X_cmp2, ↓X_ite, ↓Y_ite, ↓X_tup, ↓X_lst, ↓X_call, ↓X_meth, ↓X_sub, ↓X_comp, ↓Y_lit, ↓Y_loc, ↓Y_cmp, ↓Y_cmp2, ↓Y_call, ↓Y_sub, ↓XEs_nil, ↓XEs_cons, ↓XIfs_nil, ↓XIfs_cons, ↓Z_expr, ↓Z_assign, ↓Z_ret, ↓Z_retNone, ↓Z_ite, ↓Z_for, ↓Z_pass, ↓Z_brk, ↓Z_cont, ↓Zs_nil, ↓sqX_next, ↓sqX_brk, ↓sqX_cont, ↓sqX_ret, ↓Zs_cons, ↓wkX_next, ↓wkX_cont, ↓wkX_brk, ↓wkX_ret, ↓fkX_next, ↓fkX_cont, ↓fkX_brk, ↓fkX_ret, ↓xb_one, ↓oKK_some, ↓oK_some, ↓tX_bool, ↓iX_t, ↓iX_f, ↓iX_d, ↓q_add, ↓q_sub, ↓q_mul, ↓q_div, ↓q_mod, ↓q_pow, ↓q_list, ↓q_eq, ↓q_ne, ↓q_eqs, ↓q_nes, ↓q_eqb, ↓q_lt, ↓q_le, ↓q_gt, ↓q_ge, ↓q_in, ↓q_inl, ↓q_nin, ↓q_is, ↓q_isnot, ↓q_stup, ↓q_sref, ↓q_sscr, ↓q_fn, ↓q_lentup, ↓q_lenref, ↓q_lenscr, ↓q_isi, ↓q_all, ↓q_max, ↓q_min, ↓q_int, ↓q_tuple, ↓q_listc, ↓q_append, ↓q_clear, ↓q_index, ↓q_pop, ↓q_slicet, ↓q_revt, ↓q_revl, ↓q_set, ↓q_repr, ↓q_eqo, ↓X_rev, ↓Z_set, ↓q_addt, ↓q_listt, ↓q_ninl, ↓u_tup, ↓u_ref, ↓u_range, ↓q_slice, ↓oi_none, ↓oi_int, ↓X_slice, ↓XO_none, ↓XO_some, ↓u_rev, ↓u_zip, ↓xb_two, ↓u_range2, ↓retV_ret, ↓retV_next, List.getElem?_cons_zero, List.getElem?_cons_succ, List.set_cons_zero, List.set_cons_succ, Bool.not_true, Bool.not_false, idx_0, idx_1, idx_2, idx_3, idx_4, idx_5, Int.reduceAdd, Int.reduceSub, Int.reduceMul, Int.reduceNeg, Int.reducePow, Int.reduceLT, Int.reduceLE, Int.reduceEq, Int.reduceNe, Int.reduceToNat, Int.reduceAbs, Nat.reduceAdd, Nat.reduceLT, Nat.reduceLeDiff, Nat.reducePow, Nat.reduceLT, List.length_cons, List.length_nil, true_implies, false_implies, not_true_eq_false, not_false_eq_true, and_true, true_and, and_self, or_true, true_or, decide_true, decide_false, exists_eq_left', Option.some.injEq, listAt_new, listAt_pre (pre_new.trans pre_new) h1, h3]
  subst hK
  refine odd3 q (hp.trans (pre_new.trans (pre_new.trans pre_new))) listAt_new ((h2.pre (pre_new.trans (pre_new.trans pre_new))).app ?_) (by rw [List.length_append, h3]; rfl)
  refine oddl_cons (odd_lit (by decide) (by decide)) (oddl_cons (odd_lit (by decide) (by decide)) (oddl_cons (odd_lit (by decide) (by decide)) (oddl_cons (odd_tup [] rfl (by decide)) (oddl_cons (odd_tup [0, 7] (by decide) (by decide)) (oddl_cons (odd_tup [3, 3] (by decide) (by decide)) (oddl_cons (odd_tup [4, 2] (by decide) (by decide)) (oddl_cons ?_ (oddl_cons ?_ (oddl_cons (odd_tup [100000000000] (by decide) (by decide)) oddl_nil)))))))))
  · refine .inr ⟨_, [.int 0], rfl, hp.length_le, listAt_pre (pre_new.trans pre_new) listAt_new, by decide, pvl_ints (l := [0]) (by decide)⟩
  · exact .inl (tup_pv (fun x hx => by rw [List.mem_singleton.mp hx]; exact pv_bool (by decide)) (by decide))
theorem w_odd5 : ∀ vs H Q X, C_odd5 vs H Q X → wpFn Eg f_l_odd vs H Q X := by
  rintro vs H Q X ⟨c, rfl, q⟩
  refine fn_of rfl ?_
  change wpSs Eg f_l_odd.body [some (.int c), none, none, none, none] H _ _
  refine zs_cons ?_
  generalize hK : sqX Eg (_ :: _) = K
  simp only [↓X_lit, ↓X_loc, ↓X_bin, ↓negX_int, ↓X_neg, ↓X_not, ↓Y_not, ↓X_and, ↓Y_and, ↓X_or, ↓Y_or, ↓X_cmp, ↓X_cmp2, ↓X_ite, ↓Y_ite, ↓X_tup, ↓X_lst, ↓X_call, ↓X_meth, ↓X_sub, ↓X_comp, ↓Y_lit, ↓Y_loc, ↓Y_cmp, ↓Y_cmp2, ↓Y_call, ↓Y_sub, ↓XEs_nil, ↓XEs_cons, ↓XIfs_nil, ↓XIfs_cons, ↓Z_expr, ↓Z_assign, ↓Z_ret, ↓Z_retNone, ↓Z_ite, ↓Z_for, ↓Z_pass, ↓Z_brk, ↓Z_cont, ↓Zs_nil, ↓sqX_next, ↓sqX_brk, ↓sqX_cont, ↓sqX_ret, ↓Zs_cons, ↓wkX_next, ↓wkX_cont, ↓wkX_brk, ↓wkX_ret, ↓fkX_next, ↓fkX_cont, ↓fkX_brk, ↓fkX_ret, ↓xb_one, ↓oKK_some, ↓oK_some, ↓tX_bool, ↓iX_t, ↓iX_f, ↓iX_d, ↓q_add, ↓q_sub, ↓q_mul, ↓q_div, ↓q_mod, ↓q_pow, ↓q_list, ↓q_eq, ↓q_ne, ↓q_eqs, ↓q_nes, ↓q_eqb, ↓q_lt, ↓q_le, ↓q_gt, ↓q_ge, ↓q_in, ↓q_inl, ↓q_nin, ↓q_is, ↓q_isnot, ↓q_stup, ↓q_sref, ↓q_sscr, ↓q_fn, ↓q_lentup, ↓q_lenref, ↓q_lenscr, ↓q_isi, ↓q_all, ↓q_max, ↓q_min, ↓q_int, ↓q_tuple, ↓q_listc, ↓q_append, ↓q_clear, ↓q_index, ↓q_pop, ↓q_slicet, ↓q_revt, ↓q_revl, ↓q_set, ↓q_repr, ↓q_eqo, ↓X_rev, ↓Z_set, ↓q_addt, ↓q_listt, ↓q_ninl, ↓u_tup, ↓u_ref, ↓u_range, ↓q_slice, ↓oi_none, ↓oi_int, ↓X_slice, ↓XO_none, ↓XO_some, ↓u_rev, ↓u_zip, ↓xb_two, ↓u_range2, ↓retV_ret, ↓retV_next, List.getElem?_cons_zero, List.getElem?_cons_succ, List.set_cons_zero, List.set_cons_succ, Bool.not_true, Bool.not_false, idx_0, idx_1, idx_2, idx_3, idx_4, idx_5, Int.reduceAdd, Int.reduceSub, Int.reduceMul, Int.reduceNeg, Int.reducePow, Int.reduceLT, Int.reduceLE, Int.reduceEq, Int.reduceNe, Int.reduceToNat, Int.reduceAbs, Nat.reduceAdd, Nat.reduceLT, Nat.reduceLeDiff, Nat.reducePow, Nat.reduceLT, List.length_cons, List.length_nil, true_implies, false_implies, not_true_eq_false, not_false_eq_true, and_true, true_and, and_self, or_true, true_or, decide_true, decide_false, exists_eq_left', Option.some.injEq]
  subst hK
  refine odd2 q pre_new listAt_new ?_ rfl
  refine oddl_cons (odd_p (pv_bool (by decide))) (oddl_cons (odd_p (pv_bool (by decide))) (oddl_cons (odd_p (pv_none (by decide))) (oddl_cons (odd_p (pv_str (by decide) (by decide))) (oddl_cons (odd_p (pv_str (by decide) (by decide))) ?_))))
  exact oddl_ints [-1, 0, 1, 6, 7, 23, 24, 31, 32, -31, -32, 48, 49, 1000000, 1000001] (by decide)
noncomputable def Eh : Orc := ext "_law_odd" C_odd5 Eg
end Mine

set_option autoImplicit false
set_option linter.unusedSimpArgs false
set_option maxRecDepth 20000
namespace Mine
open PySem

theorem listAt_lt {H : Hp} {i : Nat} {l : List V} (h : listAt H i = some l) : i < H.length := by
  unfold listAt at h
  split at h
  · rename_i xs e
    exact (List.getElem?_eq_some_iff.mp e).1
  · cases h
theorem listAt_put {H : Hp} {i : Nat} {l m : List V} (h : listAt H i = some l) : listAt (H.set i (.list m)) i = some m := by
  unfold listAt
  rw [List.getElem?_set_self (listAt_lt h)]
theorem listAt_other {H : Hp} {i j : Nat} {o : O} (h : i ≠ j) : listAt (H.set i o) j = listAt H j := by
  unfold listAt
  rw [List.getElem?_set_ne h]

noncomputable def Lv (R : List V → Prop) (H : Hp) (i : Nat) : Prop := ∃ as : List Nat, listAt H i = some (as.map V.ref) ∧ 1 ≤ as.length ∧ as.length ≤ 9 ∧ ∀ a ∈ as, a ≠ i ∧ ∃ l, listAt H a = some l ∧ R l
noncomputable def C_lv5 : Ctr := fun vs H Q _ => ∃ ns, vs = [.scr ns] ∧ ∀ i H', Lv (Row 4) H' i → Q (.ref i) H'
theorem eh_c : Eh "_law_cell_at" = C_cell5 := rfl
theorem eh_p : Eh "_law_wide_plain" = C_wp5 := rfl
theorem eh_h : Eh "_law_wide_head" = C_wh5 := rfl
noncomputable abbrev lvB : List IS := [(.expr (.meth (.loc 3) .append [(.slice (.call (.ty .list) [(.call (.fn "_law_wide_head") [(.call (.fn "_law_cell_at") [(.loc 0), (.bin .Add (.lit (.int 8)) (.loc 1))]), (.loc 2)])]) none (some (.lit (.int 2))))]))]
theorem slice2 {a b c : V} : sliceL [a, b, c] none (some 2) = [a, b] := rfl
theorem Lv.add {H H1 : Hp} {i : Nat} {as : List Nat} {l : List V} (hi : listAt H i = some (as.map V.ref)) (h1 : 1 ≤ as.length) (h9 : as.length + 1 ≤ 9) (hr : ∀ a ∈ as, a ≠ i ∧ ∃ l, listAt H a = some l ∧ Row 4 l) (hp : H <+: H1) (hl : Row 4 l) :
    (listAt ((H1 ++ [O.list l]).set i (O.list (as.map V.ref ++ [V.ref H1.length]))) i = some ((as ++ [H1.length]).map V.ref)) ∧ ∀ a ∈ as ++ [H1.length], a ≠ i ∧ ∃ m, listAt ((H1 ++ [O.list l]).set i (O.list (as.map V.ref ++ [V.ref H1.length]))) a = some m ∧ Row 4 m := by
  have hil := listAt_lt hi
  have hle := hp.length_le
  refine ⟨?_, fun a ha => ?_⟩
  · rw [listAt_put (listAt_pre (hp.trans pre_new) hi), List.map_append]; rfl
  · rcases List.mem_append.mp ha with q | q
    · obtain ⟨e1, m, e2, e3⟩ := hr a q
      exact ⟨e1, m, by rw [listAt_other (Ne.symm e1)]; exact listAt_pre (hp.trans pre_new) e2, e3⟩
    · rw [List.mem_singleton.mp q]
      have hne : H1.length ≠ i := by omega
      exact ⟨hne, l, by rw [listAt_other (Ne.symm hne)]; exact listAt_new, hl⟩
theorem lv_loop {XF : XS} {ns : List Int} {rule : V} {t4 t5 t6 : Option V} {i : Nat} {Q : QS} : ∀ (ks : List V) (as : List Nat) (t1 : Option V) (H : Hp), (∀ k ∈ ks, ∃ j : Int, k = .int j ∧ 0 ≤ j) →
    listAt H i = some (as.map V.ref) → 1 ≤ as.length → as.length + ks.length ≤ 9 → (∀ a ∈ as, a ≠ i ∧ ∃ l, listAt H a = some l ∧ Row 4 l) →
    (∀ t1' H', Lv (Row 4) H' i → Q .next [some (.scr ns), t1', some rule, some (.ref i), t4, t5, t6] H') →
    forGo (whBX Eh lvB XF) (fun _ => True) [1] ks [some (.scr ns), t1, some rule, some (.ref i), t4, t5, t6] H Q := by
  intro ks
  induction ks with
  | nil => intro as t1 H _ hi h1 h9 hr q; exact q _ _ ⟨as, hi, h1, h9, hr⟩
  | cons k ks ih =>
    intro as t1 H hk hi h1 h9 hr q
    rw [List.length_cons] at h9
    obtain ⟨j, rfl, hj⟩ := hk k List.mem_cons_self
    rw [foX_cons]
    show wpSs Eh lvB [some (.scr ns), some (.int j), some rule, some (.ref i), t4, t5, t6] H _ _
    refine zs_cons ?_
    generalize hK : sqX Eh [] = K
    simp only [↓X_lit, ↓X_loc, ↓X_bin, ↓negX_int, ↓X_neg, ↓X_not, ↓Y_not, ↓X_and, ↓Y_and, ↓X_or, ↓Y_or, ↓X_cmp, ↓X_cmp2, ↓X_ite, ↓Y_ite, ↓X_tup, ↓X_lst, ↓X_call, ↓X_meth, ↓X_sub, ↓X_comp, ↓Y_lit, ↓Y_loc, ↓Y_cmp, ↓Y_cmp2, ↓Y_call, ↓Y_sub, ↓XEs_nil, ↓XEs_cons, ↓XIfs_nil, ↓XIfs_cons, ↓Z_expr, ↓Z_assign, ↓Z_ret, ↓Z_retNone, ↓Z_ite, ↓Z_for, ↓Z_pass, ↓Z_brk, ↓Z_cont, ↓Zs_nil, ↓sqX_next, ↓sqX_brk, ↓sqX_cont, ↓sqX_ret, ↓Zs_cons, ↓wkX_next, ↓wkX_cont, ↓wkX_brk, ↓wkX_ret, ↓fkX_next, ↓fkX_cont, ↓fkX_brk, ↓fkX_ret, ↓xb_one, ↓oKK_some, ↓oK_some, ↓tX_bool, ↓iX_t, ↓iX_f, ↓iX_d, ↓q_add, ↓q_sub, ↓q_mul, ↓q_div, ↓q_mod, ↓q_pow, ↓q_list, ↓q_eq, ↓q_ne, ↓q_eqs, ↓q_nes, ↓q_eqb, ↓q_lt, ↓q_le, ↓q_gt, ↓q_ge, ↓q_in, ↓q_inl, ↓q_nin, ↓q_is, ↓q_isnot, ↓q_stup, ↓q_sref, ↓q_sscr, ↓q_fn, ↓q_lentup, ↓q_lenref, ↓q_lenscr, ↓q_isi, ↓q_all, ↓q_max, ↓q_min, ↓q_int, ↓q_tuple, ↓q_listc, ↓q_append, ↓q_clear, ↓q_index, ↓q_pop, ↓q_slicet, ↓q_revt, ↓q_revl, ↓q_set, ↓q_repr, ↓q_eqo, ↓X_rev, ↓Z_set, ↓q_addt, ↓q_listt, ↓q_ninl, ↓u_tup, ↓u_ref, ↓u_range, ↓q_slice, ↓oi_none, ↓oi_int, ↓X_slice, ↓XO_none, ↓XO_some, ↓u_rev, ↓u_zip, ↓xb_two, ↓u_range2, ↓retV_ret, ↓retV_next, List.getElem?_cons_zero, List.getElem?_cons_succ, List.set_cons_zero, List.set_cons_succ, Bool.not_true, Bool.not_false, idx_0, idx_1, idx_2, idx_3, idx_4, idx_5, Int.reduceAdd, Int.reduceSub, Int.reduceMul, Int.reduceNeg, Int.reducePow, Int.reduceLT, Int.reduceLE, Int.reduceEq, Int.reduceNe, Int.reduceToNat, Int.reduceAbs, Nat.reduceAdd, Nat.reduceLT, Nat.reduceLeDiff, Nat.reducePow, Nat.reduceLT, List.length_cons, List.length_nil, true_implies, false_implies, not_true_eq_false, not_false_eq_true, and_true, true_and, and_self, or_true, true_or, decide_true, decide_false, exists_eq_left', Option.some.injEq, okMeth, hi, ↓eh_c, ↓eh_h]
    refine ⟨⟨_, rfl⟩, ns, _, rfl, by omega, fun c => ?_⟩
    simp only [↓X_lit, ↓X_loc, ↓X_bin, ↓negX_int, ↓X_neg, ↓X_not, ↓Y_not, ↓X_and, ↓Y_and, ↓X_or, ↓Y_or, ↓X_cmp, ↓X_cmp2, ↓X_ite, ↓Y_ite, ↓X_tup, ↓X_lst, ↓X_call, ↓X_meth, ↓X_sub, ↓X_comp, ↓Y_lit, ↓Y_loc, ↓Y_cmp, ↓Y_cmp2, ↓Y_call, ↓Y_sub, ↓XEs_nil, ↓XEs_cons, ↓XIfs_nil, ↓XIfs_cons, ↓Z_expr, ↓Z_assign, ↓Z_ret, ↓Z_retNone, ↓Z_ite, ↓Z_for, ↓Z_pass, ↓Z_brk, ↓Z_cont, ↓Zs_nil, ↓sqX_next, ↓sqX_brk, ↓sqX_cont, ↓sqX_ret, ↓Zs_cons, ↓wkX_next, ↓wkX_cont, ↓wkX_brk, ↓wkX_ret, ↓fkX_next, ↓fkX_cont, ↓fkX_brk, ↓fkX_ret, ↓xb_one, ↓oKK_some, ↓oK_some, ↓tX_bool, ↓iX_t, ↓iX_f, ↓iX_d, ↓q_add, ↓q_sub, ↓q_mul, ↓q_div, ↓q_mod, ↓q_pow, ↓q_list, ↓q_eq, ↓q_ne, ↓q_eqs, ↓q_nes, ↓q_eqb, ↓q_lt, ↓q_le, ↓q_gt, ↓q_ge, ↓q_in, ↓q_inl, ↓q_nin, ↓q_is, ↓q_isnot, ↓q_stup, ↓q_sref, ↓q_sscr, ↓q_fn, ↓q_lentup, ↓q_lenref, ↓q_lenscr, ↓q_isi, ↓q_all, ↓q_max, ↓q_min, ↓q_int, ↓q_tuple, ↓q_listc, ↓q_append, ↓q_clear, ↓q_index, ↓q_pop, ↓q_slicet, ↓q_revt, ↓q_revl, ↓q_set, ↓q_repr, ↓q_eqo, ↓X_rev, ↓Z_set, ↓q_addt, ↓q_listt, ↓q_ninl, ↓u_tup, ↓u_ref, ↓u_range, ↓q_slice, ↓oi_none, ↓oi_int, ↓X_slice, ↓XO_none, ↓XO_some, ↓u_rev, ↓u_zip, ↓xb_two, ↓u_range2, ↓retV_ret, ↓retV_next, List.getElem?_cons_zero, List.getElem?_cons_succ, List.set_cons_zero, List.set_cons_succ, Bool.not_true, Bool.not_false, idx_0, idx_1, idx_2, idx_3, idx_4, idx_5, Int.reduceAdd, Int.reduceSub, Int.reduceMul, Int.reduceNeg, Int.reducePow, Int.reduceLT, Int.reduceLE, Int.reduceEq, Int.reduceNe, Int.reduceToNat, Int.reduceAbs, Nat.reduceAdd, Nat.reduceLT, Nat.reduceLeDiff, Nat.reducePow, Nat.reduceLT, List.length_cons, List.length_nil, true_implies, false_implies, not_true_eq_false, not_false_eq_true, and_true, true_and, and_self, or_true, true_or, decide_true, decide_false, exists_eq_left', Option.some.injEq, ↓eh_h]
    refine ⟨c, rule, rfl, fun w x H' hp hw hx => ?_⟩
    have hp2 : H <+: H' ++ [O.list [V.str w, x, rule]] := hp.trans pre_new
    simp only [↓X_lit, ↓X_loc, ↓X_bin, ↓negX_int, ↓X_neg, ↓X_not, ↓Y_not, ↓X_and, ↓Y_and, ↓X_or, ↓Y_or, ↓X_cmp, ↓X_cmp2, ↓X_ite, ↓Y_ite, ↓X_tup, ↓X_lst, ↓X_call, ↓X_meth, ↓X_sub, ↓X_comp, ↓Y_lit, ↓Y_loc, ↓Y_cmp, ↓Y_cmp2, ↓Y_call, ↓Y_sub, ↓XEs_nil, ↓XEs_cons, ↓XIfs_nil, ↓XIfs_cons, ↓Z_expr, ↓Z_assign, ↓Z_ret, ↓Z_retNone, ↓Z_ite, ↓Z_for, ↓Z_pass, ↓Z_brk, ↓Z_cont, ↓Zs_nil, ↓sqX_next, ↓sqX_brk, ↓sqX_cont, ↓sqX_ret, ↓Zs_cons, ↓wkX_next, ↓wkX_cont, ↓wkX_brk, ↓wkX_ret, ↓fkX_next, ↓fkX_cont, ↓fkX_brk, ↓fkX_ret, ↓xb_one, ↓oKK_some, ↓oK_some, ↓tX_bool, ↓iX_t, ↓iX_f, ↓iX_d, ↓q_add, ↓q_sub, ↓q_mul, ↓q_div, ↓q_mod, ↓q_pow, ↓q_list, ↓q_eq, ↓q_ne, ↓q_eqs, ↓q_nes, ↓q_eqb, ↓q_lt, ↓q_le, ↓q_gt, ↓q_ge, ↓q_in, ↓q_inl, ↓q_nin, ↓q_is, ↓q_isnot, ↓q_stup, ↓q_sref, ↓q_sscr, ↓q_fn, ↓q_lentup, ↓q_lenref, ↓q_lenscr, ↓q_isi, ↓q_all, ↓q_max, ↓q_min, ↓q_int, ↓q_tuple, ↓q_listc, ↓q_append, ↓q_clear, ↓q_index, ↓q_pop, ↓q_slicet, ↓q_revt, ↓q_revl, ↓q_set, ↓q_repr, ↓q_eqo, ↓X_rev, ↓Z_set, ↓q_addt, ↓q_listt, ↓q_ninl, ↓u_tup, ↓u_ref, ↓u_range, ↓q_slice, ↓oi_none, ↓oi_int, ↓X_slice, ↓XO_none, ↓XO_some, ↓u_rev, ↓u_zip, ↓xb_two, ↓u_range2, ↓retV_ret, ↓retV_next, List.getElem?_cons_zero, List.getElem?_cons_succ, List.set_cons_zero, List.set_cons_succ, Bool.not_true, Bool.not_false, idx_0, idx_1, idx_2, idx_3, idx_4, idx_5, Int.reduceAdd, Int.reduceSub, Int.reduceMul, Int.reduceNeg, Int.reducePow, Int.reduceLT, Int.reduceLE, Int.reduceEq, Int.reduceNe, Int.reduceToNat, Int.reduceAbs, Nat.reduceAdd, Nat.reduceLT, Nat.reduceLeDiff, Nat.reducePow, Nat.reduceLT, List.length_cons, List.length_nil, true_implies, false_implies, not_true_eq_false, not_false_eq_true, and_true, true_and, and_self, or_true, true_or, decide_true, decide_false, exists_eq_left', Option.some.injEq, listAt_new, slice2, listAt_pre pre_new (listAt_pre hp2 hi)]
    refine ⟨by rw [List.length_map]; omega, ?_⟩
    subst hK
    obtain ⟨b1, b2⟩ := Lv.add hi h1 (by omega) hr hp2 (row_of (m := 4) hw (r := [x]) (Nat.le_of_ble_eq_true rfl) (Nat.le_of_ble_eq_true rfl) (itl1 hx))
    refine ⟨trivial, ih _ _ _ (fun x hx => hk x (List.mem_cons_of_mem _ hx)) b1 (by rw [List.length_append]; omega) (by rw [List.length_append]; show as.length + 1 + _ ≤ 9; omega) b2 q⟩
theorem w_lv5 : ∀ vs H Q X, C_lv5 vs H Q X → wpFn Eh f_l_levels vs H Q X := by
  rintro vs H Q X ⟨ns, rfl, q⟩
  refine fn_of rfl ?_
  change wpSs Eh f_l_levels.body [some (.scr ns), none, none, none, none, none, none] H _ _
  refine zs_cons ?_
  generalize hK : sqX Eh (_ :: _) = K
  simp only [↓X_lit, ↓X_loc, ↓X_bin, ↓negX_int, ↓X_neg, ↓X_not, ↓Y_not, ↓X_and, ↓Y_and, ↓X_or, ↓Y_or, ↓X_cmp, ↓X_cmp2, ↓X_ite, ↓Y_ite, ↓X_tup, ↓X_lst, ↓X_call, ↓X_meth, ↓X_sub, ↓X_comp, ↓Y_lit, ↓Y_loc, ↓Y_cmp, ↓Y_cmp2, ↓Y_call, ↓Y_sub, ↓XEs_nil, ↓XEs_cons, ↓XIfs_nil, ↓XIfs_cons, ↓Z_expr, ↓Z_assign, ↓Z_ret, ↓Z_retNone, ↓Z_ite, ↓Z_for, ↓Z_pass, ↓Z_brk, ↓Z_cont, ↓Zs_nil, ↓sqX_next, ↓sqX_brk, ↓sqX_cont, ↓sqX_ret, ↓Zs_cons, ↓wkX_next, ↓wkX_cont, ↓wkX_brk, ↓wkX_ret, ↓fkX_next, ↓fkX_cont, ↓fkX_brk, ↓fkX_ret, ↓xb_one, ↓oKK_some, ↓oK_some, ↓tX_bool, ↓iX_t, ↓iX_f, ↓iX_d, ↓q_add, ↓q_sub, ↓q_mul, ↓q_div, ↓q_mod, ↓q_pow, ↓q_eq, ↓q_ne, ↓q_eqs, ↓q_nes, ↓q_eqb, ↓q_lt, ↓q_le, ↓q_gt, ↓q_ge, ↓q_in, ↓q_inl, ↓q_nin, ↓q_is, ↓q_isnot, ↓q_stup, ↓q_sref, ↓q_sscr, ↓q_fn, ↓q_lentup, ↓q_lenref, ↓q_lenscr, ↓q_isi, ↓q_all, ↓q_max, ↓q_min, ↓q_int, ↓q_tuple, ↓q_listc, ↓q_append, ↓q_clear, ↓q_index, ↓q_pop, ↓q_slicet, ↓q_revt, ↓q_revl, ↓q_set, ↓q_repr, ↓q_eqo, ↓X_rev, ↓Z_set, ↓q_addt, ↓q_listt, ↓q_ninl, ↓u_tup, ↓u_ref, ↓u_range, ↓q_slice, ↓oi_none, ↓oi_int, ↓X_slice, ↓XO_none, ↓XO_some, ↓u_rev, ↓u_zip, ↓xb_two, ↓u_range2, ↓retV_ret, ↓retV_next, List.getElem?_cons_zero, List.getElem?_cons_succ, List.set_cons_zero, List.set_cons_succ, Bool.not_true, Bool.not_false, idx_0, idx_1, idx_2, idx_3, idx_4, idx_5, Int.reduceAdd, Int.reduceSub, Int.reduceMul, Int.reduceNeg, Int.reducePow, Int.reduceLT, Int.reduceLE, Int.reduceEq, Int.reduceNe, Int.reduceToNat, Int.reduceAbs, Nat.reduceAdd, Nat.reduceLT, Nat.reduceLeDiff, Nat.reducePow, Nat.reduceLT, List.length_cons, List.length_nil, true_implies, false_implies, not_true_eq_false, not_false_eq_true, and_true, true_and, and_self, or_true, true_or, decide_true, decide_false, exists_eq_left', Option.some.injEq]
  have hit : ∀ k ∈ rangeL 0 3, ∃ j : Int, k = .int j ∧ 0 ≤ j := fun k hk => by
    obtain ⟨j, e, h0, _⟩ := rangeL_mem hk; exact ⟨j, e, h0⟩
  have hil : (rangeL 0 3).length = 3 := by rw [rangeL_len]; decide
  revert hit hil
  generalize rangeL 0 3 = items
  intro hit hil
  refine comp_any (R := fun _ => True) (P := fun y => ∃ i, y = .int i) _ [] H (fun x hx H' hR K' hK' => ?_) trivial (fun y hy => nomatch hy) fun ys H' hR hl hys => ?_
  · obtain ⟨j, rfl, hj⟩ := hit x hx
    simp only [↓X_lit, ↓X_loc, ↓X_bin, ↓negX_int, ↓X_neg, ↓X_not, ↓Y_not, ↓X_and, ↓Y_and, ↓X_or, ↓Y_or, ↓X_cmp, ↓X_cmp2, ↓X_ite, ↓Y_ite, ↓X_tup, ↓X_lst, ↓X_call, ↓X_meth, ↓X_sub, ↓X_comp, ↓Y_lit, ↓Y_loc, ↓Y_cmp, ↓Y_cmp2, ↓Y_call, ↓Y_sub, ↓XEs_nil, ↓XEs_cons, ↓XIfs_nil, ↓XIfs_cons, ↓Z_expr, ↓Z_assign, ↓Z_ret, ↓Z_retNone, ↓Z_ite, ↓Z_for, ↓Z_pass, ↓Z_brk, ↓Z_cont, ↓Zs_nil, ↓sqX_next, ↓sqX_brk, ↓sqX_cont, ↓sqX_ret, ↓Zs_cons, ↓wkX_next, ↓wkX_cont, ↓wkX_brk, ↓wkX_ret, ↓fkX_next, ↓fkX_cont, ↓fkX_brk, ↓fkX_ret, ↓xb_one, ↓oKK_some, ↓oK_some, ↓tX_bool, ↓iX_t, ↓iX_f, ↓iX_d, ↓q_add, ↓q_sub, ↓q_mul, ↓q_div, ↓q_mod, ↓q_pow, ↓q_list, ↓q_eq, ↓q_ne, ↓q_eqs, ↓q_nes, ↓q_eqb, ↓q_lt, ↓q_le, ↓q_gt, ↓q_ge, ↓q_in, ↓q_inl, ↓q_nin, ↓q_is, ↓q_isnot, ↓q_stup, ↓q_sref, ↓q_sscr, ↓q_fn, ↓q_lentup, ↓q_lenref, ↓q_lenscr, ↓q_isi, ↓q_all, ↓q_max, ↓q_min, ↓q_int, ↓q_tuple, ↓q_listc, ↓q_append, ↓q_clear, ↓q_index, ↓q_pop, ↓q_slicet, ↓q_revt, ↓q_revl, ↓q_set, ↓q_repr, ↓q_eqo, ↓X_rev, ↓Z_set, ↓q_addt, ↓q_listt, ↓q_ninl, ↓u_tup, ↓u_ref, ↓u_range, ↓q_slice, ↓oi_none, ↓oi_int, ↓X_slice, ↓XO_none, ↓XO_some, ↓u_rev, ↓u_zip, ↓xb_two, ↓u_range2, ↓retV_ret, ↓retV_next, List.getElem?_cons_zero, List.getElem?_cons_succ, List.set_cons_zero, List.set_cons_succ, Bool.not_true, Bool.not_false, idx_0, idx_1, idx_2, idx_3, idx_4, idx_5, Int.reduceAdd, Int.reduceSub, Int.reduceMul, Int.reduceNeg, Int.reducePow, Int.reduceLT, Int.reduceLE, Int.reduceEq, Int.reduceNe, Int.reduceToNat, Int.reduceAbs, Nat.reduceAdd, Nat.reduceLT, Nat.reduceLeDiff, Nat.reducePow, Nat.reduceLT, List.length_cons, List.length_nil, true_implies, false_implies, not_true_eq_false, not_false_eq_true, and_true, true_and, and_self, or_true, true_or, decide_true, decide_false, exists_eq_left', Option.some.injEq, ↓eh_c]
    exact ⟨ns, j, rfl, hj, fun i => hK' _ _ trivial ⟨i, rfl⟩⟩
  · rw [hil, List.length_nil] at hl
    obtain ⟨a, b, c, rfl⟩ := three_list hl
    obtain ⟨a, rfl⟩ := hys a (by simp)
    obtain ⟨b, rfl⟩ := hys b (by simp)
    obtain ⟨c, rfl⟩ := hys c (by simp)
    refine ⟨Nat.le_of_ble_eq_true rfl, ?_⟩
    simp only [↓X_lit, ↓X_loc, ↓X_bin, ↓negX_int, ↓X_neg, ↓X_not, ↓Y_not, ↓X_and, ↓Y_and, ↓X_or, ↓Y_or, ↓X_cmp, ↓X_cmp2, ↓X_ite, ↓Y_ite, ↓X_tup, ↓X_lst, ↓X_call, ↓X_meth, ↓X_sub, ↓X_comp, ↓Y_lit, ↓Y_loc, ↓Y_cmp, ↓Y_cmp2, ↓Y_call, ↓Y_sub, ↓XEs_nil, ↓XEs_cons, ↓XIfs_nil, ↓XIfs_cons, ↓Z_expr, ↓Z_assign, ↓Z_ret, ↓Z_retNone, ↓Z_ite, ↓Z_for, ↓Z_pass, ↓Z_brk, ↓Z_cont, ↓Zs_nil, ↓sqX_next, ↓sqX_brk, ↓sqX_cont, ↓sqX_ret, ↓Zs_cons, ↓wkX_next, ↓wkX_cont, ↓wkX_brk, ↓wkX_ret, ↓fkX_next, ↓fkX_cont, ↓fkX_brk, ↓fkX_ret, ↓xb_one, ↓oKK_some, ↓oK_some, ↓tX_bool, ↓iX_t, ↓iX_f, ↓iX_d, ↓q_add, ↓q_sub, ↓q_mul, ↓q_div, ↓q_mod, ↓q_pow, ↓q_list, ↓q_eq, ↓q_ne, ↓q_eqs, ↓q_nes, ↓q_eqb, ↓q_lt, ↓q_le, ↓q_gt, ↓q_ge, ↓q_in, ↓q_inl, ↓q_nin, ↓q_is, ↓q_isnot, ↓q_stup, ↓q_sref, ↓q_sscr, ↓q_fn, ↓q_lentup, ↓q_lenref, ↓q_lenscr, ↓q_isi, ↓q_all, ↓q_max, ↓q_min, ↓q_int, ↓q_tuple, ↓q_listc, ↓q_append, ↓q_clear, ↓q_index, ↓q_pop, ↓q_slicet, ↓q_revt, ↓q_revl, ↓q_set, ↓q_repr, ↓q_eqo, ↓X_rev, ↓Z_set, ↓q_addt, ↓q_listt, ↓q_ninl, ↓u_tup, ↓u_ref, ↓u_range, ↓q_slice, ↓oi_none, ↓oi_int, ↓X_slice, ↓XO_none, ↓XO_some, ↓u_rev, ↓u_zip, ↓xb_two, ↓u_range2, ↓retV_ret, ↓retV_next, List.getElem?_cons_zero, List.getElem?_cons_succ, List.set_cons_zero, List.set_cons_succ, Bool.not_true, Bool.not_false, idx_0, idx_1, idx_2, idx_3, idx_4, idx_5, Int.reduceAdd, Int.reduceSub, Int.reduceMul, Int.reduceNeg, Int.reducePow, Int.reduceLT, Int.reduceLE, Int.reduceEq, Int.reduceNe, Int.reduceToNat, Int.reduceAbs, Nat.reduceAdd, Nat.reduceLT, Nat.reduceLeDiff, Nat.reducePow, Nat.reduceLT, List.length_cons, List.length_nil, true_implies, false_implies, not_true_eq_false, not_false_eq_true, and_true, true_and, and_self, or_true, true_or, decide_true, decide_false, exists_eq_left', Option.some.injEq, ↓eh_p]
    refine ⟨_, a, b, c, rfl, listAt_new, fun l H2 hp hrow => ?_⟩
    subst hK
    change wpSs Eh (f_l_levels.body.drop 1) [some (.scr ns), none, some (.tup l), none, none, none, none] H2 _ _
    refine zs_cons ?_
    generalize hK : sqX Eh (_ :: _) = K
    simp only [↓X_lit, ↓X_loc, ↓X_bin, ↓negX_int, ↓X_neg, ↓X_not, ↓Y_not, ↓X_and, ↓Y_and, ↓X_or, ↓Y_or, ↓X_cmp, ↓X_cmp2, ↓X_ite, ↓Y_ite, ↓X_tup, ↓X_lst, ↓X_call, ↓X_meth, ↓X_sub, ↓X_comp, ↓Y_lit, ↓Y_loc, ↓Y_cmp, ↓Y_cmp2, ↓Y_call, ↓Y_sub, ↓XEs_nil, ↓XEs_cons, ↓XIfs_nil, ↓XIfs_cons, ↓Z_expr, ↓Z_assign, ↓Z_ret, ↓Z_retNone, ↓Z_ite, ↓Z_for, ↓Z_pass, ↓Z_brk, ↓Z_cont, ↓Zs_nil, ↓sqX_next, ↓sqX_brk, ↓sqX_cont, ↓sqX_ret, ↓Zs_cons, ↓wkX_next, ↓wkX_cont, ↓wkX_brk, ↓wkX_ret, ↓fkX_next, ↓fkX_cont, ↓fkX_brk, ↓fkX_ret, ↓xb_one, ↓oKK_some, ↓oK_some, ↓tX_bool, ↓iX_t, ↓iX_f, ↓iX_d, ↓q_add, ↓q_sub, ↓q_mul, ↓q_div, ↓q_mod, ↓q_pow, ↓q_list, ↓q_eq, ↓q_ne, ↓q_eqs, ↓q_nes, ↓q_eqb, ↓q_lt, ↓q_le, ↓q_gt, ↓q_ge, ↓q_in, ↓q_inl, ↓q_nin, ↓q_is, ↓q_isnot, ↓q_stup, ↓q_sref, ↓q_sscr, ↓q_fn, ↓q_lentup, ↓q_lenref, ↓q_lenscr, ↓q_isi, ↓q_all, ↓q_max, ↓q_min, ↓q_int, ↓q_tuple, ↓q_listc, ↓q_append, ↓q_clear, ↓q_index, ↓q_pop, ↓q_slicet, ↓q_revt, ↓q_revl, ↓q_set, ↓q_repr, ↓q_eqo, ↓X_rev, ↓Z_set, ↓q_addt, ↓q_listt, ↓q_ninl, ↓u_tup, ↓u_ref, ↓u_range, ↓q_slice, ↓oi_none, ↓oi_int, ↓X_slice, ↓XO_none, ↓XO_some, ↓u_rev, ↓u_zip, ↓xb_two, ↓u_range2, ↓retV_ret, ↓retV_next, List.getElem?_cons_zero, List.getElem?_cons_succ, List.set_cons_zero, List.set_cons_succ, Bool.not_true, Bool.not_false, idx_0, idx_1, idx_2, idx_3, idx_4, idx_5, Int.reduceAdd, Int.reduceSub, Int.reduceMul, Int.reduceNeg, Int.reducePow, Int.reduceLT, Int.reduceLE, Int.reduceEq, Int.reduceNe, Int.reduceToNat, Int.reduceAbs, Nat.reduceAdd, Nat.reduceLT, Nat.reduceLeDiff, Nat.reducePow, Nat.reduceLT, List.length_cons, List.length_nil, true_implies, false_implies, not_true_eq_false, not_false_eq_true, and_true, true_and, and_self, or_true, true_or, decide_true, decide_false, exists_eq_left', Option.some.injEq]
    subst hK
    generalize hH3 : H2 ++ [O.list l] ++ [O.list [V.ref (List.length H2)]] = H3
    have h3a : listAt H3 (H2 ++ [O.list l]).length = some ([H2.length].map V.ref) := by rw [← hH3]; exact listAt_new
    have h3b : listAt H3 H2.length = some l := by rw [← hH3]; exact listAt_pre pre_new listAt_new
    have h3c : H2.length ≠ (H2 ++ [O.list l]).length := by rw [List.length_append]; show _ ≠ _ + 1; omega
    generalize (H2 ++ [O.list l]).length = i at h3a h3c
    change wpSs Eh (f_l_levels.body.drop 2) [some (.scr ns), none, some (.tup l), some (.ref i), none, none, none] H3 _ _
    refine zs_cons ?_
    generalize hK : sqX Eh (_ :: _) = K
    simp only [↓X_lit, ↓X_loc, ↓X_bin, ↓negX_int, ↓X_neg, ↓X_not, ↓Y_not, ↓X_and, ↓Y_and, ↓X_or, ↓Y_or, ↓X_cmp, ↓X_cmp2, ↓X_ite, ↓Y_ite, ↓X_tup, ↓X_lst, ↓X_call, ↓X_meth, ↓X_sub, ↓X_comp, ↓Y_lit, ↓Y_loc, ↓Y_cmp, ↓Y_cmp2, ↓Y_call, ↓Y_sub, ↓XEs_nil, ↓XEs_cons, ↓XIfs_nil, ↓XIfs_cons, ↓Z_expr, ↓Z_assign, ↓Z_ret, ↓Z_retNone, ↓Z_ite, ↓Z_for, ↓Z_pass, ↓Z_brk, ↓Z_cont, ↓Zs_nil, ↓sqX_next, ↓sqX_brk, ↓sqX_cont, ↓sqX_ret, ↓Zs_cons, ↓wkX_next, ↓wkX_cont, ↓wkX_brk, ↓wkX_ret, ↓fkX_next, ↓fkX_cont, ↓fkX_brk, ↓fkX_ret, ↓xb_one, ↓oKK_some, ↓oK_some, ↓tX_bool, ↓iX_t, ↓iX_f, ↓iX_d, ↓q_add, ↓q_sub, ↓q_mul, ↓q_div, ↓q_mod, ↓q_pow, ↓q_list, ↓q_eq, ↓q_ne, ↓q_eqs, ↓q_nes, ↓q_eqb, ↓q_lt, ↓q_le, ↓q_gt, ↓q_ge, ↓q_in, ↓q_inl, ↓q_nin, ↓q_is, ↓q_isnot, ↓q_stup, ↓q_sref, ↓q_sscr, ↓q_fn, ↓q_lentup, ↓q_lenref, ↓q_lenscr, ↓q_isi, ↓q_all, ↓q_max, ↓q_min, ↓q_int, ↓q_tuple, ↓q_listc, ↓q_append, ↓q_clear, ↓q_index, ↓q_pop, ↓q_slicet, ↓q_revt, ↓q_revl, ↓q_set, ↓q_repr, ↓q_eqo, ↓X_rev, ↓Z_set, ↓q_addt, ↓q_listt, ↓q_ninl, ↓u_tup, ↓u_ref, ↓u_range, ↓q_slice, ↓oi_none, ↓oi_int, ↓X_slice, ↓XO_none, ↓XO_some, ↓u_rev, ↓u_zip, ↓xb_two, ↓u_range2, ↓retV_ret, ↓retV_next, List.getElem?_cons_zero, List.getElem?_cons_succ, List.set_cons_zero, List.set_cons_succ, Bool.not_true, Bool.not_false, idx_0, idx_1, idx_2, idx_3, idx_4, idx_5, Int.reduceAdd, Int.reduceSub, Int.reduceMul, Int.reduceNeg, Int.reducePow, Int.reduceLT, Int.reduceLE, Int.reduceEq, Int.reduceNe, Int.reduceToNat, Int.reduceAbs, Nat.reduceAdd, Nat.reduceLT, Nat.reduceLeDiff, Nat.reducePow, Nat.reduceLT, List.length_cons, List.length_nil, true_implies, false_implies, not_true_eq_false, not_false_eq_true, and_true, true_and, and_self, or_true, true_or, decide_true, decide_false, exists_eq_left', Option.some.injEq, ↓eh_c]
    refine ⟨ns, 3, rfl, by decide, fun c9 => ?_⟩
    simp only [↓X_lit, ↓X_loc, ↓X_bin, ↓negX_int, ↓X_neg, ↓X_not, ↓Y_not, ↓X_and, ↓Y_and, ↓X_or, ↓Y_or, ↓X_cmp, ↓X_cmp2, ↓X_ite, ↓Y_ite, ↓X_tup, ↓X_lst, ↓X_call, ↓X_meth, ↓X_sub, ↓X_comp, ↓Y_lit, ↓Y_loc, ↓Y_cmp, ↓Y_cmp2, ↓Y_call, ↓Y_sub, ↓XEs_nil, ↓XEs_cons, ↓XIfs_nil, ↓XIfs_cons, ↓Z_expr, ↓Z_assign, ↓Z_ret, ↓Z_retNone, ↓Z_ite, ↓Z_for, ↓Z_pass, ↓Z_brk, ↓Z_cont, ↓Zs_nil, ↓sqX_next, ↓sqX_brk, ↓sqX_cont, ↓sqX_ret, ↓Zs_cons, ↓wkX_next, ↓wkX_cont, ↓wkX_brk, ↓wkX_ret, ↓fkX_next, ↓fkX_cont, ↓fkX_brk, ↓fkX_ret, ↓xb_one, ↓oKK_some, ↓oK_some, ↓tX_bool, ↓iX_t, ↓iX_f, ↓iX_d, ↓q_add, ↓q_sub, ↓q_mul, ↓q_div, ↓q_mod, ↓q_pow, ↓q_list, ↓q_eq, ↓q_ne, ↓q_eqs, ↓q_nes, ↓q_eqb, ↓q_lt, ↓q_le, ↓q_gt, ↓q_ge, ↓q_in, ↓q_inl, ↓q_nin, ↓q_is, ↓q_isnot, ↓q_stup, ↓q_sref, ↓q_sscr, ↓q_fn, ↓q_lentup, ↓q_lenref, ↓q_lenscr, ↓q_isi, ↓q_all, ↓q_max, ↓q_min, ↓q_int, ↓q_tuple, ↓q_listc, ↓q_append, ↓q_clear, ↓q_index, ↓q_pop, ↓q_slicet, ↓q_revt, ↓q_revl, ↓q_set, ↓q_repr, ↓q_eqo, ↓X_rev, ↓Z_set, ↓q_addt, ↓q_listt, ↓q_ninl, ↓u_tup, ↓u_ref, ↓u_range, ↓q_slice, ↓oi_none, ↓oi_int, ↓X_slice, ↓XO_none, ↓XO_some, ↓u_rev, ↓u_zip, ↓xb_two, ↓u_range2, ↓retV_ret, ↓retV_next, List.getElem?_cons_zero, List.getElem?_cons_succ, List.set_cons_zero, List.set_cons_succ, Bool.not_true, Bool.not_false, idx_0, idx_1, idx_2, idx_3, idx_4, idx_5, Int.reduceAdd, Int.reduceSub, Int.reduceMul, Int.reduceNeg, Int.reducePow, Int.reduceLT, Int.reduceLE, Int.reduceEq, Int.reduceNe, Int.reduceToNat, Int.reduceAbs, Nat.reduceAdd, Nat.reduceLT, Nat.reduceLeDiff, Nat.reducePow, Nat.reduceLT, List.length_cons, List.length_nil, true_implies, false_implies, not_true_eq_false, not_false_eq_true, and_true, true_and, and_self, or_true, true_or, decide_true, decide_false, exists_eq_left', Option.some.injEq]
    have e9 := mod_in (c := c9) (m := 9) (by decide)
    refine ⟨⟨by omega, by omega⟩, ?_⟩
    refine lv_loop _ [H2.length] _ _ (fun k hk => ?_) h3a (Nat.le_refl 1) (by rw [rangeL_len]; show 1 + _ ≤ 9; omega) (fun a ha => ?_) fun t1' H' hlv => ?_
    · obtain ⟨j, e, h0, _⟩ := rangeL_mem hk; exact ⟨j, e, h0⟩
    · rw [List.mem_singleton.mp ha]; exact ⟨h3c, l, h3b, hrow⟩
    · subst hK
      exact q i H' hlv
noncomputable def Ei : Orc := ext "_law_levels" C_lv5 Eh
end Mine

set_option autoImplicit false
set_option linter.unusedSimpArgs false
set_option maxRecDepth 20000
namespace Mine
open PySem

noncomputable def RowT (H : Hp) (l : List V) : Prop := 1 ≤ l.length ∧ l.length ≤ 6 ∧ TgL H 2000 2 l ∧ Ff l
noncomputable def LvT (H : Hp) (i : Nat) : Prop := Lv (RowT H) H i
theorem Row.t {H : Hp} {l : List V} (h : Row 4 l) : RowT H l := by
  obtain ⟨h1, h2, h3, w, r, rfl⟩ := h
  exact ⟨by omega, by omega, fun x hx => (h3 x hx).1.tg, ⟨_, rfl, Nat.zero_le _⟩⟩
theorem Lv.t {H : Hp} {i : Nat} (h : Lv (Row 4) H i) : LvT H i := by
  obtain ⟨as, h1, h2, h3, h4⟩ := h
  exact ⟨as, h1, h2, h3, fun a ha => by obtain ⟨e1, l, e2, e3⟩ := h4 a ha; exact ⟨e1, l, e2, e3.t⟩⟩
theorem lvT_put {H H1 : Hp} {i a : Nat} {as : List Nat} {l r : List V} (hi : listAt H i = some (as.map V.ref)) (h1 : 1 ≤ as.length) (h9 : as.length ≤ 9) (hr : ∀ b ∈ as, b ≠ i ∧ ∃ l, listAt H b = some l ∧ Row 4 l) (hai : a ≠ i) (hl : listAt H1 a = some l) (hp : H <+: H1)
    (h : RowT (H1.set a (.list r)) r) : LvT (H1.set a (.list r)) i := by
  refine ⟨as, ?_, h1, h9, fun b hb => ?_⟩
  · rw [listAt_other hai]; exact listAt_pre hp hi
  · obtain ⟨e1, m, e2, e3⟩ := hr b hb
    refine ⟨e1, ?_⟩
    by_cases hab : a = b
    · subst hab; exact ⟨r, listAt_put hl, h⟩
    · exact ⟨m, by rw [listAt_other hab]; exact listAt_pre hp e2, e3.t⟩
theorem OddV.tg {H H' : Hp} {v : V} {a : Nat} {o : O} (h : OddV H H' v) (ha : a < H.length) : Tg (H'.set a o) 2000 2 v := by
  rcases h with h | ⟨j, l, rfl, h1, h2, h3, h4⟩
  · exact h.tg
  · exact (tg_list h4 (by rw [listAt_other (by omega)]; exact h2) h3).mono (by decide) (by decide)
theorem mem_set_or {α : Type} {v x : α} : ∀ {l : List α} {k : Nat}, x ∈ l.set k v → x = v ∨ x ∈ l
  | [], _, h => nomatch h
  | a :: r, 0, h => by
    rcases List.mem_cons.mp h with q | q
    · exact .inl q
    · exact .inr (List.mem_cons_of_mem _ q)
  | a :: r, k + 1, h => by
    rcases List.mem_cons.mp h with q | q
    · exact .inr (by rw [q]; exact List.mem_cons_self)
    · rcases mem_set_or q with q | q
      · exact .inl q
      · exact .inr (List.mem_cons_of_mem _ q)
theorem rowT_set {H1 : Hp} {l : List V} {k : Nat} {v : V} (hl : Row 4 l) (hk : 1 ≤ k) (hv : Tg H1 2000 2 v) : RowT H1 (l.set k v) := by
  obtain ⟨h1, h2, h3, w, r, rfl⟩ := hl
  refine ⟨by rw [List.length_set]; omega, by rw [List.length_set]; omega, fun x hx => ?_, ?_⟩
  · rcases mem_set_or hx with q | q
    · rw [q]; exact hv
    · exact (h3 x q).1.tg
  · cases k with
    | zero => exact absurd hk (by decide)
    | succ k => exact ⟨_, rfl, Nat.zero_le _⟩
theorem rowT_set0 {H1 : Hp} {l : List V} {v : V} (hl : Row 4 l) (hv : Pv 2000 2 v) : RowT H1 (l.set 0 v) := by
  obtain ⟨h1, h2, h3, w, r, rfl⟩ := hl
  refine ⟨by rw [List.length_set]; omega, by rw [List.length_set]; omega, fun x hx => ?_, ?_⟩
  · rcases mem_set_or hx with q | q
    · rw [q]; exact hv.tg
    · exact (h3 x q).1.tg
  · obtain ⟨⟨d, e1, e2⟩, _⟩ := hv
    exact ⟨d, e1, Nat.le_trans e2.2.1 (by decide)⟩
theorem rowT_add {H1 : Hp} {l : List V} {v : V} (hl : Row 4 l) (hv : Tg H1 2000 2 v) : RowT H1 (l ++ [v]) := by
  obtain ⟨h1, h2, h3, w, r, rfl⟩ := hl
  refine ⟨by rw [List.length_append]; omega, by rw [List.length_append]; show _ + 1 ≤ 6; omega, fun x hx => ?_, ⟨_, rfl, Nat.zero_le _⟩⟩
  rcases List.mem_append.mp hx with q | q
  · exact (h3 x q).1.tg
  · rw [List.mem_singleton.mp q]; exact hv
theorem rowT_pop {H1 : Hp} {l : List V} (hl : Row 4 l) : RowT H1 l.dropLast := by
  obtain ⟨h1, h2, h3, w, r, rfl⟩ := hl
  refine ⟨by rw [List.length_dropLast]; omega, by rw [List.length_dropLast]; omega, fun x hx => (h3 x (List.dropLast_subset _ hx)).1.tg, ?_⟩
  cases r with
  | nil => exact absurd h1 (by simp)
  | cons b r => exact ⟨_, rfl, Nat.zero_le _⟩
theorem mem_sliceL {α : Type} {l : List α} {a b : Option Int} {x : α} (h : x ∈ sliceL l a b) : x ∈ l := List.mem_of_mem_drop (List.mem_of_mem_take h)
theorem len_sliceL {α : Type} {l : List α} {a b : Option Int} : (sliceL l a b).length ≤ l.length := by
  unfold sliceL
  simp only [List.length_take, List.length_drop]
  omega
theorem pvl_app {n k : Nat} {l m : List V} (h1 : PvL n k l) (h2 : PvL n k m) : PvL n k (l ++ m) := fun x hx => by
  rcases List.mem_append.mp hx with q | q
  · exact h1 x q
  · exact h2 x q
noncomputable def C_sp5 : Ctr := fun vs H Q _ => ∃ i w c, vs = [.ref i, .int w, .int c] ∧ Lv (Row 4) H i ∧ ∀ v H', (w = 5 → Lv (Row 4) H' i) → LvT H' i → Q v H'
theorem ei_o : Ei "_law_odd" = C_odd5 := rfl
noncomputable abbrev spB : List IS := f_l_spoilt.body.drop 1
section
variable {H : Hp} {i a : Nat} {as : List Nat} {l : List V} {c : Int} {Q : V → Hp → Prop} {X : XL} {t4 t5 t6 t7 t8 : Option V}
  (hi : listAt H i = some (as.map V.ref)) (h1 : 1 ≤ as.length) (h9 : as.length ≤ 9) (hr : ∀ b ∈ as, b ≠ i ∧ ∃ l, listAt H b = some l ∧ Row 4 l) (hai : a ≠ i) (hl : listAt H a = some l) (hrow : Row 4 l)
include hi h1 h9 hr hai hl hrow
theorem sp1 (q : ∀ v H', LvT H' i → Q v H') :
    wpSs Ei spB [some (.ref i), some (.int 1), some (.int c), some (.ref a), t4, t5, t6, t7, t8] H (fun fl _ H1 => Q (retV fl) H1) (fun x _ H1 => X x H1) := by
  refine zs_cons ?_
  generalize hK : sqX Ei (_ :: _) = K
  simp only [↓X_lit, ↓X_loc, ↓X_bin, ↓negX_int, ↓X_neg, ↓X_not, ↓Y_not, ↓X_and, ↓Y_and, ↓X_or, ↓Y_or, ↓X_cmp, ↓X_cmp2, ↓X_ite, ↓Y_ite, ↓X_tup, ↓X_lst, ↓X_call, ↓X_meth, ↓X_sub, ↓X_comp, ↓Y_lit, ↓Y_loc, ↓Y_cmp, ↓Y_cmp2, ↓Y_call, ↓Y_sub, ↓XEs_nil, ↓XEs_cons, ↓XIfs_nil, ↓XIfs_cons, ↓Z_expr, ↓Z_assign, ↓Z_ret, ↓Z_retNone, ↓Z_ite, ↓Z_for, ↓Z_pass, ↓Z_brk, ↓Z_cont, ↓Zs_nil, ↓sqX_next, ↓sqX_brk, ↓sqX_cont, ↓sqX_ret, ↓Zs_cons, ↓wkX_next, ↓wkX_cont, ↓wkX_brk, ↓wkX_ret, ↓fkX_next, ↓fkX_cont, ↓fkX_brk, ↓fkX_ret, ↓xb_one, ↓oKK_some, ↓oK_some, ↓tX_bool, ↓iX_t, ↓iX_f, ↓iX_d, ↓q_add, ↓q_sub, ↓q_mul, ↓q_div, ↓q_mod, ↓q_pow, ↓q_list, ↓q_eq, ↓q_ne, ↓q_eqs, ↓q_nes, ↓q_eqb, ↓q_lt, ↓q_le, ↓q_gt, ↓q_ge, ↓q_in, ↓q_inl, ↓q_nin, ↓q_is, ↓q_isnot, ↓q_stup, ↓q_sref, ↓q_sscr, ↓q_fn, ↓q_lentup, ↓q_lenref, ↓q_lenscr, ↓q_isi, ↓q_all, ↓q_max, ↓q_min, ↓q_int, ↓q_tuple, ↓q_listc, ↓q_append, ↓q_clear, ↓q_index, ↓q_pop, ↓q_slicet, ↓q_revt, ↓q_revl, ↓q_set, ↓q_repr, ↓q_eqo, ↓X_rev, ↓Z_set, ↓q_addt, ↓q_listt, ↓q_ninl, ↓u_tup, ↓u_ref, ↓u_range, ↓q_slice, ↓oi_none, ↓oi_int, ↓X_slice, ↓XO_none, ↓XO_some, ↓u_rev, ↓u_zip, ↓xb_two, ↓u_range2, ↓retV_ret, ↓retV_next, List.getElem?_cons_zero, List.getElem?_cons_succ, List.set_cons_zero, List.set_cons_succ, Bool.not_true, Bool.not_false, idx_0, idx_1, idx_2, idx_3, idx_4, idx_5, Int.reduceAdd, Int.reduceSub, Int.reduceMul, Int.reduceNeg, Int.reducePow, Int.reduceLT, Int.reduceLE, Int.reduceEq, Int.reduceNe, Int.reduceToNat, Int.reduceAbs, Nat.reduceAdd, Nat.reduceLT, Nat.reduceLeDiff, Nat.reducePow, Nat.reduceLT, List.length_cons, List.length_nil, true_implies, false_implies, not_true_eq_false, not_false_eq_true, and_true, true_and, and_self, or_true, true_or, decide_true, decide_false, exists_eq_left', Option.some.injEq, ↓ei_o]
  refine ⟨_, rfl, fun v H1 hp hv => ?_⟩
  have hl1 := listAt_pre hp hl
  have hn := hrow.1
  have hn4 := hrow.2.1
  have hm := mod_in (c := c / 9) (m := (l.length : Int) - 1) (by omega)
  simp only [↓X_lit, ↓X_loc, ↓X_bin, ↓negX_int, ↓X_neg, ↓X_not, ↓Y_not, ↓X_and, ↓Y_and, ↓X_or, ↓Y_or, ↓X_cmp, ↓X_cmp2, ↓X_ite, ↓Y_ite, ↓X_tup, ↓X_lst, ↓X_call, ↓X_meth, ↓X_sub, ↓X_comp, ↓Y_lit, ↓Y_loc, ↓Y_cmp, ↓Y_cmp2, ↓Y_call, ↓Y_sub, ↓XEs_nil, ↓XEs_cons, ↓XIfs_nil, ↓XIfs_cons, ↓Z_expr, ↓Z_assign, ↓Z_ret, ↓Z_retNone, ↓Z_ite, ↓Z_for, ↓Z_pass, ↓Z_brk, ↓Z_cont, ↓Zs_nil, ↓sqX_next, ↓sqX_brk, ↓sqX_cont, ↓sqX_ret, ↓Zs_cons, ↓wkX_next, ↓wkX_cont, ↓wkX_brk, ↓wkX_ret, ↓fkX_next, ↓fkX_cont, ↓fkX_brk, ↓fkX_ret, ↓xb_one, ↓oKK_some, ↓oK_some, ↓tX_bool, ↓iX_t, ↓iX_f, ↓iX_d, ↓q_add, ↓q_sub, ↓q_mul, ↓q_div, ↓q_mod, ↓q_pow, ↓q_list, ↓q_eq, ↓q_ne, ↓q_eqs, ↓q_nes, ↓q_eqb, ↓q_lt, ↓q_le, ↓q_gt, ↓q_ge, ↓q_in, ↓q_inl, ↓q_nin, ↓q_is, ↓q_isnot, ↓q_stup, ↓q_sref, ↓q_sscr, ↓q_fn, ↓q_lentup, ↓q_lenref, ↓q_lenscr, ↓q_isi, ↓q_all, ↓q_max, ↓q_min, ↓q_int, ↓q_tuple, ↓q_listc, ↓q_append, ↓q_clear, ↓q_index, ↓q_pop, ↓q_slicet, ↓q_revt, ↓q_revl, ↓q_set, ↓q_repr, ↓q_eqo, ↓X_rev, ↓Z_set, ↓q_addt, ↓q_listt, ↓q_ninl, ↓u_tup, ↓u_ref, ↓u_range, ↓q_slice, ↓oi_none, ↓oi_int, ↓X_slice, ↓XO_none, ↓XO_some, ↓u_rev, ↓u_zip, ↓xb_two, ↓u_range2, ↓retV_ret, ↓retV_next, List.getElem?_cons_zero, List.getElem?_cons_succ, List.set_cons_zero, List.set_cons_succ, Bool.not_true, Bool.not_false, idx_0, idx_1, idx_2, idx_3, idx_4, idx_5, Int.reduceAdd, Int.reduceSub, Int.reduceMul, Int.reduceNeg, Int.reducePow, Int.reduceLT, Int.reduceLE, Int.reduceEq, Int.reduceNe, Int.reduceToNat, Int.reduceAbs, Nat.reduceAdd, Nat.reduceLT, Nat.reduceLeDiff, Nat.reducePow, Nat.reduceLT, List.length_cons, List.length_nil, true_implies, false_implies, not_true_eq_false, not_false_eq_true, and_true, true_and, and_self, or_true, true_or, decide_true, decide_false, exists_eq_left', Option.some.injEq, hl1]
  refine ⟨⟨by omega, by omega⟩, ⟨by omega, by omega⟩, ?_⟩
  subst hK
  exact q _ _ (lvT_put hi h1 h9 hr hai hl1 hp (rowT_set hrow (by omega) (hv.tg (listAt_lt hl))))
theorem sp2 (q : ∀ v H', LvT H' i → Q v H') :
    wpSs Ei spB [some (.ref i), some (.int 2), some (.int c), some (.ref a), t4, t5, t6, t7, t8] H (fun fl _ H1 => Q (retV fl) H1) (fun x _ H1 => X x H1) := by
  refine zs_cons ?_
  change wpSs Ei (spB.drop 1) [some (.ref i), some (.int 2), some (.int c), some (.ref a), t4, t5, t6, t7, t8] H _ _
  refine zs_cons ?_
  generalize hK : sqX Ei (_ :: _) = K
  simp only [↓X_lit, ↓X_loc, ↓X_bin, ↓negX_int, ↓X_neg, ↓X_not, ↓Y_not, ↓X_and, ↓Y_and, ↓X_or, ↓Y_or, ↓X_cmp, ↓X_cmp2, ↓X_ite, ↓Y_ite, ↓X_tup, ↓X_lst, ↓X_call, ↓X_meth, ↓X_sub, ↓X_comp, ↓Y_lit, ↓Y_loc, ↓Y_cmp, ↓Y_cmp2, ↓Y_call, ↓Y_sub, ↓XEs_nil, ↓XEs_cons, ↓XIfs_nil, ↓XIfs_cons, ↓Z_expr, ↓Z_assign, ↓Z_ret, ↓Z_retNone, ↓Z_ite, ↓Z_for, ↓Z_pass, ↓Z_brk, ↓Z_cont, ↓Zs_nil, ↓sqX_next, ↓sqX_brk, ↓sqX_cont, ↓sqX_ret, ↓Zs_cons, ↓wkX_next, ↓wkX_cont, ↓wkX_brk, ↓wkX_ret, ↓fkX_next, ↓fkX_cont, ↓fkX_brk, ↓fkX_ret, ↓xb_one, ↓oKK_some, ↓oK_some, ↓tX_bool, ↓iX_t, ↓iX_f, ↓iX_d, ↓q_add, ↓q_sub, ↓q_mul, ↓q_div, ↓q_mod, ↓q_pow, ↓q_list, ↓q_eq, ↓q_ne, ↓q_eqs, ↓q_nes, ↓q_eqb, ↓q_lt, ↓q_le, ↓q_gt, ↓q_ge, ↓q_in, ↓q_inl, ↓q_nin, ↓q_is, ↓q_isnot, ↓q_stup, ↓q_sref, ↓q_sscr, ↓q_fn, ↓q_lentup, ↓q_lenref, ↓q_lenscr, ↓q_isi, ↓q_all, ↓q_max, ↓q_min, ↓q_int, ↓q_tuple, ↓q_listc, ↓q_append, ↓q_clear, ↓q_index, ↓q_pop, ↓q_slicet, ↓q_revt, ↓q_revl, ↓q_set, ↓q_repr, ↓q_eqo, ↓X_rev, ↓Z_set, ↓q_addt, ↓q_listt, ↓q_ninl, ↓u_tup, ↓u_ref, ↓u_range, ↓q_slice, ↓oi_none, ↓oi_int, ↓X_slice, ↓XO_none, ↓XO_some, ↓u_rev, ↓u_zip, ↓xb_two, ↓u_range2, ↓retV_ret, ↓retV_next, List.getElem?_cons_zero, List.getElem?_cons_succ, List.set_cons_zero, List.set_cons_succ, Bool.not_true, Bool.not_false, idx_0, idx_1, idx_2, idx_3, idx_4, idx_5, Int.reduceAdd, Int.reduceSub, Int.reduceMul, Int.reduceNeg, Int.reducePow, Int.reduceLT, Int.reduceLE, Int.reduceEq, Int.reduceNe, Int.reduceToNat, Int.reduceAbs, Nat.reduceAdd, Nat.reduceLT, Nat.reduceLeDiff, Nat.reducePow, Nat.reduceLT, List.length_cons, List.length_nil, true_implies, false_implies, not_true_eq_false, not_false_eq_true, and_true, true_and, and_self, or_true, true_or, decide_true, decide_false, exists_eq_left', Option.some.injEq, okMeth, hl, ↓ei_o]
  refine ⟨⟨_, rfl⟩, _, rfl, fun v H1 hp hv => ?_⟩
  have hl1 := listAt_pre hp hl
  have hn4 := hrow.2.1
  simp only [↓X_lit, ↓X_loc, ↓X_bin, ↓negX_int, ↓X_neg, ↓X_not, ↓Y_not, ↓X_and, ↓Y_and, ↓X_or, ↓Y_or, ↓X_cmp, ↓X_cmp2, ↓X_ite, ↓Y_ite, ↓X_tup, ↓X_lst, ↓X_call, ↓X_meth, ↓X_sub, ↓X_comp, ↓Y_lit, ↓Y_loc, ↓Y_cmp, ↓Y_cmp2, ↓Y_call, ↓Y_sub, ↓XEs_nil, ↓XEs_cons, ↓XIfs_nil, ↓XIfs_cons, ↓Z_expr, ↓Z_assign, ↓Z_ret, ↓Z_retNone, ↓Z_ite, ↓Z_for, ↓Z_pass, ↓Z_brk, ↓Z_cont, ↓Zs_nil, ↓sqX_next, ↓sqX_brk, ↓sqX_cont, ↓sqX_ret, ↓Zs_cons, ↓wkX_next, ↓wkX_cont, ↓wkX_brk, ↓wkX_ret, ↓fkX_next, ↓fkX_cont, ↓fkX_brk, ↓fkX_ret, ↓xb_one, ↓oKK_some, ↓oK_some, ↓tX_bool, ↓iX_t, ↓iX_f, ↓iX_d, ↓q_add, ↓q_sub, ↓q_mul, ↓q_div, ↓q_mod, ↓q_pow, ↓q_list, ↓q_eq, ↓q_ne, ↓q_eqs, ↓q_nes, ↓q_eqb, ↓q_lt, ↓q_le, ↓q_gt, ↓q_ge, ↓q_in, ↓q_inl, ↓q_nin, ↓q_is, ↓q_isnot, ↓q_stup, ↓q_sref, ↓q_sscr, ↓q_fn, ↓q_lentup, ↓q_lenref, ↓q_lenscr, ↓q_isi, ↓q_all, ↓q_max, ↓q_min, ↓q_int, ↓q_tuple, ↓q_listc, ↓q_append, ↓q_clear, ↓q_index, ↓q_pop, ↓q_slicet, ↓q_revt, ↓q_revl, ↓q_set, ↓q_repr, ↓q_eqo, ↓X_rev, ↓Z_set, ↓q_addt, ↓q_listt, ↓q_ninl, ↓u_tup, ↓u_ref, ↓u_range, ↓q_slice, ↓oi_none, ↓oi_int, ↓X_slice, ↓XO_none, ↓XO_some, ↓u_rev, ↓u_zip, ↓xb_two, ↓u_range2, ↓retV_ret, ↓retV_next, List.getElem?_cons_zero, List.getElem?_cons_succ, List.set_cons_zero, List.set_cons_succ, Bool.not_true, Bool.not_false, idx_0, idx_1, idx_2, idx_3, idx_4, idx_5, Int.reduceAdd, Int.reduceSub, Int.reduceMul, Int.reduceNeg, Int.reducePow, Int.reduceLT, Int.reduceLE, Int.reduceEq, Int.reduceNe, Int.reduceToNat, Int.reduceAbs, Nat.reduceAdd, Nat.reduceLT, Nat.reduceLeDiff, Nat.reducePow, Nat.reduceLT, List.length_cons, List.length_nil, true_implies, false_implies, not_true_eq_false, not_false_eq_true, and_true, true_and, and_self, or_true, true_or, decide_true, decide_false, exists_eq_left', Option.some.injEq, hl1]
  refine ⟨by omega, ?_⟩
  subst hK
  exact q _ _ (lvT_put hi h1 h9 hr hai hl1 hp (rowT_add hrow (hv.tg (listAt_lt hl))))
theorem sp3 (q : ∀ v H', LvT H' i → Q v H') :
    wpSs Ei spB [some (.ref i), some (.int 3), some (.int c), some (.ref a), t4, t5, t6, t7, t8] H (fun fl _ H1 => Q (retV fl) H1) (fun x _ H1 => X x H1) := by
  refine zs_cons ?_
  change wpSs Ei (spB.drop 1) [some (.ref i), some (.int 3), some (.int c), some (.ref a), t4, t5, t6, t7, t8] H _ _
  refine zs_cons ?_
  change wpSs Ei (spB.drop 2) [some (.ref i), some (.int 3), some (.int c), some (.ref a), t4, t5, t6, t7, t8] H _ _
  refine zs_cons ?_
  generalize hK : sqX Ei (_ :: _) = K
  have hg : ∃ y, l.getLast? = some y := by
    cases l with
    | nil => exact absurd hrow.1 (by decide)
    | cons x r => exact ⟨_, List.getLast?_cons⟩
  obtain ⟨y, hy⟩ := hg
  simp only [↓X_lit, ↓X_loc, ↓X_bin, ↓negX_int, ↓X_neg, ↓X_not, ↓Y_not, ↓X_and, ↓Y_and, ↓X_or, ↓Y_or, ↓X_cmp, ↓X_cmp2, ↓X_ite, ↓Y_ite, ↓X_tup, ↓X_lst, ↓X_call, ↓X_meth, ↓X_sub, ↓X_comp, ↓Y_lit, ↓Y_loc, ↓Y_cmp, ↓Y_cmp2, ↓Y_call, ↓Y_sub, ↓XEs_nil, ↓XEs_cons, ↓XIfs_nil, ↓XIfs_cons, ↓Z_expr, ↓Z_assign, ↓Z_ret, ↓Z_retNone, ↓Z_ite, ↓Z_for, ↓Z_pass, ↓Z_brk, ↓Z_cont, ↓Zs_nil, ↓sqX_next, ↓sqX_brk, ↓sqX_cont, ↓sqX_ret, ↓Zs_cons, ↓wkX_next, ↓wkX_cont, ↓wkX_brk, ↓wkX_ret, ↓fkX_next, ↓fkX_cont, ↓fkX_brk, ↓fkX_ret, ↓xb_one, ↓oKK_some, ↓oK_some, ↓tX_bool, ↓iX_t, ↓iX_f, ↓iX_d, ↓q_add, ↓q_sub, ↓q_mul, ↓q_div, ↓q_mod, ↓q_pow, ↓q_list, ↓q_eq, ↓q_ne, ↓q_eqs, ↓q_nes, ↓q_eqb, ↓q_lt, ↓q_le, ↓q_gt, ↓q_ge, ↓q_in, ↓q_inl, ↓q_nin, ↓q_is, ↓q_isnot, ↓q_stup, ↓q_sref, ↓q_sscr, ↓q_fn, ↓q_lentup, ↓q_lenref, ↓q_lenscr, ↓q_isi, ↓q_all, ↓q_max, ↓q_min, ↓q_int, ↓q_tuple, ↓q_listc, ↓q_append, ↓q_clear, ↓q_index, ↓q_pop, ↓q_slicet, ↓q_revt, ↓q_revl, ↓q_set, ↓q_repr, ↓q_eqo, ↓X_rev, ↓Z_set, ↓q_addt, ↓q_listt, ↓q_ninl, ↓u_tup, ↓u_ref, ↓u_range, ↓q_slice, ↓oi_none, ↓oi_int, ↓X_slice, ↓XO_none, ↓XO_some, ↓u_rev, ↓u_zip, ↓xb_two, ↓u_range2, ↓retV_ret, ↓retV_next, List.getElem?_cons_zero, List.getElem?_cons_succ, List.set_cons_zero, List.set_cons_succ, Bool.not_true, Bool.not_false, idx_0, idx_1, idx_2, idx_3, idx_4, idx_5, Int.reduceAdd, Int.reduceSub, Int.reduceMul, Int.reduceNeg, Int.reducePow, Int.reduceLT, Int.reduceLE, Int.reduceEq, Int.reduceNe, Int.reduceToNat, Int.reduceAbs, Nat.reduceAdd, Nat.reduceLT, Nat.reduceLeDiff, Nat.reducePow, Nat.reduceLT, List.length_cons, List.length_nil, true_implies, false_implies, not_true_eq_false, not_false_eq_true, and_true, true_and, and_self, or_true, true_or, decide_true, decide_false, exists_eq_left', Option.some.injEq, okMeth, hl, hy]
  refine ⟨⟨_, rfl⟩, ?_⟩
  subst hK
  exact q _ _ (lvT_put hi h1 h9 hr hai hl (List.prefix_refl _) (rowT_pop hrow))
theorem sp7 (q : ∀ v H', LvT H' i → Q v H') :
    wpSs Ei spB [some (.ref i), some (.int 7), some (.int c), some (.ref a), t4, t5, t6, t7, t8] H (fun fl _ H1 => Q (retV fl) H1) (fun x _ H1 => X x H1) := by
  refine zs_cons ?_
  change wpSs Ei (spB.drop 1) [some (.ref i), some (.int 7), some (.int c), some (.ref a), t4, t5, t6, t7, t8] H _ _
  refine zs_cons ?_
  change wpSs Ei (spB.drop 2) [some (.ref i), some (.int 7), some (.int c), some (.ref a), t4, t5, t6, t7, t8] H _ _
  refine zs_cons ?_
  change wpSs Ei (spB.drop 3) [some (.ref i), some (.int 7), some (.int c), some (.ref a), t4, t5, t6, t7, t8] H _ _
  refine zs_cons ?_
  generalize hK : sqX Ei (_ :: _) = K
  have hT : LvT H i := Lv.t ⟨as, hi, h1, h9, hr⟩
  obtain ⟨hn1, hn4, hall, w, r, hlr⟩ := id hrow
  cases r with
  | nil => rw [hlr] at hn1; exact absurd hn1 (by simp)
  | cons x r =>
    have hx : ItP x := hall x (by rw [hlr]; simp)
    obtain ⟨_, _, e3, _⟩ := isi_of (hx.1.tg (H := H)).2.1.al
    have hl' := hl
    rw [hlr] at hl'
    simp only [↓X_lit, ↓X_loc, ↓X_bin, ↓negX_int, ↓X_neg, ↓X_not, ↓Y_not, ↓X_and, ↓Y_and, ↓X_or, ↓Y_or, ↓X_cmp, ↓X_cmp2, ↓X_ite, ↓Y_ite, ↓X_tup, ↓X_lst, ↓X_call, ↓X_meth, ↓X_sub, ↓X_comp, ↓Y_lit, ↓Y_loc, ↓Y_cmp, ↓Y_cmp2, ↓Y_call, ↓Y_sub, ↓XEs_nil, ↓XEs_cons, ↓XIfs_nil, ↓XIfs_cons, ↓Z_expr, ↓Z_assign, ↓Z_ret, ↓Z_retNone, ↓Z_ite, ↓Z_for, ↓Z_pass, ↓Z_brk, ↓Z_cont, ↓Zs_nil, ↓sqX_next, ↓sqX_brk, ↓sqX_cont, ↓sqX_ret, ↓Zs_cons, ↓wkX_next, ↓wkX_cont, ↓wkX_brk, ↓wkX_ret, ↓fkX_next, ↓fkX_cont, ↓fkX_brk, ↓fkX_ret, ↓xb_one, ↓oKK_some, ↓oK_some, ↓tX_bool, ↓iX_t, ↓iX_f, ↓iX_d, ↓q_add, ↓q_sub, ↓q_mul, ↓q_div, ↓q_mod, ↓q_pow, ↓q_list, ↓q_eq, ↓q_ne, ↓q_eqs, ↓q_nes, ↓q_eqb, ↓q_lt, ↓q_le, ↓q_gt, ↓q_ge, ↓q_in, ↓q_inl, ↓q_nin, ↓q_is, ↓q_isnot, ↓q_stup, ↓q_sref, ↓q_sscr, ↓q_fn, ↓q_lentup, ↓q_lenref, ↓q_lenscr, ↓q_isi, ↓q_all, ↓q_max, ↓q_min, ↓q_int, ↓q_tuple, ↓q_listc, ↓q_append, ↓q_clear, ↓q_index, ↓q_pop, ↓q_slicet, ↓q_revt, ↓q_revl, ↓q_set, ↓q_repr, ↓q_eqo, ↓X_rev, ↓Z_set, ↓q_addt, ↓q_listt, ↓q_ninl, ↓u_tup, ↓u_ref, ↓u_range, ↓q_slice, ↓oi_none, ↓oi_int, ↓X_slice, ↓XO_none, ↓XO_some, ↓u_rev, ↓u_zip, ↓xb_two, ↓u_range2, ↓retV_ret, ↓retV_next, List.getElem?_cons_zero, List.getElem?_cons_succ, List.set_cons_zero, List.set_cons_succ, Bool.not_true, Bool.not_false, idx_0, idx_1, idx_2, idx_3, idx_4, idx_5, Int.reduceAdd, Int.reduceSub, Int.reduceMul, Int.reduceNeg, Int.reducePow, Int.reduceLT, Int.reduceLE, Int.reduceEq, Int.reduceNe, Int.reduceToNat, Int.reduceAbs, Nat.reduceAdd, Nat.reduceLT, Nat.reduceLeDiff, Nat.reducePow, Nat.reduceLT, List.length_cons, List.length_nil, true_implies, false_implies, not_true_eq_false, not_false_eq_true, and_true, true_and, and_self, or_true, true_or, decide_true, decide_false, exists_eq_left', Option.some.injEq, hl', e3]
    cases ht : tupLike x with
    | false => subst hK; exact q _ _ hT
    | true =>
      have hds : ∃ ds, x = .tup ds := by cases x <;> first | exact ⟨_, rfl⟩ | cases ht
      obtain ⟨ds, rfl⟩ := hds
      obtain ⟨hd20, hdp⟩ := hx.2 ds rfl
      simp only [↓X_lit, ↓X_loc, ↓X_bin, ↓negX_int, ↓X_neg, ↓X_not, ↓Y_not, ↓X_and, ↓Y_and, ↓X_or, ↓Y_or, ↓X_cmp, ↓X_cmp2, ↓X_ite, ↓Y_ite, ↓X_tup, ↓X_lst, ↓X_call, ↓X_meth, ↓X_sub, ↓X_comp, ↓Y_lit, ↓Y_loc, ↓Y_cmp, ↓Y_cmp2, ↓Y_call, ↓Y_sub, ↓XEs_nil, ↓XEs_cons, ↓XIfs_nil, ↓XIfs_cons, ↓Z_expr, ↓Z_assign, ↓Z_ret, ↓Z_retNone, ↓Z_ite, ↓Z_for, ↓Z_pass, ↓Z_brk, ↓Z_cont, ↓Zs_nil, ↓sqX_next, ↓sqX_brk, ↓sqX_cont, ↓sqX_ret, ↓Zs_cons, ↓wkX_next, ↓wkX_cont, ↓wkX_brk, ↓wkX_ret, ↓fkX_next, ↓fkX_cont, ↓fkX_brk, ↓fkX_ret, ↓xb_one, ↓oKK_some, ↓oK_some, ↓tX_bool, ↓iX_t, ↓iX_f, ↓iX_d, ↓q_add, ↓q_sub, ↓q_mul, ↓q_div, ↓q_mod, ↓q_pow, ↓q_list, ↓q_eq, ↓q_ne, ↓q_eqs, ↓q_nes, ↓q_eqb, ↓q_lt, ↓q_le, ↓q_gt, ↓q_ge, ↓q_in, ↓q_inl, ↓q_nin, ↓q_is, ↓q_isnot, ↓q_stup, ↓q_sref, ↓q_sscr, ↓q_fn, ↓q_lentup, ↓q_lenref, ↓q_lenscr, ↓q_isi, ↓q_all, ↓q_max, ↓q_min, ↓q_int, ↓q_tuple, ↓q_listc, ↓q_append, ↓q_clear, ↓q_index, ↓q_pop, ↓q_slicet, ↓q_revt, ↓q_revl, ↓q_set, ↓q_repr, ↓q_eqo, ↓X_rev, ↓Z_set, ↓q_addt, ↓q_listt, ↓q_ninl, ↓u_tup, ↓u_ref, ↓u_range, ↓q_slice, ↓oi_none, ↓oi_int, ↓X_slice, ↓XO_none, ↓XO_some, ↓u_rev, ↓u_zip, ↓xb_two, ↓u_range2, ↓retV_ret, ↓retV_next, List.getElem?_cons_zero, List.getElem?_cons_succ, List.set_cons_zero, List.set_cons_succ, Bool.not_true, Bool.not_false, idx_0, idx_1, idx_2, idx_3, idx_4, idx_5, Int.reduceAdd, Int.reduceSub, Int.reduceMul, Int.reduceNeg, Int.reducePow, Int.reduceLT, Int.reduceLE, Int.reduceEq, Int.reduceNe, Int.reduceToNat, Int.reduceAbs, Nat.reduceAdd, Nat.reduceLT, Nat.reduceLeDiff, Nat.reducePow, Nat.reduceLT, List.length_cons, List.length_nil, true_implies, false_implies, not_true_eq_false, not_false_eq_true, and_true, true_and, and_self, or_true, true_or, decide_true, decide_false, exists_eq_left', Option.some.injEq]
      have k1 := len_sliceL (l := ds) (a := some (-1)) (b := none)
      have k2 := len_sliceL (l := ds) (a := none) (b := some 1)
      refine ⟨by omega, by omega, by omega, by omega, by omega, ?_⟩
      have m1 : PvL 35 0 (sliceL ds (some (-1)) none) := fun x hx => hdp x (mem_sliceL hx)
      have m2 : PvL 35 0 (sliceL ds none (some 1)) := fun x hx => hdp x (mem_sliceL hx)
      have o1 : ∀ H', H ++ [O.list ds] <+: H' → OddL H H' [V.tup (ds ++ sliceL ds (some (-1)) none), V.tup (sliceL ds none (some 1) ++ ds), V.tup ds.reverse, V.tup (ds ++ [V.int 6, V.int 7]), V.ref (List.length H)] := fun H' hp =>
        oddl_cons (.inl (tup_pv (pvl_app hdp m1) (by rw [List.length_append]; omega))) (oddl_cons (.inl (tup_pv (pvl_app m2 hdp) (by rw [List.length_append]; omega)))
          (oddl_cons (.inl (tup_pv (fun x hx => hdp x (List.mem_reverse.mp hx)) (by rw [List.length_reverse]; omega))) (oddl_cons (.inl (tup_pv (pvl_app hdp (pvl_ints (l := [6, 7]) (by decide))) (by rw [List.length_append]; show _ + 2 ≤ 45; omega)))
          (oddl_cons (.inr ⟨_, ds, rfl, Nat.le_refl _, listAt_pre hp listAt_new, by omega, hdp⟩) oddl_nil))))
      have o2 : ∀ H', OddL H H' [V.tup [], V.tup ([V.int (-1)] ++ ds), V.tup (ds ++ [V.bool true])] := fun H' =>
        oddl_cons (.inl (tup_pv (fun x hx => nomatch hx) (by decide))) (oddl_cons (.inl (tup_pv (pvl_app (pvl_ints (l := [-1]) (by decide)) hdp) (by rw [List.length_append]; show 1 + _ ≤ 45; omega)))
          (oddl_cons (.inl (tup_pv (pvl_app hdp (fun x hx => by rw [List.mem_singleton.mp hx]; exact pv_bool (by decide))) (by rw [List.length_append]; show _ + 1 ≤ 45; omega))) oddl_nil))
      revert o1 o2
      generalize hA : [V.tup (ds ++ sliceL ds (some (-1)) none), V.tup (sliceL ds none (some 1) ++ ds), V.tup ds.reverse, V.tup (ds ++ [V.int 6, V.int 7]), V.ref (List.length H)] = A
      generalize hB : [V.tup [], V.tup ([V.int (-1)] ++ ds), V.tup (ds ++ [V.bool true])] = B
      intro o1 o2
      have hA5 : A.length = 5 := by rw [← hA]; rfl
      have hB3 : B.length = 3 := by rw [← hB]; rfl
      clear hA hB
      have pp : H <+: H ++ [O.list ds] ++ [O.list A] ++ [O.list B] ++ [O.list (A ++ B)] := pre_new.trans (pre_new.trans (pre_new.trans pre_new))
      have hla := listAt_pre pp hl'
      have hla2 := listAt_pre pp hl
      simp only [listAt_pre (pre_new (o := O.list B)) (listAt_new (H := H ++ [O.list ds]) (l := A)), listAt_new, oK_some, hla]
      have e8 := mod_in (c := c / 9) (m := 8) (by decide)
      refine ⟨by omega, idx_any e8.1 (by rw [List.length_append, hA5, hB3]; exact e8.2) fun v hv => ⟨by simp only [List.length_cons]; omega, ?_⟩⟩
      have ho : OddV H (H ++ [O.list ds] ++ [O.list A] ++ [O.list B] ++ [O.list (A ++ B)]) v := ((o1 _ (pre_new.trans (pre_new.trans pre_new))).app (o2 _)) v hv
      subst hK
      rw [← hlr]
      exact q _ _ (lvT_put hi h1 h9 hr hai hla2 pp (rowT_set (k := (1 : Int).toNat) hrow (by decide) (ho.tg (listAt_lt hl))))
theorem sp4 (q : ∀ v H', LvT H' i → Q v H') :
    wpSs Ei spB [some (.ref i), some (.int 4), some (.int c), some (.ref a), t4, t5, t6, t7, t8] H (fun fl _ H1 => Q (retV fl) H1) (fun x _ H1 => X x H1) := by
  refine zs_cons ?_
  change wpSs Ei (spB.drop 1) [some (.ref i), some (.int 4), some (.int c), some (.ref a), t4, t5, t6, t7, t8] H _ _
  refine zs_cons ?_
  change wpSs Ei (spB.drop 2) [some (.ref i), some (.int 4), some (.int c), some (.ref a), t4, t5, t6, t7, t8] H _ _
  refine zs_cons ?_
  change wpSs Ei (spB.drop 3) [some (.ref i), some (.int 4), some (.int c), some (.ref a), t4, t5, t6, t7, t8] H _ _
  refine zs_cons ?_
  change wpSs Ei (spB.drop 4) [some (.ref i), some (.int 4), some (.int c), some (.ref a), t4, t5, t6, t7, t8] H _ _
  refine zs_cons ?_
  generalize hK : sqX Ei [] = K
  have hn1 := hrow.1
  simp only [↓X_lit, ↓X_loc, ↓X_bin, ↓negX_int, ↓X_neg, ↓X_not, ↓Y_not, ↓X_and, ↓Y_and, ↓X_or, ↓Y_or, ↓X_cmp, ↓X_cmp2, ↓X_ite, ↓Y_ite, ↓X_tup, ↓X_lst, ↓X_call, ↓X_meth, ↓X_sub, ↓X_comp, ↓Y_lit, ↓Y_loc, ↓Y_cmp, ↓Y_cmp2, ↓Y_call, ↓Y_sub, ↓XEs_nil, ↓XEs_cons, ↓XIfs_nil, ↓XIfs_cons, ↓Z_expr, ↓Z_assign, ↓Z_ret, ↓Z_retNone, ↓Z_ite, ↓Z_for, ↓Z_pass, ↓Z_brk, ↓Z_cont, ↓Zs_nil, ↓sqX_next, ↓sqX_brk, ↓sqX_cont, ↓sqX_ret, ↓Zs_cons, ↓wkX_next, ↓wkX_cont, ↓wkX_brk, ↓wkX_ret, ↓fkX_next, ↓fkX_cont, ↓fkX_brk, ↓fkX_ret, ↓xb_one, ↓oKK_some, ↓oK_some, ↓tX_bool, ↓iX_t, ↓iX_f, ↓iX_d, ↓q_add, ↓q_sub, ↓q_mul, ↓q_div, ↓q_mod, ↓q_pow, ↓q_list, ↓q_eq, ↓q_ne, ↓q_eqs, ↓q_nes, ↓q_eqb, ↓q_lt, ↓q_le, ↓q_gt, ↓q_ge, ↓q_in, ↓q_inl, ↓q_nin, ↓q_is, ↓q_isnot, ↓q_stup, ↓q_sref, ↓q_sscr, ↓q_fn, ↓q_lentup, ↓q_lenref, ↓q_lenscr, ↓q_isi, ↓q_all, ↓q_max, ↓q_min, ↓q_int, ↓q_tuple, ↓q_listc, ↓q_append, ↓q_clear, ↓q_index, ↓q_pop, ↓q_slicet, ↓q_revt, ↓q_revl, ↓q_set, ↓q_repr, ↓q_eqo, ↓X_rev, ↓Z_set, ↓q_addt, ↓q_listt, ↓q_ninl, ↓u_tup, ↓u_ref, ↓u_range, ↓q_slice, ↓oi_none, ↓oi_int, ↓X_slice, ↓XO_none, ↓XO_some, ↓u_rev, ↓u_zip, ↓xb_two, ↓u_range2, ↓retV_ret, ↓retV_next, List.getElem?_cons_zero, List.getElem?_cons_succ, List.set_cons_zero, List.set_cons_succ, Bool.not_true, Bool.not_false, idx_0, idx_1, idx_2, idx_3, idx_4, idx_5, Int.reduceAdd, Int.reduceSub, Int.reduceMul, Int.reduceNeg, Int.reducePow, Int.reduceLT, Int.reduceLE, Int.reduceEq, Int.reduceNe, Int.reduceToNat, Int.reduceAbs, Nat.reduceAdd, Nat.reduceLT, Nat.reduceLeDiff, Nat.reducePow, Nat.reduceLT, List.length_cons, List.length_nil, true_implies, false_implies, not_true_eq_false, not_false_eq_true, and_true, true_and, and_self, or_true, true_or, decide_true, decide_false, exists_eq_left', Option.some.injEq]
  have o1 : PvL 2000 2 [V.str "Once", .str "every ", .str "weeks", .str "", .str "day", .str "untill", .str "alsO", .str "once", .str "every", .str "from", .str "but"] := fun x hx => by
    simp only [List.mem_cons, List.not_mem_nil, or_false] at hx
    rcases hx with rfl | rfl | rfl | rfl | rfl | rfl | rfl | rfl | rfl | rfl | rfl <;> exact pv_str (by decide) (by decide)
  have o2 : PvL 2000 2 [V.none, .int 5, .tup [.str "once"]] := fun x hx => by
    simp only [List.mem_cons, List.not_mem_nil, or_false] at hx
    rcases hx with rfl | rfl | rfl
    · exact pv_none (by decide)
    · exact pv_int (by decide) (by decide) (by decide)
    · exact (pv_tup (n := 102) (k := 0) (m := 1) (fun x hx => by rw [List.mem_singleton.mp hx]; exact pv_str (by decide) (by decide)) (Nat.le_refl _) (by decide) (by decide)).mono (by decide) (by decide)
  revert o1 o2
  generalize hA : [V.str "Once", .str "every ", .str "weeks", .str "", .str "day", .str "untill", .str "alsO", .str "once", .str "every", .str "from", .str "but"] = A
  generalize hB : [V.none, .int 5, .tup [.str "once"]] = B
  intro o1 o2
  have hA5 : A.length = 11 := by rw [← hA]; rfl
  have hB3 : B.length = 3 := by rw [← hB]; rfl
  clear hA hB
  have pp : H <+: H ++ [O.list A] ++ [O.list B] ++ [O.list (A ++ B)] := pre_new.trans (pre_new.trans pre_new)
  have hla2 := listAt_pre pp hl
  simp only [listAt_pre (pre_new (o := O.list B)) (listAt_new (H := H) (l := A)), listAt_new, oK_some, hla2]
  have e8 := mod_in (c := c / 9) (m := 14) (by decide)
  refine ⟨by omega, idx_any e8.1 (by rw [List.length_append, hA5, hB3]; exact e8.2) fun v hv => ⟨by omega, ?_⟩⟩
  subst hK
  exact q _ _ (lvT_put hi h1 h9 hr hai hla2 pp (rowT_set0 hrow (pvl_app o1 o2 v hv)))
end
theorem w_sp5 : ∀ vs H Q X, C_sp5 vs H Q X → wpFn Ei f_l_spoilt vs H Q X := by
  rintro vs H Q X ⟨i, w, c, rfl, hlv, q⟩
  obtain ⟨as, hi, h1, h9, hr⟩ := id hlv
  refine fn_of rfl ?_
  change wpSs Ei f_l_spoilt.body [some (.ref i), some (.int w), some (.int c), none, none, none, none, none, none] H _ _
  refine zs_cons ?_
  generalize hK : sqX Ei (_ :: _) = K
  simp only [↓X_lit, ↓X_loc, ↓X_bin, ↓negX_int, ↓X_neg, ↓X_not, ↓Y_not, ↓X_and, ↓Y_and, ↓X_or, ↓Y_or, ↓X_cmp, ↓X_cmp2, ↓X_ite, ↓Y_ite, ↓X_tup, ↓X_lst, ↓X_call, ↓X_meth, ↓X_sub, ↓X_comp, ↓Y_lit, ↓Y_loc, ↓Y_cmp, ↓Y_cmp2, ↓Y_call, ↓Y_sub, ↓XEs_nil, ↓XEs_cons, ↓XIfs_nil, ↓XIfs_cons, ↓Z_expr, ↓Z_assign, ↓Z_ret, ↓Z_retNone, ↓Z_ite, ↓Z_for, ↓Z_pass, ↓Z_brk, ↓Z_cont, ↓Zs_nil, ↓sqX_next, ↓sqX_brk, ↓sqX_cont, ↓sqX_ret, ↓Zs_cons, ↓wkX_next, ↓wkX_cont, ↓wkX_brk, ↓wkX_ret, ↓fkX_next, ↓fkX_cont, ↓fkX_brk, ↓fkX_ret, ↓xb_one, ↓oKK_some, ↓oK_some, ↓tX_bool, ↓iX_t, ↓iX_f, ↓iX_d, ↓q_add, ↓q_sub, ↓q_mul, ↓q_div, ↓q_mod, ↓q_pow, ↓q_list, ↓q_eq, ↓q_ne, ↓q_eqs, ↓q_nes, ↓q_eqb, ↓q_lt, ↓q_le, ↓q_gt, ↓q_ge, ↓q_in, ↓q_inl, ↓q_nin, ↓q_is, ↓q_isnot, ↓q_stup, ↓q_sref, ↓q_sscr, ↓q_fn, ↓q_lentup, ↓q_lenref, ↓q_lenscr, ↓q_isi, ↓q_all, ↓q_max, ↓q_min, ↓q_int, ↓q_tuple, ↓q_listc, ↓q_append, ↓q_clear, ↓q_index, ↓q_pop, ↓q_slicet, ↓q_revt, ↓q_revl, ↓q_set, ↓q_repr, ↓q_eqo, ↓X_rev, ↓Z_set, ↓q_addt, ↓q_listt, ↓q_ninl, ↓u_tup, ↓u_ref, ↓u_range, ↓q_slice, ↓oi_none, ↓oi_int, ↓X_slice, ↓XO_none, ↓XO_some, ↓u_rev, ↓u_zip, ↓xb_two, ↓u_range2, ↓retV_ret, ↓retV_next, List.getElem?_cons_zero, List.getElem?_cons_succ, List.set_cons_zero, List.set_cons_succ, Bool.not_true, Bool.not_false, idx_0, idx_1, idx_2, idx_3, idx_4, idx_5, Int.reduceAdd, Int.reduceSub, Int.reduceMul, Int.reduceNeg, Int.reducePow, Int.reduceLT, Int.reduceLE, Int.reduceEq, Int.reduceNe, Int.reduceToNat, Int.reduceAbs, Nat.reduceAdd, Nat.reduceLT, Nat.reduceLeDiff, Nat.reducePow, Nat.reduceLT, List.length_cons, List.length_nil, true_implies, false_implies, not_true_eq_false, not_false_eq_true, and_true, true_and, and_self, or_true, true_or, decide_true, decide_false, exists_eq_left', Option.some.injEq, hi]
  have hm := mod_in (c := c) (m := ((as.map V.ref).length : Int)) (by rw [List.length_map]; omega)
  refine ⟨⟨by rw [List.length_map]; omega, by rw [List.length_map]; omega⟩, idx_any hm.1 hm.2 fun v hv => ?_⟩
  obtain ⟨a, ha, rfl⟩ := List.mem_map.mp hv
  obtain ⟨hai, l, hl, hrow⟩ := hr a ha
  subst hK
  change wpSs Ei spB [some (.ref i), some (.int w), some (.int c), some (.ref a), none, none, none, none, none] H _ _
  by_cases w1 : w = 1
  · subst w1; exact sp1 hi h1 h9 hr hai hl hrow fun v H' => q v H' fun h => absurd h (by decide)
  by_cases w2 : w = 2
  · subst w2; exact sp2 hi h1 h9 hr hai hl hrow fun v H' => q v H' fun h => absurd h (by decide)
  by_cases w3 : w = 3
  · subst w3; exact sp3 hi h1 h9 hr hai hl hrow fun v H' => q v H' fun h => absurd h (by decide)
  by_cases w7 : w = 7
  · subst w7; exact sp7 hi h1 h9 hr hai hl hrow fun v H' => q v H' fun h => absurd h (by decide)
  by_cases w4 : w = 4
  · subst w4; exact sp4 hi h1 h9 hr hai hl hrow fun v H' => q v H' fun h => absurd h (by decide)
  have hfin : Q .none H := q _ _ (fun _ => hlv) hlv.t
  refine zs_cons ?_
  show ifP (decide (w = 1)) _ _
  rw [decide_eq_false w1]
  refine zs_cons ?_
  show ifP (decide (w = 2)) _ _
  rw [decide_eq_false w2]
  refine zs_cons ?_
  show ifP (decide (w = 3)) _ _
  rw [decide_eq_false w3]
  refine zs_cons ?_
  show ifP (decide (w = 7)) _ _
  rw [decide_eq_false w7]
  refine zs_cons ?_
  show ifP (decide (w = 4)) _ _
  rw [decide_eq_false w4]
  exact hfin
noncomputable def Ej : Orc := ext "_law_spoilt" C_sp5 Ei
end Mine

set_option autoImplicit false
set_option linter.unusedSimpArgs false
set_option maxRecDepth 20000
namespace Mine
open PySem

theorem tgl_pre {H H' : Hp} {n k : Nat} {l : List V} (p : H <+: H') (h : TgL H n k l) : TgL H' n k l := fun x hx => (h x hx).pre p
theorem RowT.pre {H H' : Hp} {l : List V} (p : H <+: H') (h : RowT H l) : RowT H' l := ⟨h.1, h.2.1, tgl_pre p h.2.2.1, h.2.2.2⟩
noncomputable def RowP (l : List V) : Prop := 1 ≤ l.length ∧ l.length ≤ 6 ∧ PvL 2000 2 l
noncomputable def C_bt5 : Ctr := fun vs H Q _ => ∃ i at', vs = [.ref i, .int at'] ∧ LvT H i ∧ (at' = -1 ∨ (0 ≤ at' ∧ Lv RowP H i)) ∧ ∀ v H', H <+: H' → Tg H' 200000 40 v → Q v H'
noncomputable abbrev btB : List IS := [(.assign 4 (.call (.ty .list) [(.sub (.loc 0) (.loc 3))])), (.ite (.cmp (.loc 3) .Gt (.lit (.int 0))) [(.expr (.meth (.loc 4) .append [(.loc 2)]))] []), (.ite (.cmp (.loc 3) .Eq (.loc 1)) [(.assign 2 (.loc 4))] [(.assign 2 (.call (.ty .tuple) [(.loc 4)]))])]
/- what is kept: k rows are used up; pr: the rows are plain -/
noncomputable def Inv5 (pr : Prop) (at' : Int) (H : Hp) (k : Nat) (v : V) : Prop := Tg H (12100 * k + 35) (k + 3) v ∧ (pr ∧ (k : Int) ≤ at' → Pv (12100 * k + 35) (k + 3) v)
theorem bt_step {pr : Prop} {at' : Int} {H : Hp} {k : Nat} {v : V} {l : List V} (hk : k ≤ 9) (hv : Inv5 pr at' H k v) (hl : RowT H l) (hpl : pr → RowP l) (l' : List V) (hl' : (k = 0 ∧ l' = l) ∨ l' = l ++ [v]) :
    (Inv5 pr at' H (k + 1) (.tup l') ∧ ∀ H' j, H <+: H' → listAt H' j = some l' → pr → (k : Int) = at' → Inv5 pr at' H' (k + 1) (.ref j)) := by
  have hT : Tg H (12100 * (k + 1) + 35) (k + 1 + 3) (.tup l') := by
    rcases hl' with ⟨_, rfl⟩ | rfl
    · exact (tg_tup hl.2.2.1 hl.2.2.2 hl.2.1 (by decide)).mono (by omega) (by omega)
    · exact (tg_row hl.2.2.1 hl.2.2.2 hv.1 (by omega) hl.1 hl.2.1).mono (by omega) (by omega)
  have hP : pr → (k : Int) ≤ at' → Pv (12100 * (k + 1) + 35) (k + 1 + 3) (.tup l') ∧ ∀ H' j, listAt H' j = some l' → Tg H' (12100 * (k + 1) + 35) (k + 1 + 3) (.ref j) := by
    intro hp ha
    have hr := hpl hp
    have hpv := hv.2 ⟨hp, ha⟩
    rcases hl' with ⟨_, rfl⟩ | rfl
    · exact ⟨(pv_tup hr.2.2 hr.2.1 (by decide) (by decide)).mono (by omega) (by omega), fun H' j hj => (tg_list hr.2.2 hj hr.2.1).mono (by omega) (by omega)⟩
    · obtain ⟨e1, e2⟩ := pv_row hr.2.2 hpv (by omega) (by omega) hr.1 hr.2.1
      exact ⟨e1.mono (by omega) (by omega), fun H' j hj => (e2 hj).mono (by omega) (by omega)⟩
  refine ⟨⟨hT, fun h => (hP h.1 (by omega)).1⟩, fun H' j hp hj hpr hka => ⟨(hP hpr (by omega)).2 H' j hj, fun h => absurd h.2 (by omega)⟩⟩
theorem bt_loop {XF : XS} {H0 : Hp} {i : Nat} {at' : Int} {as : List Nat} {pr : Prop} {t5 t6 t7 : Option V} {Q : QS} (hi : listAt H0 i = some (as.map V.ref)) (h9 : as.length ≤ 9)
    (hr : ∀ a ∈ as, ∃ l, listAt H0 a = some l ∧ RowT H0 l ∧ (pr → RowP l)) (hat : at' = -1 ∨ (0 ≤ at' ∧ pr)) : ∀ (m k : Nat) (v : V) (t3 t4 : Option V) (H : Hp), k + m = as.length → H0 <+: H → Inv5 pr at' H k v →
    (∀ v' t3' t4' H', H0 <+: H' → Tg H' 200000 40 v' → Q .next [some (.ref i), some (.int at'), some v', t3', t4', t5, t6, t7] H') →
    forGo (whBX Ej btB XF) (fun _ => True) [3] ((List.range' k m).map fun (j : Nat) => V.int (0 + (j : Int))) [some (.ref i), some (.int at'), some v, t3, t4, t5, t6, t7] H Q := by
  intro m
  induction m with
  | zero => intro k v t3 t4 H hk hp hv q; exact q _ _ _ _ hp (hv.1.mono (by omega) (by omega))
  | succ m ih =>
    intro k v t3 t4 H hk hp hv q
    have hka : k < as.length := by omega
    obtain ⟨l, hl, hlT, hlP⟩ := hr as[k] (List.getElem_mem hka)
    have hix : idx (as.map V.ref) (0 + (k : Int)) = some (.ref as[k]) := by
      rw [Int.zero_add, idx_nat, List.getElem?_map, List.getElem?_eq_getElem hka]; rfl
    have hi1 := listAt_pre hp hi
    have hl1 := listAt_pre hp hl
    have hlT1 := hlT.pre hp
    rw [List.range'_succ, List.map_cons, foX_cons]
    show wpSs Ej btB [some (.ref i), some (.int at'), some v, some (.int (0 + (k : Int))), t4, t5, t6, t7] H _ _
    refine zs_cons ?_
    generalize hK : sqX Ej (_ :: _) = K
    simp only [↓X_lit, ↓X_loc, ↓X_bin, ↓negX_int, ↓X_neg, ↓X_not, ↓Y_not, ↓X_and, ↓Y_and, ↓X_or, ↓Y_or, ↓X_cmp, ↓X_cmp2, ↓X_ite, ↓Y_ite, ↓X_tup, ↓X_lst, ↓X_call, ↓X_meth, ↓X_sub, ↓X_comp, ↓Y_lit, ↓Y_loc, ↓Y_cmp, ↓Y_cmp2, ↓Y_call, ↓Y_sub, ↓XEs_nil, ↓XEs_cons, ↓XIfs_nil, ↓XIfs_cons, ↓Z_expr, ↓Z_assign, ↓Z_ret, ↓Z_retNone, ↓Z_ite, ↓Z_for, ↓Z_pass, ↓Z_brk, ↓Z_cont, ↓Zs_nil, ↓sqX_next, ↓sqX_brk, ↓sqX_cont, ↓sqX_ret, ↓Zs_cons, ↓wkX_next, ↓wkX_cont, ↓wkX_brk, ↓wkX_ret, ↓fkX_next, ↓fkX_cont, ↓fkX_brk, ↓fkX_ret, ↓xb_one, ↓oKK_some, ↓oK_some, ↓tX_bool, ↓iX_t, ↓iX_f, ↓iX_d, ↓q_add, ↓q_sub, ↓q_mul, ↓q_div, ↓q_mod, ↓q_pow, ↓q_list, ↓q_eq, ↓q_ne, ↓q_eqs, ↓q_nes, ↓q_eqb, ↓q_lt, ↓q_le, ↓q_gt, ↓q_ge, ↓q_in, ↓q_inl, ↓q_nin, ↓q_is, ↓q_isnot, ↓q_stup, ↓q_sref, ↓q_sscr, ↓q_fn, ↓q_lentup, ↓q_lenref, ↓q_lenscr, ↓q_isi, ↓q_all, ↓q_max, ↓q_min, ↓q_int, ↓q_tuple, ↓q_listc, ↓q_append, ↓q_clear, ↓q_index, ↓q_pop, ↓q_slicet, ↓q_revt, ↓q_revl, ↓q_set, ↓q_repr, ↓q_eqo, ↓X_rev, ↓Z_set, ↓q_addt, ↓q_listt, ↓q_ninl, ↓u_tup, ↓u_ref, ↓u_range, ↓q_slice, ↓oi_none, ↓oi_int, ↓X_slice, ↓XO_none, ↓XO_some, ↓u_rev, ↓u_zip, ↓xb_two, ↓u_range2, ↓retV_ret, ↓retV_next, List.getElem?_cons_zero, List.getElem?_cons_succ, List.set_cons_zero, List.set_cons_succ, Bool.not_true, Bool.not_false, idx_0, idx_1, idx_2, idx_3, idx_4, idx_5, Int.reduceAdd, Int.reduceSub, Int.reduceMul, Int.reduceNeg, Int.reducePow, Int.reduceLT, Int.reduceLE, Int.reduceEq, Int.reduceNe, Int.reduceToNat, Int.reduceAbs, Nat.reduceAdd, Nat.reduceLT, Nat.reduceLeDiff, Nat.reducePow, Nat.reduceLT, List.length_cons, List.length_nil, true_implies, false_implies, not_true_eq_false, not_false_eq_true, and_true, true_and, and_self, or_true, true_or, decide_true, decide_false, exists_eq_left', Option.some.injEq, hi1, hix, hl1]
    subst hK
    have fin : ∀ H2 l', H <+: H2 → listAt H2 H.length = some l' → ((k = 0 ∧ l' = l) ∨ l' = l ++ [v]) →
        wpSs Ej (btB.drop 2) [some (.ref i), some (.int at'), some v, some (.int (0 + (k : Int))), some (.ref H.length), t5, t6, t7] H2 (fkX (whBX Ej btB XF) (fun _ => True) [3] ((List.range' (k + 1) m).map fun (j : Nat) => V.int (0 + (j : Int))) Q) XF := by
      intro H2 l' hp2 hl2 hl'
      have hv2 : Inv5 pr at' H2 k v := ⟨hv.1.pre hp2, hv.2⟩
      obtain ⟨b1, b2⟩ := bt_step (by omega) hv2 (hlT1.pre hp2) hlP l' hl'
      refine zs_cons ?_
      generalize hK : sqX Ej [] = K
      simp only [↓X_lit, ↓X_loc, ↓X_bin, ↓negX_int, ↓X_neg, ↓X_not, ↓Y_not, ↓X_and, ↓Y_and, ↓X_or, ↓Y_or, ↓X_cmp, ↓X_cmp2, ↓X_ite, ↓Y_ite, ↓X_tup, ↓X_lst, ↓X_call, ↓X_meth, ↓X_sub, ↓X_comp, ↓Y_lit, ↓Y_loc, ↓Y_cmp, ↓Y_cmp2, ↓Y_call, ↓Y_sub, ↓XEs_nil, ↓XEs_cons, ↓XIfs_nil, ↓XIfs_cons, ↓Z_expr, ↓Z_assign, ↓Z_ret, ↓Z_retNone, ↓Z_ite, ↓Z_for, ↓Z_pass, ↓Z_brk, ↓Z_cont, ↓Zs_nil, ↓sqX_next, ↓sqX_brk, ↓sqX_cont, ↓sqX_ret, ↓Zs_cons, ↓wkX_next, ↓wkX_cont, ↓wkX_brk, ↓wkX_ret, ↓fkX_next, ↓fkX_cont, ↓fkX_brk, ↓fkX_ret, ↓xb_one, ↓oKK_some, ↓oK_some, ↓tX_bool, ↓iX_t, ↓iX_f, ↓iX_d, ↓q_add, ↓q_sub, ↓q_mul, ↓q_div, ↓q_mod, ↓q_pow, ↓q_list, ↓q_eq, ↓q_ne, ↓q_eqs, ↓q_nes, ↓q_eqb, ↓q_lt, ↓q_le, ↓q_gt, ↓q_ge, ↓q_in, ↓q_inl, ↓q_nin, ↓q_is, ↓q_isnot, ↓q_stup, ↓q_sref, ↓q_sscr, ↓q_fn, ↓q_lentup, ↓q_lenref, ↓q_lenscr, ↓q_isi, ↓q_all, ↓q_max, ↓q_min, ↓q_int, ↓q_tuple, ↓q_listc, ↓q_append, ↓q_clear, ↓q_index, ↓q_pop, ↓q_slicet, ↓q_revt, ↓q_revl, ↓q_set, ↓q_repr, ↓q_eqo, ↓X_rev, ↓Z_set, ↓q_addt, ↓q_listt, ↓q_ninl, ↓u_tup, ↓u_ref, ↓u_range, ↓q_slice, ↓oi_none, ↓oi_int, ↓X_slice, ↓XO_none, ↓XO_some, ↓u_rev, ↓u_zip, ↓xb_two, ↓u_range2, ↓retV_ret, ↓retV_next, List.getElem?_cons_zero, List.getElem?_cons_succ, List.set_cons_zero, List.set_cons_succ, Bool.not_true, Bool.not_false, idx_0, idx_1, idx_2, idx_3, idx_4, idx_5, Int.reduceAdd, Int.reduceSub, Int.reduceMul, Int.reduceNeg, Int.reducePow, Int.reduceLT, Int.reduceLE, Int.reduceEq, Int.reduceNe, Int.reduceToNat, Int.reduceAbs, Nat.reduceAdd, Nat.reduceLT, Nat.reduceLeDiff, Nat.reducePow, Nat.reduceLT, List.length_cons, List.length_nil, true_implies, false_implies, not_true_eq_false, not_false_eq_true, and_true, true_and, and_self, or_true, true_or, decide_true, decide_false, exists_eq_left', Option.some.injEq, hl2]
      refine ⟨fun he => ?_, fun he => ?_⟩
      · subst hK
        have hpr : pr := by
          rcases hat with h | h
          · omega
          · exact h.2
        exact ⟨trivial, ih (k + 1) _ _ _ H2 (by omega) (hp.trans hp2) (b2 H2 _ (List.prefix_refl _) hl2 hpr (by omega)) q⟩
      · subst hK
        exact ⟨trivial, ih (k + 1) _ _ _ H2 (by omega) (hp.trans hp2) b1 q⟩
    change wpSs Ej (btB.drop 1) [some (.ref i), some (.int at'), some v, some (.int (0 + (k : Int))), some (.ref H.length), t5, t6, t7] (H ++ [O.list l]) _ _
    refine zs_cons ?_
    generalize hK : sqX Ej (_ :: _) = K
    simp only [↓X_lit, ↓X_loc, ↓X_bin, ↓negX_int, ↓X_neg, ↓X_not, ↓Y_not, ↓X_and, ↓Y_and, ↓X_or, ↓Y_or, ↓X_cmp, ↓X_cmp2, ↓X_ite, ↓Y_ite, ↓X_tup, ↓X_lst, ↓X_call, ↓X_meth, ↓X_sub, ↓X_comp, ↓Y_lit, ↓Y_loc, ↓Y_cmp, ↓Y_cmp2, ↓Y_call, ↓Y_sub, ↓XEs_nil, ↓XEs_cons, ↓XIfs_nil, ↓XIfs_cons, ↓Z_expr, ↓Z_assign, ↓Z_ret, ↓Z_retNone, ↓Z_ite, ↓Z_for, ↓Z_pass, ↓Z_brk, ↓Z_cont, ↓Zs_nil, ↓sqX_next, ↓sqX_brk, ↓sqX_cont, ↓sqX_ret, ↓Zs_cons, ↓wkX_next, ↓wkX_cont, ↓wkX_brk, ↓wkX_ret, ↓fkX_next, ↓fkX_cont, ↓fkX_brk, ↓fkX_ret, ↓xb_one, ↓oKK_some, ↓oK_some, ↓tX_bool, ↓iX_t, ↓iX_f, ↓iX_d, ↓q_add, ↓q_sub, ↓q_mul, ↓q_div, ↓q_mod, ↓q_pow, ↓q_list, ↓q_eq, ↓q_ne, ↓q_eqs, ↓q_nes, ↓q_eqb, ↓q_lt, ↓q_le, ↓q_gt, ↓q_ge, ↓q_in, ↓q_inl, ↓q_nin, ↓q_is, ↓q_isnot, ↓q_stup, ↓q_sref, ↓q_sscr, ↓q_fn, ↓q_lentup, ↓q_lenref, ↓q_lenscr, ↓q_isi, ↓q_all, ↓q_max, ↓q_min, ↓q_int, ↓q_tuple, ↓q_listc, ↓q_append, ↓q_clear, ↓q_index, ↓q_pop, ↓q_slicet, ↓q_revt, ↓q_revl, ↓q_set, ↓q_repr, ↓q_eqo, ↓X_rev, ↓Z_set, ↓q_addt, ↓q_listt, ↓q_ninl, ↓u_tup, ↓u_ref, ↓u_range, ↓q_slice, ↓oi_none, ↓oi_int, ↓X_slice, ↓XO_none, ↓XO_some, ↓u_rev, ↓u_zip, ↓xb_two, ↓u_range2, ↓retV_ret, ↓retV_next, List.getElem?_cons_zero, List.getElem?_cons_succ, List.set_cons_zero, List.set_cons_succ, Bool.not_true, Bool.not_false, idx_0, idx_1, idx_2, idx_3, idx_4, idx_5, Int.reduceAdd, Int.reduceSub, Int.reduceMul, Int.reduceNeg, Int.reducePow, Int.reduceLT, Int.reduceLE, Int.reduceEq, Int.reduceNe, Int.reduceToNat, Int.reduceAbs, Nat.reduceAdd, Nat.reduceLT, Nat.reduceLeDiff, Nat.reducePow, Nat.reduceLT, List.length_cons, List.length_nil, true_implies, false_implies, not_true_eq_false, not_false_eq_true, and_true, true_and, and_self, or_true, true_or, decide_true, decide_false, exists_eq_left', Option.some.injEq, okMeth, listAt_new, set_new]
    have hl6 := hlT.2.1
    refine ⟨fun _ => ⟨⟨_, rfl⟩, by omega, ?_⟩, fun h0 => ?_⟩
    · subst hK
      exact fin _ _ pre_new listAt_new (.inr rfl)
    · subst hK
      exact fin _ _ pre_new listAt_new (.inl ⟨by omega, rfl⟩)
theorem range_range' (n : Nat) : rangeL 0 (n : Int) = (List.range' 0 n).map fun (j : Nat) => V.int (0 + (j : Int)) := by
  unfold rangeL
  rw [Int.sub_zero, Int.toNat_natCast, List.range_eq_range']
theorem w_bt5 : ∀ vs H Q X, C_bt5 vs H Q X → wpFn Ej f_l_built vs H Q X := by
  rintro vs H Q X ⟨i, at', rfl, hlv, hat, q⟩
  obtain ⟨as, hi, h1, h9, hr⟩ := hlv
  refine fn_of rfl ?_
  change wpSs Ej f_l_built.body [some (.ref i), some (.int at'), none, none, none, none, none, none] H _ _
  refine zs_cons ?_
  change wpSs Ej (f_l_built.body.drop 1) [some (.ref i), some (.int at'), some .none, none, none, none, none, none] H _ _
  refine zs_cons ?_
  generalize hK : sqX Ej (_ :: _) = K
  simp only [↓X_lit, ↓X_loc, ↓X_bin, ↓negX_int, ↓X_neg, ↓X_not, ↓Y_not, ↓X_and, ↓Y_and, ↓X_or, ↓Y_or, ↓X_cmp, ↓X_cmp2, ↓X_ite, ↓Y_ite, ↓X_tup, ↓X_lst, ↓X_call, ↓X_meth, ↓X_sub, ↓X_comp, ↓Y_lit, ↓Y_loc, ↓Y_cmp, ↓Y_cmp2, ↓Y_call, ↓Y_sub, ↓XEs_nil, ↓XEs_cons, ↓XIfs_nil, ↓XIfs_cons, ↓Z_expr, ↓Z_assign, ↓Z_ret, ↓Z_retNone, ↓Z_ite, ↓Z_for, ↓Z_pass, ↓Z_brk, ↓Z_cont, ↓Zs_nil, ↓sqX_next, ↓sqX_brk, ↓sqX_cont, ↓sqX_ret, ↓Zs_cons, ↓wkX_next, ↓wkX_cont, ↓wkX_brk, ↓wkX_ret, ↓fkX_next, ↓fkX_cont, ↓fkX_brk, ↓fkX_ret, ↓xb_one, ↓oKK_some, ↓oK_some, ↓tX_bool, ↓iX_t, ↓iX_f, ↓iX_d, ↓q_add, ↓q_sub, ↓q_mul, ↓q_div, ↓q_mod, ↓q_pow, ↓q_list, ↓q_eq, ↓q_ne, ↓q_eqs, ↓q_nes, ↓q_eqb, ↓q_lt, ↓q_le, ↓q_gt, ↓q_ge, ↓q_in, ↓q_inl, ↓q_nin, ↓q_is, ↓q_isnot, ↓q_stup, ↓q_sref, ↓q_sscr, ↓q_fn, ↓q_lentup, ↓q_lenref, ↓q_lenscr, ↓q_isi, ↓q_all, ↓q_max, ↓q_min, ↓q_int, ↓q_tuple, ↓q_listc, ↓q_append, ↓q_clear, ↓q_index, ↓q_pop, ↓q_slicet, ↓q_revt, ↓q_revl, ↓q_set, ↓q_repr, ↓q_eqo, ↓X_rev, ↓Z_set, ↓q_addt, ↓q_listt, ↓q_ninl, ↓u_tup, ↓u_ref, ↓u_range, ↓q_slice, ↓oi_none, ↓oi_int, ↓X_slice, ↓XO_none, ↓XO_some, ↓u_rev, ↓u_zip, ↓xb_two, ↓u_range2, ↓retV_ret, ↓retV_next, List.getElem?_cons_zero, List.getElem?_cons_succ, List.set_cons_zero, List.set_cons_succ, Bool.not_true, Bool.not_false, idx_0, idx_1, idx_2, idx_3, idx_4, idx_5, Int.reduceAdd, Int.reduceSub, Int.reduceMul, Int.reduceNeg, Int.reducePow, Int.reduceLT, Int.reduceLE, Int.reduceEq, Int.reduceNe, Int.reduceToNat, Int.reduceAbs, Nat.reduceAdd, Nat.reduceLT, Nat.reduceLeDiff, Nat.reducePow, Nat.reduceLT, List.length_cons, List.length_nil, true_implies, false_implies, not_true_eq_false, not_false_eq_true, and_true, true_and, and_self, or_true, true_or, decide_true, decide_false, exists_eq_left', Option.some.injEq, hi]
  refine ⟨⟨by omega, by rw [List.length_map]; omega⟩, ?_⟩
  rw [range_range', List.length_map]
  have hr' : ∀ a ∈ as, ∃ l, listAt H a = some l ∧ RowT H l ∧ (0 ≤ at' → RowP l) := by
    intro a ha
    obtain ⟨_, l, e2, e3⟩ := hr a ha
    refine ⟨l, e2, e3, fun h0 => ?_⟩
    rcases hat with h | ⟨_, as', hi', _, _, hr2⟩
    · omega
    · rw [hi] at hi'
      have ea : as = as' := by
        have h3 : (as.map V.ref) = as'.map V.ref := by injection hi'
        have h4 := congrArg (List.map fun v => match v with | V.ref j => j | _ => 0) h3
        simpa only [List.map_map, Function.comp_def, List.map_id'] using h4
      obtain ⟨_, l2, f2, f3⟩ := hr2 a (ea ▸ ha)
      rw [e2] at f2; cases f2; exact f3
  refine bt_loop (pr := 0 ≤ at') hi h9 hr' (by rcases hat with h | h; exact .inl h; exact .inr ⟨h.1, h.1⟩) as.length 0 .none _ _ H (by omega) (List.prefix_refl _) ?_ fun v' t3' t4' H' hp hv => ?_
  · exact ⟨(pv_none (by decide)).tg, fun _ => pv_none (by decide)⟩
  · subst hK; exact q v' H' hp hv
noncomputable def Ek : Orc := ext "_law_built" C_bt5 Ej
end Mine

set_option autoImplicit false
set_option linter.unusedSimpArgs false
set_option maxRecDepth 20000
namespace Mine
open PySem

noncomputable def C_law5 : Ctr := fun vs _ Q _ => ∃ ns, vs = [.scr ns] ∧ ∀ H', Q (.bool true) H'
theorem ek_c : Ek "_law_cell_at" = C_cell5 := rfl
theorem ek_l : Ek "_law_levels" = C_lv5 := rfl
theorem ek_s : Ek "_law_spoilt" = C_sp5 := rfl
theorem ek_b : Ek "_law_built" = C_bt5 := rfl
theorem ek_r : Ek "is_rule" = C_is_rule := rfl
theorem ek_g : Ek "_law_good" = C_good := rfl
noncomputable abbrev lwB : List IS := f_lawE.body
section
variable {Q : V → Hp → Prop} {X : XL} {ns : List Int} {w c : Int} {i : Nat} {t4 t6 t7 t8 t9 t10 t11 : Option V}
theorem law_end {H : Hp} {v : V} (hv : Tg H 200000 40 v) (q : ∀ H', Q (.bool true) H') :
    wpSs Ek (lwB.drop 8) [some (.scr ns), some (.int w), some (.int c), some (.ref i), t4, some v, t6, t7, t8, t9, t10, t11] H (fun fl _ H1 => Q (retV fl) H1) (fun x _ H1 => X x H1) := by
  obtain ⟨⟨d, hd, ho⟩, hth, hfs⟩ := hv
  have hfit := ho.fit (by decide) (by decide)
  refine zs_cons ?_
  generalize hK : sqX Ek (_ :: _) = K
  simp only [↓X_lit, ↓X_loc, ↓X_bin, ↓negX_int, ↓X_neg, ↓X_not, ↓Y_not, ↓X_and, ↓Y_and, ↓X_or, ↓Y_or, ↓X_cmp, ↓X_cmp2, ↓X_ite, ↓Y_ite, ↓X_tup, ↓X_lst, ↓X_call, ↓X_meth, ↓X_sub, ↓X_comp, ↓Y_lit, ↓Y_loc, ↓Y_cmp, ↓Y_cmp2, ↓Y_call, ↓Y_sub, ↓XEs_nil, ↓XEs_cons, ↓XIfs_nil, ↓XIfs_cons, ↓Z_expr, ↓Z_assign, ↓Z_ret, ↓Z_retNone, ↓Z_ite, ↓Z_for, ↓Z_pass, ↓Z_brk, ↓Z_cont, ↓Zs_nil, ↓sqX_next, ↓sqX_brk, ↓sqX_cont, ↓sqX_ret, ↓Zs_cons, ↓wkX_next, ↓wkX_cont, ↓wkX_brk, ↓wkX_ret, ↓fkX_next, ↓fkX_cont, ↓fkX_brk, ↓fkX_ret, ↓xb_one, ↓oKK_some, ↓oK_some, ↓tX_bool, ↓iX_t, ↓iX_f, ↓iX_d, ↓q_add, ↓q_sub, ↓q_mul, ↓q_div, ↓q_mod, ↓q_pow, ↓q_list, ↓q_eq, ↓q_ne, ↓q_eqs, ↓q_nes, ↓q_eqb, ↓q_lt, ↓q_le, ↓q_gt, ↓q_ge, ↓q_in, ↓q_inl, ↓q_nin, ↓q_is, ↓q_isnot, ↓q_stup, ↓q_sref, ↓q_sscr, ↓q_fn, ↓q_lentup, ↓q_lenref, ↓q_lenscr, ↓q_isi, ↓q_all, ↓q_max, ↓q_min, ↓q_int, ↓q_tuple, ↓q_listc, ↓q_append, ↓q_clear, ↓q_index, ↓q_pop, ↓q_slicet, ↓q_revt, ↓q_revl, ↓q_set, ↓q_repr, ↓q_eqo, ↓X_rev, ↓Z_set, ↓q_addt, ↓q_listt, ↓q_ninl, ↓u_tup, ↓u_ref, ↓u_range, ↓q_slice, ↓oi_none, ↓oi_int, ↓X_slice, ↓XO_none, ↓XO_some, ↓u_rev, ↓u_zip, ↓xb_two, ↓u_range2, ↓retV_ret, ↓retV_next, List.getElem?_cons_zero, List.getElem?_cons_succ, List.set_cons_zero, List.set_cons_succ, Bool.not_true, Bool.not_false, idx_0, idx_1, idx_2, idx_3, idx_4, idx_5, Int.reduceAdd, Int.reduceSub, Int.reduceMul, Int.reduceNeg, Int.reducePow, Int.reduceLT, Int.reduceLE, Int.reduceEq, Int.reduceNe, Int.reduceToNat, Int.reduceAbs, Nat.reduceAdd, Nat.reduceLT, Nat.reduceLeDiff, Nat.reducePow, Nat.reduceLT, List.length_cons, List.length_nil, true_implies, false_implies, not_true_eq_false, not_false_eq_true, and_true, true_and, and_self, or_true, true_or, decide_true, decide_false, exists_eq_left', Option.some.injEq, hd]
  refine ⟨hfit, ?_⟩
  subst hK
  change wpSs Ek (lwB.drop 9) [some (.scr ns), some (.int w), some (.int c), some (.ref i), t4, some v, t6, some (.opq d.shown), t8, t9, t10, t11] H _ _
  refine zs_cons ?_
  generalize hK : sqX Ek (_ :: _) = K
  simp only [↓X_lit, ↓X_loc, ↓X_bin, ↓negX_int, ↓X_neg, ↓X_not, ↓Y_not, ↓X_and, ↓Y_and, ↓X_or, ↓Y_or, ↓X_cmp, ↓X_cmp2, ↓X_ite, ↓Y_ite, ↓X_tup, ↓X_lst, ↓X_call, ↓X_meth, ↓X_sub, ↓X_comp, ↓Y_lit, ↓Y_loc, ↓Y_cmp, ↓Y_cmp2, ↓Y_call, ↓Y_sub, ↓XEs_nil, ↓XEs_cons, ↓XIfs_nil, ↓XIfs_cons, ↓Z_expr, ↓Z_assign, ↓Z_ret, ↓Z_retNone, ↓Z_ite, ↓Z_for, ↓Z_pass, ↓Z_brk, ↓Z_cont, ↓Zs_nil, ↓sqX_next, ↓sqX_brk, ↓sqX_cont, ↓sqX_ret, ↓Zs_cons, ↓wkX_next, ↓wkX_cont, ↓wkX_brk, ↓wkX_ret, ↓fkX_next, ↓fkX_cont, ↓fkX_brk, ↓fkX_ret, ↓xb_one, ↓oKK_some, ↓oK_some, ↓tX_bool, ↓iX_t, ↓iX_f, ↓iX_d, ↓q_add, ↓q_sub, ↓q_mul, ↓q_div, ↓q_mod, ↓q_pow, ↓q_list, ↓q_eq, ↓q_ne, ↓q_eqs, ↓q_nes, ↓q_eqb, ↓q_lt, ↓q_le, ↓q_gt, ↓q_ge, ↓q_in, ↓q_inl, ↓q_nin, ↓q_is, ↓q_isnot, ↓q_stup, ↓q_sref, ↓q_sscr, ↓q_fn, ↓q_lentup, ↓q_lenref, ↓q_lenscr, ↓q_isi, ↓q_all, ↓q_max, ↓q_min, ↓q_int, ↓q_tuple, ↓q_listc, ↓q_append, ↓q_clear, ↓q_index, ↓q_pop, ↓q_slicet, ↓q_revt, ↓q_revl, ↓q_set, ↓q_repr, ↓q_eqo, ↓X_rev, ↓Z_set, ↓q_addt, ↓q_listt, ↓q_ninl, ↓u_tup, ↓u_ref, ↓u_range, ↓q_slice, ↓oi_none, ↓oi_int, ↓X_slice, ↓XO_none, ↓XO_some, ↓u_rev, ↓u_zip, ↓xb_two, ↓u_range2, ↓retV_ret, ↓retV_next, List.getElem?_cons_zero, List.getElem?_cons_succ, List.set_cons_zero, List.set_cons_succ, Bool.not_true, Bool.not_false, idx_0, idx_1, idx_2, idx_3, idx_4, idx_5, Int.reduceAdd, Int.reduceSub, Int.reduceMul, Int.reduceNeg, Int.reducePow, Int.reduceLT, Int.reduceLE, Int.reduceEq, Int.reduceNe, Int.reduceToNat, Int.reduceAbs, Nat.reduceAdd, Nat.reduceLT, Nat.reduceLeDiff, Nat.reducePow, Nat.reduceLT, List.length_cons, List.length_nil, true_implies, false_implies, not_true_eq_false, not_false_eq_true, and_true, true_and, and_self, or_true, true_or, decide_true, decide_false, exists_eq_left', Option.some.injEq, ↓ek_r]
  refine ⟨v, rfl, hth, ?_⟩
  subst hK
  change wpSs Ek (lwB.drop 10) [some (.scr ns), some (.int w), some (.int c), some (.ref i), t4, some v, t6, some (.opq d.shown), some (.bool (isRl 8 v)), t9, t10, t11] H _ _
  refine zs_cons ?_
  generalize hK : sqX Ek [] = K
  have hb : isInstH H (.bool (isRl 8 v)) .bool = some true := rfl
  simp only [↓X_lit, ↓X_loc, ↓X_bin, ↓negX_int, ↓X_neg, ↓X_not, ↓Y_not, ↓X_and, ↓Y_and, ↓X_or, ↓Y_or, ↓X_cmp, ↓X_cmp2, ↓X_ite, ↓Y_ite, ↓X_tup, ↓X_lst, ↓X_call, ↓X_meth, ↓X_sub, ↓X_comp, ↓Y_lit, ↓Y_loc, ↓Y_cmp, ↓Y_cmp2, ↓Y_call, ↓Y_sub, ↓XEs_nil, ↓XEs_cons, ↓XIfs_nil, ↓XIfs_cons, ↓Z_expr, ↓Z_assign, ↓Z_ret, ↓Z_retNone, ↓Z_ite, ↓Z_for, ↓Z_pass, ↓Z_brk, ↓Z_cont, ↓Zs_nil, ↓sqX_next, ↓sqX_brk, ↓sqX_cont, ↓sqX_ret, ↓Zs_cons, ↓wkX_next, ↓wkX_cont, ↓wkX_brk, ↓wkX_ret, ↓fkX_next, ↓fkX_cont, ↓fkX_brk, ↓fkX_ret, ↓xb_one, ↓oKK_some, ↓oK_some, ↓tX_bool, ↓iX_t, ↓iX_f, ↓iX_d, ↓q_add, ↓q_sub, ↓q_mul, ↓q_div, ↓q_mod, ↓q_pow, ↓q_list, ↓q_eq, ↓q_ne, ↓q_eqs, ↓q_nes, ↓q_eqb, ↓q_lt, ↓q_le, ↓q_gt, ↓q_ge, ↓q_in, ↓q_inl, ↓q_nin, ↓q_is, ↓q_isnot, ↓q_stup, ↓q_sref, ↓q_sscr, ↓q_fn, ↓q_lentup, ↓q_lenref, ↓q_lenscr, ↓q_isi, ↓q_all, ↓q_max, ↓q_min, ↓q_int, ↓q_tuple, ↓q_listc, ↓q_append, ↓q_clear, ↓q_index, ↓q_pop, ↓q_slicet, ↓q_revt, ↓q_revl, ↓q_set, ↓q_repr, ↓q_eqo, ↓X_rev, ↓Z_set, ↓q_addt, ↓q_listt, ↓q_ninl, ↓u_tup, ↓u_ref, ↓u_range, ↓q_slice, ↓oi_none, ↓oi_int, ↓X_slice, ↓XO_none, ↓XO_some, ↓u_rev, ↓u_zip, ↓xb_two, ↓u_range2, ↓retV_ret, ↓retV_next, List.getElem?_cons_zero, List.getElem?_cons_succ, List.set_cons_zero, List.set_cons_succ, Bool.not_true, Bool.not_false, idx_0, idx_1, idx_2, idx_3, idx_4, idx_5, Int.reduceAdd, Int.reduceSub, Int.reduceMul, Int.reduceNeg, Int.reducePow, Int.reduceLT, Int.reduceLE, Int.reduceEq, Int.reduceNe, Int.reduceToNat, Int.reduceAbs, Nat.reduceAdd, Nat.reduceLT, Nat.reduceLeDiff, Nat.reducePow, Nat.reduceLT, List.length_cons, List.length_nil, true_implies, false_implies, not_true_eq_false, not_false_eq_true, and_true, true_and, and_self, or_true, true_or, decide_true, decide_false, exists_eq_left', Option.some.injEq, hb, ↓ek_g]
  refine ⟨v, rfl, hth, hfs, fun H' hp => ?_⟩
  simp only [↓X_lit, ↓X_loc, ↓X_bin, ↓negX_int, ↓X_neg, ↓X_not, ↓Y_not, ↓X_and, ↓Y_and, ↓X_or, ↓Y_or, ↓X_cmp, ↓X_cmp2, ↓X_ite, ↓Y_ite, ↓X_tup, ↓X_lst, ↓X_call, ↓X_meth, ↓X_sub, ↓X_comp, ↓Y_lit, ↓Y_loc, ↓Y_cmp, ↓Y_cmp2, ↓Y_call, ↓Y_sub, ↓XEs_nil, ↓XEs_cons, ↓XIfs_nil, ↓XIfs_cons, ↓Z_expr, ↓Z_assign, ↓Z_ret, ↓Z_retNone, ↓Z_ite, ↓Z_for, ↓Z_pass, ↓Z_brk, ↓Z_cont, ↓Zs_nil, ↓sqX_next, ↓sqX_brk, ↓sqX_cont, ↓sqX_ret, ↓Zs_cons, ↓wkX_next, ↓wkX_cont, ↓wkX_brk, ↓wkX_ret, ↓fkX_next, ↓fkX_cont, ↓fkX_brk, ↓fkX_ret, ↓xb_one, ↓oKK_some, ↓oK_some, ↓tX_bool, ↓iX_t, ↓iX_f, ↓iX_d, ↓q_add, ↓q_sub, ↓q_mul, ↓q_div, ↓q_mod, ↓q_pow, ↓q_list, ↓q_eq, ↓q_ne, ↓q_eqs, ↓q_nes, ↓q_eqb, ↓q_lt, ↓q_le, ↓q_gt, ↓q_ge, ↓q_in, ↓q_inl, ↓q_nin, ↓q_is, ↓q_isnot, ↓q_stup, ↓q_sref, ↓q_sscr, ↓q_fn, ↓q_lentup, ↓q_lenref, ↓q_lenscr, ↓q_isi, ↓q_all, ↓q_max, ↓q_min, ↓q_int, ↓q_tuple, ↓q_listc, ↓q_append, ↓q_clear, ↓q_index, ↓q_pop, ↓q_slicet, ↓q_revt, ↓q_revl, ↓q_set, ↓q_repr, ↓q_eqo, ↓X_rev, ↓Z_set, ↓q_addt, ↓q_listt, ↓q_ninl, ↓u_tup, ↓u_ref, ↓u_range, ↓q_slice, ↓oi_none, ↓oi_int, ↓X_slice, ↓XO_none, ↓XO_some, ↓u_rev, ↓u_zip, ↓xb_two, ↓u_range2, ↓retV_ret, ↓retV_next, List.getElem?_cons_zero, List.getElem?_cons_succ, List.set_cons_zero, List.set_cons_succ, Bool.not_true, Bool.not_false, idx_0, idx_1, idx_2, idx_3, idx_4, idx_5, Int.reduceAdd, Int.reduceSub, Int.reduceMul, Int.reduceNeg, Int.reducePow, Int.reduceLT, Int.reduceLE, Int.reduceEq, Int.reduceNe, Int.reduceToNat, Int.reduceAbs, Nat.reduceAdd, Nat.reduceLT, Nat.reduceLeDiff, Nat.reducePow, Nat.reduceLT, List.length_cons, List.length_nil, true_implies, false_implies, not_true_eq_false, not_false_eq_true, and_true, true_and, and_self, or_true, true_or, decide_true, decide_false, exists_eq_left', Option.some.injEq, beq_self_eq_true, toPyT_pre hp hd]
  refine ⟨hfit, ?_⟩
  subst hK
  exact q H'
theorem law_six {H : Hp} {v : V} (hv : Tg H 200000 40 v) (q : ∀ H', Q (.bool true) H') :
    wpSs Ek (lwB.drop 7) [some (.scr ns), some (.int w), some (.int c), some (.ref i), t4, some v, t6, t7, t8, t9, t10, t11] H (fun fl _ H1 => Q (retV fl) H1) (fun x _ H1 => X x H1) := by
  refine zs_cons ?_
  show ifP (decide (w = 6)) _ _
  refine iX_p (fun hw => ?_) (fun hw => law_end hv q)
  have sc5 : ∀ x ∈ [V.str "once", .int 5, .int 2], Pv 102 0 x := fun x hx => by
    simp only [List.mem_cons, List.not_mem_nil, or_false] at hx
    rcases hx with rfl | rfl | rfl
    · exact pv_str (by decide) (by decide)
    · exact pv_int (by decide) (by decide) (by decide)
    · exact pv_int (by decide) (by decide) (by decide)
  have so : Pv 2000 2 (.tup [.str "once", .int 5, .int 2]) := (pv_tup (n := 102) (k := 0) (m := 3) sc5 (Nat.le_refl _) (by decide) (by decide)).mono (by decide) (by decide)
  have sn : Pv 2000 2 (.str "once") := pv_str (by decide) (by decide)
  have s1 : Pv 200000 40 (.tup [.str "once"]) := (pv_tup (n := 102) (k := 0) (m := 1) (fun x hx => by rw [List.mem_singleton.mp hx]; exact pv_str (by decide) (by decide)) (Nat.le_refl _) (by decide) (by decide)).mono (by decide) (by decide)
  have s2 : Pv 200000 40 (.tup [.str "once", .int 5]) := (pv_tup (n := 102) (k := 0) (m := 2) (fun x hx => sc5 x (by simp only [List.mem_cons, List.not_mem_nil, or_false] at hx ⊢; rcases hx with h | h; exact .inl h; exact .inr (.inl h))) (Nat.le_refl _) (by decide) (by decide)).mono (by decide) (by decide)
  have s3 : Pv 200000 40 (.tup [.str ""]) := (pv_tup (n := 102) (k := 0) (m := 1) (fun x hx => by rw [List.mem_singleton.mp hx]; exact pv_str (by decide) (by decide)) (Nat.le_refl _) (by decide) (by decide)).mono (by decide) (by decide)
  have s4 : Pv 200000 40 (.tup [.tup [.str "once", .int 5, .int 2]]) := (pv_tup (n := 2000) (k := 2) (m := 1) (fun x hx => by rw [List.mem_singleton.mp hx]; exact so) (Nat.le_refl _) (by decide) (by decide)).mono (by decide) (by decide)
  have s5 : Pv 200000 40 (.tup []) := (pv_tup (n := 102) (k := 0) (m := 0) (l := []) (fun x hx => nomatch hx) (Nat.le_refl _) (by decide) (by decide)).mono (by decide) (by decide)
  refine zs_cons ?_
  generalize hK : sqX Ek (_ :: _) = K
  simp only [↓X_lit, ↓X_loc, ↓X_bin, ↓negX_int, ↓X_neg, ↓X_not, ↓Y_not, ↓X_and, ↓Y_and, ↓X_or, ↓Y_or, ↓X_cmp, ↓X_cmp2, ↓X_ite, ↓Y_ite, ↓X_tup, ↓X_lst, ↓X_call, ↓X_meth, ↓X_sub, ↓X_comp, ↓Y_lit, ↓Y_loc, ↓Y_cmp, ↓Y_cmp2, ↓Y_call, ↓Y_sub, ↓XEs_nil, ↓XEs_cons, ↓XIfs_nil, ↓XIfs_cons, ↓Z_expr, ↓Z_assign, ↓Z_ret, ↓Z_retNone, ↓Z_ite, ↓Z_for, ↓Z_pass, ↓Z_brk, ↓Z_cont, ↓Zs_nil, ↓sqX_next, ↓sqX_brk, ↓sqX_cont, ↓sqX_ret, ↓Zs_cons, ↓wkX_next, ↓wkX_cont, ↓wkX_brk, ↓wkX_ret, ↓fkX_next, ↓fkX_cont, ↓fkX_brk, ↓fkX_ret, ↓xb_one, ↓oKK_some, ↓oK_some, ↓tX_bool, ↓iX_t, ↓iX_f, ↓iX_d, ↓q_add, ↓q_sub, ↓q_mul, ↓q_div, ↓q_mod, ↓q_pow, ↓q_list, ↓q_eq, ↓q_ne, ↓q_eqs, ↓q_nes, ↓q_eqb, ↓q_lt, ↓q_le, ↓q_gt, ↓q_ge, ↓q_in, ↓q_inl, ↓q_nin, ↓q_is, ↓q_isnot, ↓q_stup, ↓q_sref, ↓q_sscr, ↓q_fn, ↓q_lentup, ↓q_lenref, ↓q_lenscr, ↓q_isi, ↓q_all, ↓q_max, ↓q_min, ↓q_int, ↓q_tuple, ↓q_listc, ↓q_append, ↓q_clear, ↓q_index, ↓q_pop, ↓q_slicet, ↓q_revt, ↓q_revl, ↓q_set, ↓q_repr, ↓q_eqo, ↓X_rev, ↓Z_set, ↓q_addt, ↓q_listt, ↓q_ninl, ↓u_tup, ↓u_ref, ↓u_range, ↓q_slice, ↓oi_none, ↓oi_int, ↓X_slice, ↓XO_none, ↓XO_some, ↓u_rev, ↓u_zip, ↓xb_two, ↓u_range2, ↓retV_ret, ↓retV_next, List.getElem?_cons_zero, List.getElem?_cons_succ, List.set_cons_zero, List.set_cons_succ, Bool.not_true, Bool.not_false, idx_0, idx_1, idx_2, idx_3, idx_4, idx_5, Int.reduceAdd, Int.reduceSub, Int.reduceMul, Int.reduceNeg, Int.reducePow, Int.reduceLT, Int.reduceLE, Int.reduceEq, Int.reduceNe, Int.reduceToNat, Int.reduceAbs, Nat.reduceAdd, Nat.reduceLT, Nat.reduceLeDiff, Nat.reducePow, Nat.reduceLT, List.length_cons, List.length_nil, true_implies, false_implies, not_true_eq_false, not_false_eq_true, and_true, true_and, and_self, or_true, true_or, decide_true, decide_false, exists_eq_left', Option.some.injEq]
  subst hK
  generalize hH1 : H ++ [O.list []] = H1
  have a1 : listAt H1 H.length = some [] := by rw [← hH1]; exact listAt_new
  generalize hH2 : H1 ++ [O.list [V.str "once", .int 5, .int 2]] = H2
  have a2 : listAt H2 H1.length = some [V.str "once", .int 5, .int 2] := by rw [← hH2]; exact listAt_new
  have p2 : H1 <+: H2 := by rw [← hH2]; exact pre_new
  generalize hH3 : H2 ++ [O.list [V.tup [.str "once", .int 5, .int 2]]] = H3
  have a3 : listAt H3 H2.length = some [V.tup [.str "once", .int 5, .int 2]] := by rw [← hH3]; exact listAt_new
  have p3 : H2 <+: H3 := by rw [← hH3]; exact pre_new
  have o1 : ∀ H', H3 <+: H' → TgL H' 200000 40 [V.none, .bool true, .int 5, .str "once", .ref H.length, .tup [], .tup [.str "once"], .tup [.str "once", .int 5], .ref H1.length, .ref H2.length] := fun H' hp x hx => by
    simp only [List.mem_cons, List.not_mem_nil, or_false] at hx
    rcases hx with rfl | rfl | rfl | rfl | rfl | rfl | rfl | rfl | rfl | rfl
    · exact (pv_none (by decide)).tg
    · exact (pv_bool (by decide)).tg
    · exact (pv_int (by decide) (by decide) (by decide)).tg
    · exact (pv_str (by decide) (by decide)).tg
    · exact (tg_list (n := 102) (k := 0) (m := 0) (l := []) (fun x hx => nomatch hx) (listAt_pre (p2.trans (p3.trans hp)) a1) (Nat.le_refl _)).mono (by decide) (by decide)
    · exact s5.tg
    · exact s1.tg
    · exact s2.tg
    · exact (tg_list (n := 102) (k := 0) (m := 3) sc5 (listAt_pre (p3.trans hp) a2) (Nat.le_refl _)).mono (by decide) (by decide)
    · exact (tg_list (n := 2000) (k := 2) (m := 1) (fun x hx => by rw [List.mem_singleton.mp hx]; exact so) (listAt_pre hp a3) (Nat.le_refl _)).mono (by decide) (by decide)
  have o2 : ∀ H', TgL H' 200000 40 [V.tup [.str ""], .tup [.tup [.str "once", .int 5, .int 2]]] := fun H' x hx => by
    simp only [List.mem_cons, List.not_mem_nil, or_false] at hx
    rcases hx with rfl | rfl
    · exact s3.tg
    · exact s4.tg
  revert o1 o2
  generalize hA : [V.none, .bool true, .int 5, .str "once", .ref H.length, .tup [], .tup [.str "once"], .tup [.str "once", .int 5], .ref H1.length, .ref H2.length] = A
  intro o1 o2
  have hA5 : A.length = 10 := by rw [← hA]; rfl
  clear hA
  refine zs_cons ?_
  generalize hK : sqX Ek (_ :: _) = K
  simp only [↓X_lit, ↓X_loc, ↓X_bin, ↓negX_int, ↓X_neg, ↓X_not, ↓Y_not, ↓X_and, ↓Y_and, ↓X_or, ↓Y_or, ↓X_cmp, ↓X_cmp2, ↓X_ite, ↓Y_ite, ↓X_tup, ↓X_lst, ↓X_call, ↓X_meth, ↓X_sub, ↓X_comp, ↓Y_lit, ↓Y_loc, ↓Y_cmp, ↓Y_cmp2, ↓Y_call, ↓Y_sub, ↓XEs_nil, ↓XEs_cons, ↓XIfs_nil, ↓XIfs_cons, ↓Z_expr, ↓Z_assign, ↓Z_ret, ↓Z_retNone, ↓Z_ite, ↓Z_for, ↓Z_pass, ↓Z_brk, ↓Z_cont, ↓Zs_nil, ↓sqX_next, ↓sqX_brk, ↓sqX_cont, ↓sqX_ret, ↓Zs_cons, ↓wkX_next, ↓wkX_cont, ↓wkX_brk, ↓wkX_ret, ↓fkX_next, ↓fkX_cont, ↓fkX_brk, ↓fkX_ret, ↓xb_one, ↓oKK_some, ↓oK_some, ↓tX_bool, ↓iX_t, ↓iX_f, ↓iX_d, ↓q_add, ↓q_sub, ↓q_mul, ↓q_div, ↓q_mod, ↓q_pow, ↓q_list, ↓q_eq, ↓q_ne, ↓q_eqs, ↓q_nes, ↓q_eqb, ↓q_lt, ↓q_le, ↓q_gt, ↓q_ge, ↓q_in, ↓q_inl, ↓q_nin, ↓q_is, ↓q_isnot, ↓q_stup, ↓q_sref, ↓q_sscr, ↓q_fn, ↓q_lentup, ↓q_lenref, ↓q_lenscr, ↓q_isi, ↓q_all, ↓q_max, ↓q_min, ↓q_int, ↓q_tuple, ↓q_listc, ↓q_append, ↓q_clear, ↓q_index, ↓q_pop, ↓q_slicet, ↓q_revt, ↓q_revl, ↓q_set, ↓q_repr, ↓q_eqo, ↓X_rev, ↓Z_set, ↓q_addt, ↓q_listt, ↓q_ninl, ↓u_tup, ↓u_ref, ↓u_range, ↓q_slice, ↓oi_none, ↓oi_int, ↓X_slice, ↓XO_none, ↓XO_some, ↓u_rev, ↓u_zip, ↓xb_two, ↓u_range2, ↓retV_ret, ↓retV_next, List.getElem?_cons_zero, List.getElem?_cons_succ, List.set_cons_zero, List.set_cons_succ, Bool.not_true, Bool.not_false, idx_0, idx_1, idx_2, idx_3, idx_4, idx_5, Int.reduceAdd, Int.reduceSub, Int.reduceMul, Int.reduceNeg, Int.reducePow, Int.reduceLT, Int.reduceLE, Int.reduceEq, Int.reduceNe, Int.reduceToNat, Int.reduceAbs, Nat.reduceAdd, Nat.reduceLT, Nat.reduceLeDiff, Nat.reducePow, Nat.reduceLT, List.length_cons, List.length_nil, true_implies, false_implies, not_true_eq_false, not_false_eq_true, and_true, true_and, and_self, or_true, true_or, decide_true, decide_false, exists_eq_left', Option.some.injEq, listAt_pre (pre_new (o := O.list [V.tup [.str ""], .tup [.tup [.str "once", .int 5, .int 2]]])) (listAt_new (H := H3) (l := A)), listAt_new, hA5]
  subst hK
  refine zs_cons ?_
  generalize hK : sqX Ek [] = K
  simp only [↓X_lit, ↓X_loc, ↓X_bin, ↓negX_int, ↓X_neg, ↓X_not, ↓Y_not, ↓X_and, ↓Y_and, ↓X_or, ↓Y_or, ↓X_cmp, ↓X_cmp2, ↓X_ite, ↓Y_ite, ↓X_tup, ↓X_lst, ↓X_call, ↓X_meth, ↓X_sub, ↓X_comp, ↓Y_lit, ↓Y_loc, ↓Y_cmp, ↓Y_cmp2, ↓Y_call, ↓Y_sub, ↓XEs_nil, ↓XEs_cons, ↓XIfs_nil, ↓XIfs_cons, ↓Z_expr, ↓Z_assign, ↓Z_ret, ↓Z_retNone, ↓Z_ite, ↓Z_for, ↓Z_pass, ↓Z_brk, ↓Z_cont, ↓Zs_nil, ↓sqX_next, ↓sqX_brk, ↓sqX_cont, ↓sqX_ret, ↓Zs_cons, ↓wkX_next, ↓wkX_cont, ↓wkX_brk, ↓wkX_ret, ↓fkX_next, ↓fkX_cont, ↓fkX_brk, ↓fkX_ret, ↓xb_one, ↓oKK_some, ↓oK_some, ↓tX_bool, ↓iX_t, ↓iX_f, ↓iX_d, ↓q_add, ↓q_sub, ↓q_mul, ↓q_div, ↓q_mod, ↓q_pow, ↓q_list, ↓q_eq, ↓q_ne, ↓q_eqs, ↓q_nes, ↓q_eqb, ↓q_lt, ↓q_le, ↓q_gt, ↓q_ge, ↓q_in, ↓q_inl, ↓q_nin, ↓q_is, ↓q_isnot, ↓q_stup, ↓q_sref, ↓q_sscr, ↓q_fn, ↓q_lentup, ↓q_lenref, ↓q_lenscr, ↓q_isi, ↓q_all, ↓q_max, ↓q_min, ↓q_int, ↓q_tuple, ↓q_listc, ↓q_append, ↓q_clear, ↓q_index, ↓q_pop, ↓q_slicet, ↓q_revt, ↓q_revl, ↓q_set, ↓q_repr, ↓q_eqo, ↓X_rev, ↓Z_set, ↓q_addt, ↓q_listt, ↓q_ninl, ↓u_tup, ↓u_ref, ↓u_range, ↓q_slice, ↓oi_none, ↓oi_int, ↓X_slice, ↓XO_none, ↓XO_some, ↓u_rev, ↓u_zip, ↓xb_two, ↓u_range2, ↓retV_ret, ↓retV_next, List.getElem?_cons_zero, List.getElem?_cons_succ, List.set_cons_zero, List.set_cons_succ, Bool.not_true, Bool.not_false, idx_0, idx_1, idx_2, idx_3, idx_4, idx_5, Int.reduceAdd, Int.reduceSub, Int.reduceMul, Int.reduceNeg, Int.reducePow, Int.reduceLT, Int.reduceLE, Int.reduceEq, Int.reduceNe, Int.reduceToNat, Int.reduceAbs, Nat.reduceAdd, Nat.reduceLT, Nat.reduceLeDiff, Nat.reducePow, Nat.reduceLT, List.length_cons, List.length_nil, true_implies, false_implies, not_true_eq_false, not_false_eq_true, and_true, true_and, and_self, or_true, true_or, decide_true, decide_false, exists_eq_left', Option.some.injEq, listAt_new]
  have e12 := mod_in (c := c) (m := 12) (by decide)
  refine idx_any e12.1 (by rw [List.length_append, hA5]; exact e12.2) fun v' hv' => ?_
  subst hK
  refine law_end ?_ q
  rcases List.mem_append.mp hv' with h | h
  · exact o1 _ (pre_new.trans (pre_new.trans pre_new)) v' h
  · exact o2 _ v' h
end
theorem Lv.p {H : Hp} {i : Nat} (h : Lv (Row 4) H i) : Lv RowP H i := by
  obtain ⟨as, h1, h2, h3, h4⟩ := h
  exact ⟨as, h1, h2, h3, fun a ha => by
    obtain ⟨e1, l, e2, e3⟩ := h4 a ha
    exact ⟨e1, l, e2, by have := e3.1; omega, by have := e3.2.1; omega, fun x hx => (e3.2.2.1 x hx).1⟩⟩
theorem w_lawE : ∀ vs H Q X, C_law5 vs H Q X → wpFn Ek f_lawE vs H Q X := by
  rintro vs H Q X ⟨ns, rfl, q⟩
  refine fn_of rfl ?_
  change wpSs Ek lwB [some (.scr ns), none, none, none, none, none, none, none, none, none, none, none] H _ _
  refine zs_cons ?_
  generalize hK : sqX Ek (_ :: _) = K
  simp only [↓X_lit, ↓X_loc, ↓X_bin, ↓negX_int, ↓X_neg, ↓X_not, ↓Y_not, ↓X_and, ↓Y_and, ↓X_or, ↓Y_or, ↓X_cmp, ↓X_cmp2, ↓X_ite, ↓Y_ite, ↓X_tup, ↓X_lst, ↓X_call, ↓X_meth, ↓X_sub, ↓X_comp, ↓Y_lit, ↓Y_loc, ↓Y_cmp, ↓Y_cmp2, ↓Y_call, ↓Y_sub, ↓XEs_nil, ↓XEs_cons, ↓XIfs_nil, ↓XIfs_cons, ↓Z_expr, ↓Z_assign, ↓Z_ret, ↓Z_retNone, ↓Z_ite, ↓Z_for, ↓Z_pass, ↓Z_brk, ↓Z_cont, ↓Zs_nil, ↓sqX_next, ↓sqX_brk, ↓sqX_cont, ↓sqX_ret, ↓Zs_cons, ↓wkX_next, ↓wkX_cont, ↓wkX_brk, ↓wkX_ret, ↓fkX_next, ↓fkX_cont, ↓fkX_brk, ↓fkX_ret, ↓xb_one, ↓oKK_some, ↓oK_some, ↓tX_bool, ↓iX_t, ↓iX_f, ↓iX_d, ↓q_add, ↓q_sub, ↓q_mul, ↓q_div, ↓q_mod, ↓q_pow, ↓q_list, ↓q_eq, ↓q_ne, ↓q_eqs, ↓q_nes, ↓q_eqb, ↓q_lt, ↓q_le, ↓q_gt, ↓q_ge, ↓q_in, ↓q_inl, ↓q_nin, ↓q_is, ↓q_isnot, ↓q_stup, ↓q_sref, ↓q_sscr, ↓q_fn, ↓q_lentup, ↓q_lenref, ↓q_lenscr, ↓q_isi, ↓q_all, ↓q_max, ↓q_min, ↓q_int, ↓q_tuple, ↓q_listc, ↓q_append, ↓q_clear, ↓q_index, ↓q_pop, ↓q_slicet, ↓q_revt, ↓q_revl, ↓q_set, ↓q_repr, ↓q_eqo, ↓X_rev, ↓Z_set, ↓q_addt, ↓q_listt, ↓q_ninl, ↓u_tup, ↓u_ref, ↓u_range, ↓q_slice, ↓oi_none, ↓oi_int, ↓X_slice, ↓XO_none, ↓XO_some, ↓u_rev, ↓u_zip, ↓xb_two, ↓u_range2, ↓retV_ret, ↓retV_next, List.getElem?_cons_zero, List.getElem?_cons_succ, List.set_cons_zero, List.set_cons_succ, Bool.not_true, Bool.not_false, idx_0, idx_1, idx_2, idx_3, idx_4, idx_5, Int.reduceAdd, Int.reduceSub, Int.reduceMul, Int.reduceNeg, Int.reducePow, Int.reduceLT, Int.reduceLE, Int.reduceEq, Int.reduceNe, Int.reduceToNat, Int.reduceAbs, Nat.reduceAdd, Nat.reduceLT, Nat.reduceLeDiff, Nat.reducePow, Nat.reduceLT, List.length_cons, List.length_nil, true_implies, false_implies, not_true_eq_false, not_false_eq_true, and_true, true_and, and_self, or_true, true_or, decide_true, decide_false, exists_eq_left', Option.some.injEq, ↓ek_c]
  refine ⟨ns, 4, rfl, by decide, fun w0 => ?_⟩
  simp only [↓X_lit, ↓X_loc, ↓X_bin, ↓negX_int, ↓X_neg, ↓X_not, ↓Y_not, ↓X_and, ↓Y_and, ↓X_or, ↓Y_or, ↓X_cmp, ↓X_cmp2, ↓X_ite, ↓Y_ite, ↓X_tup, ↓X_lst, ↓X_call, ↓X_meth, ↓X_sub, ↓X_comp, ↓Y_lit, ↓Y_loc, ↓Y_cmp, ↓Y_cmp2, ↓Y_call, ↓Y_sub, ↓XEs_nil, ↓XEs_cons, ↓XIfs_nil, ↓XIfs_cons, ↓Z_expr, ↓Z_assign, ↓Z_ret, ↓Z_retNone, ↓Z_ite, ↓Z_for, ↓Z_pass, ↓Z_brk, ↓Z_cont, ↓Zs_nil, ↓sqX_next, ↓sqX_brk, ↓sqX_cont, ↓sqX_ret, ↓Zs_cons, ↓wkX_next, ↓wkX_cont, ↓wkX_brk, ↓wkX_ret, ↓fkX_next, ↓fkX_cont, ↓fkX_brk, ↓fkX_ret, ↓xb_one, ↓oKK_some, ↓oK_some, ↓tX_bool, ↓iX_t, ↓iX_f, ↓iX_d, ↓q_add, ↓q_sub, ↓q_mul, ↓q_div, ↓q_mod, ↓q_pow, ↓q_list, ↓q_eq, ↓q_ne, ↓q_eqs, ↓q_nes, ↓q_eqb, ↓q_lt, ↓q_le, ↓q_gt, ↓q_ge, ↓q_in, ↓q_inl, ↓q_nin, ↓q_is, ↓q_isnot, ↓q_stup, ↓q_sref, ↓q_sscr, ↓q_fn, ↓q_lentup, ↓q_lenref, ↓q_lenscr, ↓q_isi, ↓q_all, ↓q_max, ↓q_min, ↓q_int, ↓q_tuple, ↓q_listc, ↓q_append, ↓q_clear, ↓q_index, ↓q_pop, ↓q_slicet, ↓q_revt, ↓q_revl, ↓q_set, ↓q_repr, ↓q_eqo, ↓X_rev, ↓Z_set, ↓q_addt, ↓q_listt, ↓q_ninl, ↓u_tup, ↓u_ref, ↓u_range, ↓q_slice, ↓oi_none, ↓oi_int, ↓X_slice, ↓XO_none, ↓XO_some, ↓u_rev, ↓u_zip, ↓xb_two, ↓u_range2, ↓retV_ret, ↓retV_next, List.getElem?_cons_zero, List.getElem?_cons_succ, List.set_cons_zero, List.set_cons_succ, Bool.not_true, Bool.not_false, idx_0, idx_1, idx_2, idx_3, idx_4, idx_5, Int.reduceAdd, Int.reduceSub, Int.reduceMul, Int.reduceNeg, Int.reducePow, Int.reduceLT, Int.reduceLE, Int.reduceEq, Int.reduceNe, Int.reduceToNat, Int.reduceAbs, Nat.reduceAdd, Nat.reduceLT, Nat.reduceLeDiff, Nat.reducePow, Nat.reduceLT, List.length_cons, List.length_nil, true_implies, false_implies, not_true_eq_false, not_false_eq_true, and_true, true_and, and_self, or_true, true_or, decide_true, decide_false, exists_eq_left', Option.some.injEq]
  subst hK
  generalize w0 % 8 = w
  change wpSs Ek (lwB.drop 1) [some (.scr ns), some (.int w), none, none, none, none, none, none, none, none, none, none] H _ _
  refine zs_cons ?_
  generalize hK : sqX Ek (_ :: _) = K
  simp only [↓X_lit, ↓X_loc, ↓X_bin, ↓negX_int, ↓X_neg, ↓X_not, ↓Y_not, ↓X_and, ↓Y_and, ↓X_or, ↓Y_or, ↓X_cmp, ↓X_cmp2, ↓X_ite, ↓Y_ite, ↓X_tup, ↓X_lst, ↓X_call, ↓X_meth, ↓X_sub, ↓X_comp, ↓Y_lit, ↓Y_loc, ↓Y_cmp, ↓Y_cmp2, ↓Y_call, ↓Y_sub, ↓XEs_nil, ↓XEs_cons, ↓XIfs_nil, ↓XIfs_cons, ↓Z_expr, ↓Z_assign, ↓Z_ret, ↓Z_retNone, ↓Z_ite, ↓Z_for, ↓Z_pass, ↓Z_brk, ↓Z_cont, ↓Zs_nil, ↓sqX_next, ↓sqX_brk, ↓sqX_cont, ↓sqX_ret, ↓Zs_cons, ↓wkX_next, ↓wkX_cont, ↓wkX_brk, ↓wkX_ret, ↓fkX_next, ↓fkX_cont, ↓fkX_brk, ↓fkX_ret, ↓xb_one, ↓oKK_some, ↓oK_some, ↓tX_bool, ↓iX_t, ↓iX_f, ↓iX_d, ↓q_add, ↓q_sub, ↓q_mul, ↓q_div, ↓q_mod, ↓q_pow, ↓q_list, ↓q_eq, ↓q_ne, ↓q_eqs, ↓q_nes, ↓q_eqb, ↓q_lt, ↓q_le, ↓q_gt, ↓q_ge, ↓q_in, ↓q_inl, ↓q_nin, ↓q_is, ↓q_isnot, ↓q_stup, ↓q_sref, ↓q_sscr, ↓q_fn, ↓q_lentup, ↓q_lenref, ↓q_lenscr, ↓q_isi, ↓q_all, ↓q_max, ↓q_min, ↓q_int, ↓q_tuple, ↓q_listc, ↓q_append, ↓q_clear, ↓q_index, ↓q_pop, ↓q_slicet, ↓q_revt, ↓q_revl, ↓q_set, ↓q_repr, ↓q_eqo, ↓X_rev, ↓Z_set, ↓q_addt, ↓q_listt, ↓q_ninl, ↓u_tup, ↓u_ref, ↓u_range, ↓q_slice, ↓oi_none, ↓oi_int, ↓X_slice, ↓XO_none, ↓XO_some, ↓u_rev, ↓u_zip, ↓xb_two, ↓u_range2, ↓retV_ret, ↓retV_next, List.getElem?_cons_zero, List.getElem?_cons_succ, List.set_cons_zero, List.set_cons_succ, Bool.not_true, Bool.not_false, idx_0, idx_1, idx_2, idx_3, idx_4, idx_5, Int.reduceAdd, Int.reduceSub, Int.reduceMul, Int.reduceNeg, Int.reducePow, Int.reduceLT, Int.reduceLE, Int.reduceEq, Int.reduceNe, Int.reduceToNat, Int.reduceAbs, Nat.reduceAdd, Nat.reduceLT, Nat.reduceLeDiff, Nat.reducePow, Nat.reduceLT, List.length_cons, List.length_nil, true_implies, false_implies, not_true_eq_false, not_false_eq_true, and_true, true_and, and_self, or_true, true_or, decide_true, decide_false, exists_eq_left', Option.some.injEq, ↓ek_c]
  refine ⟨ns, 5, rfl, by decide, fun c => ?_⟩
  subst hK
  change wpSs Ek (lwB.drop 2) [some (.scr ns), some (.int w), some (.int c), none, none, none, none, none, none, none, none, none] H _ _
  refine zs_cons ?_
  generalize hK : sqX Ek (_ :: _) = K
  simp only [↓X_lit, ↓X_loc, ↓X_bin, ↓negX_int, ↓X_neg, ↓X_not, ↓Y_not, ↓X_and, ↓Y_and, ↓X_or, ↓Y_or, ↓X_cmp, ↓X_cmp2, ↓X_ite, ↓Y_ite, ↓X_tup, ↓X_lst, ↓X_call, ↓X_meth, ↓X_sub, ↓X_comp, ↓Y_lit, ↓Y_loc, ↓Y_cmp, ↓Y_cmp2, ↓Y_call, ↓Y_sub, ↓XEs_nil, ↓XEs_cons, ↓XIfs_nil, ↓XIfs_cons, ↓Z_expr, ↓Z_assign, ↓Z_ret, ↓Z_retNone, ↓Z_ite, ↓Z_for, ↓Z_pass, ↓Z_brk, ↓Z_cont, ↓Zs_nil, ↓sqX_next, ↓sqX_brk, ↓sqX_cont, ↓sqX_ret, ↓Zs_cons, ↓wkX_next, ↓wkX_cont, ↓wkX_brk, ↓wkX_ret, ↓fkX_next, ↓fkX_cont, ↓fkX_brk, ↓fkX_ret, ↓xb_one, ↓oKK_some, ↓oK_some, ↓tX_bool, ↓iX_t, ↓iX_f, ↓iX_d, ↓q_add, ↓q_sub, ↓q_mul, ↓q_div, ↓q_mod, ↓q_pow, ↓q_list, ↓q_eq, ↓q_ne, ↓q_eqs, ↓q_nes, ↓q_eqb, ↓q_lt, ↓q_le, ↓q_gt, ↓q_ge, ↓q_in, ↓q_inl, ↓q_nin, ↓q_is, ↓q_isnot, ↓q_stup, ↓q_sref, ↓q_sscr, ↓q_fn, ↓q_lentup, ↓q_lenref, ↓q_lenscr, ↓q_isi, ↓q_all, ↓q_max, ↓q_min, ↓q_int, ↓q_tuple, ↓q_listc, ↓q_append, ↓q_clear, ↓q_index, ↓q_pop, ↓q_slicet, ↓q_revt, ↓q_revl, ↓q_set, ↓q_repr, ↓q_eqo, ↓X_rev, ↓Z_set, ↓q_addt, ↓q_listt, ↓q_ninl, ↓u_tup, ↓u_ref, ↓u_range, ↓q_slice, ↓oi_none, ↓oi_int, ↓X_slice, ↓XO_none, ↓XO_some, ↓u_rev, ↓u_zip, ↓xb_two, ↓u_range2, ↓retV_ret, ↓retV_next, List.getElem?_cons_zero, List.getElem?_cons_succ, List.set_cons_zero, List.set_cons_succ, Bool.not_true, Bool.not_false, idx_0, idx_1, idx_2, idx_3, idx_4, idx_5, Int.reduceAdd, Int.reduceSub, Int.reduceMul, Int.reduceNeg, Int.reducePow, Int.reduceLT, Int.reduceLE, Int.reduceEq, Int.reduceNe, Int.reduceToNat, Int.reduceAbs, Nat.reduceAdd, Nat.reduceLT, Nat.reduceLeDiff, Nat.reducePow, Nat.reduceLT, List.length_cons, List.length_nil, true_implies, false_implies, not_true_eq_false, not_false_eq_true, and_true, true_and, and_self, or_true, true_or, decide_true, decide_false, exists_eq_left', Option.some.injEq, ↓ek_l]
  refine ⟨ns, rfl, fun i H1 hlv => ?_⟩
  subst hK
  change wpSs Ek (lwB.drop 3) [some (.scr ns), some (.int w), some (.int c), some (.ref i), none, none, none, none, none, none, none, none] H1 _ _
  refine zs_cons ?_
  generalize hK : sqX Ek (_ :: _) = K
  simp only [↓X_lit, ↓X_loc, ↓X_bin, ↓negX_int, ↓X_neg, ↓X_not, ↓Y_not, ↓X_and, ↓Y_and, ↓X_or, ↓Y_or, ↓X_cmp, ↓X_cmp2, ↓X_ite, ↓Y_ite, ↓X_tup, ↓X_lst, ↓X_call, ↓X_meth, ↓X_sub, ↓X_comp, ↓Y_lit, ↓Y_loc, ↓Y_cmp, ↓Y_cmp2, ↓Y_call, ↓Y_sub, ↓XEs_nil, ↓XEs_cons, ↓XIfs_nil, ↓XIfs_cons, ↓Z_expr, ↓Z_assign, ↓Z_ret, ↓Z_retNone, ↓Z_ite, ↓Z_for, ↓Z_pass, ↓Z_brk, ↓Z_cont, ↓Zs_nil, ↓sqX_next, ↓sqX_brk, ↓sqX_cont, ↓sqX_ret, ↓Zs_cons, ↓wkX_next, ↓wkX_cont, ↓wkX_brk, ↓wkX_ret, ↓fkX_next, ↓fkX_cont, ↓fkX_brk, ↓fkX_ret, ↓xb_one, ↓oKK_some, ↓oK_some, ↓tX_bool, ↓iX_t, ↓iX_f, ↓iX_d, ↓q_add, ↓q_sub, ↓q_mul, ↓q_div, ↓q_mod, ↓q_pow, ↓q_list, ↓q_eq, ↓q_ne, ↓q_eqs, ↓q_nes, ↓q_eqb, ↓q_lt, ↓q_le, ↓q_gt, ↓q_ge, ↓q_in, ↓q_inl, ↓q_nin, ↓q_is, ↓q_isnot, ↓q_stup, ↓q_sref, ↓q_sscr, ↓q_fn, ↓q_lentup, ↓q_lenref, ↓q_lenscr, ↓q_isi, ↓q_all, ↓q_max, ↓q_min, ↓q_int, ↓q_tuple, ↓q_listc, ↓q_append, ↓q_clear, ↓q_index, ↓q_pop, ↓q_slicet, ↓q_revt, ↓q_revl, ↓q_set, ↓q_repr, ↓q_eqo, ↓X_rev, ↓Z_set, ↓q_addt, ↓q_listt, ↓q_ninl, ↓u_tup, ↓u_ref, ↓u_range, ↓q_slice, ↓oi_none, ↓oi_int, ↓X_slice, ↓XO_none, ↓XO_some, ↓u_rev, ↓u_zip, ↓xb_two, ↓u_range2, ↓retV_ret, ↓retV_next, List.getElem?_cons_zero, List.getElem?_cons_succ, List.set_cons_zero, List.set_cons_succ, Bool.not_true, Bool.not_false, idx_0, idx_1, idx_2, idx_3, idx_4, idx_5, Int.reduceAdd, Int.reduceSub, Int.reduceMul, Int.reduceNeg, Int.reducePow, Int.reduceLT, Int.reduceLE, Int.reduceEq, Int.reduceNe, Int.reduceToNat, Int.reduceAbs, Nat.reduceAdd, Nat.reduceLT, Nat.reduceLeDiff, Nat.reducePow, Nat.reduceLT, List.length_cons, List.length_nil, true_implies, false_implies, not_true_eq_false, not_false_eq_true, and_true, true_and, and_self, or_true, true_or, decide_true, decide_false, exists_eq_left', Option.some.injEq, ↓ek_s]
  refine ⟨i, w, c, rfl, hlv, fun v H2 h5 hlvT => ?_⟩
  subst hK
  refine zs_cons ?_
  change wpSs Ek (lwB.drop 5) [some (.scr ns), some (.int w), some (.int c), some (.ref i), some (.int (-1)), none, none, none, none, none, none, none] H2 _ _
  have fin : ∀ at' : Int, (at' = -1 ∨ (0 ≤ at' ∧ Lv RowP H2 i)) →
      wpSs Ek (lwB.drop 6) [some (.scr ns), some (.int w), some (.int c), some (.ref i), some (.int at'), none, none, none, none, none, none, none] H2 (fun fl _ H1 => Q (retV fl) H1) (fun x _ H1 => X x H1) := by
    intro at' hat
    refine zs_cons ?_
    generalize hK : sqX Ek (_ :: _) = K
    simp only [↓X_lit, ↓X_loc, ↓X_bin, ↓negX_int, ↓X_neg, ↓X_not, ↓Y_not, ↓X_and, ↓Y_and, ↓X_or, ↓Y_or, ↓X_cmp, ↓X_cmp2, ↓X_ite, ↓Y_ite, ↓X_tup, ↓X_lst, ↓X_call, ↓X_meth, ↓X_sub, ↓X_comp, ↓Y_lit, ↓Y_loc, ↓Y_cmp, ↓Y_cmp2, ↓Y_call, ↓Y_sub, ↓XEs_nil, ↓XEs_cons, ↓XIfs_nil, ↓XIfs_cons, ↓Z_expr, ↓Z_assign, ↓Z_ret, ↓Z_retNone, ↓Z_ite, ↓Z_for, ↓Z_pass, ↓Z_brk, ↓Z_cont, ↓Zs_nil, ↓sqX_next, ↓sqX_brk, ↓sqX_cont, ↓sqX_ret, ↓Zs_cons, ↓wkX_next, ↓wkX_cont, ↓wkX_brk, ↓wkX_ret, ↓fkX_next, ↓fkX_cont, ↓fkX_brk, ↓fkX_ret, ↓xb_one, ↓oKK_some, ↓oK_some, ↓tX_bool, ↓iX_t, ↓iX_f, ↓iX_d, ↓q_add, ↓q_sub, ↓q_mul, ↓q_div, ↓q_mod, ↓q_pow, ↓q_list, ↓q_eq, ↓q_ne, ↓q_eqs, ↓q_nes, ↓q_eqb, ↓q_lt, ↓q_le, ↓q_gt, ↓q_ge, ↓q_in, ↓q_inl, ↓q_nin, ↓q_is, ↓q_isnot, ↓q_stup, ↓q_sref, ↓q_sscr, ↓q_fn, ↓q_lentup, ↓q_lenref, ↓q_lenscr, ↓q_isi, ↓q_all, ↓q_max, ↓q_min, ↓q_int, ↓q_tuple, ↓q_listc, ↓q_append, ↓q_clear, ↓q_index, ↓q_pop, ↓q_slicet, ↓q_revt, ↓q_revl, ↓q_set, ↓q_repr, ↓q_eqo, ↓X_rev, ↓Z_set, ↓q_addt, ↓q_listt, ↓q_ninl, ↓u_tup, ↓u_ref, ↓u_range, ↓q_slice, ↓oi_none, ↓oi_int, ↓X_slice, ↓XO_none, ↓XO_some, ↓u_rev, ↓u_zip, ↓xb_two, ↓u_range2, ↓retV_ret, ↓retV_next, List.getElem?_cons_zero, List.getElem?_cons_succ, List.set_cons_zero, List.set_cons_succ, Bool.not_true, Bool.not_false, idx_0, idx_1, idx_2, idx_3, idx_4, idx_5, Int.reduceAdd, Int.reduceSub, Int.reduceMul, Int.reduceNeg, Int.reducePow, Int.reduceLT, Int.reduceLE, Int.reduceEq, Int.reduceNe, Int.reduceToNat, Int.reduceAbs, Nat.reduceAdd, Nat.reduceLT, Nat.reduceLeDiff, Nat.reducePow, Nat.reduceLT, List.length_cons, List.length_nil, true_implies, false_implies, not_true_eq_false, not_false_eq_true, and_true, true_and, and_self, or_true, true_or, decide_true, decide_false, exists_eq_left', Option.some.injEq, ↓ek_b]
    refine ⟨i, at', rfl, hlvT, hat, fun v H3 hp hv => ?_⟩
    subst hK
    exact law_six hv q
  refine zs_cons ?_
  show ifP (decide (w = 5)) _ _
  refine iX_p (fun hw => ?_) (fun hw => fin _ (.inl rfl))
  have h5' := h5 hw
  obtain ⟨as, hi, h1, h9, _⟩ := id h5'
  refine zs_cons ?_
  generalize hK : sqX Ek [] = K
  simp only [↓X_lit, ↓X_loc, ↓X_bin, ↓negX_int, ↓X_neg, ↓X_not, ↓Y_not, ↓X_and, ↓Y_and, ↓X_or, ↓Y_or, ↓X_cmp, ↓X_cmp2, ↓X_ite, ↓Y_ite, ↓X_tup, ↓X_lst, ↓X_call, ↓X_meth, ↓X_sub, ↓X_comp, ↓Y_lit, ↓Y_loc, ↓Y_cmp, ↓Y_cmp2, ↓Y_call, ↓Y_sub, ↓XEs_nil, ↓XEs_cons, ↓XIfs_nil, ↓XIfs_cons, ↓Z_expr, ↓Z_assign, ↓Z_ret, ↓Z_retNone, ↓Z_ite, ↓Z_for, ↓Z_pass, ↓Z_brk, ↓Z_cont, ↓Zs_nil, ↓sqX_next, ↓sqX_brk, ↓sqX_cont, ↓sqX_ret, ↓Zs_cons, ↓wkX_next, ↓wkX_cont, ↓wkX_brk, ↓wkX_ret, ↓fkX_next, ↓fkX_cont, ↓fkX_brk, ↓fkX_ret, ↓xb_one, ↓oKK_some, ↓oK_some, ↓tX_bool, ↓iX_t, ↓iX_f, ↓iX_d, ↓q_add, ↓q_sub, ↓q_mul, ↓q_div, ↓q_mod, ↓q_pow, ↓q_list, ↓q_eq, ↓q_ne, ↓q_eqs, ↓q_nes, ↓q_eqb, ↓q_lt, ↓q_le, ↓q_gt, ↓q_ge, ↓q_in, ↓q_inl, ↓q_nin, ↓q_is, ↓q_isnot, ↓q_stup, ↓q_sref, ↓q_sscr, ↓q_fn, ↓q_lentup, ↓q_lenref, ↓q_lenscr, ↓q_isi, ↓q_all, ↓q_max, ↓q_min, ↓q_int, ↓q_tuple, ↓q_listc, ↓q_append, ↓q_clear, ↓q_index, ↓q_pop, ↓q_slicet, ↓q_revt, ↓q_revl, ↓q_set, ↓q_repr, ↓q_eqo, ↓X_rev, ↓Z_set, ↓q_addt, ↓q_listt, ↓q_ninl, ↓u_tup, ↓u_ref, ↓u_range, ↓q_slice, ↓oi_none, ↓oi_int, ↓X_slice, ↓XO_none, ↓XO_some, ↓u_rev, ↓u_zip, ↓xb_two, ↓u_range2, ↓retV_ret, ↓retV_next, List.getElem?_cons_zero, List.getElem?_cons_succ, List.set_cons_zero, List.set_cons_succ, Bool.not_true, Bool.not_false, idx_0, idx_1, idx_2, idx_3, idx_4, idx_5, Int.reduceAdd, Int.reduceSub, Int.reduceMul, Int.reduceNeg, Int.reducePow, Int.reduceLT, Int.reduceLE, Int.reduceEq, Int.reduceNe, Int.reduceToNat, Int.reduceAbs, Nat.reduceAdd, Nat.reduceLT, Nat.reduceLeDiff, Nat.reducePow, Nat.reduceLT, List.length_cons, List.length_nil, true_implies, false_implies, not_true_eq_false, not_false_eq_true, and_true, true_and, and_self, or_true, true_or, decide_true, decide_false, exists_eq_left', Option.some.injEq, hi]
  have hm := mod_in (c := c) (m := ((as.map V.ref).length : Int)) (by rw [List.length_map]; omega)
  refine ⟨⟨by rw [List.length_map]; omega, by rw [List.length_map]; omega⟩, ?_⟩
  subst hK
  exact fin _ (.inr ⟨hm.1, h5'.p⟩)
end Mine

namespace Mine
open PySem
noncomputable def G05 : List (Str × V) := ("TIMES", .int 1000000000000) :: ("DAYS", .int 100000000000) :: ("LONGEST", .int 48) :: ("MOST_STEP", .int 1000000) :: ("DEEPEST", .int 8) :: ("OUTER", .tup [.str "from", .str "until", .str "also", .str "but"]) :: ("isinstance", .bi .isinstance) :: ("len", .bi .len) :: ("all", .bi .all) :: ("repr", .bi .repr) :: ("int", .ty .int) :: ("bool", .ty .bool) :: ("str", .ty .str) :: ("tuple", .ty .tuple) :: ("list", .ty .list) :: ("range", .ty .range) :: ("zip", .ty .zip) :: ("is_whole", .fn "is_whole") :: ("is_between", .fn "is_between") :: ("is_time", .fn "is_time") :: ("are_rising", .fn "are_rising") :: ("is_plain", .fn "is_plain") :: ("is_rule", .fn "is_rule") :: ("_law_whole", .fn "_law_whole") :: ("_law_between", .fn "_law_between") :: ("_law_good_days", .fn "_law_good_days") :: ("_law_good_plain", .fn "_law_good_plain") :: ("_law_good", .fn "_law_good") :: ("_law_cell_at", .fn "_law_cell_at") :: ("_law_weekdays", .fn "_law_weekdays") :: ("_law_time", .fn "_law_time") :: ("_law_wide_plain", .fn "_law_wide_plain") :: ("_law_wide_head", .fn "_law_wide_head") :: ("_law_odd", .fn "_law_odd") :: ("_law_levels", .fn "_law_levels") :: ("_law_spoilt", .fn "_law_spoilt") :: ("_law_built", .fn "_law_built") :: []
noncomputable def ΦL05 : Orc := ext "law" C_law5 Ek
end Mine

open PySem PySem.W PyProof.Rows Mine
namespace Mine
noncomputable def K05 (P : Params) : Frag := [(3, { cls := Value.type "dict", data := Data.dict #[{ hash := PyData.keyHash P (Str.ofString "__name__"), key := Value.str (Str.ofString "__name__") 165, val := Value.str (Str.ofString "law_uf010016_05") 260 }, { hash := PyData.keyHash P (Str.ofString "__doc__"), key := Value.str (Str.ofString "__doc__") 166, val := Value.none }, { hash := PyData.keyHash P (Str.ofString "__package__"), key := Value.str (Str.ofString "__package__") 167, val := Value.none }, { hash := PyData.keyHash P (Str.ofString "__loader__"), key := Value.str (Str.ofString "__loader__") 168, val := Value.builtin "__main__.__loader__#opaque" }, { hash := PyData.keyHash P (Str.ofString "__spec__"), key := Value.str (Str.ofString "__spec__") 169, val := Value.none }, { hash := PyData.keyHash P (Str.ofString "__annotations__"), key := Value.str (Str.ofString "__annotations__") 170, val := Value.ref 6 }, { hash := PyData.keyHash P (Str.ofString "__builtins__"), key := Value.str (Str.ofString "__builtins__") 171, val := Value.ref 4 }, { hash := PyData.keyHash P (Str.ofString "__file__"), key := Value.str (Str.ofString "__file__") 173, val := Value.str (Str.ofString "/claim/cut.py") 172 }, { hash := PyData.keyHash P (Str.ofString "__cached__"), key := Value.str (Str.ofString "__cached__") 174, val := Value.none }, { hash := PyData.keyHash P (Str.ofString "is_whole"), key := Value.str (Str.ofString "is_whole") 195, val := Value.ref 21 }, { hash := PyData.keyHash P (Str.ofString "TIMES"), key := Value.str (Str.ofString "TIMES") 201, val := Value.int 1000000000000 200 }, { hash := PyData.keyHash P (Str.ofString "DAYS"), key := Value.str (Str.ofString "DAYS") 205, val := Value.int 100000000000 204 }, { hash := PyData.keyHash P (Str.ofString "LONGEST"), key := Value.str (Str.ofString "LONGEST") 207, val := Value.int 48 206 }, { hash := PyData.keyHash P (Str.ofString "MOST_STEP"), key := Value.str (Str.ofString "MOST_STEP") 209, val := Value.int 1000000 208 }, { hash := PyData.keyHash P (Str.ofString "DEEPEST"), key := Value.str (Str.ofString "DEEPEST") 211, val := Value.int 8 210 }, { hash := PyData.keyHash P (Str.ofString "OUTER"), key := Value.str (Str.ofString "OUTER") 216, val := Value.ref 22 }, { hash := PyData.keyHash P (Str.ofString "is_between"), key := Value.str (Str.ofString "is_between") 225, val := Value.ref 29 }, { hash := PyData.keyHash P (Str.ofString "is_time"), key := Value.str (Str.ofString "is_time") 232, val := Value.ref 36 }, { hash := PyData.keyHash P (Str.ofString "are_rising"), key := Value.str (Str.ofString "are_rising") 243, val := Value.ref 43 }, { hash := PyData.keyHash P (Str.ofString "is_plain"), key := Value.str (Str.ofString "is_plain") 251, val := Value.ref 50 }, { hash := PyData.keyHash P (Str.ofString "is_rule"), key := Value.str (Str.ofString "is_rule") 259, val := Value.ref 57 }, { hash := PyData.keyHash P (Str.ofString "_law_cell_at"), key := Value.str (Str.ofString "_law_cell_at") 269, val := Value.ref 64 }, { hash := PyData.keyHash P (Str.ofString "_law_whole"), key := Value.str (Str.ofString "_law_whole") 276, val := Value.ref 71 }, { hash := PyData.keyHash P (Str.ofString "_law_weekdays"), key := Value.str (Str.ofString "_law_weekdays") 285, val := Value.ref 78 }, { hash := PyData.keyHash P (Str.ofString "_law_time"), key := Value.str (Str.ofString "_law_time") 292, val := Value.ref 85 }, { hash := PyData.keyHash P (Str.ofString "_law_wide_plain"), key := Value.str (Str.ofString "_law_wide_plain") 302, val := Value.ref 92 }, { hash := PyData.keyHash P (Str.ofString "_law_wide_head"), key := Value.str (Str.ofString "_law_wide_head") 308, val := Value.ref 97 }, { hash := PyData.keyHash P (Str.ofString "_law_between"), key := Value.str (Str.ofString "_law_between") 317, val := Value.ref 104 }, { hash := PyData.keyHash P (Str.ofString "_law_good_days"), key := Value.str (Str.ofString "_law_good_days") 323, val := Value.ref 109 }, { hash := PyData.keyHash P (Str.ofString "_law_good_plain"), key := Value.str (Str.ofString "_law_good_plain") 332, val := Value.ref 116 }, { hash := PyData.keyHash P (Str.ofString "_law_good"), key := Value.str (Str.ofString "_law_good") 340, val := Value.ref 123 }, { hash := PyData.keyHash P (Str.ofString "_law_odd"), key := Value.str (Str.ofString "_law_odd") 346, val := Value.ref 128 }, { hash := PyData.keyHash P (Str.ofString "_law_levels"), key := Value.str (Str.ofString "_law_levels") 352, val := Value.ref 133 }, { hash := PyData.keyHash P (Str.ofString "_law_spoilt"), key := Value.str (Str.ofString "_law_spoilt") 364, val := Value.ref 140 }, { hash := PyData.keyHash P (Str.ofString "_law_built"), key := Value.str (Str.ofString "_law_built") 375, val := Value.ref 147 }, { hash := PyData.keyHash P (Str.ofString "law"), key := Value.str (Str.ofString "law") 390, val := Value.ref 154 }] 36 }), (22, { cls := Value.type "tuple", data := Data.seq #[Value.str (Str.ofString "from") 212, Value.str (Str.ofString "until") 213, Value.str (Str.ofString "also") 214, Value.str (Str.ofString "but") 215] })]
noncomputable def H05 : Hook := kHook K05 [3, 22] (fun _ => rfl)
noncomputable def V05 : Program := viewOf Challenge.pw_uf010016_05
end Mine
set_option maxRecDepth 100000 in
set_option maxHeartbeats 8000000 in
theorem PySem.Challenge.cw_uf010016_05_holds : PySem.Challenge.rw_uf010016_05.Holds := by
  w_on
  refine holds_law (by kernel_rfl) fun said => ?_
  refine holds_open (q := V05) (loose := [Str.ofString "TIMES", Str.ofString "DAYS"]) (Xt := fun s => xlAt V05 [(Str.ofString "TIMES", .int 1000000000000), (Str.ofString "DAYS", .int 100000000000)] s && recOk (RowW.records (OpenRow.toRowW Challenge.rw_uf010016_05.row)) s) (XP := XL V05 [(Str.ofString "TIMES", .int 1000000000000), (Str.ofString "DAYS", .int 100000000000)]) (Yf := Hook.obs H05) (Ya := Hook.val H05) (YP := Hook.says H05) (N := 1588) ?hl (Hook.of H05) (Hook.keeps H05) (fun s e => xl_of s (Bool.and_eq_true_iff.mp e).1) XL.keeps (by rfl) (by rfl) (by rfl) (fun s e => recFacts_of (Bool.and_eq_true_iff.mp e).2) (by rfl) (by first | assumption | decide +kernel) (by decide +kernel) ⟨rfl, rfl, rfl, rfl, rfl, by decide +kernel⟩ ?hw ?hc
  case hl => intro w; kernel_rfl
  case hw => w_witness2
  intro w s₀ s₁ mg mb G Y fa o pm cd doc dV kV ho hd hcd hD hmg hg args vals as hpre hlay hrd hwl hlo
  have KX := kIn_of Y
  refine Ground.open G ?_
  intro T B D TE TW
  wrow_args hpre hlay hrd hwl hlo
  have GA : GAll ⟨Challenge.rw_uf010016_05.row.prog, w, s₁.heap, mg, mb⟩ G05 := by
    refine ⟨gv_int (mg_of (v := .int 1000000000000 200) KX T.g (by kernel_rfl)), ?_⟩
    refine ⟨gv_int (mg_of (v := .int 100000000000 204) KX T.g (by kernel_rfl)), ?_⟩
    refine ⟨gv_int (mg_of (v := .int 48 206) KX T.g (by kernel_rfl)), ?_⟩
    refine ⟨gv_int (mg_of (v := .int 1000000 208) KX T.g (by kernel_rfl)), ?_⟩
    refine ⟨gv_int (mg_of (v := .int 8 210) KX T.g (by kernel_rfl)), ?_⟩
    refine ⟨gv_tup (vs := [Value.str (Str.ofString "from") 212, Value.str (Str.ofString "until") 213, Value.str (Str.ofString "also") 214, Value.str (Str.ofString "but") 215]) (n := 0) (mg_of (v := .ref 22) KX T.g (by kernel_rfl)) (KX _ _ (by kernel_rfl)) (by decide) (fun _ => (reps_str ⟨by decide +kernel, by decide +kernel⟩ (reps_str ⟨by decide +kernel, by decide +kernel⟩ (reps_str ⟨by decide +kernel, by decide +kernel⟩ (reps_str ⟨by decide +kernel, by decide +kernel⟩ reps_nil))))), ?_⟩
    refine ⟨gv_bi (ns_none_of KX T.g (by kernel_rfl)) ((T.builtins _ (by decide)).trans rfl), ?_⟩
    refine ⟨gv_bi (ns_none_of KX T.g (by kernel_rfl)) ((T.builtins _ (by decide)).trans rfl), ?_⟩
    refine ⟨gv_bi (ns_none_of KX T.g (by kernel_rfl)) ((T.builtins _ (by decide)).trans rfl), ?_⟩
    refine ⟨gv_bi (ns_none_of KX T.g (by kernel_rfl)) ((T.builtins _ (by decide)).trans rfl), ?_⟩
    refine ⟨gv_ty (ns_none_of KX T.g (by kernel_rfl)) ((T.builtins _ (by decide)).trans rfl), ?_⟩
    refine ⟨gv_ty (ns_none_of KX T.g (by kernel_rfl)) ((T.builtins _ (by decide)).trans rfl), ?_⟩
    refine ⟨gv_ty (ns_none_of KX T.g (by kernel_rfl)) ((T.builtins _ (by decide)).trans rfl), ?_⟩
    refine ⟨gv_ty (ns_none_of KX T.g (by kernel_rfl)) ((T.builtins _ (by decide)).trans rfl), ?_⟩
    refine ⟨gv_ty (ns_none_of KX T.g (by kernel_rfl)) ((T.builtins _ (by decide)).trans rfl), ?_⟩
    refine ⟨gv_ty (ns_none_of KX T.g (by kernel_rfl)) ((T.builtins _ (by decide)).trans rfl), ?_⟩
    refine ⟨gv_ty (ns_none_of KX T.g (by kernel_rfl)) ((T.builtins _ (by decide)).trans rfl), ?_⟩
    refine ⟨gv_fn (mg_of (v := .ref 21) KX T.g (by kernel_rfl)), ?_⟩
    refine ⟨gv_fn (mg_of (v := .ref 29) KX T.g (by kernel_rfl)), ?_⟩
    refine ⟨gv_fn (mg_of (v := .ref 36) KX T.g (by kernel_rfl)), ?_⟩
    refine ⟨gv_fn (mg_of (v := .ref 43) KX T.g (by kernel_rfl)), ?_⟩
    refine ⟨gv_fn (mg_of (v := .ref 50) KX T.g (by kernel_rfl)), ?_⟩
    refine ⟨gv_fn (mg_of (v := .ref 57) KX T.g (by kernel_rfl)), ?_⟩
    refine ⟨gv_fn (mg_of (v := .ref 71) KX T.g (by kernel_rfl)), ?_⟩
    refine ⟨gv_fn (mg_of (v := .ref 104) KX T.g (by kernel_rfl)), ?_⟩
    refine ⟨gv_fn (mg_of (v := .ref 109) KX T.g (by kernel_rfl)), ?_⟩
    refine ⟨gv_fn (mg_of (v := .ref 116) KX T.g (by kernel_rfl)), ?_⟩
    refine ⟨gv_fn (mg_of (v := .ref 123) KX T.g (by kernel_rfl)), ?_⟩
    refine ⟨gv_fn (mg_of (v := .ref 64) KX T.g (by kernel_rfl)), ?_⟩
    refine ⟨gv_fn (mg_of (v := .ref 78) KX T.g (by kernel_rfl)), ?_⟩
    refine ⟨gv_fn (mg_of (v := .ref 85) KX T.g (by kernel_rfl)), ?_⟩
    refine ⟨gv_fn (mg_of (v := .ref 92) KX T.g (by kernel_rfl)), ?_⟩
    refine ⟨gv_fn (mg_of (v := .ref 97) KX T.g (by kernel_rfl)), ?_⟩
    refine ⟨gv_fn (mg_of (v := .ref 128) KX T.g (by kernel_rfl)), ?_⟩
    refine ⟨gv_fn (mg_of (v := .ref 133) KX T.g (by kernel_rfl)), ?_⟩
    refine ⟨gv_fn (mg_of (v := .ref 140) KX T.g (by kernel_rfl)), ?_⟩
    refine ⟨gv_fn (mg_of (v := .ref 147) KX T.g (by kernel_rfl)), ?_⟩
    exact trivial
  have g : GOk ⟨Challenge.rw_uf010016_05.row.prog, w, s₁.heap, mg, mb⟩ G05 := gok T GA
  have o1 : OrcOk ⟨Challenge.rw_uf010016_05.row.prog, w, s₁.heap, mg, mb⟩ 1 E1 := ext_ok g noΦ_ok (fnOk_of_top T (x := "is_whole") (f := f_is_whole) (by kernel_rfl)) w_is_whole
  have o2 : OrcOk ⟨Challenge.rw_uf010016_05.row.prog, w, s₁.heap, mg, mb⟩ 2 E2 := ext_ok g o1 (fnOk_of_top T (x := "is_between") (f := f_is_between) (by kernel_rfl)) w_is_between
  have o3 : OrcOk ⟨Challenge.rw_uf010016_05.row.prog, w, s₁.heap, mg, mb⟩ 3 E3 := ext_ok g o2 (fnOk_of_top T (x := "is_time") (f := f_is_time) (by kernel_rfl)) w_is_time
  have o4 : OrcOk ⟨Challenge.rw_uf010016_05.row.prog, w, s₁.heap, mg, mb⟩ 4 E4 := ext_ok g o3 (fnOk_of_top T (x := "are_rising") (f := f_are_rising) (by kernel_rfl)) w_are_rising
  have o5 : OrcOk ⟨Challenge.rw_uf010016_05.row.prog, w, s₁.heap, mg, mb⟩ 5 E5 := ext_ok g o4 (fnOk_of_top T (x := "is_plain") (f := f_is_plain) (by kernel_rfl)) w_is_plain
  have o6 : OrcOk ⟨Challenge.rw_uf010016_05.row.prog, w, s₁.heap, mg, mb⟩ 6 E6 := ext_ok g o5 (fnOk_of_top T (x := "is_rule") (f := f_is_rule) (by kernel_rfl)) w_is_rule
  have o7 : OrcOk ⟨Challenge.rw_uf010016_05.row.prog, w, s₁.heap, mg, mb⟩ 7 E7 := ext_ok g o6 (fnOk_of_top T (x := "_law_whole") (f := f_l_whole) (by kernel_rfl)) w_whole5
  have o8 : OrcOk ⟨Challenge.rw_uf010016_05.row.prog, w, s₁.heap, mg, mb⟩ 8 E8 := ext_ok g o7 (fnOk_of_top T (x := "_law_between") (f := f_l_between) (by kernel_rfl)) w_between5
  have o9 : OrcOk ⟨Challenge.rw_uf010016_05.row.prog, w, s₁.heap, mg, mb⟩ 9 E9 := ext_ok g o8 (fnOk_of_top T (x := "_law_good_days") (f := f_l_good_days) (by kernel_rfl)) w_good_days
  have o10 : OrcOk ⟨Challenge.rw_uf010016_05.row.prog, w, s₁.heap, mg, mb⟩ 10 Ea := ext_ok g o9 (fnOk_of_top T (x := "_law_good_plain") (f := f_l_good_plain) (by kernel_rfl)) w_good_plain
  have o11 : OrcOk ⟨Challenge.rw_uf010016_05.row.prog, w, s₁.heap, mg, mb⟩ 11 Eb := ext_ok g o10 (fnOk_of_top T (x := "_law_good") (f := f_l_good) (by kernel_rfl)) w_good
  have o12 : OrcOk ⟨Challenge.rw_uf010016_05.row.prog, w, s₁.heap, mg, mb⟩ 12 Ec := ext_ok g o11 (fnOk_of_top T (x := "_law_cell_at") (f := f_l_cell_at) (by kernel_rfl)) w_cell5
  have o13 : OrcOk ⟨Challenge.rw_uf010016_05.row.prog, w, s₁.heap, mg, mb⟩ 13 Ed := ext_ok g o12 (fnOk_of_top T (x := "_law_weekdays") (f := f_l_weekdays) (by kernel_rfl)) w_wd5
  have o14 : OrcOk ⟨Challenge.rw_uf010016_05.row.prog, w, s₁.heap, mg, mb⟩ 14 Ee := ext_ok g o13 (fnOk_of_top T (x := "_law_time") (f := f_l_time) (by kernel_rfl)) w_tm5
  have o15 : OrcOk ⟨Challenge.rw_uf010016_05.row.prog, w, s₁.heap, mg, mb⟩ 15 Ef := ext_ok g o14 (fnOk_of_top T (x := "_law_wide_plain") (f := f_l_wide_plain) (by kernel_rfl)) w_wp5
  have o16 : OrcOk ⟨Challenge.rw_uf010016_05.row.prog, w, s₁.heap, mg, mb⟩ 16 Eg := ext_ok g o15 (fnOk_of_top T (x := "_law_wide_head") (f := f_l_wide_head) (by kernel_rfl)) w_wh5
  have o17 : OrcOk ⟨Challenge.rw_uf010016_05.row.prog, w, s₁.heap, mg, mb⟩ 17 Eh := ext_ok g o16 (fnOk_of_top T (x := "_law_odd") (f := f_l_odd) (by kernel_rfl)) w_odd5
  have o18 : OrcOk ⟨Challenge.rw_uf010016_05.row.prog, w, s₁.heap, mg, mb⟩ 18 Ei := ext_ok g o17 (fnOk_of_top T (x := "_law_levels") (f := f_l_levels) (by kernel_rfl)) w_lv5
  have o19 : OrcOk ⟨Challenge.rw_uf010016_05.row.prog, w, s₁.heap, mg, mb⟩ 19 Ej := ext_ok g o18 (fnOk_of_top T (x := "_law_spoilt") (f := f_l_spoilt) (by kernel_rfl)) w_sp5
  have o20 : OrcOk ⟨Challenge.rw_uf010016_05.row.prog, w, s₁.heap, mg, mb⟩ 20 Ek := ext_ok g o19 (fnOk_of_top T (x := "_law_built") (f := f_l_built) (by kernel_rfl)) w_bt5
  have o21 : OrcOk ⟨Challenge.rw_uf010016_05.row.prog, w, s₁.heap, mg, mb⟩ 21 ΦL05 := ext_ok g o20 (fnOk_of_top T (x := "law") (f := f_lawE) (by kernel_rfl)) w_lawE
  exact law_top o21 (caller_ok (by decide)) hmg ⟨_, rfl, fun _ => rfl⟩ (by assumption) (by assumption) (by omega) hg (fun _ => rfl) (by first | rfl | wrow_post)
