import PyProof.Rows.All
import Wide.All
import OpenK.AllK
import Wide.FinOn
import PySem.Eval
import PyProof.P3Statements
import PyProof.Cells
import PyProof.Seq
import PyProof.Rows.Nodes
import PyProof.Rows.Chain
import PyProof.Rows.TupSub
import PyProof.Rows.StrTemp
import PyProof.Rows.Exc
import PyProof.CallRoads
import PyProof.SliceSyntax
import PyProof.Rows.RuleB_small
import PyProof.Rows.RuleB_floordiv
import PyProof.Rows.RuleB_mod
import PyProof.Rows.RuleB_mul
import PyProof.Rows.RuleU_int
import PyProof.Rows.RuleN_isinstance
import PyProof.Rows.IntRules
import PyProof.Rows.StrRules
import PyProof.Rows.TupMore
import PyProof.Rows.Lst
import PyProof.ListOps
import PyProof.TupleOps
import PyProof.TupleIter
import PyProof.ListIndexNeg
import PyProof.ListTruth
import PyProof.Truth
import PyProof.Rows.FactsC_int_ge
import PyProof.Rows.FactsC_int_le
import PyProof.NeData
import PyProof.EqAt
import PyProof.ConsumeWalk
import PyProof.TupleOfSeq
import PyProof.WalkInts
import PyProof.ListCopy
import PyProof.Conv_int_bool
import PyProof.PlainList
import PyProof.Rows.RuleC_int
import PyProof.IsRules
import PyProof.P3In
import PyProof.IsiPairs
import PyProof.IsiHeapPairs
import PyProof.IsiNone
import PyProof.ForAppend
import PyProof.RangeFor
import PyProof.CompFree
import KE.KRevIter
import PyProof.SliceList
import KE.KSliceW
import OpenK.KLine
import PyProof.Rows.Top
import PyProof.Rows.TupIn
import Wide.BridgeG
import PySem.Challenge.RW_uf010016_03
set_option Elab.async false
/- The abstract layer: values, heaps, a small tree language, its weakest preconditions. -/
namespace Mine
open PySem

inductive Ty where
  | int | bool | str | tuple | list | range | reversed | zip

noncomputable def Ty.name : Ty → String
  | .int => "int" | .bool => "bool" | .str => "str" | .tuple => "tuple" | .list => "list" | .range => "range" | .reversed => "reversed" | .zip => "zip"
inductive Bi where
  | len | isinstance | all | max | min | repr

noncomputable def Bi.name : Bi → String
  | .len => "len" | .isinstance => "isinstance" | .all => "all" | .max => "max" | .min => "min" | .repr => "repr"
inductive Mt where
  | append | clear | index

noncomputable def Mt.name : Mt → Str
  | .append => "append" | .clear => "clear" | .index => "index"

inductive V where
  | none
  | bool (b : Bool)
  | int (i : Int)
  | str (s : Str)
  | tup (l : List V)
  | ref (i : Nat)
  | fn (x : Str)
  | ty (n : Ty)
  | bi (n : Bi)
  | scr (ns : List Int)


inductive O where
  | list (xs : List V)

noncomputable abbrev Hp := List O
noncomputable abbrev Lc := List (Option V)
structure Exc where
  cls : Str

inductive SrcK where
  | val | range | rev | zip

inductive IE where
  | lit (v : V)
  | loc (i : Nat)
  | bin (op : Operator) (a b : IE)
  | neg (a : IE)
  | not (a : IE)
  | and (a b : IE)
  | or (a b : IE)
  | cmp (a : IE) (op : CmpOp) (b : IE)
  | cmp2 (a : IE) (op : CmpOp) (b : IE) (op' : CmpOp) (c : IE)
  | ite (t a b : IE)
  | tup (es : List IE)
  | lst (es : List IE)
  | call (f : V) (args : List IE)
  | meth (o : IE) (name : Mt) (args : List IE)
  | sub (o i : IE)
  | slice (o : IE) (lo hi : Option IE)
  | comp (elt : IE) (vars : List Nat) (k : SrcK) (srcs : List IE) (ifs : List IE)

inductive IS where
  | expr (e : IE)
  | assign (i : Nat) (e : IE)
  | setItem (o k v : IE)
  | ret (e : IE)
  | retNone
  | ite (t : IE) (a b : List IS)
  | while (t : IE) (b : List IS)
  | for (vars : List Nat) (k : SrcK) (srcs : List IE) (b : List IS)
  | pass
  | brk
  | cont

inductive Fl where
  | next | brk | cont
  | ret (v : V)

/- pure helpers -/
noncomputable def idx {α : Type} (l : List α) (k : Int) : Option α :=
  if 0 ≤ k then l[k.toNat]? else if 0 ≤ k + (l.length : Int) then l[(k + (l.length : Int)).toNat]? else none

noncomputable def clampI (n : Nat) (k : Int) : Nat := if 0 ≤ k then min k.toNat n else (k + (n : Int)).toNat
noncomputable def sliceL {α : Type} (l : List α) (lo hi : Option Int) : List α :=
  let a := match lo with | some k => clampI l.length k | none => 0
  let b := match hi with | some k => clampI l.length k | none => l.length
  (l.drop a).take (b - a)

mutual
noncomputable def toPy : V → Option PyData
  | .none => some .none
  | .bool b => some (.bool b)
  | .int i => some (.int i)
  | .str x => some (.str x)
  | .tup l => (toPys l).map .tuple
  | _ => none
noncomputable def toPys : List V → Option (List PyData)
  | [] => some []
  | v :: r => match toPy v, toPys r with
    | some d, some ds => some (d :: ds)
    | _, _ => none
end

noncomputable def listAt (H : Hp) (i : Nat) : Option (List V) := match H[i]? with
  | some (.list xs) => some xs
  | _ => none

noncomputable def truthV (H : Hp) : V → Option Bool
  | .none => some false
  | .bool b => some b
  | .int i => some (decide (i ≠ 0))
  | .str s => some (s.length != 0)
  | .tup l => some (!l.isEmpty)
  | .ref i => (listAt H i).map fun l => !l.isEmpty
  | _ => none

noncomputable def toPyH (H : Hp) : V → Option PyData
  | .ref i => ((listAt H i).bind toPys).map .list
  | v => toPy v

noncomputable def eqH (H : Hp) (a b : V) : Option Bool :=
  match toPyH H a, toPyH H b with
  | some d, some e => if d.depth ≤ 60 then some (PyData.eqv d e) else none
  | _, _ => none

noncomputable def memV (x : V) (l : List V) : Option Bool :=
  match toPy x, toPys l with
  | some d, some ds => if d.depth ≤ 60 then some (ds.any fun e => PyData.eqv e d) else none
  | _, _ => none

/- what is worked out by unfolding -/
noncomputable def oK {α : Type} (t : Option α) (P : α → Prop) : Prop := match t with | some v => P v | none => False
theorem oK_elim {α : Type} {t : Option α} {P : α → Prop} (h : oK t P) : ∃ v, t = some v ∧ P v := by cases t with | some v => exact ⟨v, rfl, h⟩ | none => exact h.elim
noncomputable def oKK {α : Type} (t : Option (Option α)) (P : α → Prop) : Prop := match t with | some (some v) => P v | _ => False
theorem oKK_elim {α : Type} {t : Option (Option α)} {P : α → Prop} (h : oKK t P) : ∃ v, t = some (some v) ∧ P v := by
  cases t with
  | none => exact h.elim
  | some u => cases u with | some v => exact ⟨v, rfl, h⟩ | none => exact h.elim
noncomputable def tX (H : Hp) (v : V) (P : Bool → Prop) : Prop := match v with | .bool b => P b | v => oK (truthV H v) P
theorem tX_elim {H : Hp} {v : V} {P : Bool → Prop} (h : tX H v P) : ∃ c, truthV H v = some c ∧ P c := by
  cases v with
  | bool b => exact ⟨b, rfl, h⟩
  | _ => exact oK_elim h

/- primitive operations as transformers -/
noncomputable def pBin (op : Operator) (a b : V) (H : Hp) (Q : V → Hp → Prop) : Prop :=
  match op, a, b with
  | .Add, .int i, .int j => Q (.int (i + j)) H
  | .Sub, .int i, .int j => Q (.int (i - j)) H
  | .Mult, .int i, .int j => ((-(2 ^ 64) < i ∧ i < 2 ^ 64) ∨ (-(2 ^ 64) < j ∧ j < 2 ^ 64)) ∧ Q (.int (i * j)) H
  | .FloorDiv, .int i, .int j => (0 < j ∧ j < 2 ^ 128) ∧ Q (.int (i / j)) H
  | .Mod, .int i, .int j => (0 < j ∧ j < 2 ^ 128) ∧ Q (.int (i % j)) H
  | .Pow, .int i, .int j => (0 ≤ j ∧ j ≤ 1000000 ∧ i.natAbs < 2 ^ 64) ∧ Q (.int (i ^ j.toNat)) H
  | .Add, .str x, .str y => x.length + y.length ≤ 1000000 ∧ Q (.str (x ++ y)) H
  | .Add, .tup x, .tup y => x.length + y.length ≤ 1000000 ∧ Q (.tup (x ++ y)) H
  | .Add, .ref i, .ref j => oK (listAt H i) fun xs => oK (listAt H j) fun ys => xs.length + ys.length ≤ 1000000 ∧ Q (.ref H.length) (H ++ [.list (xs ++ ys)])
  | _, _, _ => False

noncomputable def isNoneV : V → Bool
  | .none => true
  | _ => false

noncomputable def pCmp (op : CmpOp) (a b : V) (H : Hp) (Q : V → Hp → Prop) : Prop :=
  match op with
  | .Eq => (match a, b with
    | .int i, .int j => Q (.bool (decide (i = j))) H
    | .str x, .str y => Q (.bool (x == y)) H
    | .bool x, .bool y => Q (.bool (x == y)) H
    | a, b => oK (eqH H a b) fun c => Q (.bool c) H)
  | .NotEq => (match a, b with
    | .int i, .int j => Q (.bool (decide (i ≠ j))) H
    | .str x, .str y => Q (.bool (!(x == y))) H
    | a, b => oK (eqH H a b) fun c => Q (.bool (!c)) H)
  | .Lt => match a, b with | .int i, .int j => Q (.bool (decide (i < j))) H | _, _ => False
  | .LtE => match a, b with | .int i, .int j => Q (.bool (decide (i ≤ j))) H | _, _ => False
  | .Gt => match a, b with | .int i, .int j => Q (.bool (decide (j < i))) H | _, _ => False
  | .GtE => match a, b with | .int i, .int j => Q (.bool (decide (j ≤ i))) H | _, _ => False
  | .In => match b with
    | .tup l => oK (memV a l) fun c => Q (.bool c) H
    | .ref i => oK (listAt H i) fun l => oK (memV a l) fun c => Q (.bool c) H
    | _ => False
  | .NotIn => match b with
    | .tup l => oK (memV a l) fun c => Q (.bool (!c)) H
    | .ref i => oK (listAt H i) fun l => oK (memV a l) fun c => Q (.bool (!c)) H
    | _ => False
  | .Is => match b with
    | .none => Q (.bool (isNoneV a)) H
    | _ => False
  | .IsNot => match b with
    | .none => Q (.bool (!isNoneV a)) H
    | _ => False
theorem eqv_int {i j : Int} : PyData.eqv (.int i) (.int j) = decide (i = j) := rfl
theorem pCmp_eq {a b : V} {H : Hp} {Q : V → Hp → Prop} (h : pCmp .Eq a b H Q) : ∃ c, eqH H a b = some c ∧ Q (.bool c) H := by
  simp only [pCmp] at h
  split at h
  · rename_i i j
    refine ⟨_, ?_, h⟩
    have e : eqH H (.int i) (.int j) = some (PyData.eqv (.int i) (.int j)) := rfl
    rw [e, eqv_int]
  · exact ⟨_, rfl, h⟩
  · rename_i x y
    refine ⟨_, ?_, h⟩
    cases x <;> cases y <;> rfl
  · exact oK_elim h
theorem pCmp_ne {a b : V} {H : Hp} {Q : V → Hp → Prop} (h : pCmp .NotEq a b H Q) : ∃ c, eqH H a b = some c ∧ Q (.bool (!c)) H := by
  simp only [pCmp] at h
  split at h
  · rename_i i j
    refine ⟨decide (i = j), ?_, by simpa using h⟩
    have e : eqH H (.int i) (.int j) = some (PyData.eqv (.int i) (.int j)) := rfl
    rw [e, eqv_int]
  · exact ⟨_, rfl, h⟩
  · exact oK_elim h

noncomputable def pSub (o i : V) (H : Hp) (Q : V → Hp → Prop) : Prop :=
  match i with
  | .int k => (match o with
    | .tup l => oK (idx l k) fun v => Q v H
    | .ref j => oK (listAt H j) fun l => oK (idx l k) fun v => Q v H
    | .scr ns => oK (idx ns k) fun v => Q (.int v) H
    | _ => False)
  | _ => False

noncomputable def optInt : V → Option (Option Int)
  | .none => some .none
  | .int i => some (.some i)
  | _ => .none

noncomputable def pSlice (o lo hi : V) (H : Hp) (Q : V → Hp → Prop) : Prop :=
  match o with
  | .ref i => oK (listAt H i) fun xs => oK (optInt lo) fun l => oK (optInt hi) fun h => Q (.ref H.length) (H ++ [.list (sliceL xs l h)])
  | _ => False

noncomputable def tyOf (H : Hp) : V → Option Ty
  | .bool _ => some .bool
  | .int _ => some .int
  | .str _ => some .str
  | .tup _ => some .tuple
  | .ref i => (listAt H i).map fun _ => .list
  | _ => none

noncomputable def subTy : Ty → Ty → Bool
  | .bool, .int => true
  | .int, .int => true
  | .bool, .bool => true
  | .str, .str => true
  | .tuple, .tuple => true
  | .list, .list => true
  | _, _ => false

noncomputable def isInstH (H : Hp) (v : V) (n : Ty) : Option Bool :=
  match n with
  | .range | .reversed | .zip => none
  | _ => match v with
    | .none => some false
    | v => (tyOf H v).map fun t => subTy t n

noncomputable def allBools : List V → Option (List Bool)
  | [] => some []
  | .bool b :: r => (allBools r).map (b :: ·)
  | _ => none

noncomputable abbrev Orc := Str → List V → Hp → (V → Hp → Prop) → (Exc → Hp → Prop) → Prop

noncomputable def pBi (b : Bi) (args : List V) (H : Hp) (Q : V → Hp → Prop) : Prop :=
  match b with
  | .len => (match args with
    | [v] => (match v with
      | .tup l => Q (.int (l.length : Int)) H
      | .ref i => oK (listAt H i) fun l => Q (.int (l.length : Int)) H
      | .scr ns => Q (.int (ns.length : Int)) H
      | _ => False)
    | _ => False)
  | .isinstance => (match args with
    | [v, w] => (match w with
      | .ty t => oK (isInstH H v t) fun c => Q (.bool c) H
      | _ => False)
    | _ => False)
  | .all => (match args with
    | [v] => (match v with
      | .ref i => oK (listAt H i) fun l => oK (allBools l) fun bs => Q (.bool (bs.all id)) H
      | _ => False)
    | _ => False)
  | .max => (match args with
    | [v, w] => (match v, w with
      | .int a, .int b => Q (.int (max a b)) H
      | _, _ => False)
    | _ => False)
  | .min => (match args with
    | [v, w] => (match v, w with
      | .int a, .int b => Q (.int (min a b)) H
      | _, _ => False)
    | _ => False)
  | .repr => False
noncomputable def pTy (b : Ty) (args : List V) (H : Hp) (Q : V → Hp → Prop) : Prop :=
  match b with
  | .int => (match args with
    | [v] => (match v with
      | .bool b => Q (.int (if b then 1 else 0)) H
      | _ => False)
    | _ => False)
  | .tuple => (match args with
    | [v] => (match v with
      | .ref i => oK (listAt H i) fun l => Q (.tup l) H
      | _ => False)
    | _ => False)
  | .list => (match args with
    | [v] => (match v with
      | .ref i => oK (listAt H i) fun l => Q (.ref H.length) (H ++ [.list l])
      | .tup l => Q (.ref H.length) (H ++ [.list l])
      | _ => False)
    | _ => False)
  | _ => False
noncomputable def pCall (Φ : Orc) (f : V) (args : List V) (H : Hp) (Q : V → Hp → Prop) (X : Exc → Hp → Prop) : Prop :=
  match f with
  | .fn x => Φ x args H Q X
  | .bi b => pBi b args H Q
  | .ty t => pTy t args H Q
  | _ => False

noncomputable def okMeth (H : Hp) (o : V) : Prop := match o with
  | .ref i => ∃ l, listAt H i = some l
  | _ => False

noncomputable def idxV (x : V) (l : List V) : Option Nat :=
  match toPy x, toPys l with
  | some d, some ds => if d.depth ≤ 60 then ds.findIdx? (fun e => PyData.eqv e d) else none
  | _, _ => none

noncomputable def pMethL (name : Mt) (i : Nat) (l : List V) (args : List V) (H : Hp) (Q : V → Hp → Prop) : Prop :=
  match name with
  | .append => (match args with
    | [v] => l.length ≤ 1000000 ∧ Q .none (H.set i (.list (l ++ [v])))
    | _ => False)
  | .clear => (match args with
    | [] => Q .none (H.set i (.list []))
    | _ => False)
  | .index => (match args with
    | [v] => oK (idxV v l) fun j => Q (.int (j : Int)) H
    | _ => False)
noncomputable def pMeth (o : V) (name : Mt) (args : List V) (H : Hp) (Q : V → Hp → Prop) : Prop :=
  match o with
  | .ref i => oK (listAt H i) fun l => pMethL name i l args H Q
  | _ => False

/- what is iterated over -/
noncomputable def rangeL (a b : Int) : List V := (List.range (b - a).toNat).map fun (k : Nat) => V.int (a + (k : Int))
noncomputable def zipL (a b : List V) : List V := (a.zip b).map fun p => V.tup [p.1, p.2]

noncomputable def pSrc (k : SrcK) (vs : List V) (H : Hp) (Q : List V → (Hp → Prop) → Prop) : Prop :=
  match k, vs with
  | .val, [.tup l] => Q l (fun _ => True)
  | .val, [.ref i] => oK (listAt H i) fun l => Q l (fun H' => listAt H' i = some l)
  | .range, [.int b] => (-(2 ^ 62) ≤ b ∧ b ≤ 1000000) ∧ Q (rangeL 0 b) (fun _ => True)
  | .range, [.int a, .int b] => (-(2 ^ 62) ≤ a ∧ a < 2 ^ 62 ∧ -(2 ^ 62) ≤ b ∧ b < 2 ^ 62 ∧ b - a ≤ 1000000) ∧ Q (rangeL a b) (fun _ => True)
  | .rev, [.ref i] => oK (listAt H i) fun l => Q l.reverse (fun H' => listAt H' i = some l)
  | .zip, [.tup a, .tup b] => Q (zipL a b) (fun _ => True)
  | _, _ => False

noncomputable def bindVars : List Nat → V → Lc → Option Lc
  | [i], x, L => some (L.set i (some x))
  | [i, j], .tup [u, v], L => some ((L.set i (some u)).set j (some v))
  | _, _, _ => none

noncomputable abbrev XL := Exc → Hp → Prop
noncomputable def ifP (c : Bool) (A B : Prop) : Prop := match c with | true => A | false => B

noncomputable def compGo (tst : Lc → Hp → (Bool → Hp → Prop) → Prop) (el : Lc → Hp → (V → Hp → Prop) → Prop) (st : Hp → Prop) (vars : List Nat) (L : Lc) :
    List V → List V → Hp → (List V → Hp → Prop) → Prop
  | [], acc, H, Q => Q acc H
  | x :: r, acc, H, Q => oK (bindVars vars x L) fun L' => tst L' H (fun c H1 =>
      ifP c (el L' H1 (fun y H2 => st H2 ∧ compGo tst el st vars L r (acc ++ [y]) H2 Q)) (st H1 ∧ compGo tst el st vars L r acc H1 Q))

structure ET where
  E : Lc → Hp → (V → Hp → Prop) → XL → Prop
  T : Lc → Hp → (Bool → Hp → Prop) → XL → Prop

noncomputable def ET.of (E : Lc → Hp → (V → Hp → Prop) → XL → Prop) : ET :=
  ⟨E, fun L H Q X => E L H (fun v H1 => tX H1 v fun c => Q c H1) X⟩

mutual
noncomputable def wp2 (Φ : Orc) : IE → ET
  | .lit v => .of fun _ H Q _ => Q v H
  | .loc i => .of fun L H Q _ => oKK L[i]? fun v => Q v H
  | .bin op a b => .of fun L H Q X => (wp2 Φ a).E L H (fun va H1 => (wp2 Φ b).E L H1 (fun vb H2 => pBin op va vb H2 Q) X) X
  | .neg a => .of fun L H Q X => (wp2 Φ a).E L H (fun v H1 => match v with | .int i => Q (.int (-i)) H1 | _ => False) X
  | .not a => ⟨fun L H Q X => (wp2 Φ a).E L H (fun v H1 => tX H1 v fun c => Q (.bool (!c)) H1) X,
      fun L H Q X => (wp2 Φ a).T L H (fun c H1 => Q (!c) H1) X⟩
  | .and a b => ⟨fun L H Q X => (wp2 Φ a).E L H (fun v H1 => tX H1 v fun c => ifP c ((wp2 Φ b).E L H1 Q X) (Q v H1)) X,
      fun L H Q X => (wp2 Φ a).T L H (fun c H1 => ifP c ((wp2 Φ b).T L H1 Q X) (Q false H1)) X⟩
  | .or a b => ⟨fun L H Q X => (wp2 Φ a).E L H (fun v H1 => tX H1 v fun c => ifP c (Q v H1) ((wp2 Φ b).E L H1 Q X)) X,
      fun L H Q X => (wp2 Φ a).T L H (fun c H1 => ifP c (Q true H1) ((wp2 Φ b).T L H1 Q X)) X⟩
  | .cmp a op b => .of fun L H Q X => (wp2 Φ a).E L H (fun va H1 => (wp2 Φ b).E L H1 (fun vb H2 => pCmp op va vb H2 Q) X) X
  | .cmp2 a op b op' c => .of fun L H Q X => (wp2 Φ a).E L H (fun va H1 => (wp2 Φ b).E L H1 (fun vb H2 => pCmp op va vb H2 (fun r H3 =>
      tX H3 r fun t => ifP t ((wp2 Φ c).E L H3 (fun vc H4 => pCmp op' vb vc H4 Q) X) (Q r H3))) X) X
  | .ite t a b => ⟨fun L H Q X => (wp2 Φ t).T L H (fun c H1 => ifP c ((wp2 Φ a).E L H1 Q X) ((wp2 Φ b).E L H1 Q X)) X,
      fun L H Q X => (wp2 Φ t).T L H (fun c H1 => ifP c ((wp2 Φ a).T L H1 Q X) ((wp2 Φ b).T L H1 Q X)) X⟩
  | .tup es => .of fun L H Q X => wpEs Φ es L H (fun vs H1 => vs.length ≤ 1000000 ∧ Q (.tup vs) H1) X
  | .lst es => .of fun L H Q X => wpEs Φ es L H (fun vs H1 => vs.length ≤ 1000000 ∧ Q (.ref H1.length) (H1 ++ [.list vs])) X
  | .call f args => .of fun L H Q X => wpEs Φ args L H (fun vs H1 => pCall Φ f vs H1 Q X) X
  | .meth o name args => .of fun L H Q X => (wp2 Φ o).E L H (fun vo H1 => okMeth H1 vo ∧ wpEs Φ args L H1 (fun vs H2 => pMeth vo name vs H2 Q) X) X
  | .sub o i => .of fun L H Q X => (wp2 Φ o).E L H (fun vo H1 => (wp2 Φ i).E L H1 (fun vi H2 => pSub vo vi H2 Q) X) X
  | .slice o lo hi => .of fun L H Q X => (wp2 Φ o).E L H (fun vo H1 => wpO Φ lo L H1 (fun vl H2 => wpO Φ hi L H2 (fun vh H3 => pSlice vo vl vh H3 Q) X) X) X
  | .comp elt vars k srcs ifs => .of fun L H Q X => wpEs Φ srcs L H (fun vs H1 => pSrc k vs H1 fun items st =>
      compGo (fun L' H' K => wpIfs Φ ifs L' H' K X) (fun L' H' K => (wp2 Φ elt).E L' H' K X) st vars L items [] H1
        (fun ys H2 => ys.length ≤ 1000000 ∧ Q (.ref H2.length) (H2 ++ [.list ys]))) X
noncomputable def wpEs (Φ : Orc) : List IE → Lc → Hp → (List V → Hp → Prop) → XL → Prop
  | [], _, H, Q, _ => Q [] H
  | e :: r, L, H, Q, X => (wp2 Φ e).E L H (fun v H1 => wpEs Φ r L H1 (fun vs H2 => Q (v :: vs) H2) X) X
noncomputable def wpO (Φ : Orc) : Option IE → Lc → Hp → (V → Hp → Prop) → XL → Prop
  | none, _, H, Q, _ => Q .none H
  | some e, L, H, Q, X => (wp2 Φ e).E L H Q X
noncomputable def wpIfs (Φ : Orc) : List IE → Lc → Hp → (Bool → Hp → Prop) → XL → Prop
  | [], _, H, Q, _ => Q true H
  | e :: r, L, H, Q, X => (wp2 Φ e).T L H (fun c H1 => ifP c (wpIfs Φ r L H1 Q X) (Q false H1)) X
end

noncomputable abbrev QS := Fl → Lc → Hp → Prop
noncomputable abbrev XS := Exc → Lc → Hp → Prop

noncomputable def forGo (body : Lc → Hp → QS → Prop) (st : Hp → Prop) (vars : List Nat) : List V → Lc → Hp → QS → Prop
  | [], L, H, Q => Q .next L H
  | x :: r, L, H, Q => oK (bindVars vars x L) fun L' => body L' H (fun fl L1 H1 => match fl with
      | .next => st H1 ∧ forGo body st vars r L1 H1 Q
      | .cont => st H1 ∧ forGo body st vars r L1 H1 Q
      | .brk => Q .next L1 H1
      | .ret v => Q (.ret v) L1 H1)

noncomputable def whileGo (test : Lc → Hp → (Bool → Hp → Prop) → Prop) (body : Lc → Hp → QS → Prop) : Nat → Lc → Hp → QS → Prop
  | 0, _, _, _ => False
  | n + 1, L, H, Q => test L H (fun c H1 => ifP c (body L H1 (fun fl L1 H2 => match fl with
      | .next => whileGo test body n L1 H2 Q
      | .cont => whileGo test body n L1 H2 Q
      | .brk => Q .next L1 H2
      | .ret v => Q (.ret v) L1 H2)) (Q .next L H1))

mutual
noncomputable def wpS (Φ : Orc) : IS → Lc → Hp → QS → XS → Prop
  | .expr e, L, H, Q, X => (wp2 Φ e).E L H (fun _ H1 => Q .next L H1) (fun x => X x L)
  | .assign i e, L, H, Q, X => (wp2 Φ e).E L H (fun v H1 => Q .next (L.set i (some v)) H1) (fun x => X x L)
  | .setItem o k v, L, H, Q, X => (wp2 Φ v).E L H (fun vv H1 => (wp2 Φ o).E L H1 (fun vo H2 => (wp2 Φ k).E L H2 (fun vk H3 =>
      match vo, vk with
      | .ref i, .int j => ∃ l, listAt H3 i = some l ∧ 0 ≤ j ∧ j < (l.length : Int) ∧ Q .next L (H3.set i (.list (l.set j.toNat vv)))
      | _, _ => False) (fun x => X x L)) (fun x => X x L)) (fun x => X x L)
  | .ret e, L, H, Q, X => (wp2 Φ e).E L H (fun v H1 => Q (.ret v) L H1) (fun x => X x L)
  | .retNone, L, H, Q, _ => Q (.ret .none) L H
  | .ite t a b, L, H, Q, X => (wp2 Φ t).T L H (fun c H1 => ifP c (wpSs Φ a L H1 Q X) (wpSs Φ b L H1 Q X)) (fun x => X x L)
  | .while t b, L, H, Q, X => ∃ n, whileGo (fun L' H' K => (wp2 Φ t).T L' H' K (fun x => X x L')) (fun L' H' K => wpSs Φ b L' H' K X) n L H Q
  | .for vars k srcs b, L, H, Q, X => wpEs Φ srcs L H (fun vs H1 => pSrc k vs H1 fun items st =>
      forGo (fun L' H' K => wpSs Φ b L' H' K X) st vars items L H1 Q) (fun x => X x L)
  | .pass, L, H, Q, _ => Q .next L H
  | .brk, L, H, Q, _ => Q .brk L H
  | .cont, L, H, Q, _ => Q .cont L H
noncomputable def wpSs (Φ : Orc) : List IS → Lc → Hp → QS → XS → Prop
  | [], L, H, Q, _ => Q .next L H
  | s :: r, L, H, Q, X => wpS Φ s L H (fun fl L1 H1 => match fl with
      | .next => wpSs Φ r L1 H1 Q X
      | .brk => Q .brk L1 H1
      | .cont => Q .cont L1 H1
      | .ret v => Q (.ret v) L1 H1) X
end

/- a function: how many names it has, its parameters are the first ones -/
structure Fn where
  names : Nat
  params : Nat
  body : List IS

noncomputable def initL (f : Fn) (vs : List V) : Lc := vs.map some ++ List.replicate (f.names - f.params) none

noncomputable def retV : Fl → V
  | .ret v => v
  | _ => .none

noncomputable def wpFn (Φ : Orc) (f : Fn) (vs : List V) (H : Hp) (Q : V → Hp → Prop) (X : XL) : Prop :=
  vs.length = f.params ∧ wpSs Φ f.body (initL f vs) H (fun fl _ H1 => Q (retV fl) H1) (fun x _ H1 => X x H1)

end Mine

/- From the program's own trees to the small trees. -/
namespace Mine
open PySem

structure CC where
  G : List (Str × V)
  scope : Scope
  slots : List (Str × Nat)
  nxt : Nat

noncomputable def mapO {α β : Type} (f : α → Option β) : List α → Option (List β)
  | [] => some []
  | a :: r => match f a, mapO f r with
    | some b, some bs => some (b :: bs)
    | _, _ => none

noncomputable def constV : Const → Option V
  | .none => some .none
  | .bool b => some (.bool b)
  | .int i => some (.int i)
  | .str s => if s.length ≤ 2000000 ∧ PyData.strOk s = true then some (.str s) else none
  | _ => none

noncomputable def relab (scope outer : Scope) : Scope :=
  { scope with names := scope.names.map fun (n, k) => if (k == .free && outer.kind == .function && outer.names.lookup n == some .cell) then (n, .cell) else (n, k) }

noncomputable def okComp (scope outer : Scope) : Bool :=
  scope.kind == .function && (scope.names.all fun x => x.2 != .cell && (x.2 != .local || scope.names.lookup x.1 == some .local) && (x.2 != .free || (outer.kind == .function && outer.names.lookup x.1 == some .cell)))

noncomputable def isComp : Expr → Bool
  | .ListComp .. | .SetComp .. | .DictComp .. => true
  | _ => false
noncomputable def isStar : Expr → Bool
  | .Starred .. => true
  | _ => false
noncomputable def plainBase : Expr → Bool
  | .Call .. => false
  | _ => true

noncomputable def mtOf (x : Str) : Option Mt := if x == Mt.append.name then some .append else if x == Mt.clear.name then some .clear else if x == Mt.index.name then some .index else none
theorem mtOf_some {x : Str} {m : Mt} (h : mtOf x = some m) : x = m.name := by
  unfold mtOf at h
  split at h
  · rename_i q; cases h; exact eq_of_beq q
  · split at h
    · rename_i q; cases h; exact eq_of_beq q
    · split at h
      · rename_i q; cases h; exact eq_of_beq q
      · cases h

noncomputable def nameV (c : CC) (x : Str) : Option IE :=
  if x == ("__debug__" : Str) then none else match c.scope.names.lookup x with
    | some .globalImplicit => (c.G.lookup x).map .lit
    | some .local | some .cell => (c.slots.lookup x).map .loc
    | _ => none

noncomputable def globV (c : CC) (x : Str) : Option V :=
  if x == ("__debug__" : Str) then none else match c.scope.names.lookup x with
    | some .globalImplicit => c.G.lookup x
    | _ => none

noncomputable def boolGo (mk : IE → IE → IE) : List IE → Option IE
  | [] => none
  | [a] => some a
  | a :: r => (boolGo mk r).map (mk a)

noncomputable def srcK : V → Option SrcK
  | .ty .range => some .range
  | .ty .reversed => some .rev
  | _ => none

noncomputable def compSrc (f : Expr → Option IE) (c : CC) (e : Expr) : Option (SrcK × List IE) :=
  match e with
  | .Call (.Name g _) args [] _ => if args.any isStar || args.length > 20 then none else match (globV c g).bind srcK, mapO f args with
    | some k, some as => some (k, as)
    | _, _ => (f e).map fun v => (SrcK.val, [v])
  | _ => (f e).map fun v => (SrcK.val, [v])

noncomputable def onlyIf {α : Type} (b : Bool) (x : Option α) : Option α := match b with | true => x | false => none
theorem onlyIf_some {α : Type} {b : Bool} {x : Option α} {y : α} (h : onlyIf b x = some y) : b = true ∧ x = some y := by cases b with | true => exact ⟨rfl, h⟩ | false => cases h
noncomputable def oTwo {α β γ : Type} (f : α → β → γ) (x : Option α) (y : Option β) : Option γ := match x with | some a => (match y with | some b => some (f a b) | none => none) | none => none
theorem oTwo_some {α β γ : Type} {f : α → β → γ} {x : Option α} {y : Option β} {z : γ} (h : oTwo f x y = some z) : ∃ a b, x = some a ∧ y = some b ∧ z = f a b := by
  cases x with
  | none => cases h
  | some a => cases y with
    | none => cases h
    | some b => cases h; exact ⟨a, b, rfl, rfl, rfl⟩
noncomputable def oThree {α β γ δ : Type} (f : α → β → γ → δ) (x : Option α) (y : Option β) (z : Option γ) : Option δ := match x with | some a => oTwo (f a) y z | none => none
theorem oThree_some {α β γ δ : Type} {f : α → β → γ → δ} {x : Option α} {y : Option β} {z : Option γ} {u : δ} (h : oThree f x y z = some u) : ∃ a b c, x = some a ∧ y = some b ∧ z = some c ∧ u = f a b c := by
  cases x with
  | none => cases h
  | some a => obtain ⟨b, c, h1, h2, h3⟩ := oTwo_some h; exact ⟨a, b, c, rfl, h1, h2, h3⟩
noncomputable def methA (f : Expr → Option IE) (args : List Expr) : Option (List IE) := match args with
  | [] => some []
  | [a] => (f a).map fun i => [i]
  | _ => none
noncomputable def methN : Mt → Nat
  | .clear => 0
  | _ => 1
noncomputable def methE (f : Expr → Option IE) (m : Option Mt) (args : List Expr) (o : Option IE) : Option IE := match m with
  | some m => onlyIf (args.length.beq (methN m)) (oTwo (fun v as => .meth v m as) o (methA f args))
  | none => none
noncomputable def innerC (c : CC) (scope : Scope) (x : Str) : CC := { c with scope := relab scope c.scope, slots := (x, c.nxt) :: c.slots, nxt := c.nxt + 1 }

noncomputable def optE (f : Expr → Option IE) : Option Expr → Option (Option IE)
  | none => some none
  | some e => (f e).map some
noncomputable def sliceParts (o i : Expr) : Option (Str × Option Expr × Option Expr) := match o with
  | .Name x _ => (match i with
    | .Slice lo hi none _ => some (x, lo, hi)
    | _ => none)
  | _ => none
theorem sliceParts_some {o i : Expr} {x : Str} {lo hi : Option Expr} (h : sliceParts o i = some (x, lo, hi)) : ∃ px p, o = .Name x px ∧ i = .Slice lo hi none p := by
  cases o with
  | Name y py =>
    cases i with
    | Slice lo' hi' st p =>
      cases st with
      | none => cases (show some (y, lo', hi') = some (x, lo, hi) from h); exact ⟨py, p, rfl, rfl⟩
      | some e => exact nomatch (show (none : Option (Str × Option Expr × Option Expr)) = some (x, lo, hi) from h)
    | _ => exact nomatch (show (none : Option (Str × Option Expr × Option Expr)) = some (x, lo, hi) from h)
  | _ => exact nomatch (show (none : Option (Str × Option Expr × Option Expr)) = some (x, lo, hi) from h)
noncomputable def subE (f : Expr → Option IE) (c : CC) (o i : Expr) : Option IE := match sliceParts o i with
  | some (x, lo, hi) => oThree IE.slice (nameV c x) (optE f lo) (optE f hi)
  | none => oTwo IE.sub (f o) (f i)

noncomputable def compE : Nat → CC → Expr → Option IE
  | 0, _, _ => none
  | n + 1, c, e => match e with
    | .Constant k _ _ => (constV k).map .lit
    | .Name x _ => nameV c x
    | .BinOp l op r _ => oTwo (IE.bin op) (compE n c l) (compE n c r)
    | .UnaryOp .USub x _ => (compE n c x).map .neg
    | .UnaryOp .Not x _ => (compE n c x).map .not
    | .BoolOp .And vs _ => (mapO (compE n c) vs).bind (boolGo .and)
    | .BoolOp .Or vs _ => (mapO (compE n c) vs).bind (boolGo .or)
    | .IfExp t a b _ => oThree IE.ite (compE n c t) (compE n c a) (compE n c b)
    | .Compare l [op] [r] _ => oTwo (fun a b => .cmp a op b) (compE n c l) (compE n c r)
    | .Compare l [op, op'] [r, r'] _ => oThree (fun a b d => .cmp2 a op b op' d) (compE n c l) (compE n c r) (compE n c r')
    | .Tuple es _ _ => onlyIf (!es.any isStar) ((mapO (compE n c) es).map .tup)
    | .List es _ => onlyIf (!es.any isStar) ((mapO (compE n c) es).map .lst)
    | .Call (.Name f _) args [] _ => onlyIf (!args.any isStar && args.length.ble 20) (oTwo IE.call (globV c f) (mapO (compE n c) args))
    | .Call (.Attribute o name apos) args [] pos => onlyIf (!args.any isStar && args.length.ble 20 && plainBase o && apos.endLine.beq pos.line) (methE (compE n c) (mtOf name) args (compE n c o))
    | .Subscript o i _ => subE (compE n c) c o i
    | .ListComp elt [⟨.Name x _, iter, ifs, a⟩] scope _ =>
      onlyIf (a == 0 && okComp scope c.scope && scope.names.lookup x == some .local && (scope.names.all fun y => y.2 != .local || y.1 == x || (c.slots.lookup y.1).isNone) && (c.slots.all fun p => p.2 < c.nxt))
        (oThree (fun ks e fs => .comp e [c.nxt] ks.1 ks.2 fs) (compSrc (compE n c) c iter) (compE n (innerC c scope x) elt) (mapO (compE n (innerC c scope x)) ifs))
    | _ => none

noncomputable def slotV (c : CC) (x : Str) : Option Nat := match c.scope.names.lookup x with
  | some .local | some .cell => c.slots.lookup x
  | _ => none

noncomputable def compS : Nat → CC → Stmt → Option IS
  | 0, _, _ => none
  | n + 1, c, st => match st with
    | .Expr e _ => onlyIf (!isComp e) ((compE n c e).map .expr)
    | .Assign [.Name x _] e _ => oTwo IS.assign (slotV c x) (compE n c e)
    | .Return none _ => some .retNone
    | .Return (some e) _ => (compE n c e).map .ret
    | .If t a b _ => oThree IS.ite (compE n c t) (mapO (compS n c) a) (mapO (compS n c) b)
    | .While t b [] _ => oTwo IS.while (compE n c t) (mapO (compS n c) b)
    | .For (.Name x _) iter b [] _ => oThree (fun i ks b => .for [i] ks.1 ks.2 b) (slotV c x) (compSrc (compE n c) c iter) (mapO (compS n c) b)
    | .Pass _ => some .pass
    | .Break _ => some .brk
    | .Continue _ => some .cont
    | _ => none

noncomputable def slotsGo : List Str → Nat → List (Str × Nat)
  | [], _ => []
  | x :: r, k => (x, k) :: slotsGo r (k + 1)

noncomputable def ownNames (params : List Str) (scope : Scope) : List Str :=
  params ++ ((scope.names.filter fun x => (x.2 == .local || x.2 == .cell) && !params.contains x.1).map (·.1))

noncomputable def compFn (G : List (Str × V)) (params : List Str) (body : List Stmt) (scope : Scope) : Option Fn :=
  let ns := ownNames params scope
  let c : CC := { G, scope, slots := slotsGo ns 0, nxt := ns.length }
  (mapO (compS 40 c) body).map fun b => { names := ns.length + 3, params := params.length, body := b }

/- the defs of a program -/
noncomputable def defOf (p : Program) (x : Str) : Option (List Str × List Stmt × Scope) :=
  match p.main.body.find? (fun | .FunctionDef n .. => n == x | _ => false) with
  | some (.FunctionDef _ a body _ _ _ scope _ _ _) => some (a.args.map (·.arg), body, scope)
  | _ => none
noncomputable def fnOf? (G : List (Str × V)) (p : Program) (x : Str) : Option Fn :=
  match defOf p x with
  | some (ps, body, scope) => compFn G ps body scope
  | none => none
end Mine

set_option autoImplicit false
/- How the abstract values and heaps lie in the machine's heap; steps. -/
namespace Mine
open PySem

structure Wd where
  prog : Program
  w : World
  hB : Heap
  mg : Str → Option Value
  mb : Str → Option Value

noncomputable def TupAt (h : Heap) (a : Addr) (vs : List Value) : Prop := ∃ n, h.get? a = some { cls := .type "tuple", data := .seq vs.toArray n } ∧ vs.length ≤ 2000000

noncomputable def StrFine (x : Str) : Prop := x.length ≤ 2000000 ∧ PyData.strOk x = true

mutual
noncomputable def Rep (mg : Wd) (γ : List Addr) (h : Heap) (v : Value) : V → Prop
  | .none => v = .none
  | .bool b => v = .bool b
  | .int i => ∃ t, v = .int i t
  | .str s => ∃ t, v = .str s t ∧ StrFine s
  | .tup l => ∃ a vs, v = .ref a ∧ TupAt h a vs ∧ Reps mg γ h vs l
  | .ref i => ∃ a, γ[i]? = some a ∧ v = .ref a
  | .fn x => ∃ a, v = .ref a ∧ mg.mg x = some (.ref a)
  | .ty n => v = .type n.name
  | .bi n => v = .builtin n.name
  | .scr ns => ∃ (a : Addr) (vs : List Value), v = .ref a ∧ mg.hB.IsList a vs.toArray ∧ vs.length ≤ 2000000 ∧ vs.length = ns.length ∧ ∀ (k : Nat) (i : Int), ns[k]? = some i → ∃ t, vs[k]? = some (.int i t)
noncomputable def Reps (mg : Wd) (γ : List Addr) (h : Heap) (vs : List Value) : List V → Prop
  | [] => vs = []
  | V :: l => ∃ v r, vs = v :: r ∧ Rep mg γ h v V ∧ Reps mg γ h r l
end

noncomputable def ORep (mg : Wd) (γ : List Addr) (h : Heap) (a : Addr) : O → Prop
  | .list xs => ∃ vs n, h.get? a = some { cls := .type "list", data := .seq vs.toArray n } ∧ Reps mg γ h vs xs ∧ vs.length ≤ 2000000

structure HRel (D : Wd) (γ : List Addr) (H : Hp) (h : Heap) : Prop where
  len : γ.length = H.length
  nodup : γ.Nodup
  objs : ∀ (i : Nat) (a : Addr) (o : O), γ[i]? = some a → H[i]? = some o → ORep D γ h a o
  fresh : ∀ a ∈ γ, D.hB.get? a = none
  base : ∀ b o, D.hB.get? b = some o → h.get? b = some o

structure Stp (wr γ γ' : List Addr) (s s' : Shared) : Prop where
  same : ∃ h' tk, s' = { s with heap := h', toks := tk }
  keep : ∀ b o, b ∉ γ → b ∉ wr → s.heap.get? b = some o → s'.heap.get? b = some o
  ext : ∃ δ, γ' = γ ++ δ ∧ ∀ a ∈ δ, s.heap.get? a = none

theorem HRel.alive {D : Wd} {γ : List Addr} {H : Hp} {h : Heap} (R : HRel D γ H h) {a : Addr} (ha : a ∈ γ) : ∃ o, h.get? a = some o ∧ o.cls ≠ .type "tuple" ∧ (∀ es n, o.data ≠ .dict es n) ∧ (∀ v, o.data ≠ .cell v) := by
  obtain ⟨i, hi, rfl⟩ := List.getElem_of_mem ha
  have hH : i < H.length := R.len ▸ hi
  have := R.objs i γ[i] H[i] (by simp [hi]) (by simp [hH])
  cases ho : H[i] with
  | list xs =>
    rw [ho] at this
    obtain ⟨vs, n, e, _⟩ := this
    exact ⟨_, e, (by simp), (by intro es n q; cases q), (by intro v q; cases q)⟩

theorem Stp.refl {wr γ : List Addr} {s : Shared} : Stp wr γ γ s s := ⟨⟨s.heap, s.toks, rfl⟩, fun _ _ _ _ e => e, ⟨[], by simp, by simp⟩⟩

theorem Stp.trans {D : Wd} {wr γ γ1 γ2 : List Addr} {s s1 s2 : Shared} {H1 : Hp} (R1 : HRel D γ1 H1 s1.heap) (a : Stp wr γ γ1 s s1) (b : Stp wr γ1 γ2 s1 s2)
    (hw : ∀ x ∈ wr, ∀ o, s.heap.get? x = some o → ∃ o', s1.heap.get? x = some o') : Stp wr γ γ2 s s2 := by
  obtain ⟨δ1, rfl, f1⟩ := a.ext
  obtain ⟨δ2, rfl, f2⟩ := b.ext
  refine ⟨?_, ?_, ⟨δ1 ++ δ2, by simp, ?_⟩⟩
  · obtain ⟨h1, t1, rfl⟩ := a.same
    obtain ⟨h2, t2, rfl⟩ := b.same
    exact ⟨h2, t2, rfl⟩
  · intro x o hx hxw e
    refine b.keep x o ?_ hxw (a.keep x o hx hxw e)
    intro hm
    rcases List.mem_append.mp hm with q | q
    · exact hx q
    · rw [f1 x q] at e; cases e
  · intro x hx
    rcases List.mem_append.mp hx with q | q
    · exact f1 x q
    · cases e : s.heap.get? x with
      | none => rfl
      | some o =>
        have hn := f2 x q
        by_cases hg : x ∈ γ
        · obtain ⟨o', e', _⟩ := R1.alive (List.mem_append_left _ hg)
          rw [e'] at hn; cases hn
        · by_cases hxw : x ∈ wr
          · obtain ⟨o', e'⟩ := hw x hxw o e
            rw [e'] at hn; cases hn
          · rw [a.keep x o hg hxw e] at hn; cases hn

theorem Stp.trans0 {D : Wd} {γ γ1 γ2 : List Addr} {s s1 s2 : Shared} {H1 : Hp} (R1 : HRel D γ1 H1 s1.heap) (a : Stp [] γ γ1 s s1) (b : Stp [] γ1 γ2 s1 s2) : Stp [] γ γ2 s s2 :=
  a.trans R1 b (by simp)

theorem Stp.weak {wr γ γ' : List Addr} {s s' : Shared} (a : Stp [] γ γ' s s') : Stp wr γ γ' s s' := ⟨a.same, fun b o h1 _ e => a.keep b o h1 (by simp) e, a.ext⟩

theorem getElem?_ext {γ γ' : List Addr} {i : Nat} {a : Addr} (h : ∃ δ, γ' = γ ++ δ) (e : γ[i]? = some a) : γ'[i]? = some a := by
  obtain ⟨δ, rfl⟩ := h
  rw [List.getElem?_append_left]
  · exact e
  · obtain ⟨h1, _⟩ := List.getElem?_eq_some_iff.mp e; exact h1

theorem nodup_inj {l : List Addr} (hn : l.Nodup) {i j : Nat} (hi : i < l.length) (hj : j < l.length) (e : l[i] = l[j]) : i = j := by
  have p := List.pairwise_iff_getElem.mp hn
  rcases Nat.lt_trichotomy i j with q | q | q
  · exact absurd e (p i j hi hj q)
  · exact q
  · exact absurd e.symm (p j i hj hi q)

mutual
theorem Rep.mono {mg : Wd} {γ γ' : List Addr} {h h' : Heap} (hg : ∃ δ, γ' = γ ++ δ) (hk : ∀ a vs, TupAt h a vs → TupAt h' a vs) {v : Value} : ∀ {V : V}, Rep mg γ h v V → Rep mg γ' h' v V
  | .none, x => by simpa only [Rep] using x
  | .bool _, x => by simpa only [Rep] using x
  | .int _, x => by simpa only [Rep] using x
  | .str _, x => by simpa only [Rep] using x
  | .tup l, x => by
    simp only [Rep] at x ⊢
    obtain ⟨a, vs, e, t, r⟩ := x
    exact ⟨a, vs, e, hk _ _ t, Reps.mono hg hk r⟩
  | .ref _, x => by
    simp only [Rep] at x ⊢
    obtain ⟨a, e, r⟩ := x
    exact ⟨a, getElem?_ext hg e, r⟩
  | .fn _, x => by simpa only [Rep] using x
  | .ty _, x => by simpa only [Rep] using x
  | .bi _, x => by simpa only [Rep] using x
  | .scr _, x => by simpa only [Rep] using x
theorem Reps.mono {mg : Wd} {γ γ' : List Addr} {h h' : Heap} (hg : ∃ δ, γ' = γ ++ δ) (hk : ∀ a vs, TupAt h a vs → TupAt h' a vs) {vs : List Value} : ∀ {l : List V}, Reps mg γ h vs l → Reps mg γ' h' vs l
  | [], x => by simpa only [Reps] using x
  | V :: l, x => by
    simp only [Reps] at x ⊢
    obtain ⟨v, r, e, a, b⟩ := x
    exact ⟨v, r, e, Rep.mono hg hk a, Reps.mono hg hk b⟩
end

theorem Reps.length {mg : Wd} {γ : List Addr} {h : Heap} : ∀ {vs : List Value} {l : List V}, Reps mg γ h vs l → vs.length = l.length
  | vs, [], x => by simp only [Reps] at x; simp [x]
  | vs, V :: l, x => by
    simp only [Reps] at x
    obtain ⟨v, r, rfl, _, b⟩ := x
    simp [Reps.length b]

theorem Reps.get {mg : Wd} {γ : List Addr} {h : Heap} : ∀ {vs : List Value} {l : List V} {k : Nat} {V : V}, Reps mg γ h vs l → l[k]? = some V → ∃ v, vs[k]? = some v ∧ Rep mg γ h v V
  | vs, [], _, _, _, e => by simp at e
  | vs, V :: l, k, W, x, e => by
    simp only [Reps] at x
    obtain ⟨v, r, rfl, a, b⟩ := x
    cases k with
    | zero => simp at e; subst e; exact ⟨v, by simp, a⟩
    | succ k => simp at e; obtain ⟨u, hu, ru⟩ := Reps.get b e; exact ⟨u, by simpa using hu, ru⟩

theorem Reps.append {mg : Wd} {γ : List Addr} {h : Heap} : ∀ {vs : List Value} {l : List V} {ws : List Value} {m : List V}, Reps mg γ h vs l → Reps mg γ h ws m → Reps mg γ h (vs ++ ws) (l ++ m)
  | vs, [], ws, m, x, y => by simp only [Reps] at x; subst x; simpa using y
  | vs, V :: l, ws, m, x, y => by
    simp only [Reps] at x
    obtain ⟨v, r, rfl, a, b⟩ := x
    simp only [List.cons_append, Reps]
    exact ⟨v, r ++ ws, rfl, a, Reps.append b y⟩

theorem Reps.drop {mg : Wd} {γ : List Addr} {h : Heap} : ∀ {vs : List Value} {l : List V} (n : Nat), Reps mg γ h vs l → Reps mg γ h (vs.drop n) (l.drop n)
  | vs, l, 0, x => by simpa using x
  | vs, [], n + 1, x => by simp only [Reps] at x; subst x; simp only [List.drop_nil, Reps]
  | vs, V :: l, n + 1, x => by
    simp only [Reps] at x
    obtain ⟨v, r, rfl, a, b⟩ := x
    simpa using Reps.drop n b
theorem Reps.take {mg : Wd} {γ : List Addr} {h : Heap} : ∀ {vs : List Value} {l : List V} (n : Nat), Reps mg γ h vs l → Reps mg γ h (vs.take n) (l.take n)
  | vs, l, 0, x => by simp only [List.take_zero, Reps]
  | vs, [], n + 1, x => by simp only [Reps] at x; subst x; simp only [List.take_nil, Reps]
  | vs, V :: l, n + 1, x => by
    simp only [Reps] at x
    obtain ⟨v, r, rfl, a, b⟩ := x
    simp only [List.take_succ_cons, Reps]
    exact ⟨v, _, rfl, a, Reps.take n b⟩
theorem Reps.one {mg : Wd} {γ : List Addr} {h : Heap} {v : Value} {V : V} (x : Rep mg γ h v V) : Reps mg γ h [v] [V] := by
  simp only [Reps]; exact ⟨v, [], rfl, x, rfl⟩

theorem Reps.of_get {mg : Wd} {γ : List Addr} {h : Heap} : ∀ {vs : List Value} {l : List V}, vs.length = l.length → (∀ (k : Nat) (v : Value) (V : V), vs[k]? = some v → l[k]? = some V → Rep mg γ h v V) → Reps mg γ h vs l
  | [], [], _, _ => by simp only [Reps]
  | [], _ :: _, e, _ => by simp at e
  | _ :: _, [], e, _ => by simp at e
  | v :: vs, V :: l, e, f => by
    simp only [Reps]
    exact ⟨v, vs, rfl, f 0 v V (by simp) (by simp), Reps.of_get (by simpa using e) fun k u U h1 h2 => f (k + 1) u U (by simpa using h1) (by simpa using h2)⟩

section
variable {D : Wd} {wr γ γ' : List Addr} {H : Hp} {s s' : Shared}

theorem TupAt.stp (R : HRel D γ H s.heap) (t : Stp wr γ γ' s s') (hw : ∀ x ∈ wr, ∀ ws, ¬ TupAt s.heap x ws) {a : Addr} {vs : List Value} (x : TupAt s.heap a vs) : TupAt s'.heap a vs := by
  obtain ⟨n, e, f⟩ := id x
  refine ⟨n, t.keep a _ ?_ ?_ e, f⟩
  · intro hm
    obtain ⟨o', e', nt, _⟩ := R.alive hm
    rw [e] at e'; cases e'; exact nt rfl
  · intro hm; exact hw a hm _ x

theorem Rep.stp (R : HRel D γ H s.heap) (t : Stp wr γ γ' s s') (hw : ∀ x ∈ wr, ∀ ws, ¬ TupAt s.heap x ws) {v : Value} {V : V} (x : Rep D γ s.heap v V) : Rep D γ' s'.heap v V :=
  Rep.mono (let ⟨δ, e, _⟩ := t.ext; ⟨δ, e⟩) (fun _ _ q => q.stp R t hw) x
theorem Reps.stp (R : HRel D γ H s.heap) (t : Stp wr γ γ' s s') (hw : ∀ x ∈ wr, ∀ ws, ¬ TupAt s.heap x ws) {vs : List Value} {l : List V} (x : Reps D γ s.heap vs l) : Reps D γ' s'.heap vs l :=
  Reps.mono (let ⟨δ, e, _⟩ := t.ext; ⟨δ, e⟩) (fun _ _ q => q.stp R t hw) x
theorem Rep.stp0 (R : HRel D γ H s.heap) (t : Stp [] γ γ' s s') {v : Value} {V : V} (x : Rep D γ s.heap v V) : Rep D γ' s'.heap v V := x.stp R t (by simp)
theorem Reps.stp0 (R : HRel D γ H s.heap) (t : Stp [] γ γ' s s') {vs : List Value} {l : List V} (x : Reps D γ s.heap vs l) : Reps D γ' s'.heap vs l := x.stp R t (by simp)

/- a step that only adds objects, and keeps every object there was -/
theorem stp_grow {h' : Heap} {tk : Nat} (hk : ∀ b o, s.heap.get? b = some o → h'.get? b = some o) : Stp wr γ γ s { s with heap := h', toks := tk } :=
  ⟨⟨h', tk, rfl⟩, fun b o _ _ e => hk b o e, ⟨[], by simp, by simp⟩⟩

theorem tupAt_grow {h h' : Heap} (hk : ∀ b o, h.get? b = some o → h'.get? b = some o) {a : Addr} {vs : List Value} (x : TupAt h a vs) : TupAt h' a vs := by
  obtain ⟨n, e, r⟩ := x; exact ⟨n, hk _ _ e, r⟩

theorem HRel.grow {h h' : Heap} (R : HRel D γ H h) (hk : ∀ b o, h.get? b = some o → h'.get? b = some o) : HRel D γ H h' where
  len := R.len
  nodup := R.nodup
  objs := fun i a o e1 e2 => by
    have := R.objs i a o e1 e2
    cases o with
    | list xs =>
      obtain ⟨vs, n, e, r, z⟩ := this
      exact ⟨vs, n, hk _ _ e, Reps.mono ⟨[], by simp⟩ (fun _ _ => tupAt_grow hk) r, z⟩
  fresh := R.fresh
  base := fun b o e => hk _ _ (R.base b o e)

/- a new list at the end of the abstract heap -/
theorem HRel.newList {vs : List Value} {l : List V} {h : Heap} (R : HRel D γ H h) (r : Reps D γ h vs l) (hz : l.length ≤ 2000000) :
    HRel D (γ ++ [h.objs.size]) (H ++ [.list l]) (h.push { cls := .type "list", data := .seq vs.toArray }) where
  len := by simp [R.len]
  nodup := by
    refine List.nodup_append.mpr ⟨R.nodup, by simp, ?_⟩
    intro a ha b hb
    simp at hb; subst hb
    intro e; subst e
    obtain ⟨o, e, _⟩ := R.alive ha
    exact absurd (Heap.lt_size e) (Nat.lt_irrefl _)
  objs := fun i a o e1 e2 => by
    have hk : ∀ b o, h.get? b = some o → (h.push { cls := .type "list", data := .seq vs.toArray }).get? b = some o := fun b o e => Heap.get?_push_of_some _ e
    have ht : ∀ a vs', TupAt h a vs' → TupAt (h.push { cls := .type "list", data := .seq vs.toArray }) a vs' := fun _ _ => tupAt_grow hk
    rcases Nat.lt_trichotomy i γ.length with hi | hi | hi
    · rw [List.getElem?_append_left hi] at e1
      rw [List.getElem?_append_left (R.len ▸ hi)] at e2
      have := R.objs i a o e1 e2
      cases o with
      | list xs =>
        obtain ⟨ws, n, e, q, z⟩ := this
        exact ⟨ws, n, hk _ _ e, Reps.mono ⟨_, rfl⟩ ht q, z⟩
    · subst hi
      rw [List.getElem?_append_right (Nat.le_refl _)] at e1
      rw [R.len, List.getElem?_append_right (Nat.le_refl _)] at e2
      simp at e1 e2; subst e1; subst e2
      exact ⟨vs, 0, Heap.get?_push_size _ rfl, Reps.mono ⟨_, rfl⟩ ht r, by rw [r.length]; exact hz⟩
    · exfalso
      have : (γ ++ [h.objs.size]).length ≤ i := by simp; omega
      rw [List.getElem?_eq_none this] at e1; cases e1
  fresh := by
    intro a ha
    rcases List.mem_append.mp ha with q | q
    · exact R.fresh a q
    · simp at q; subst q
      cases e : D.hB.get? h.objs.size with
      | none => rfl
      | some o => exact absurd (Heap.lt_size (R.base _ _ e)) (Nat.lt_irrefl _)
  base := fun b o e => Heap.get?_push_of_some _ (R.base b o e)

theorem HRel.addList {vs : List Value} {l : List V} {h h' : Heap} {a : Addr} {n : Nat} (R : HRel D γ H h) (r : Reps D γ h vs l) (hz : l.length ≤ 2000000)
    (hk : ∀ b o, h.get? b = some o → h'.get? b = some o) (hn : h.get? a = none) (ha : h'.get? a = some { cls := .type "list", data := .seq vs.toArray n }) :
    HRel D (γ ++ [a]) (H ++ [.list l]) h' where
  len := by simp [R.len]
  nodup := by
    refine List.nodup_append.mpr ⟨R.nodup, by simp, ?_⟩
    intro b hb c hc
    simp at hc; subst hc
    intro e; subst e
    obtain ⟨o, e, _⟩ := R.alive hb
    rw [hn] at e; cases e
  objs := fun i b o e1 e2 => by
    have ht : ∀ a vs', TupAt h a vs' → TupAt h' a vs' := fun _ _ => tupAt_grow hk
    rcases Nat.lt_trichotomy i γ.length with hi | hi | hi
    · rw [List.getElem?_append_left hi] at e1
      rw [List.getElem?_append_left (R.len ▸ hi)] at e2
      have := R.objs i b o e1 e2
      cases o with
      | list xs =>
        obtain ⟨ws, n, e, q, z⟩ := this
        exact ⟨ws, n, hk _ _ e, Reps.mono ⟨_, rfl⟩ ht q, z⟩
    · subst hi
      rw [List.getElem?_append_right (Nat.le_refl _)] at e1
      rw [R.len, List.getElem?_append_right (Nat.le_refl _)] at e2
      simp at e1 e2; subst e1; subst e2
      exact ⟨vs, n, ha, Reps.mono ⟨_, rfl⟩ ht r, by rw [r.length]; exact hz⟩
    · exfalso
      have : (γ ++ [a]).length ≤ i := by simp; omega
      rw [List.getElem?_eq_none this] at e1; cases e1
  fresh := by
    intro b hb
    rcases List.mem_append.mp hb with q | q
    · exact R.fresh b q
    · simp at q; subst q
      cases e : D.hB.get? b with
      | none => rfl
      | some o => have := R.base _ _ e; rw [hn] at this; cases this
  base := fun b o e => hk _ _ (R.base b o e)

theorem Stp.newList {o : Obj} {h : Heap} (e : s.heap = h) : Stp wr γ (γ ++ [h.objs.size]) s { s with heap := h.push o } :=
  ⟨⟨_, s.toks, rfl⟩, fun b o' _ _ q => Heap.get?_push_of_some _ (e ▸ q), ⟨[h.objs.size], rfl, fun a ha => by
    simp at ha; subst ha; subst e
    cases q : s.heap.get? s.heap.objs.size with
    | none => rfl
    | some o => exact absurd (Heap.lt_size q) (Nat.lt_irrefl _)⟩⟩

/- a list of the abstract heap changed -/
theorem HRel.setList {i : Nat} {a : Addr} {vs : List Value} {l : List V} {n : Nat} {h h' : Heap} (R : HRel D γ H h) (hi : γ[i]? = some a) (r : Reps D γ h vs l) (hz : l.length ≤ 2000000)
    (e : h'.get? a = some { cls := .type "list", data := .seq vs.toArray n }) (hk : ∀ b o, b ≠ a → h.get? b = some o → h'.get? b = some o) :
    HRel D γ (H.set i (.list l)) h' := by
  have ha : a ∈ γ := List.mem_of_getElem? hi
  have ht : ∀ b ws, TupAt h b ws → TupAt h' b ws := fun b ws x => by
    obtain ⟨m, q, d⟩ := x
    refine ⟨m, hk _ _ ?_ q, d⟩
    rintro rfl
    obtain ⟨o', e', nt, _⟩ := R.alive ha
    rw [q] at e'; cases e'; exact nt rfl
  refine ⟨by simp [R.len], R.nodup, ?_, R.fresh, ?_⟩
  · intro j b o e1 e2
    by_cases hj : i = j
    · subst hj
      rw [hi] at e1; cases e1
      have hlt : i < H.length := R.len ▸ (List.getElem?_eq_some_iff.mp hi).1
      rw [List.getElem?_set_self hlt] at e2; cases e2
      exact ⟨vs, n, e, Reps.mono ⟨[], by simp⟩ ht r, by rw [r.length]; exact hz⟩
    · rw [List.getElem?_set_ne hj] at e2
      have hb : b ≠ a := by
        rintro rfl
        obtain ⟨h1, q1⟩ := List.getElem?_eq_some_iff.mp hi
        obtain ⟨h2, q2⟩ := List.getElem?_eq_some_iff.mp e1
        exact hj (nodup_inj R.nodup h1 h2 (q1.trans q2.symm))
      have := R.objs j b o e1 e2
      cases o with
      | list xs =>
        obtain ⟨ws, m, q, z, y⟩ := this
        exact ⟨ws, m, hk _ _ hb q, Reps.mono ⟨[], by simp⟩ ht z, y⟩
  · intro b o q
    refine hk b o ?_ (R.base b o q)
    rintro rfl
    rw [R.fresh _ ha] at q; cases q
end
end Mine

set_option autoImplicit false
/- Posts, locals, and how trees go on. -/
namespace Mine
open PySem

noncomputable def XRep (_D : Wd) (_γ : List Addr) (_s : Shared) (_e : Value) (_x : Exc) : Prop := False

noncomputable def PostV (D : Wd) (γ : List Addr) (s : Shared) (Q : V → Hp → Prop) (v : Value) (s' : Shared) : Prop :=
  ∃ γ' V H', Stp [] γ γ' s s' ∧ HRel D γ' H' s'.heap ∧ Rep D γ' s'.heap v V ∧ Q V H'
noncomputable def PostL (D : Wd) (γ : List Addr) (s : Shared) (Q : List V → Hp → Prop) (vs : List Value) (s' : Shared) : Prop :=
  ∃ γ' Vs H', Stp [] γ γ' s s' ∧ HRel D γ' H' s'.heap ∧ Reps D γ' s'.heap vs Vs ∧ Q Vs H'
noncomputable def PostB (D : Wd) (γ : List Addr) (s : Shared) (Q : Bool → Hp → Prop) (c : Bool) (s' : Shared) : Prop :=
  ∃ γ' H', Stp [] γ γ' s s' ∧ HRel D γ' H' s'.heap ∧ Q c H'
noncomputable def PostX (D : Wd) (γ : List Addr) (s : Shared) (X : XL) (e : Value) (s' : Shared) : Prop :=
  ∃ γ' H' x, Stp [] γ γ' s s' ∧ HRel D γ' H' s'.heap ∧ XRep D γ' s' e x ∧ X x H'

noncomputable abbrev Wd.M (D : Wd) : Model := model D.prog D.w

structure AOk (k : Nat) (A : Around) : Prop where
  handled : A.handled = none
  depth : A.depth + k < 900
  units : A.units + 4 * k < 9000

theorem AOk.mono {k k' : Nat} {A : Around} (h : AOk k A) (hk : k' ≤ k) : AOk k' A := ⟨h.handled, by have := h.depth; omega, by have := h.units; omega⟩
theorem AOk.deeper {k : Nat} {A : Around} (h : AOk (k + 1) A) (env : Env) : AOk k (A.deeper env) :=
  ⟨h.handled, by have := h.depth; show A.depth + 1 + k < 900; omega, by have := h.units; show A.units + 3 + 4 * k < 9000; omega⟩

section
variable {D : Wd} {γ γ1 : List Addr} {H H1 : Hp} {s s1 : Shared} {A : Around}

theorem PostV.back {Q : V → Hp → Prop} {v : Value} {s' : Shared} (t : Stp [] γ γ1 s s1) (R : HRel D γ1 H1 s1.heap) (h : PostV D γ1 s1 Q v s') : PostV D γ s Q v s' := by
  obtain ⟨γ', V, H', a, b, c, d⟩ := h
  exact ⟨γ', V, H', t.trans0 R a, b, c, d⟩
theorem PostL.back {Q : List V → Hp → Prop} {v : List Value} {s' : Shared} (t : Stp [] γ γ1 s s1) (R : HRel D γ1 H1 s1.heap) (h : PostL D γ1 s1 Q v s') : PostL D γ s Q v s' := by
  obtain ⟨γ', V, H', a, b, c, d⟩ := h
  exact ⟨γ', V, H', t.trans0 R a, b, c, d⟩
theorem PostB.back {Q : Bool → Hp → Prop} {v : Bool} {s' : Shared} (t : Stp [] γ γ1 s s1) (R : HRel D γ1 H1 s1.heap) (h : PostB D γ1 s1 Q v s') : PostB D γ s Q v s' := by
  obtain ⟨γ', H', a, b, d⟩ := h
  exact ⟨γ', H', t.trans0 R a, b, d⟩
theorem PostX.back {X : XL} {v : Value} {s' : Shared} (t : Stp [] γ γ1 s s1) (R : HRel D γ1 H1 s1.heap) (h : PostX D γ1 s1 X v s') : PostX D γ s X v s' := by
  obtain ⟨γ', V, H', a, b, c, d⟩ := h
  exact ⟨γ', V, H', t.trans0 R a, b, c, d⟩

theorem backV {t : Sem Value} {Q : V → Hp → Prop} {X : XL} (st : Stp [] γ γ1 s s1) (R : HRel D γ1 H1 s1.heap) (h : wpAny D.M A t (PostV D γ1 s1 Q) (PostX D γ1 s1 X) s1) :
    wpAny D.M A t (PostV D γ s Q) (PostX D γ s X) s1 := wpAny_mono h (fun _ _ x => x.back st R) (fun _ _ x => x.back st R)
theorem backB {t : Sem Bool} {Q : Bool → Hp → Prop} {X : XL} (st : Stp [] γ γ1 s s1) (R : HRel D γ1 H1 s1.heap) (h : wpAny D.M A t (PostB D γ1 s1 Q) (PostX D γ1 s1 X) s1) :
    wpAny D.M A t (PostB D γ s Q) (PostX D γ s X) s1 := wpAny_mono h (fun _ _ x => x.back st R) (fun _ _ x => x.back st R)
theorem backL {t : Sem (List Value)} {Q : List V → Hp → Prop} {X : XL} (st : Stp [] γ γ1 s s1) (R : HRel D γ1 H1 s1.heap) (h : wpAny D.M A t (PostL D γ1 s1 Q) (PostX D γ1 s1 X) s1) :
    wpAny D.M A t (PostL D γ s Q) (PostX D γ s X) s1 := wpAny_mono h (fun _ _ x => x.back st R) (fun _ _ x => x.back st R)

/- the first tree of several -/
theorem andThen {t : Sem Value} {Q : V → Hp → Prop} {P : Value → Shared → Prop} {X : XL} (h : wpAny D.M A t (PostV D γ s Q) (PostX D γ s X) s)
    (k : ∀ v s1 γ1 V H1, Stp [] γ γ1 s s1 → HRel D γ1 H1 s1.heap → Rep D γ1 s1.heap v V → Q V H1 → P v s1) : wpAny D.M A t P (PostX D γ s X) s :=
  wpAny_mono h (fun v s1 ⟨γ1, V, H1, a, b, c, d⟩ => k v s1 γ1 V H1 a b c d) (fun _ _ x => x)
theorem andThenL {t : Sem (List Value)} {Q : List V → Hp → Prop} {P : List Value → Shared → Prop} {X : XL} (h : wpAny D.M A t (PostL D γ s Q) (PostX D γ s X) s)
    (k : ∀ v s1 γ1 V H1, Stp [] γ γ1 s s1 → HRel D γ1 H1 s1.heap → Reps D γ1 s1.heap v V → Q V H1 → P v s1) : wpAny D.M A t P (PostX D γ s X) s :=
  wpAny_mono h (fun v s1 ⟨γ1, V, H1, a, b, c, d⟩ => k v s1 γ1 V H1 a b c d) (fun _ _ x => x)
theorem andThenB {t : Sem Bool} {Q : Bool → Hp → Prop} {P : Bool → Shared → Prop} {X : XL} (h : wpAny D.M A t (PostB D γ s Q) (PostX D γ s X) s)
    (k : ∀ v s1 γ1 H1, Stp [] γ γ1 s s1 → HRel D γ1 H1 s1.heap → Q v H1 → P v s1) : wpAny D.M A t P (PostX D γ s X) s :=
  wpAny_mono h (fun v s1 ⟨γ1, H1, a, b, d⟩ => k v s1 γ1 H1 a b d) (fun _ _ x => x)
/- a later one: what it raises is told from the start -/
theorem thenV {t : Sem Value} {Q : V → Hp → Prop} {P : Value → Shared → Prop} {X : XL} (st : Stp [] γ γ1 s s1) (R : HRel D γ1 H1 s1.heap) (h : wpAny D.M A t (PostV D γ1 s1 Q) (PostX D γ1 s1 X) s1)
    (k : ∀ v s2 γ2 V H2, Stp [] γ1 γ2 s1 s2 → HRel D γ2 H2 s2.heap → Rep D γ2 s2.heap v V → Q V H2 → P v s2) : wpAny D.M A t P (PostX D γ s X) s1 :=
  wpAny_mono h (fun v s2 ⟨γ2, V, H2, a, b, c, d⟩ => k v s2 γ2 V H2 a b c d) (fun _ _ x => x.back st R)
theorem thenL {t : Sem (List Value)} {Q : List V → Hp → Prop} {P : List Value → Shared → Prop} {X : XL} (st : Stp [] γ γ1 s s1) (R : HRel D γ1 H1 s1.heap) (h : wpAny D.M A t (PostL D γ1 s1 Q) (PostX D γ1 s1 X) s1)
    (k : ∀ v s2 γ2 V H2, Stp [] γ1 γ2 s1 s2 → HRel D γ2 H2 s2.heap → Reps D γ2 s2.heap v V → Q V H2 → P v s2) : wpAny D.M A t P (PostX D γ s X) s1 :=
  wpAny_mono h (fun v s2 ⟨γ2, V, H2, a, b, c, d⟩ => k v s2 γ2 V H2 a b c d) (fun _ _ x => x.back st R)
theorem thenB {t : Sem Bool} {Q : Bool → Hp → Prop} {P : Bool → Shared → Prop} {X : XL} (st : Stp [] γ γ1 s s1) (R : HRel D γ1 H1 s1.heap) (h : wpAny D.M A t (PostB D γ1 s1 Q) (PostX D γ1 s1 X) s1)
    (k : ∀ v s2 γ2 H2, Stp [] γ1 γ2 s1 s2 → HRel D γ2 H2 s2.heap → Q v H2 → P v s2) : wpAny D.M A t P (PostX D γ s X) s1 :=
  wpAny_mono h (fun v s2 ⟨γ2, H2, a, b, d⟩ => k v s2 γ2 H2 a b d) (fun _ _ x => x.back st R)

/- ends without a change of the heap -/
theorem PostV.now {Q : V → Hp → Prop} {v : Value} {V : V} (R : HRel D γ H s.heap) (r : Rep D γ s.heap v V) (h : Q V H) {tk : Nat} : PostV D γ s Q v { s with toks := tk } :=
  ⟨γ, V, H, stp_grow fun _ _ e => e, R, r, h⟩
theorem PostV.here {Q : V → Hp → Prop} {v : Value} {V : V} (R : HRel D γ H s.heap) (r : Rep D γ s.heap v V) (h : Q V H) : PostV D γ s Q v s :=
  ⟨γ, V, H, Stp.refl, R, r, h⟩
theorem PostB.now {Q : Bool → Hp → Prop} {c : Bool} (R : HRel D γ H s.heap) (h : Q c H) {tk : Nat} : PostB D γ s Q c { s with toks := tk } :=
  ⟨γ, H, stp_grow fun _ _ e => e, R, h⟩
theorem PostB.here {Q : Bool → Hp → Prop} {c : Bool} (R : HRel D γ H s.heap) (h : Q c H) : PostB D γ s Q c s := ⟨γ, H, Stp.refl, R, h⟩
/- ends where objects were added that nothing names -/
theorem PostV.grown {Q : V → Hp → Prop} {v : Value} {V : V} {h' : Heap} {tk : Nat} (R : HRel D γ H s.heap) (hk : ∀ b o, s.heap.get? b = some o → h'.get? b = some o) (r : Rep D γ h' v V) (h : Q V H) :
    PostV D γ s Q v { s with heap := h', toks := tk } := ⟨γ, V, H, stp_grow hk, R.grow hk, r, h⟩
/- a new list -/
theorem PostV.newList {Q : V → Hp → Prop} {vs : List Value} {l : List V} (R : HRel D γ H s.heap) (r : Reps D γ s.heap vs l) (hz : l.length ≤ 2000000) (h : Q (.ref H.length) (H ++ [.list l])) :
    PostV D γ s Q (.ref s.heap.objs.size) { s with heap := s.heap.push { cls := .type "list", data := .seq vs.toArray } } :=
  ⟨γ ++ [s.heap.objs.size], .ref H.length, H ++ [.list l], Stp.newList rfl, R.newList r hz, by
    simp only [Rep]; exact ⟨_, by rw [List.getElem?_append_right (by rw [R.len]; exact Nat.le_refl _)]; simp [R.len], rfl⟩, h⟩
theorem PostV.addList {Q : V → Hp → Prop} {vs : List Value} {l : List V} {h' : Heap} {a : Addr} {n tk : Nat} (R : HRel D γ H s.heap) (r : Reps D γ s.heap vs l) (hz : l.length ≤ 2000000)
    (hk : ∀ b o, s.heap.get? b = some o → h'.get? b = some o) (hn : s.heap.get? a = none) (ha : h'.get? a = some { cls := .type "list", data := .seq vs.toArray n }) (h : Q (.ref H.length) (H ++ [.list l])) :
    PostV D γ s Q (.ref a) { s with heap := h', toks := tk } :=
  ⟨γ ++ [a], .ref H.length, H ++ [.list l], ⟨⟨_, _, rfl⟩, fun b o _ _ e => hk b o e, ⟨[a], rfl, fun b hb => by simp at hb; subst hb; exact hn⟩⟩, R.addList r hz hk hn ha, by
    simp only [Rep]; exact ⟨_, by rw [List.getElem?_append_right (by rw [R.len]; exact Nat.le_refl _)]; simp [R.len], rfl⟩, h⟩
theorem none_end (h : Heap) : h.get? h.objs.size = none := by
  cases e : h.get? h.objs.size with
  | none => rfl
  | some o => exact absurd (Heap.lt_size e) (Nat.lt_irrefl _)
/- a list of the abstract heap changed -/
theorem PostV.setList {Q : V → Hp → Prop} {vs : List Value} {l : List V} {h' : Heap} {i : Nat} {a : Addr} {n tk : Nat} {v : Value} {V : V} (R : HRel D γ H s.heap) (hi : γ[i]? = some a) (r : Reps D γ s.heap vs l) (hz : l.length ≤ 2000000)
    (hk : ∀ b o, b ≠ a → s.heap.get? b = some o → h'.get? b = some o) (ha : h'.get? a = some { cls := .type "list", data := .seq vs.toArray n }) (rv : Rep D γ h' v V) (h : Q V (H.set i (.list l))) :
    PostV D γ s Q v { s with heap := h', toks := tk } :=
  ⟨γ, V, H.set i (.list l), ⟨⟨_, _, rfl⟩, fun b o hb _ e => hk b o (fun q => hb (q ▸ List.mem_of_getElem? hi)) e, ⟨[], by simp, by simp⟩⟩, R.setList hi r hz ha hk, rv, h⟩
/- a new tuple -/
theorem PostV.newTuple {Q : V → Hp → Prop} {vs : List Value} {l : List V} (R : HRel D γ H s.heap) (r : Reps D γ s.heap vs l) (hz : l.length ≤ 2000000) (h : Q (.tup l) H) :
    PostV D γ s Q (.ref s.heap.objs.size) { s with heap := s.heap.push { cls := .type "tuple", data := .seq vs.toArray } } :=
  have hk : ∀ b o, s.heap.get? b = some o → (s.heap.push { cls := .type "tuple", data := .seq vs.toArray }).get? b = some o := fun _ _ e => Heap.get?_push_of_some _ e
  ⟨γ, .tup l, H, ⟨⟨_, s.toks, rfl⟩, fun b o _ _ e => hk b o e, ⟨[], by simp, by simp⟩⟩, R.grow hk, by
    simp only [Rep]
    exact ⟨_, vs, rfl, ⟨0, Heap.get?_push_size _ rfl, by rw [r.length]; exact hz⟩, Reps.mono ⟨[], by simp⟩ (fun _ _ => tupAt_grow hk) r⟩, h⟩
end

/- names -/
structure LRel (D : Wd) (γ : List Addr) (env : Env) (slots : List (Str × Nat)) (h : Heap) (L : Lc) : Prop where
  ns : ∃ m, h.Ns env.locals m ∧ ∀ (x : Str) (i : Nat) (V : V), env.kindOf x = some .local → slots.lookup x = some i → L[i]? = some (some V) → ∃ v, m x = some v ∧ Rep D γ h v V
  cel : ∀ (x : Str), env.kindOf x = some .cell → ∃ c u, env.cells.lookup x = some c ∧ h.IsCell c u ∧ c ∉ γ ∧
    ∀ (i : Nat) (V : V), slots.lookup x = some i → L[i]? = some (some V) → ∃ v, u = some v ∧ Rep D γ h v V
  nin : env.locals ∉ γ

structure EnvOk (c : CC) (env : Env) : Prop where
  scope : env.scope = c.scope
  kind : c.scope.kind = .function
  globals : env.globals = mainGlobals
  builtins : env.builtins = builtinsNs

structure GOk (D : Wd) (G : List (Str × V)) : Prop where
  gns : D.hB.Ns mainGlobals D.mg
  bns : D.hB.Ns builtinsNs D.mb
  val : ∀ (x : Str) (V : V), G.lookup x = some V → ∃ v, (D.mg x = some v ∨ (D.mg x = none ∧ D.mb x = some v)) ∧ ∀ γ, Rep D γ D.hB v V
  lim : D.hB.NoLimit

section
variable {D : Wd} {γ γ1 : List Addr} {H H1 : Hp} {s s1 : Shared} {env : Env} {slots : List (Str × Nat)} {L : Lc}

theorem notin_ext (t : Stp [] γ γ1 s s1) {a : Addr} {o : Obj} (h : a ∉ γ) (e : s.heap.get? a = some o) : a ∉ γ1 := by
  obtain ⟨δ, rfl, f⟩ := t.ext
  intro q
  rcases List.mem_append.mp q with q | q
  · exact h q
  · rw [f a q] at e; cases e

theorem LRel.stp (l : LRel D γ env slots s.heap L) (R : HRel D γ H s.heap) (t : Stp [] γ γ1 s s1) : LRel D γ1 env slots s1.heap L where
  ns := by
    obtain ⟨m, ⟨o, es, ep, ho, r⟩, f⟩ := l.ns
    refine ⟨m, ⟨o, es, ep, t.keep _ _ l.nin (by simp) ho, r⟩, fun x i V a b c => ?_⟩
    obtain ⟨v, e, q⟩ := f x i V a b c
    exact ⟨v, e, q.stp0 R t⟩
  cel := fun x hx => by
    obtain ⟨c, u, a, ⟨o, ho, hd⟩, hc, f⟩ := l.cel x hx
    refine ⟨c, u, a, ⟨o, t.keep _ _ hc (by simp) ho, hd⟩, notin_ext t hc ho, fun i V b d => ?_⟩
    obtain ⟨v, e, q⟩ := f i V b d
    exact ⟨v, e, q.stp0 R t⟩
  nin := by
    obtain ⟨m, ⟨o, es, ep, ho, r⟩, f⟩ := l.ns
    exact notin_ext t l.nin ho

theorem LRel.grow {h h' : Heap} (l : LRel D γ env slots h L) (hk : ∀ b o, h.get? b = some o → h'.get? b = some o) : LRel D γ env slots h' L where
  ns := by
    obtain ⟨m, n, f⟩ := l.ns
    refine ⟨m, n.keeps hk, fun x i V a b c => ?_⟩
    obtain ⟨v, e, q⟩ := f x i V a b c
    exact ⟨v, e, Rep.mono ⟨[], by simp⟩ (fun _ _ => tupAt_grow hk) q⟩
  cel := fun x hx => by
    obtain ⟨c, u, a, q, hc, f⟩ := l.cel x hx
    refine ⟨c, u, a, q.keeps hk, hc, fun i V b d => ?_⟩
    obtain ⟨v, e, q⟩ := f i V b d
    exact ⟨v, e, Rep.mono ⟨[], by simp⟩ (fun _ _ => tupAt_grow hk) q⟩
  nin := l.nin
end

/- what a def answers, by the oracle -/
noncomputable def OrcOk (D : Wd) (k : Nat) (Φ : Orc) : Prop := ∀ x vs H Q X, Φ x vs H Q X → ∀ A γ s vals a, AOk k A → HRel D γ H s.heap → Reps D γ s.heap vals vs → D.mg x = some (.ref a) →
  (∃ o fd, D.hB.get? a = some o ∧ o.data = .func fd) ∧ wpAny D.M A (call (.ref a) vals) (PostV D γ s Q) (PostX D γ s X) s

noncomputable def SE (D : Wd) (Φ : Orc) (k : Nat) (c : CC) (e : Expr) (ie : IE) : Prop := ∀ env A γ H s L Q X, EnvOk c env → AOk k A → HRel D γ H s.heap → LRel D γ env c.slots s.heap L →
  (wp2 Φ ie).E L H Q X → wpAny D.M A (eval e env) (PostV D γ s Q) (PostX D γ s X) s
noncomputable def ST (D : Wd) (Φ : Orc) (k : Nat) (c : CC) (e : Expr) (ie : IE) : Prop := ∀ env A γ H s L Q X, EnvOk c env → AOk k A → HRel D γ H s.heap → LRel D γ env c.slots s.heap L →
  (wp2 Φ ie).T L H Q X → wpAny D.M A (isTrue e env (eval e env)) (PostB D γ s Q) (PostX D γ s X) s
end Mine

set_option autoImplicit false
/- The primitive operations. -/
namespace Mine
open PySem PyProof.Rows

section
variable {D : Wd} {γ : List Addr} {H : Hp} {s : Shared} {A : Around} {E : Value → Shared → Prop}

theorem TupAt.isTup {h : Heap} {a : Addr} {vs : List Value} (x : TupAt h a vs) : IsTup h a vs.toArray := by
  obtain ⟨n, e, _⟩ := x; exact ⟨_, e, rfl, n, rfl⟩
theorem TupAt.isTuple {h : Heap} {a : Addr} {vs : List Value} (x : TupAt h a vs) : h.IsTuple a vs.toArray := by
  obtain ⟨n, e, _⟩ := x; exact ⟨_, e, rfl, n, rfl⟩
theorem TupAt.size {h : Heap} {a : Addr} {vs : List Value} (x : TupAt h a vs) : vs.length ≤ 2000000 := by
  obtain ⟨n, e, z⟩ := x; exact z

/- a list of the abstract heap -/
theorem HRel.list (R : HRel D γ H s.heap) {i : Nat} {a : Addr} {l : List V} (hi : γ[i]? = some a) (hl : listAt H i = some l) :
    ∃ vs n, s.heap.get? a = some { cls := .type "list", data := .seq vs.toArray n } ∧ Reps D γ s.heap vs l ∧ vs.length ≤ 2000000 := by
  unfold listAt at hl
  split at hl
  · rename_i xs e
    cases hl
    exact R.objs i a _ hi e
  · cases hl

theorem strFine_append {x y : Str} (f : StrFine x) (g : StrFine y) (h : x.length + y.length ≤ 1000000) : StrFine (x ++ y) := by
  refine ⟨by rw [strLen_append]; omega, ?_⟩
  have a := f.2; have b := g.2
  unfold PyData.strOk at a b ⊢
  show (x.cps ++ y.cps).all _ = true
  rw [Array.all_append, a, b]; rfl

theorem truth_ok {v : Value} {V : V} {c : Bool} {Q : Bool → Hp → Prop} (R : HRel D γ H s.heap) (r : Rep D γ s.heap v V) (h : truthV H V = some c) (q : Q c H) :
    wpAny D.M A (truthy v) (PostB D γ s Q) E s := by
  cases V with
  | none => simp only [Rep] at r; subst r; cases h; exact truthy_none (PostB.here R q)
  | bool b => simp only [Rep] at r; subst r; cases h; exact wpAny_truthy_bool (PostB.here R q)
  | int i =>
    simp only [Rep] at r; obtain ⟨t, rfl⟩ := r; cases h
    refine truthy_int (PostB.here R ?_)
    have e : (i != 0) = decide (i ≠ 0) := by by_cases hi : i = 0 <;> simp [hi]
    rw [e]; exact q
  | str x =>
    simp only [Rep] at r; obtain ⟨t, rfl, f⟩ := r; cases h
    refine P.truthy_str (by have := f.1; omega) (PostB.now R ?_)
    have e : ((x.length : Int) != 0) = (x.length != 0) := by rw [Bool.eq_iff_iff]; simp only [bne_iff_ne, ne_eq]; omega
    rw [e]; exact q
  | tup l =>
    simp only [Rep] at r; obtain ⟨a, vs, rfl, t, rs⟩ := r; cases h
    refine truthy_tuple t.isTup (by have := t.size; simp; omega) (PostB.now R ?_)
    have := rs.length
    cases vs <;> cases l <;> simp_all
  | ref i =>
    simp only [Rep] at r; obtain ⟨a, hi, rfl⟩ := r
    simp only [truthV, Option.map_eq_some_iff] at h
    obtain ⟨l, hl, rfl⟩ := h
    obtain ⟨vs, n, e, rs, z⟩ := R.list hi hl
    refine wpAny_truthy_list (items := vs.toArray) ⟨_, e, rfl, n, rfl⟩ (by simp; omega) (PostB.now R ?_)
    have := rs.length
    cases vs <;> cases l <;> simp_all
  | fn x => cases h
  | ty n => cases h
  | bi n => cases h
  | scr n => cases h

theorem neg_ok {v : Value} {i : Int} {Q : V → Hp → Prop} (R : HRel D γ H s.heap) (r : Rep D γ s.heap v (.int i)) (q : Q (.int (-i)) H) :
    wpAny D.M A (unaryOp .USub v) (PostV D γ s Q) E s := by
  simp only [Rep] at r; obtain ⟨t, rfl⟩ := r
  exact neg_int (PostV.now R (by simp only [Rep]; exact ⟨_, rfl⟩) q)

theorem bin_ok {op : Operator} {a b : Value} {Va Vb : V} {Q : V → Hp → Prop} (R : HRel D γ H s.heap) (ra : Rep D γ s.heap a Va) (rb : Rep D γ s.heap b Vb) (h : pBin op Va Vb H Q) :
    wpAny D.M A (binaryOp op a b) (PostV D γ s Q) E s := by
  unfold pBin at h
  split at h
  · simp only [Rep] at ra rb; obtain ⟨t, rfl⟩ := ra; obtain ⟨u, rfl⟩ := rb
    exact add_int (PostV.now R (by simp only [Rep]; exact ⟨_, rfl⟩) h)
  · simp only [Rep] at ra rb; obtain ⟨t, rfl⟩ := ra; obtain ⟨u, rfl⟩ := rb
    exact sub_int (PostV.now R (by simp only [Rep]; exact ⟨_, rfl⟩) h)
  · simp only [Rep] at ra rb; obtain ⟨t, rfl⟩ := ra; obtain ⟨u, rfl⟩ := rb
    refine mul_int (PostV.now R (by simp only [Rep]; exact ⟨_, rfl⟩) h.2) ?_
    rcases h.1 with q | q
    · exact IntMulOk.of_left (intBits_le_64 q.1 q.2)
    · exact IntMulOk.of_right (intBits_le_64 q.1 q.2)
  · rename_i i j
    simp only [Rep] at ra rb; obtain ⟨t, rfl⟩ := ra; obtain ⟨u, rfl⟩ := rb
    have hj : j ≠ 0 := by have := h.1.1; omega
    refine floordiv_int hj (PostV.now (V := .int (i.fdiv j)) R (by simp only [Rep]; exact ⟨_, rfl⟩) ?_) (.inl (PyProof.noPylong_of_log2 ?_))
    · rw [Int.fdiv_eq_ediv_of_nonneg _ (by omega)]; exact h.2
    · have h1 := h.1
      have h2 : j.natAbs < 2 ^ 128 := by omega
      have h3 : j.natAbs ≠ 0 := by omega
      have := (Nat.log2_lt h3).mpr h2
      omega
  · rename_i i j
    simp only [Rep] at ra rb; obtain ⟨t, rfl⟩ := ra; obtain ⟨u, rfl⟩ := rb
    have hj : j ≠ 0 := by have := h.1.1; omega
    refine mod_int' hj (PostV.now (V := .int (i.fmod j)) R (by simp only [Rep]; exact ⟨_, rfl⟩) ?_)
    rw [Int.fmod_eq_emod_of_nonneg _ (by omega)]; exact h.2
  · simp only [Rep] at ra rb; obtain ⟨t, rfl⟩ := ra; obtain ⟨u, rfl⟩ := rb
    exact pow_int_small h.1.1 h.1.2.1 h.1.2.2 (PostV.now R (by simp only [Rep]; exact ⟨_, rfl⟩) h.2)
  · simp only [Rep] at ra rb; obtain ⟨t, rfl, f⟩ := ra; obtain ⟨u, rfl, g⟩ := rb
    refine PyProof.Rows.add_str (fun t' tk => PostV.now R (by simp only [Rep]; exact ⟨_, rfl, strFine_append f g h.1⟩) h.2) (by rw [sizeLine_eq]; omega)
  · rename_i x y
    simp only [Rep] at ra rb; obtain ⟨t, vs, rfl, ta, rs⟩ := ra; obtain ⟨u, ws, rfl, tb, rs'⟩ := rb
    obtain ⟨n, e, z⟩ := id ta
    obtain ⟨m, e', z'⟩ := id tb
    have h1 := rs.length; have h2 := rs'.length
    by_cases hv : vs = []
    · subst hv
      have hx : x = [] := by cases x <;> simp_all
      subst hx
      refine concat_meets ⟨_, e, rfl⟩ ⟨_, e', rfl⟩ noFill_tuple_add seq_tuple_add PySem.F.slot_tuple_add PySem.F.entry_tuple_add (PySem.F.args_tuple_add_2 _ _) (AutoSeq1.tuple___add___tuple_tuple_0 t ([] : List Value).toArray n u ws.toArray m rfl) ⟨e, e', ?_⟩
      exact PostV.here (V := .tup y) R (by simp only [Rep]; exact ⟨u, ws, rfl, tb, rs'⟩) (by simpa using h.2)
    · by_cases hw : ws = []
      · subst hw
        have hy : y = [] := by cases y <;> simp_all
        subst hy
        refine concat_meets ⟨_, e, rfl⟩ ⟨_, e', rfl⟩ noFill_tuple_add seq_tuple_add PySem.F.slot_tuple_add PySem.F.entry_tuple_add (PySem.F.args_tuple_add_2 _ _) (AutoSeq1.tuple___add___tuple_tuple_1 t vs.toArray n u ([] : List Value).toArray m (by simpa using hv) rfl) ⟨e, e', ?_⟩
        exact PostV.here (V := .tup x) R (by simp only [Rep]; exact ⟨t, vs, rfl, ta, rs⟩) (by simpa using h.2)
      · refine P.add_tuple (items := vs.toArray) (items2 := ws.toArray) (n := n) (n2 := m) e e' (by simpa using hv) (by simpa using hw) ?_ (by simp [sizeLine_eq]; omega)
        rw [List.append_toArray]
        exact PostV.newTuple R (rs.append rs') (by simp; omega) h.2
  · rename_i i j
    simp only [Rep] at ra rb; obtain ⟨x, hx, rfl⟩ := ra; obtain ⟨y, hy, rfl⟩ := rb
    obtain ⟨xs, h1, h⟩ := oK_elim h
    obtain ⟨ys, h2, h3, h4⟩ := oK_elim h
    obtain ⟨vs, n, e, rs, z⟩ := R.list hx h1
    obtain ⟨ws, m, e', rs', z'⟩ := R.list hy h2
    have := rs.length; have := rs'.length
    refine P.add_list (items := vs.toArray) (items2 := ws.toArray) (n := n) (n2 := m) e e' ?_ (by simp [sizeLine_eq]; omega)
    rw [List.append_toArray]
    exact PostV.newList R (rs.append rs') (by simp; omega) h4
  · exact h.elim

theorem sub_ok {value slice : Expr} {a b : Value} {Va Vb : V} {Q : V → Hp → Prop} (R : HRel D γ H s.heap) (ra : Rep D γ s.heap a Va) (rb : Rep D γ s.heap b Vb) (h : pSub Va Vb H Q)
    (hs : ∀ lo hi st p, slice ≠ .Slice lo hi st p) : wpAny D.M A (subscriptTail value slice a b) (PostV D γ s Q) E s := by
  have hs' : ∀ o i, subscripted slice false o i = operate [o, i] (getItem o i) := fun o i => by
    unfold subscripted
    split
    · rename_i lo hi p _ _; exact absurd rfl (hs _ _ _ _)
    · rename_i h1; cases h1
    · rfl
  have hi : ∃ k, Vb = .int k := by
    cases Vb with
    | int k => exact ⟨k, rfl⟩
    | _ => exact h.elim
  obtain ⟨k, rfl⟩ := hi
  cases Va with
  | tup l =>
    simp only [Rep] at ra rb; obtain ⟨t, vs, rfl, ta, rs⟩ := ra; obtain ⟨u, rfl⟩ := rb
    obtain ⟨v, hv, q⟩ := oK_elim h
    have hl := rs.length
    have hz := ta.size
    unfold idx at hv
    split at hv
    · rename_i h0
      obtain ⟨w, hw, rw_⟩ := rs.get hv
      have hlt : k.toNat < vs.length := (List.getElem?_eq_some_iff.mp hw).1
      refine item_tupleT (j := k.toNat) ta.isTup (by omega) (by omega) ?_ hw (PostV.here R rw_ q) (hs' _ _)
      unfold seqIndex?
      have : ¬ k < 0 := by omega
      have h1 : (0 ≤ k && decide (k < (vs.length : Int))) = true := by simp; omega
      simp only [this, if_false]
      rw [if_pos h1]
    · split at hv
      · rename_i h0 h1
        obtain ⟨w, hw, rw_⟩ := rs.get hv
        have hlt := (List.getElem?_eq_some_iff.mp hw).1
        refine item_tupleT (j := (k + (l.length : Int)).toNat) ta.isTup (by omega) (by omega) ?_ hw (PostV.here R rw_ q) (hs' _ _)
        unfold seqIndex?
        have h3 : k < 0 := by omega
        have h4 : (0 ≤ k + (vs.length : Int) && decide (k + (vs.length : Int) < (vs.length : Int))) = true := by simp; omega
        simp only [h3, if_true]
        rw [if_pos h4, hl]
      · cases hv
  | ref i =>
    simp only [Rep] at ra rb; obtain ⟨x, hx, rfl⟩ := ra; obtain ⟨u, rfl⟩ := rb
    obtain ⟨l, hl, h⟩ := oK_elim h
    obtain ⟨v, hv, q⟩ := oK_elim h
    obtain ⟨vs, n, e, rs, hz⟩ := R.list hx hl
    have hlen := rs.length
    have hL : s.heap.IsList x vs.toArray := ⟨_, e, rfl, n, rfl⟩
    refine tail_any hL.typeIs slot_list_getitem.lookup ?_ (hs' _ _)
    unfold idx at hv
    split at hv
    · rename_i h0
      obtain ⟨w, hw, rw_⟩ := rs.get hv
      have hlt := (List.getElem?_eq_some_iff.mp hw).1
      exact wpAny_getItem_list hL h0 (by omega) (by simpa using hw) (PostV.here R rw_ q)
    · split at hv
      · rename_i h0 h1
        obtain ⟨w, hw, rw_⟩ := rs.get hv
        have hlt := (List.getElem?_eq_some_iff.mp hw).1
        refine wpAny_getItem_list_neg hL (by omega) (by simp; omega) (by omega) ?_ (PostV.here R rw_ q)
        simpa [hlen] using hw
      · cases hv
  | scr ns =>
    simp only [Rep] at ra rb; obtain ⟨x, vs, rfl, e, hz, hlen, hI⟩ := ra; obtain ⟨u, rfl⟩ := rb
    obtain ⟨v, hv, q⟩ := oK_elim h
    have hL : s.heap.IsList x vs.toArray := let ⟨o, h1, h2, n, h3⟩ := e; ⟨o, R.base _ _ h1, h2, n, h3⟩
    refine tail_any hL.typeIs slot_list_getitem.lookup ?_ (hs' _ _)
    unfold idx at hv
    split at hv
    · rename_i h0
      obtain ⟨t, hw⟩ := hI _ _ hv
      have hlt := (List.getElem?_eq_some_iff.mp hw).1
      exact wpAny_getItem_list hL h0 (by omega) (by simpa using hw) (PostV.here (v := .int v t) (V := .int v) R (by simp only [Rep]; exact ⟨t, rfl⟩) q)
    · split at hv
      · rename_i h0 h1
        obtain ⟨t, hw⟩ := hI _ _ hv
        have hlt := (List.getElem?_eq_some_iff.mp hw).1
        refine wpAny_getItem_list_neg hL (by omega) (by simp; omega) (by omega) ?_ (PostV.here (v := .int v t) (V := .int v) R (by simp only [Rep]; exact ⟨t, rfl⟩) q)
        simpa [hlen] using hw
      · cases hv
  | _ => exact h.elim
end
end Mine

set_option autoImplicit false
/- Comparisons, built-in calls, methods. -/
namespace Mine
open PySem PyProof.Rows PySem.SeqAt

mutual
theorem toPy_reads {mg : Wd} {γ : List Addr} {h : Heap} {v : Value} : ∀ {V : V} {d : PyData}, Rep mg γ h v V → toPy V = some d → ∃ as, Reads h v d as ∧ d.canLay0 = true
  | .none, d, r, e => by simp only [Rep] at r; subst r; cases e; exact ⟨_, .none, rfl⟩
  | .bool b, d, r, e => by simp only [Rep] at r; subst r; cases e; exact ⟨_, .bool b, rfl⟩
  | .int i, d, r, e => by simp only [Rep] at r; obtain ⟨t, rfl⟩ := r; cases e; exact ⟨_, .int i t, rfl⟩
  | .str x, d, r, e => by simp only [Rep] at r; obtain ⟨t, rfl, f⟩ := r; cases e; exact ⟨_, .str x t, f.2⟩
  | .tup l, d, r, e => by
    simp only [Rep] at r; obtain ⟨a, vs, rfl, ⟨n, q, z⟩, rs⟩ := r
    simp only [toPy, Option.map_eq_some_iff] at e
    obtain ⟨ds, hd, rfl⟩ := e
    obtain ⟨as, ra, c⟩ := toPys_reads rs hd
    exact ⟨as, .tuple q rfl rfl (by simpa using ra), c⟩
  | .ref i, d, r, e => by cases e
  | .fn i, d, r, e => by cases e
  | .ty i, d, r, e => by cases e
  | .bi i, d, r, e => by cases e
  | .scr i, d, r, e => by cases e
theorem toPys_reads {mg : Wd} {γ : List Addr} {h : Heap} {vs : List Value} : ∀ {l : List V} {ds : List PyData}, Reps mg γ h vs l → toPys l = some ds → ∃ as, ReadsAll h vs ds as ∧ PyData.canLayAll0 ds = true
  | [], ds, r, e => by simp only [Reps] at r; subst r; cases e; exact ⟨_, .nil, rfl⟩
  | V :: l, ds, r, e => by
    simp only [Reps] at r; obtain ⟨v, r', rfl, a, b⟩ := r
    simp only [toPys] at e
    split at e
    · rename_i d ds' h1 h2
      cases e
      obtain ⟨as, q1, c1⟩ := toPy_reads a h1
      obtain ⟨bs, q2, c2⟩ := toPys_reads b h2
      exact ⟨_, .cons q1 q2, by simp only [PyData.canLayAll0, c1, c2, Bool.and_self]⟩
    · cases e
end

section
variable {D : Wd} {γ : List Addr} {H : Hp} {s : Shared} {A : Around} {E : Value → Shared → Prop} {k : Nat}

theorem toPyH_reads {v : Value} {V : V} {d : PyData} (R : HRel D γ H s.heap) (r : Rep D γ s.heap v V) (e : toPyH H V = some d) : ∃ as, Reads s.heap v d as ∧ d.canLay0 = true := by
  cases V with
  | ref i =>
    simp only [toPyH, Option.map_eq_some_iff, Option.bind_eq_some_iff] at e
    obtain ⟨ds, ⟨l, hl, hd⟩, rfl⟩ := e
    simp only [Rep] at r; obtain ⟨a, hi, rfl⟩ := r
    obtain ⟨vs, n, q, rs, z⟩ := R.list hi hl
    obtain ⟨as, ra, c⟩ := toPys_reads rs hd
    exact ⟨_, .list q rfl rfl (by simpa using ra), c⟩
  | _ => exact toPy_reads r e

theorem room (hA : AOk k A) {n m : Nat} (h : n ≤ 60) : A.units + min n m < cLine := by
  have := hA.units
  have : min n m ≤ n := Nat.min_le_left _ _
  show _ < 9900
  omega

theorem room1 (hA : AOk k A) {n m : Nat} (h : n ≤ 60) : A.units + 1 + min m n < cLine := by
  have := hA.units
  have : min m n ≤ n := Nat.min_le_right _ _
  show _ < 9900
  omega

theorem rep_none {v : Value} {V : V} (r : Rep D γ s.heap v V) : (v == Value.none) = isNoneV V := by
  cases V <;> simp only [Rep] at r
  · subst r; rfl
  · subst r; rfl
  · obtain ⟨t, rfl⟩ := r; rfl
  · obtain ⟨t, rfl, _⟩ := r; rfl
  · obtain ⟨a, vs, rfl, _⟩ := r; rfl
  · obtain ⟨a, _, rfl⟩ := r; rfl
  · obtain ⟨a, rfl, _⟩ := r; rfl
  · subst r; rfl
  · subst r; rfl
  · obtain ⟨a, vs, rfl, _⟩ := r; rfl
theorem isnot_none {M : Model} {v : Value} {Q : Value → Shared → Prop} (h : Q (.bool (!(v == .none))) s) : wpAny M A (compareOp .IsNot v .none) Q E s := by
  show wpAny M A (do return .bool (!(← isSame v .none))) Q E s
  rw [isSame_none]; exact wpAny_bind (wpAny_pure (wpAny_pure h))

theorem cmp_ok {op : CmpOp} {a b : Value} {Va Vb : V} {Q : V → Hp → Prop} (hA : AOk k A) (R : HRel D γ H s.heap) (ra : Rep D γ s.heap a Va) (rb : Rep D γ s.heap b Vb) (h : pCmp op Va Vb H Q) :
    wpAny D.M A (compareOp op a b) (PostV D γ s Q) E s := by
  have bl : ∀ c, Rep D γ s.heap (.bool c) (.bool c) := fun c => by simp only [Rep]
  cases op with
  | Eq =>
    obtain ⟨c, hc, q⟩ := pCmp_eq h
    unfold eqH at hc
    split at hc
    · rename_i d e h1 h2
      split at hc
      · rename_i hd
        cases hc
        obtain ⟨as, r1, c1⟩ := toPyH_reads R ra h1
        obtain ⟨bs, r2, c2⟩ := toPyH_reads R rb h2
        exact compareEq_reads r1 r2 c1 c2 (room hA hd) (PostV.here R (bl _) q)
      · cases hc
    · cases hc
  | NotEq =>
    obtain ⟨c, hc, q⟩ := pCmp_ne h
    unfold eqH at hc
    split at hc
    · rename_i d e h1 h2
      split at hc
      · rename_i hd
        cases hc
        obtain ⟨as, r1, c1⟩ := toPyH_reads R ra h1
        obtain ⟨bs, r2, c2⟩ := toPyH_reads R rb h2
        exact compareNe_reads r1 r2 c1 c2 (room hA hd) (PostV.here R (bl _) q)
      · cases hc
    · cases hc
  | Lt =>
    simp only [pCmp] at h
    split at h
    · simp only [Rep] at ra rb; obtain ⟨t, rfl⟩ := ra; obtain ⟨u, rfl⟩ := rb
      exact lt_int (PostV.here R (bl _) h)
    · exact h.elim
  | LtE =>
    simp only [pCmp] at h
    split at h
    · simp only [Rep] at ra rb; obtain ⟨t, rfl⟩ := ra; obtain ⟨u, rfl⟩ := rb
      exact le_int (PostV.here R (bl _) h)
    · exact h.elim
  | Gt =>
    simp only [pCmp] at h
    split at h
    · simp only [Rep] at ra rb; obtain ⟨t, rfl⟩ := ra; obtain ⟨u, rfl⟩ := rb
      exact gt_int (PostV.here R (bl _) h)
    · exact h.elim
  | GtE =>
    simp only [pCmp] at h
    split at h
    · simp only [Rep] at ra rb; obtain ⟨t, rfl⟩ := ra; obtain ⟨u, rfl⟩ := rb
      exact ge_int (PostV.here R (bl _) h)
    · exact h.elim
  | In =>
    simp only [pCmp] at h
    split at h
    · rename_i l
      obtain ⟨c, hc, q⟩ := oK_elim h
      unfold memV at hc
      split at hc
      · rename_i d ds h1 h2
        split at hc
        · rename_i hd
          cases hc
          obtain ⟨as, r1, c1⟩ := toPy_reads ra h1
          obtain ⟨bs, r2, c2⟩ := toPy_reads (d := .tuple ds) rb (by simp [toPy, h2])
          exact in_tuple_reads r2 r1 c2 c1 (room1 hA hd) (PostV.here R (bl _) q)
        · cases hc
      · cases hc
    · rename_i i
      obtain ⟨l, hl, h⟩ := oK_elim h
      obtain ⟨c, hc, q⟩ := oK_elim h
      unfold memV at hc
      split at hc
      · rename_i d ds h1 h2
        split at hc
        · rename_i hd
          cases hc
          obtain ⟨as, r1, c1⟩ := toPy_reads ra h1
          obtain ⟨bs, r2, c2⟩ := toPyH_reads (d := .list ds) R rb (by simp [toPyH, hl, h2])
          exact in_list_reads r2 r1 c2 c1 (room1 hA hd) (PostV.here R (bl _) q)
        · cases hc
      · cases hc
    · exact h.elim
  | NotIn =>
    simp only [pCmp] at h
    split at h
    · rename_i l
      obtain ⟨c, hc, q⟩ := oK_elim h
      unfold memV at hc
      split at hc
      · rename_i d ds h1 h2
        split at hc
        · rename_i hd
          cases hc
          obtain ⟨as, r1, c1⟩ := toPy_reads ra h1
          obtain ⟨bs, r2, c2⟩ := toPy_reads (d := .tuple ds) rb (by simp [toPy, h2])
          exact notIn_tuple_reads r2 r1 c2 c1 (room1 hA hd) (PostV.here R (bl _) q)
        · cases hc
      · cases hc
    · rename_i i
      obtain ⟨l, hl, h⟩ := oK_elim h
      obtain ⟨c, hc, q⟩ := oK_elim h
      unfold memV at hc
      split at hc
      · rename_i d ds h1 h2
        split at hc
        · rename_i hd
          cases hc
          obtain ⟨as, r1, c1⟩ := toPy_reads ra h1
          obtain ⟨bs, r2, c2⟩ := toPyH_reads (d := .list ds) R rb (by simp [toPyH, hl, h2])
          exact notIn_list_reads r2 r1 c2 c1 (room1 hA hd) (PostV.here R (bl _) q)
        · cases hc
      · cases hc
    · exact h.elim
  | Is =>
    simp only [pCmp] at h
    split at h
    · simp only [Rep] at rb; subst rb
      refine is_none (PostV.here R (bl _) ?_)
      rw [rep_none ra]; exact h
    · exact h.elim
  | IsNot =>
    simp only [pCmp] at h
    split at h
    · simp only [Rep] at rb; subst rb
      refine isnot_none (PostV.here R (bl _) ?_)
      rw [rep_none ra]; exact h
    · exact h.elim

theorem len_ok {v : Value} {n : Int} {Q : V → Hp → Prop} {V : V} (R : HRel D γ H s.heap) (r : Rep D γ s.heap v V)
    (h : (∃ l, V = .tup l ∧ n = (l.length : Int)) ∨ (∃ i l, V = .ref i ∧ listAt H i = some l ∧ n = (l.length : Int))) (q : Q (.int n) H) :
    wpAny D.M A (call (.builtin "len") [v]) (PostV D γ s Q) E s := by
  rcases h with ⟨l, rfl, rfl⟩ | ⟨i, l, rfl, hl, rfl⟩
  · simp only [Rep] at r; obtain ⟨a, vs, rfl, t, rs⟩ := r
    have := t.size; have hlen := rs.length
    refine len_tuple t.isTup (by simp; omega) (PostV.now R ?_ q)
    simp only [Rep]; exact ⟨s.toks + 1, by simp [hlen]⟩
  · simp only [Rep] at r; obtain ⟨a, hi, rfl⟩ := r
    obtain ⟨vs, n, e, rs, z⟩ := R.list hi hl
    have hlen := rs.length
    refine len_list (items := vs.toArray) ⟨_, e, rfl, n, rfl⟩ (by simp; omega) (PostV.now R ?_ q)
    simp only [Rep]; exact ⟨s.toks + 1, by simp [hlen]⟩
end
end Mine

set_option autoImplicit false
/- Built-in calls and methods. -/
namespace Mine
open PySem PyProof.Rows PySem.SeqAt

section
variable {D : Wd} {γ : List Addr} {H : Hp} {s : Shared} {A : Around} {E : Value → Shared → Prop} {k : Nat}

theorem isi_ok {v : Value} {t : Ty} {c : Bool} {Q : V → Hp → Prop} {W : V} (R : HRel D γ H s.heap) (r : Rep D γ s.heap v W) (h : isInstH H W t = some c) (q : Q (.bool c) H) :
    wpAny D.M A (call (.builtin "isinstance") [v, .type t.name]) (PostV D γ s Q) E s := by
  have bl : ∀ c, Rep D γ s.heap (.bool c) (.bool c) := fun c => by simp only [Rep]
  cases W with
  | none =>
    simp only [Rep] at r; subst r
    cases t <;> simp [isInstH] at h <;> subst h
    · exact IsiPair.NoneType_int (PostV.now R (bl _) q)
    · exact IsiPair.NoneType_bool (PostV.now R (bl _) q)
    · exact IsiPair.NoneType_str (PostV.now R (bl _) q)
    · exact IsiPair.NoneType_tuple (PostV.now R (bl _) q)
    · exact IsiPair.NoneType_list (PostV.now R (bl _) q)
  | bool b =>
    simp only [Rep] at r; subst r
    cases t <;> simp [isInstH, tyOf, subTy] at h <;> subst h
    · exact IsiPair.bool_int (PostV.here R (bl _) q)
    · exact IsiPair.bool_bool (PostV.here R (bl _) q)
    · exact IsiPair.bool_str (PostV.now R (bl _) q)
    · exact IsiPair.bool_tuple (PostV.now R (bl _) q)
    · exact IsiPair.bool_list (PostV.now R (bl _) q)
  | int i =>
    simp only [Rep] at r; obtain ⟨u, rfl⟩ := r
    cases t <;> simp [isInstH, tyOf, subTy] at h <;> subst h
    · exact IsiPair.int_int (PostV.here R (bl _) q)
    · exact IsiPair.int_bool (PostV.now R (bl _) q)
    · exact IsiPair.int_str (PostV.now R (bl _) q)
    · exact IsiPair.int_tuple (PostV.now R (bl _) q)
    · exact IsiPair.int_list (PostV.now R (bl _) q)
  | str x =>
    simp only [Rep] at r; obtain ⟨u, rfl, _⟩ := r
    cases t <;> simp [isInstH, tyOf, subTy] at h <;> subst h
    · exact IsiPair.str_int (PostV.now R (bl _) q)
    · exact IsiPair.str_bool (PostV.now R (bl _) q)
    · exact IsiPair.str_str (PostV.here R (bl _) q)
    · exact IsiPair.str_tuple (PostV.now R (bl _) q)
    · exact IsiPair.str_list (PostV.now R (bl _) q)
  | tup l =>
    simp only [Rep] at r; obtain ⟨a, vs, rfl, ⟨n, e, _⟩, _⟩ := r
    cases t <;> simp [isInstH, tyOf, subTy] at h <;> subst h
    · exact IsiPair.tuple_int e rfl (PostV.now R (bl _) q)
    · exact IsiPair.tuple_bool e rfl (PostV.now R (bl _) q)
    · exact IsiPair.tuple_str e rfl (PostV.now R (bl _) q)
    · exact IsiPair.tuple_tuple e rfl (PostV.here R (bl _) q)
    · exact IsiPair.tuple_list e rfl (PostV.now R (bl _) q)
  | ref i =>
    simp only [Rep] at r; obtain ⟨a, hi, rfl⟩ := r
    have hl : ∃ l, listAt H i = some l := by
      cases e : listAt H i with
      | some l => exact ⟨l, rfl⟩
      | none => cases t <;> simp [isInstH, tyOf, e] at h
    obtain ⟨l, hl⟩ := hl
    obtain ⟨vs, n, e, rs, z⟩ := R.list hi hl
    cases t <;> simp [isInstH, tyOf, subTy, hl] at h <;> subst h
    · exact IsiPair.list_int e rfl (PostV.now R (bl _) q)
    · exact IsiPair.list_bool e rfl (PostV.now R (bl _) q)
    · exact IsiPair.list_str e rfl (PostV.now R (bl _) q)
    · exact IsiPair.list_tuple e rfl (PostV.now R (bl _) q)
    · exact IsiPair.list_list e rfl (PostV.here R (bl _) q)
  | fn x => cases t <;> simp [isInstH, tyOf] at h
  | ty n => cases t <;> simp [isInstH, tyOf] at h
  | bi n => cases t <;> simp [isInstH, tyOf] at h
  | scr n => cases t <;> simp [isInstH, tyOf] at h

theorem allBools_reps {mg : Wd} {h : Heap} : ∀ {l : List V} {bs : List Bool} {vs : List Value}, allBools l = some bs → Reps mg γ h vs l → vs = bs.map Value.bool
  | [], bs, vs, e, r => by cases e; simp only [Reps] at r; simpa using r
  | .bool b :: l, bs, vs, e, r => by
    simp only [allBools, Option.map_eq_some_iff] at e
    obtain ⟨cs, hc, rfl⟩ := e
    simp only [Reps] at r
    obtain ⟨v, w, rfl, a, b'⟩ := r
    simp only [Rep] at a; subst a
    rw [allBools_reps hc b']; rfl
  | .none :: l, bs, vs, e, r => by cases e
  | .int _ :: l, bs, vs, e, r => by cases e
  | .str _ :: l, bs, vs, e, r => by cases e
  | .tup _ :: l, bs, vs, e, r => by cases e
  | .ref _ :: l, bs, vs, e, r => by cases e
  | .fn _ :: l, bs, vs, e, r => by cases e
  | .ty _ :: l, bs, vs, e, r => by cases e
  | .bi _ :: l, bs, vs, e, r => by cases e
  | .scr _ :: l, bs, vs, e, r => by cases e

theorem all_ok {i : Nat} {v : Value} {l : List V} {bs : List Bool} {Q : V → Hp → Prop} (hA : AOk k A) (R : HRel D γ H s.heap) (r : Rep D γ s.heap v (.ref i)) (hl : listAt H i = some l) (hb : allBools l = some bs)
    (q : Q (.bool (bs.all id)) H) : wpAny D.M A (call (.builtin "all") [v]) (PostV D γ s Q) E s := by
  simp only [Rep] at r; obtain ⟨a, hi, rfl⟩ := r
  obtain ⟨vs, n, e, rs, z⟩ := R.list hi hl
  have hvs := allBools_reps hb rs
  subst hvs
  have hL : s.heap.IsList a (bs.map Value.bool).toArray := ⟨_, e, rfl, n, rfl⟩
  refine call_all_walk (wpAny_pyIter_list hL ?_)
  have ha : a ≠ s.heap.objs.size := Nat.ne_of_lt (Heap.lt_size e)
  refine ⟨_, _, _, _, _, _, fun j => bs.getD j true, rfl, Walks.list (by exact hA.handled) s.heap.objs.size a ha (bs.map Value.bool).toArray, ?_, ?_, ?_⟩
  · refine ⟨⟨_, Heap.get?_push_size _ rfl, rfl, rfl⟩, ⟨_, Heap.get?_push_of_some _ e, rfl, n, rfl⟩⟩
  · intro j v s' Q' E' hv hq
    have : v = .bool (bs.getD j true) := by
      rw [List.getElem?_toArray, List.getElem?_map, Option.map_eq_some_iff] at hv
      obtain ⟨b, hb1, rfl⟩ := hv
      simp [List.getD, hb1]
    subst this
    exact wpAny_truthy_bool hq
  · intro h' tk hk
    have e1 : (List.range (bs.map Value.bool).toArray.size).all (fun j => bs.getD j true) = bs.all id := by
      simp only [List.size_toArray, List.length_map]
      rw [Bool.eq_iff_iff]
      simp only [List.all_eq_true, List.mem_range, id]
      constructor
      · intro hx b hb'
        obtain ⟨j, hj, rfl⟩ := List.getElem_of_mem hb'
        have := hx j hj
        simpa [List.getD, hj] using this
      · intro hx j hj
        have := hx bs[j] (List.getElem_mem hj)
        simpa [List.getD, hj] using this
    have hkk : ∀ b o, s.heap.get? b = some o → h'.get? b = some o := fun b o eb => hk b o (by
      intro hm; simp at hm; subst hm; exact absurd (Heap.lt_size eb) (Nat.lt_irrefl _)) (Heap.get?_push_of_some _ eb)
    rw [e1]
    exact PostV.grown R hkk (by simp only [Rep]) q

theorem int_of_bool_ok {v : Value} {b : Bool} {Q : V → Hp → Prop} (R : HRel D γ H s.heap) (r : Rep D γ s.heap v (.bool b)) (q : Q (.int (if b then 1 else 0)) H) :
    wpAny D.M A (call (.type "int") [v]) (PostV D γ s Q) E s := by
  simp only [Rep] at r; subst r
  exact call_int_bool (PostV.now R (by simp only [Rep]; exact ⟨_, rfl⟩) q)

theorem tuple_of_list_ok {v : Value} {i : Nat} {l : List V} {Q : V → Hp → Prop} (R : HRel D γ H s.heap) (r : Rep D γ s.heap v (.ref i)) (hl : listAt H i = some l) (q : Q (.tup l) H) :
    wpAny D.M A (call (.type "tuple") [v]) (PostV D γ s Q) E s := by
  simp only [Rep] at r; obtain ⟨a, hi, rfl⟩ := r
  obtain ⟨vs, n, e, rs, z⟩ := R.list hi hl
  refine call_tuple_list (items := vs.toArray) ⟨_, e, rfl, n, rfl⟩ (fun h' hk => ?_) (by simp [sizeLine_eq]; omega)
  have hk' : ∀ b o, s.heap.get? b = some o → (h'.push { cls := .type "tuple", data := .seq vs.toArray }).get? b = some o := fun b o eb => Heap.get?_push_of_some _ (hk b o eb)
  refine PostV.grown (V := .tup l) (tk := s.toks) R hk' ?_ q
  simp only [Rep]
  exact ⟨_, vs, rfl, ⟨0, Heap.get?_push_size _ rfl, z⟩, Reps.mono ⟨[], by simp⟩ (fun _ _ => tupAt_grow hk') rs⟩

theorem list_of_ok {v : Value} {l : List V} {Q : V → Hp → Prop} {W : V} (R : HRel D γ H s.heap) (r : Rep D γ s.heap v W) (h : W = .tup l ∨ ∃ i, W = .ref i ∧ listAt H i = some l) (q : Q (.ref H.length) (H ++ [.list l])) :
    wpAny D.M A (call (.type "list") [v]) (PostV D γ s Q) E s := by
  rcases h with rfl | ⟨i, rfl, hl⟩
  · simp only [Rep] at r; obtain ⟨a, vs, rfl, ⟨n, e, z⟩, rs⟩ := r
    refine call_list_seq a (T := "tuple") (items := vs.toArray) (.inr rfl) e rfl rfl (fun h' c' hk hn => ?_) (by simp [sizeLine_eq]; omega)
    exact PostV.addList (tk := s.toks) R rs (by rw [← rs.length]; exact z) hk (none_end _) hn q
  · simp only [Rep] at r; obtain ⟨a, hi, rfl⟩ := r
    obtain ⟨vs, n, e, rs, z⟩ := R.list hi hl
    refine call_list_seq a (T := "list") (items := vs.toArray) (.inl rfl) e rfl rfl (fun h' c' hk hn => ?_) (by simp [sizeLine_eq]; omega)
    exact PostV.addList (tk := s.toks) R rs (by rw [← rs.length]; exact z) hk (none_end _) hn q

theorem max_ok {a b : Int} {v u : Value} {Q : V → Hp → Prop} (hA : AOk k A) (R : HRel D γ H s.heap) (r : Rep D γ s.heap v (.int a)) (r' : Rep D γ s.heap u (.int b)) (q : Q (.int (max a b)) H) :
    wpAny D.M A (call (.builtin "max") [v, u]) (PostV D γ s Q) E s := by
  simp only [Rep] at r r'; obtain ⟨t, rfl⟩ := r; obtain ⟨t', rfl⟩ := r'
  refine max_two_ints hA.handled fun h' tk hk => ?_
  by_cases c : b > a
  · rw [if_pos c]
    have e : max a b = b := by omega
    rw [e] at q
    exact PostV.grown R hk (by simp only [Rep]; exact ⟨_, rfl⟩) q
  · rw [if_neg c]
    have e : max a b = a := by omega
    rw [e] at q
    exact PostV.grown R hk (by simp only [Rep]; exact ⟨_, rfl⟩) q
theorem min_ok {a b : Int} {v u : Value} {Q : V → Hp → Prop} (hA : AOk k A) (R : HRel D γ H s.heap) (r : Rep D γ s.heap v (.int a)) (r' : Rep D γ s.heap u (.int b)) (q : Q (.int (min a b)) H) :
    wpAny D.M A (call (.builtin "min") [v, u]) (PostV D γ s Q) E s := by
  simp only [Rep] at r r'; obtain ⟨t, rfl⟩ := r; obtain ⟨t', rfl⟩ := r'
  refine min_two_ints hA.handled fun h' tk hk => ?_
  by_cases c : b < a
  · rw [if_pos c]
    have e : min a b = b := by omega
    rw [e] at q
    exact PostV.grown R hk (by simp only [Rep]; exact ⟨_, rfl⟩) q
  · rw [if_neg c]
    have e : min a b = a := by omega
    rw [e] at q
    exact PostV.grown R hk (by simp only [Rep]; exact ⟨_, rfl⟩) q

/- every call of what is no def of the text's own -/
theorem call_ok {Φ : Orc} {f : Value} {vals : List Value} {vs : List V} {Q : V → Hp → Prop} {X : XL} {W : V} (hA : AOk k A) (R : HRel D γ H s.heap) (rf : Rep D γ s.heap f W) (rv : Reps D γ s.heap vals vs)
    (h : pCall Φ W vs H Q X) (hn : ∀ x, W ≠ .fn x) : wpAny D.M A (call f vals) (PostV D γ s Q) (PostX D γ s X) s := by
  cases W with
  | fn x => exact absurd rfl (hn _)
  | bi b =>
    simp only [Rep] at rf; subst rf
    change pBi b vs H Q at h
    cases b with
    | len =>
      simp only [pBi] at h
      split at h
      · rename_i W
        simp only [Reps] at rv
        obtain ⟨v, r, rfl, a, rfl⟩ := rv
        cases W with
        | tup l => exact len_ok R a (.inl ⟨_, rfl, rfl⟩) h
        | ref i =>
          obtain ⟨l, hl, q⟩ := oK_elim h
          exact len_ok R a (.inr ⟨_, l, rfl, hl, rfl⟩) q
        | scr ns =>
          simp only [Rep] at a; obtain ⟨x, ws, rfl, e, hz, hlen, hI⟩ := a
          refine len_list (items := ws.toArray) (let ⟨o, h1, h2, n, h3⟩ := e; ⟨o, R.base _ _ h1, h2, n, h3⟩) (by simp; omega) (PostV.now R ?_ h)
          simp only [Rep]; exact ⟨s.toks + 1, by simp [hlen]⟩
        | _ => exact h.elim
      · exact h.elim
    | isinstance =>
      simp only [pBi] at h
      split at h
      · rename_i W W'
        simp only [Reps] at rv
        obtain ⟨v, r, rfl, a, u, r', rfl, b, rfl⟩ := rv
        cases W' with
        | ty t =>
          simp only [Rep] at b; subst b
          obtain ⟨c, hc, q⟩ := oK_elim h
          exact isi_ok R a hc q
        | _ => exact h.elim
      · exact h.elim
    | all =>
      simp only [pBi] at h
      split at h
      · rename_i W
        simp only [Reps] at rv
        obtain ⟨v, r, rfl, a, rfl⟩ := rv
        cases W with
        | ref i =>
          obtain ⟨l, hl, h⟩ := oK_elim h
          obtain ⟨bs, hb, q⟩ := oK_elim h
          exact all_ok hA R a hl hb q
        | _ => exact h.elim
      · exact h.elim
    | max =>
      simp only [pBi] at h
      split at h
      · rename_i W W'
        simp only [Reps] at rv
        obtain ⟨v, r, rfl, a, u, r', rfl, b, rfl⟩ := rv
        split at h
        · exact max_ok hA R a b h
        · exact h.elim
      · exact h.elim
    | min =>
      simp only [pBi] at h
      split at h
      · rename_i W W'
        simp only [Reps] at rv
        obtain ⟨v, r, rfl, a, u, r', rfl, b, rfl⟩ := rv
        split at h
        · exact min_ok hA R a b h
        · exact h.elim
      · exact h.elim
    | repr => exact h.elim
  | ty b =>
    simp only [Rep] at rf; subst rf
    change pTy b vs H Q at h
    cases b with
    | int =>
      simp only [pTy] at h
      split at h
      · rename_i W
        simp only [Reps] at rv
        obtain ⟨v, r, rfl, a, rfl⟩ := rv
        cases W with
        | bool b => exact int_of_bool_ok R a h
        | _ => exact h.elim
      · exact h.elim
    | tuple =>
      simp only [pTy] at h
      split at h
      · rename_i W
        simp only [Reps] at rv
        obtain ⟨v, r, rfl, a, rfl⟩ := rv
        cases W with
        | ref i =>
          obtain ⟨l, hl, q⟩ := oK_elim h
          exact tuple_of_list_ok R a hl q
        | _ => exact h.elim
      · exact h.elim
    | list =>
      simp only [pTy] at h
      split at h
      · rename_i W
        simp only [Reps] at rv
        obtain ⟨v, r, rfl, a, rfl⟩ := rv
        cases W with
        | ref i =>
          obtain ⟨l, hl, q⟩ := oK_elim h
          exact list_of_ok R a (.inr ⟨_, rfl, hl⟩) q
        | tup l => exact list_of_ok R a (.inl rfl) h
        | _ => exact h.elim
      · exact h.elim
    | _ => exact h.elim
  | _ => exact h.elim

theorem append_ok {i : Nat} {o v : Value} {l : List V} {Q : V → Hp → Prop} {W : V} (R : HRel D γ H s.heap) (ro : Rep D γ s.heap o (.ref i)) (r : Rep D γ s.heap v W) (hl : listAt H i = some l) (hz : l.length ≤ 1000000)
    (q : Q .none (H.set i (.list (l ++ [W])))) : wpAny D.M A (call (.builtin "list.append") [o, v]) (PostV D γ s Q) E s := by
  simp only [Rep] at ro; obtain ⟨a, hi, rfl⟩ := ro
  obtain ⟨vs, n, e, rs, z⟩ := R.list hi hl
  have hlen := rs.length
  refine wpAny_list_append_plain (items := vs.toArray) ⟨n, e⟩ (fun h' hp hs => ?_) (by simp [sizeLine_eq]; omega)
  obtain ⟨m, hm⟩ := hp
  have em : vs.toArray.push v = (vs ++ [v]).toArray := by simp
  rw [em] at hm
  exact PostV.setList (tk := s.toks) R hi (rs.append (Reps.one r)) (by simp; omega) (fun b o' hb e' => hs.extBut b o' hb e') hm (by simp only [Rep]) q
theorem clear_ok {i : Nat} {o : Value} {l : List V} {Q : V → Hp → Prop} {pos : Pos} (R : HRel D γ H s.heap) (ro : Rep D γ s.heap o (.ref i)) (hl : listAt H i = some l) (q : Q .none (H.set i (.list []))) :
    wpAny D.M A (callWith pos (.builtin "list.clear") [o] [] []) (PostV D γ s Q) E s := by
  simp only [Rep] at ro; obtain ⟨a, hi, rfl⟩ := ro
  obtain ⟨vs, n, e, rs, z⟩ := R.list hi hl
  refine P.clear_list (items := vs.toArray) (n := n) e ?_ (by simp [sizeLine_eq]; omega)
  exact PostV.setList (tk := s.toks) (vs := []) (l := []) R hi (by simp only [Reps]) (Nat.zero_le _) (fun b o' hb e' => (Heap.SameBut.update ..).extBut b o' hb e') (IsL.update e fun _ => #[]) (by simp only [Rep]) q

theorem index_ok {i j : Nat} {o v : Value} {l : List V} {Q : V → Hp → Prop} {W : V} (hA : AOk k A) (R : HRel D γ H s.heap) (ro : Rep D γ s.heap o (.ref i)) (r : Rep D γ s.heap v W) (hl : listAt H i = some l) (hj : idxV W l = some j)
    (q : Q (.int (j : Int)) H) : wpAny D.M A (call (.builtin "list.index") [o, v]) (PostV D γ s Q) E s := by
  unfold idxV at hj
  split at hj
  · rename_i d ds h1 h2
    split at hj
    · rename_i hd
      obtain ⟨as, r1, c1⟩ := toPy_reads r h1
      obtain ⟨bs, r2, c2⟩ := toPyH_reads (d := .list ds) R ro (by simp [toPyH, hl, h2])
      simp only [Rep] at ro; obtain ⟨a, hi, rfl⟩ := ro
      obtain ⟨vs, n, e, rs, z⟩ := R.list hi hl
      have hlen := rs.length
      cases r2 with
      | list h3 h4 h5 h6 =>
        rw [e] at h3
        cases h3
        cases h5
        have hm := SeqAt.readsAll_map _ _ _ c2 h6
        simp only at hm
        obtain ⟨hj1, hj2, hj3⟩ := List.findIdx?_eq_some_iff_getElem.mp hj
        have hj4 : j < vs.length := by rw [← hm] at hj1; simpa using hj1
        refine call_meets F.slot_list_index ⟨_, e, rfl⟩ F.entry_list_index (F.args_list_index_2 _ _)
          (SeqAt.list_indexAt a vs.toArray n none #[] v (fun y => PyData.eqv (SeqAt.readOf s.heap y) d) j (by simpa using hj4) (by omega) ?_ ?_)
          ⟨e, SeqAt.items_eqAt h6 r1 c2 c1 (room1 hA hd), PostV.now R (by simp only [Rep]; exact ⟨_, rfl⟩) q⟩
        · subst hm; simpa using hj2
        · intro m hm1 hm2
          subst hm
          have := hj3 m hm2
          simpa using this
    · cases hj
  · cases hj
end
end Mine

set_option autoImplicit false
/- The expressions' trees. -/
namespace Mine
open PySem PyProof.Rows

section
variable {D : Wd} {Φ : Orc} {k : Nat}

theorem mapO_cons {α β : Type} {f : α → Option β} {a : α} {r : List α} {l : List β} (h : mapO f (a :: r) = some l) : ∃ b bs, l = b :: bs ∧ f a = some b ∧ mapO f r = some bs := by
  simp only [mapO] at h
  split at h
  · rename_i b bs h1 h2; cases h; exact ⟨b, bs, rfl, h1, h2⟩
  · cases h
theorem mapO_nil {α β : Type} {f : α → Option β} {l : List β} (h : mapO f ([] : List α) = some l) : l = [] := by cases h; rfl

theorem starEach_of {env : Env} {pos : Pos} : ∀ {args : List Expr}, args.any isStar = false → backTo pos (starEach args env) = args.map fun e => (false, eval e env)
  | [], _ => rfl
  | e :: r, h => by
    simp only [List.any_cons, Bool.or_eq_false_iff] at h
    have ih := starEach_of (env := env) (pos := pos) h.2
    have e1 : starEach (e :: r) env = (false, eval e env) :: starEach r env := by
      cases e <;> first | rfl | (simp [isStar] at h)
    rw [e1]
    show ((false, eval e env) :: backTo pos (starEach r env)) = _
    rw [ih]; rfl

theorem spliced_ok {c : CC} {n : Nat} (ih : ∀ e ie, compE n c e = some ie → SE D Φ k c e ie) {env : Env} {A : Around} {X : XL} (he : EnvOk c env) (hA : AOk k A) {L : Lc} : ∀ (args : List Expr) (ies : List IE) (γ : List Addr) (H : Hp) (s : Shared) (Q : List V → Hp → Prop),
    mapO (compE n c) args = some ies → HRel D γ H s.heap → LRel D γ env c.slots s.heap L → wpEs Φ ies L H Q X →
    wpAny D.M A (spliced (args.map fun e => (false, eval e env))) (PostL D γ s Q) (PostX D γ s X) s
  | [], ies, γ, H, s, Q, hm, R, _, h => by
    rw [mapO_nil hm] at h
    exact Calls.spliced_nil ⟨γ, [], H, Stp.refl, R, by simp only [Reps], h⟩
  | e :: r, ies, γ, H, s, Q, hm, R, l, h => by
    obtain ⟨b, bs, rfl, h1, h2⟩ := mapO_cons hm
    refine Calls.spliced_cons (andThen (ih e b h1 env A γ H s L _ X he hA R l h) ?_)
    intro v s1 γ1 V H1 st R1 rv q
    refine wpAny_mono (spliced_ok ih he hA r bs γ1 H1 s1 _ h2 R1 (l.stp R st) q) (fun vs s2 p => ?_) (fun _ _ x => x.back st R1)
    obtain ⟨γ2, Vs, H2, st2, R2, rvs, q2⟩ := p
    exact ⟨γ2, V :: Vs, H2, st.trans0 R1 st2, R2, by simp only [Reps]; exact ⟨v, vs, rfl, rv.stp0 R1 st2, rvs⟩, q2⟩

theorem evalArgs_ok {c : CC} {n : Nat} (ih : ∀ e ie, compE n c e = some ie → SE D Φ k c e ie) {env : Env} {A : Around} {X : XL} (he : EnvOk c env) (hA : AOk k A) {L : Lc} {args : List Expr} {ies : List IE} {γ : List Addr} {H : Hp} {s : Shared} {Q : List V → Hp → Prop} {f : Value}
    (hm : mapO (compE n c) args = some ies) (R : HRel D γ H s.heap) (l : LRel D γ env c.slots s.heap L) (h : wpEs Φ ies L H Q X) :
    wpAny D.M A (evalArgs f true (args.map fun e => (false, eval e env)) []) (fun a s' => a.kw = [] ∧ PostL D γ s Q a.pos s') (PostX D γ s X) s := by
  have hs := spliced_ok ih he hA args ies γ H s Q hm R l h
  cases args with
  | nil =>
    rw [mapO_nil hm] at h
    exact evalArgs_nil3 ⟨rfl, γ, [], H, Stp.refl, R, by simp only [Reps], h⟩
  | cons e r => exact Calls.evalArgs_plain (wpAny_mono hs (fun vs s' p => ⟨rfl, p⟩) fun _ _ x => x)

theorem name_ok {c : CC} {env : Env} {A : Around} {γ : List Addr} {H : Hp} {s : Shared} {L : Lc} {Q : V → Hp → Prop} {X : XL} {x : Str} {pos : Pos} {ie : IE} (g : GOk D c.G) (he : EnvOk c env) (R : HRel D γ H s.heap) (l : LRel D γ env c.slots s.heap L)
    (hc : nameV c x = some ie) (h : (wp2 Φ ie).E L H Q X) : wpAny D.M A (eval (.Name x pos) env) (PostV D γ s Q) (PostX D γ s X) s := by
  unfold nameV at hc
  split at hc
  · cases hc
  · rename_i hd
    have hd' : (x == ("__debug__" : Str)) = false := by simpa using hd
    have hkf : env.scope.kind = .function := by rw [he.scope]; exact he.kind
    split at hc
    · rename_i hk
      rw [Option.map_eq_some_iff] at hc
      obtain ⟨V, hV, rfl⟩ := hc
      have hk' : env.kindOf x = some .globalImplicit := by unfold Env.kindOf; rw [he.scope]; exact hk
      obtain ⟨v, hv, rv⟩ := g.val x V hV
      refine Calls.Name_function_global hkf hk' ?_ hd'
      have rr : Rep D γ s.heap v V := Rep.mono ⟨[], by simp⟩ (fun _ _ => tupAt_grow R.base) (rv γ)
      rcases hv with hv | ⟨hv1, hv2⟩
      · exact Calls.loadGlobal_global (by rw [he.globals]; exact g.gns.keeps R.base) hv (PostV.here R rr h)
      · exact Calls.loadGlobal_builtin (by rw [he.globals]; exact g.gns.keeps R.base) hv1 (by rw [he.builtins]; exact g.bns.keeps R.base) hv2 (PostV.here R rr h)
    · rename_i hk
      rw [Option.map_eq_some_iff] at hc
      obtain ⟨i, hi, rfl⟩ := hc
      have hk' : env.kindOf x = some .local := by unfold Env.kindOf; rw [he.scope]; exact hk
      obtain ⟨V, hL, q⟩ := oKK_elim h
      obtain ⟨m, hn, f⟩ := l.ns
      obtain ⟨v, hv, rv⟩ := f x i V hk' hi hL
      exact wpAny_Name (wpAny_loadName_local hkf hk' hn hv (PostV.here R rv q)) hd'
    · rename_i hk
      rw [Option.map_eq_some_iff] at hc
      obtain ⟨i, hi, rfl⟩ := hc
      have hk' : env.kindOf x = some .cell := by unfold Env.kindOf; rw [he.scope]; exact hk
      obtain ⟨V, hL, q⟩ := oKK_elim h
      obtain ⟨ca, u, hca, hcell, _, f⟩ := l.cel x hk'
      obtain ⟨v, rfl, rv⟩ := f i V hi hL
      exact wpAny_Name (wpAny_loadName_cell hkf hk' hca hcell (PostV.here R rv q)) hd'
    · cases hc

theorem globV_lit {c : CC} {x : Str} {V : V} (h : globV c x = some V) : nameV c x = some (.lit V) := by
  unfold globV at h
  unfold nameV
  split at h
  · cases h
  · rename_i hd
    rw [if_neg hd]
    split at h
    · rename_i hk; rw [hk]; simp [h]
    · cases h

theorem const_ok {env : Env} {A : Around} {γ : List Addr} {H : Hp} {s : Shared} {Q : V → Hp → Prop} {X : XL} {kk : Const} {n : Nat} {pos : Pos} {W : V} (R : HRel D γ H s.heap) (hc : constV kk = some W) (q : Q W H) :
    wpAny D.M A (eval (.Constant kk n pos) env) (PostV D γ s Q) (PostX D γ s X) s := by
  cases kk with
  | none => cases hc; exact Constant_none (PostV.here R (by simp only [Rep]) q)
  | bool b => cases hc; exact Constant_bool (PostV.here R (by simp only [Rep]) q)
  | int i => cases hc; exact wpAny_Constant_int (PostV.now R (by simp only [Rep]; exact ⟨_, rfl⟩) q)
  | str x =>
    simp only [constV] at hc
    split at hc
    · rename_i hf
      cases hc; exact Calls.Constant_str (PostV.now R (by simp only [Rep]; exact ⟨_, rfl, hf⟩) q)
    · cases hc
  | float x => cases hc
  | complex a b => cases hc
  | bytes b => cases hc
  | ellipsis => cases hc

theorem orc_call {D : Wd} {A : Around} {γ : List Addr} {H : Hp} {s : Shared} {Q : V → Hp → Prop} {X : XL} {pos : Pos} {f : Value} {W : V} {trees : List (Bool × Sem Value)} {QL : List V → Hp → Prop} (hO : OrcOk D k Φ) (hA : AOk k A)
    (R : HRel D γ H s.heap) (rf : Rep D γ s.heap f W) (hp : trees.any (·.1) = false)
    (ha : wpAny D.M A (evalArgs f true trees []) (fun a s' => a.kw = [] ∧ PostL D γ s QL a.pos s') (PostX D γ s X) s)
    (hq : ∀ vs H1, QL vs H1 → pCall Φ W vs H1 Q X) : wpAny D.M A (callWith pos f [] trees []) (PostV D γ s Q) (PostX D γ s X) s := by
  have nonfn : (∀ x, W ≠ .fn x) → ∀ (a : Args) (s1 : Shared), (a.kw = [] ∧ PostL D γ s QL a.pos s1) → wpAny D.M A (call f ([] ++ a.pos) a.kw) (PostV D γ s Q) (PostX D γ s X) s1 := by
    rintro hn ⟨ps, kw⟩ s1 ⟨hk, γ1, Vs, H1, st, R1, rv, q⟩
    simp only at hk; subst hk
    exact backV st R1 (call_ok hA R1 (rf.stp0 R st) rv (hq _ _ q) hn)
  cases W with
  | fn x =>
    simp only [Rep] at rf
    obtain ⟨a, rfl, hx⟩ := rf
    have hfun : ∀ (b : Args) (s1 : Shared), (b.kw = [] ∧ PostL D γ s QL b.pos s1) → (∃ o fd, s1.heap.get? a = some o ∧ o.data = .func fd) ∧ wpAny D.M A (call (.ref a) ([] ++ b.pos) b.kw) (PostV D γ s Q) (PostX D γ s X) s1 := by
      rintro ⟨ps, kw⟩ s1 ⟨hk, γ1, Vs, H1, st, R1, rv, q⟩
      simp only at hk; subst hk
      obtain ⟨⟨o, fd, e1, e2⟩, hc⟩ := hO x Vs H1 Q X (hq _ _ q) A γ1 s1 ps a hA R1 rv hx
      exact ⟨⟨o, fd, R1.base _ _ e1, e2⟩, backV st R1 hc⟩
    unfold callWith
    refine wpAny_bind (wpAny_holding (wpAny_mono ha (fun b s1 hb => wpAny_bind (wpAny_standAt ?_)) fun _ _ x => x))
    obtain ⟨⟨o, fd, e1, e2⟩, hc⟩ := hfun b s1 hb
    have tail : ∀ {t : Sem Value}, wpAny D.M A t (PostV D γ s Q) (PostX D γ s X) s1 → wpAny D.M A (t >>= fun r => holding [r] point >>= fun _ => pure r) (PostV D γ s Q) (PostX D γ s X) s1 :=
      fun ht => wpAny_bind (wpAny_mono ht (fun r s₂ hr => wpAny_bind (wpAny_holding (wpAny_point (wpAny_pure hr)))) fun _ _ x => x)
    simp only [hp, List.any_nil, Bool.or_false]
    refine wpAny_bind (m := keeperOf (.ref a)) ?_
    unfold keeperOf
    refine wpAny_bind (wpAny_load e1 ?_)
    rw [e2]
    refine wpAny_pure ?_
    refine wpAny_ite ?_
    split
    · exact tail hc
    · exact tail (by unfold callMarked; exact Calls.wpAny_keep hc)
  | ty n =>
    simp only [Rep] at rf; subst rf
    exact PyProof.Rows.callWith_type hp (wpAny_mono ha (nonfn (by intro x h; cases h)) fun _ _ x => x)
  | bi n =>
    simp only [Rep] at rf; subst rf
    exact Calls.callWith_builtin hp (wpAny_mono ha (nonfn (by intro x h; cases h)) fun _ _ x => x)
  | none =>
    unfold callWith
    refine wpAny_bind (wpAny_holding (wpAny_mono ha (fun b s1 hb => ?_) fun _ _ x => x))
    obtain ⟨_, γ1, Vs, H1, _, _, _, q⟩ := hb
    exact (hq _ _ q).elim
  | bool b =>
    unfold callWith
    refine wpAny_bind (wpAny_holding (wpAny_mono ha (fun b s1 hb => ?_) fun _ _ x => x))
    obtain ⟨_, γ1, Vs, H1, _, _, _, q⟩ := hb
    exact (hq _ _ q).elim
  | int i =>
    unfold callWith
    refine wpAny_bind (wpAny_holding (wpAny_mono ha (fun b s1 hb => ?_) fun _ _ x => x))
    obtain ⟨_, γ1, Vs, H1, _, _, _, q⟩ := hb
    exact (hq _ _ q).elim
  | scr i =>
    unfold callWith
    refine wpAny_bind (wpAny_holding (wpAny_mono ha (fun b s1 hb => ?_) fun _ _ x => x))
    obtain ⟨_, γ1, Vs, H1, _, _, _, q⟩ := hb
    exact (hq _ _ q).elim
  | str x =>
    unfold callWith
    refine wpAny_bind (wpAny_holding (wpAny_mono ha (fun b s1 hb => ?_) fun _ _ x => x))
    obtain ⟨_, γ1, Vs, H1, _, _, _, q⟩ := hb
    exact (hq _ _ q).elim
  | tup l =>
    unfold callWith
    refine wpAny_bind (wpAny_holding (wpAny_mono ha (fun b s1 hb => ?_) fun _ _ x => x))
    obtain ⟨_, γ1, Vs, H1, _, _, _, q⟩ := hb
    exact (hq _ _ q).elim
  | ref i =>
    unfold callWith
    refine wpAny_bind (wpAny_holding (wpAny_mono ha (fun b s1 hb => ?_) fun _ _ x => x))
    obtain ⟨_, γ1, Vs, H1, _, _, _, q⟩ := hb
    exact (hq _ _ q).elim

theorem noSlice {i : Expr} {n : Nat} {c : CC} {ie : IE} (h : compE n c i = some ie) : ∀ lo hi st p, i ≠ .Slice lo hi st p := by
  rintro lo hi st p rfl
  cases n <;> exact nomatch (show (none : Option IE) = some ie from h)

theorem noMarks {r : Expr} {n : Nat} {c : CC} {ie : IE} {op : CmpOp} (h : compE n c r = some ie) : behindInMarks op r = false := by
  cases r <;> first | rfl | (cases n <;> exact nomatch (show (none : Option IE) = some ie from h))

theorem ifP_true {A B : Prop} (h : ifP true A B) : A := h
theorem ifP_false {A B : Prop} (h : ifP false A B) : B := h

/- the truth of a tree by its value -/
theorem st_plain {c : CC} {e : Expr} {ie : IE} (h : SE D Φ k c e ie) (hT : (wp2 Φ ie).T = fun L H Q X => (wp2 Φ ie).E L H (fun v H1 => tX H1 v fun c => Q c H1) X)
    (he : ∀ env whole, isTrue e env whole = (do let v ← whole; standAt e.pos; holding [v] (truthy v))) : ST D Φ k c e ie := by
  intro env A γ H s L Q X hE hA R l w
  rw [hT] at w
  refine isTrue_plain (andThen (h env A γ H s L _ X hE hA R l w) ?_) (he _ _)
  intro v s1 γ1 V H1 st R1 rv q
  obtain ⟨b, hb, q⟩ := tX_elim q
  exact backB st R1 (truth_ok R1 rv hb q)
end
end Mine

set_option autoImplicit false
/- The expressions, one tree at a time. -/
namespace Mine
open PySem PyProof.Rows

noncomputable def Both (D : Wd) (Φ : Orc) (k : Nat) (c : CC) (e : Expr) (ie : IE) : Prop := SE D Φ k c e ie ∧ ST D Φ k c e ie

section
variable {D : Wd} {Φ : Orc} {k : Nat} {c : CC}

theorem both_plain {e : Expr} {ie : IE} (h : SE D Φ k c e ie) (hT : (wp2 Φ ie).T = fun L H Q X => (wp2 Φ ie).E L H (fun v H1 => tX H1 v fun c => Q c H1) X)
    (he : ∀ env whole, isTrue e env whole = (do let v ← whole; standAt e.pos; holding [v] (truthy v))) : Both D Φ k c e ie := ⟨h, st_plain h hT he⟩

theorem e_name (g : GOk D c.G) {x : Str} {pos : Pos} {ie : IE} (hc : nameV c x = some ie) : Both D Φ k c (.Name x pos) ie := by
  have hT : (wp2 Φ ie).T = fun L H Q X => (wp2 Φ ie).E L H (fun v H1 => tX H1 v fun c => Q c H1) X := by
    unfold nameV at hc
    split at hc
    · cases hc
    · split at hc <;> first | (rw [Option.map_eq_some_iff] at hc; obtain ⟨_, _, rfl⟩ := hc; rfl) | cases hc
  exact both_plain (fun env A γ H s L Q X hE hA R l w => name_ok g hE R l hc w) hT (fun _ _ => rfl)

theorem e_const {kk : Const} {n : Nat} {pos : Pos} {W : V} (hc : constV kk = some W) : Both D Φ k c (.Constant kk n pos) (.lit W) :=
  both_plain (fun _ _ _ _ _ _ _ _ _ _ R _ w => const_ok R hc w) rfl (fun _ _ => rfl)

theorem e_bin {l r : Expr} {op : Operator} {pos : Pos} {a b : IE} (ha : SE D Φ k c l a) (hb : SE D Φ k c r b) : Both D Φ k c (.BinOp l op r pos) (.bin op a b) := by
  refine both_plain (fun env A γ H s L Q X hE hA R lr w => ?_) rfl (fun _ _ => rfl)
  refine wpAny_BinOp (andThen (ha env A γ H s L _ X hE hA R lr w) ?_)
  intro va s1 γ1 Va H1 st R1 ra q
  refine thenV st R1 (hb env A γ1 H1 s1 L _ X hE hA R1 (lr.stp R st) q) ?_
  intro vb s2 γ2 Vb H2 st2 R2 rb q2
  exact backV (st.trans0 R1 st2) R2 (bin_ok R2 (ra.stp0 R1 st2) rb q2)

theorem e_neg {x : Expr} {pos : Pos} {a : IE} (ha : SE D Φ k c x a) : Both D Φ k c (.UnaryOp .USub x pos) (.neg a) := by
  refine both_plain (fun env A γ H s L Q X hE hA R lr w => ?_) rfl (fun _ _ => rfl)
  refine UnaryOp_ (andThen (ha env A γ H s L _ X hE hA R lr w) ?_)
  intro va s1 γ1 Va H1 st R1 ra q
  split at q
  · exact backV st R1 (neg_ok R1 ra q)
  · exact q.elim

theorem e_not {x : Expr} {pos : Pos} {a : IE} (ha : Both D Φ k c x a) : Both D Φ k c (.UnaryOp .Not x pos) (.not a) := by
  refine ⟨fun env A γ H s L Q X hE hA R lr w => ?_, fun env A γ H s L Q X hE hA R lr w => ?_⟩
  · refine UnaryOp_ (andThen (ha.1 env A γ H s L _ X hE hA R lr w) ?_)
    intro va s1 γ1 Va H1 st R1 ra q
    obtain ⟨b, hb, q⟩ := tX_elim q
    refine not_of (wpAny_mono (truth_ok (Q := fun d H' => d = b ∧ Q (.bool (!b)) H') (E := PostX D γ s X) R1 ra hb ⟨rfl, q⟩) (fun d s2 p => ?_) fun _ _ x => x)
    obtain ⟨γ2, H2, st2, R2, rfl, q2⟩ := p
    exact ⟨γ2, _, H2, st.trans0 R1 st2, R2, by simp only [Rep], q2⟩
  · refine isTrue_not (wpAny_mono (ha.2 env A γ H s L _ X hE hA R lr w) (fun d s2 p => ?_) fun _ _ x => x)
    obtain ⟨γ2, H2, st2, R2, q2⟩ := p
    exact ⟨γ2, H2, st2, R2, q2⟩

theorem e_cmp {l r : Expr} {op : CmpOp} {pos : Pos} {a b : IE} (ha : SE D Φ k c l a) (hb : SE D Φ k c r b) (hm : behindInMarks op r = false) : Both D Φ k c (.Compare l [op] [r] pos) (.cmp a op b) := by
  have key : ∀ env A γ H s L Q X, EnvOk c env → AOk k A → HRel D γ H s.heap → LRel D γ env c.slots s.heap L → (wp2 Φ (.cmp a op b)).E L H Q X →
      wpAny D.M A (eval l env) (fun va s₁ => wpAny D.M A (eval r env) (fun vb s₂ => wpAny D.M A (compareOp op va vb) (PostV D γ s Q) (PostX D γ s X) s₂) (PostX D γ s X) s₁) (PostX D γ s X) s := by
    intro env A γ H s L Q X hE hA R lr w
    refine andThen (ha env A γ H s L _ X hE hA R lr w) ?_
    intro va s1 γ1 Va H1 st R1 ra q
    refine thenV st R1 (hb env A γ1 H1 s1 L _ X hE hA R1 (lr.stp R st) q) ?_
    intro vb s2 γ2 Vb H2 st2 R2 rb q2
    exact backV (st.trans0 R1 st2) R2 (cmp_ok hA R2 (ra.stp0 R1 st2) rb q2)
  refine ⟨fun env A γ H s L Q X hE hA R lr w => wpAny_Compare1 (key env A γ H s L Q X hE hA R lr w) hm, fun env A γ H s L Q X hE hA R lr w => wpAny_isTrue_Compare1 ?_ hm⟩
  refine wpAny_mono (key env A γ H s L _ X hE hA R lr w) (fun va s1 p => wpAny_mono p (fun vb s2 p2 => wpAny_mono p2 (fun v s3 p3 => ?_) fun _ _ x => x) fun _ _ x => x) fun _ _ x => x
  obtain ⟨γ3, V, H3, st3, R3, rv, q⟩ := p3
  obtain ⟨d, hd, q⟩ := tX_elim q
  exact backB st3 R3 (truth_ok R3 rv hd q)

theorem cmp2_head {l r : Expr} {op op' : CmpOp} {a b d : IE} (ha : SE D Φ k c l a) (hb : SE D Φ k c r b) {env : Env} {A : Around} {γ : List Addr} {H : Hp} {s : Shared} {L : Lc} {Q : V → Hp → Prop} {X : XL}
    (hE : EnvOk c env) (hA : AOk k A) (R : HRel D γ H s.heap) (lr : LRel D γ env c.slots s.heap L) (w : (wp2 Φ (.cmp2 a op b op' d)).E L H Q X) :
    wpAny D.M A (eval l env) (fun va s₁ => wpAny D.M A (eval r env) (fun vb s₂ => wpAny D.M A (compareOp op va vb) (fun cv s₃ => wpAny D.M A (truthy cv) (fun t s₄ =>
      ∃ γ4 Vb Vc H4, Stp [] γ γ4 s s₄ ∧ HRel D γ4 H4 s₄.heap ∧ LRel D γ4 env c.slots s₄.heap L ∧ Rep D γ4 s₄.heap vb Vb ∧ Rep D γ4 s₄.heap cv Vc ∧ truthV H4 Vc = some t ∧ ifP t ((wp2 Φ d).E L H4 (fun vc H4 => pCmp op' Vb vc H4 Q) X) (Q Vc H4))
        (PostX D γ s X) s₃) (PostX D γ s X) s₂) (PostX D γ s X) s₁) (PostX D γ s X) s := by
  refine andThen (ha env A γ H s L _ X hE hA R lr w) ?_
  intro va s1 γ1 Va H1 st R1 ra q
  refine thenV st R1 (hb env A γ1 H1 s1 L _ X hE hA R1 (lr.stp R st) q) ?_
  intro vb s2 γ2 Vb H2 st2 R2 rb q2
  have st02 := st.trans0 R1 st2
  refine thenV st02 R2 (cmp_ok (Q := _) (E := PostX D γ2 s2 X) hA R2 (ra.stp0 R1 st2) rb q2) ?_
  intro cv s3 γ3 Vc H3 st3 R3 rc q3
  obtain ⟨t, ht, q3⟩ := tX_elim q3
  have st03 := st02.trans0 R2 st3
  refine wpAny_mono (truth_ok (Q := fun t' H' => t' = t ∧ H' = H3) (E := PostX D γ s X) R3 rc ht ⟨rfl, rfl⟩) (fun t' s4 p => ?_) fun _ _ x => x
  obtain ⟨γ4, H4, st4, R4, rfl, rfl⟩ := p
  exact ⟨γ4, Vb, Vc, _, st03.trans0 R3 st4, R4, (lr.stp R st03).stp R3 st4, (rb.stp0 R2 st3).stp0 R3 st4, rc.stp0 R3 st4, ht, q3⟩

theorem e_cmp2 {l r r' : Expr} {op op' : CmpOp} {pos : Pos} {a b d : IE} (ha : SE D Φ k c l a) (hb : SE D Φ k c r b) (hd : SE D Φ k c r' d) (hm : behindInMarks op' r' = false) :
    Both D Φ k c (.Compare l [op, op'] [r, r'] pos) (.cmp2 a op b op' d) := by
  have hm' : lastMarks [op, op'] [r, r'] = false := hm
  refine ⟨fun env A γ H s L Q X hE hA R lr w => ?_, fun env A γ H s L Q X hE hA R lr w => ?_⟩
  · refine Compare_chain (wpAny_mono (cmp2_head ha hb hE hA R lr w) (fun va s1 h1 => ?_) fun _ _ x => x) hm'
    refine chain_link (wpAny_mono h1 (fun vb s2 h2 => wpAny_mono h2 (fun cv s3 h3 => wpAny_mono h3 (fun t s4 h4 => ?_) fun _ _ x => x) fun _ _ x => x) fun _ _ x => x)
    obtain ⟨γ4, Vb, Vc, H4, st, R4, l4, rb, rc, ht, q⟩ := h4
    cases t with
    | true =>
      refine chain_last (thenV st R4 (hd env A γ4 _ s4 L _ X hE hA R4 l4 q) ?_)
      intro vd s5 γ5 Vd H5 st5 R5 rd q5
      exact backV (st.trans0 R4 st5) R5 (cmp_ok hA R5 (rb.stp0 R4 st5) rd q5)
    | false => exact ⟨γ4, Vc, H4, st, R4, rc, q⟩
  · refine isTrue_chain (wpAny_mono (cmp2_head ha hb hE hA R lr w) (fun va s1 h1 => ?_) fun _ _ x => x) hm'
    refine test_link (wpAny_mono h1 (fun vb s2 h2 => wpAny_mono h2 (fun cv s3 h3 => wpAny_mono h3 (fun t s4 h4 => ?_) fun _ _ x => x) fun _ _ x => x) fun _ _ x => x)
    obtain ⟨γ4, Vb, Vc, H4, st, R4, l4, rb, rc, ht, q⟩ := h4
    cases t with
    | true =>
      refine test_last (thenV st R4 (hd env A γ4 _ s4 L _ X hE hA R4 l4 q) ?_)
      intro vd s5 γ5 Vd H5 st5 R5 rd q5
      refine thenV (st.trans0 R4 st5) R5 (cmp_ok (Q := _) (E := PostX D γ5 s5 X) hA R5 (rb.stp0 R4 st5) rd q5) ?_
      intro v s6 γ6 V6 H6 st6 R6 r6 q6
      obtain ⟨t6, ht6, q6⟩ := tX_elim q6
      exact backB ((st.trans0 R4 st5).trans0 R5 st6) R6 (truth_ok R6 r6 ht6 q6)
    | false =>
      obtain ⟨t', ht', q'⟩ := tX_elim q
      rw [ht] at ht'; cases ht'
      exact ⟨γ4, H4, st, R4, q'⟩

theorem e_ite {t a b : Expr} {pos : Pos} {it ia ib : IE} (ht : Both D Φ k c t it) (ha : Both D Φ k c a ia) (hb : Both D Φ k c b ib) : Both D Φ k c (.IfExp t a b pos) (.ite it ia ib) := by
  refine ⟨fun env A γ H s L Q X hE hA R lr w => ?_, fun env A γ H s L Q X hE hA R lr w => ?_⟩
  · refine IfExp_ (andThenB (ht.2 env A γ H s L _ X hE hA R lr w) ?_)
    intro v s1 γ1 H1 st R1 q
    cases v with
    | true => exact backV st R1 (ha.1 env A γ1 H1 s1 L Q X hE hA R1 (lr.stp R st) q)
    | false => exact backV st R1 (hb.1 env A γ1 H1 s1 L Q X hE hA R1 (lr.stp R st) q)
  · refine isTrue_IfExp (andThenB (ht.2 env A γ H s L _ X hE hA R lr w) ?_)
    intro v s1 γ1 H1 st R1 q
    cases v with
    | true => exact backB st R1 (ha.2 env A γ1 H1 s1 L Q X hE hA R1 (lr.stp R st) q)
    | false => exact backB st R1 (hb.2 env A γ1 H1 s1 L Q X hE hA R1 (lr.stp R st) q)

theorem e_and : ∀ {vs : List Expr} {ies : List IE} {pos : Pos} {ie : IE} {n : Nat}, (∀ e ie, compE n c e = some ie → Both D Φ k c e ie) → mapO (compE n c) vs = some ies → boolGo .and ies = some ie → Both D Φ k c (.BoolOp .And vs pos) ie
  | [], ies, pos, ie, n, ih, hm, hb => by rw [mapO_nil hm] at hb; cases hb
  | [e], ies, pos, ie, n, ih, hm, hb => by
    obtain ⟨b, bs, rfl, h1, h2⟩ := mapO_cons hm
    rw [mapO_nil h2] at hb
    cases hb
    have := ih e ie h1
    refine ⟨fun env A γ H s L Q X hE hA R lr w => BoolOp_one (this.1 env A γ H s L Q X hE hA R lr w), fun env A γ H s L Q X hE hA R lr w => ?_⟩
    refine isTrue_and (wpAny_mono (this.2 env A γ H s L Q X hE hA R lr w) (fun t s1 p => ?_) fun _ _ x => x)
    cases t with
    | true => exact isTrue_and_nil p
    | false => exact p
  | e :: e2 :: r, ies, pos, ie, n, ih, hm, hb => by
    obtain ⟨b, bs, rfl, h1, h2⟩ := mapO_cons hm
    obtain ⟨b2, bs2, rfl, h3, h4⟩ := mapO_cons h2
    simp only [boolGo, Option.map_eq_some_iff] at hb
    obtain ⟨i2, hi2, rfl⟩ := hb
    have rest := e_and (vs := e2 :: r) (pos := pos) ih h2 hi2
    have one := ih e b h1
    refine ⟨fun env A γ H s L Q X hE hA R lr w => ?_, fun env A γ H s L Q X hE hA R lr w => ?_⟩
    · refine BoolOp_and (andThen (one.1 env A γ H s L _ X hE hA R lr w) ?_)
      intro va s1 γ1 Va H1 st R1 ra q
      obtain ⟨t, ht, q⟩ := tX_elim q
      refine wpAny_mono (truth_ok (Q := fun t' H' => t' = t ∧ H' = H1) (E := PostX D γ s X) R1 ra ht ⟨rfl, rfl⟩) (fun t' s4 p => ?_) fun _ _ x => x
      obtain ⟨γ4, H4, st4, R4, rfl, rfl⟩ := p
      have st04 := st.trans0 R1 st4
      cases t' with
      | true => exact backV st04 R4 (rest.1 env A γ4 _ s4 L Q X hE hA R4 (lr.stp R st04) q)
      | false => exact ⟨γ4, Va, _, st04, R4, ra.stp0 R1 st4, q⟩
    · refine isTrue_and (andThenB (one.2 env A γ H s L _ X hE hA R lr w) ?_)
      intro v s1 γ1 H1 st R1 q
      cases v with
      | true => exact backB st R1 (rest.2 env A γ1 H1 s1 L Q X hE hA R1 (lr.stp R st) q)
      | false => exact ⟨γ1, H1, st, R1, q⟩

theorem e_or : ∀ {vs : List Expr} {ies : List IE} {pos : Pos} {ie : IE} {n : Nat}, (∀ e ie, compE n c e = some ie → Both D Φ k c e ie) → mapO (compE n c) vs = some ies → boolGo .or ies = some ie → Both D Φ k c (.BoolOp .Or vs pos) ie
  | [], ies, pos, ie, n, ih, hm, hb => by rw [mapO_nil hm] at hb; cases hb
  | [e], ies, pos, ie, n, ih, hm, hb => by
    obtain ⟨b, bs, rfl, h1, h2⟩ := mapO_cons hm
    rw [mapO_nil h2] at hb
    cases hb
    have := ih e ie h1
    refine ⟨fun env A γ H s L Q X hE hA R lr w => BoolOp_one (this.1 env A γ H s L Q X hE hA R lr w), fun env A γ H s L Q X hE hA R lr w => ?_⟩
    refine isTrue_or (wpAny_mono (this.2 env A γ H s L Q X hE hA R lr w) (fun t s1 p => ?_) fun _ _ x => x)
    cases t with
    | true => exact p
    | false => exact isTrue_or_nil p
  | e :: e2 :: r, ies, pos, ie, n, ih, hm, hb => by
    obtain ⟨b, bs, rfl, h1, h2⟩ := mapO_cons hm
    obtain ⟨b2, bs2, rfl, h3, h4⟩ := mapO_cons h2
    simp only [boolGo, Option.map_eq_some_iff] at hb
    obtain ⟨i2, hi2, rfl⟩ := hb
    have rest := e_or (vs := e2 :: r) (pos := pos) ih h2 hi2
    have one := ih e b h1
    refine ⟨fun env A γ H s L Q X hE hA R lr w => ?_, fun env A γ H s L Q X hE hA R lr w => ?_⟩
    · refine BoolOp_or (andThen (one.1 env A γ H s L _ X hE hA R lr w) ?_)
      intro va s1 γ1 Va H1 st R1 ra q
      obtain ⟨t, ht, q⟩ := tX_elim q
      refine wpAny_mono (truth_ok (Q := fun t' H' => t' = t ∧ H' = H1) (E := PostX D γ s X) R1 ra ht ⟨rfl, rfl⟩) (fun t' s4 p => ?_) fun _ _ x => x
      obtain ⟨γ4, H4, st4, R4, rfl, rfl⟩ := p
      have st04 := st.trans0 R1 st4
      cases t' with
      | false => exact backV st04 R4 (rest.1 env A γ4 _ s4 L Q X hE hA R4 (lr.stp R st04) q)
      | true => exact ⟨γ4, Va, _, st04, R4, ra.stp0 R1 st4, q⟩
    · refine isTrue_or (andThenB (one.2 env A γ H s L _ X hE hA R lr w) ?_)
      intro v s1 γ1 H1 st R1 q
      cases v with
      | false => exact backB st R1 (rest.2 env A γ1 H1 s1 L Q X hE hA R1 (lr.stp R st) q)
      | true => exact ⟨γ1, H1, st, R1, q⟩

theorem e_tup {es : List Expr} {kk : Nat} {pos : Pos} {ies : List IE} {n : Nat} (ih : ∀ e ie, compE n c e = some ie → SE D Φ k c e ie) (hs : es.any isStar = false) (hm : mapO (compE n c) es = some ies) :
    Both D Φ k c (.Tuple es kk pos) (.tup ies) := by
  refine both_plain (fun env A γ H s L Q X hE hA R lr w => ?_) rfl (fun _ _ => rfl)
  refine wpAny_Tuple (wpAny_mono (by rw [starEach_of hs]; exact spliced_ok ih hE hA es ies γ H s _ hm R lr w) (fun vs s1 p => ?_) fun _ _ x => x)
  obtain ⟨γ1, Vs, H1, st, R1, rv, hz, q⟩ := p
  have hl := rv.length
  exact ⟨by rw [sizeLine_eq]; omega, (PostV.newTuple R1 rv (by omega) q).back st R1⟩

theorem e_lst {es : List Expr} {pos : Pos} {ies : List IE} {n : Nat} (ih : ∀ e ie, compE n c e = some ie → SE D Φ k c e ie) (hs : es.any isStar = false) (hm : mapO (compE n c) es = some ies) :
    Both D Φ k c (.List es pos) (.lst ies) := by
  refine both_plain (fun env A γ H s L Q X hE hA R lr w => ?_) rfl (fun _ _ => rfl)
  refine wpAny_List (wpAny_mono (by rw [starEach_of hs]; exact spliced_ok ih hE hA es ies γ H s _ hm R lr w) (fun vs s1 p => ?_) fun _ _ x => x)
  obtain ⟨γ1, Vs, H1, st, R1, rv, hz, q⟩ := p
  have hl := rv.length
  exact ⟨by rw [sizeLine_eq]; omega, (PostV.newList R1 rv (by omega) q).back st R1⟩

theorem e_sub {o i : Expr} {pos : Pos} {a b : IE} (ha : SE D Φ k c o a) (hb : SE D Φ k c i b) (hs : ∀ lo hi st p, i ≠ .Slice lo hi st p) : Both D Φ k c (.Subscript o i pos) (.sub a b) := by
  refine both_plain (fun env A γ H s L Q X hE hA R lr w => ?_) rfl (fun _ _ => rfl)
  refine Subscript_ (andThen (ha env A γ H s L _ X hE hA R lr w) ?_)
  intro va s1 γ1 Va H1 st R1 ra q
  refine thenV st R1 (hb env A γ1 H1 s1 L _ X hE hA R1 (lr.stp R st) q) ?_
  intro vb s2 γ2 Vb H2 st2 R2 rb q2
  exact backV (st.trans0 R1 st2) R2 (sub_ok R2 (ra.stp0 R1 st2) rb q2 hs)

theorem e_call {f : Str} {fp pos : Pos} {args : List Expr} {W : V} {ies : List IE} {n : Nat} (g : GOk D c.G) (hO : OrcOk D k Φ) (ih : ∀ e ie, compE n c e = some ie → SE D Φ k c e ie) (hs : args.any isStar = false) (hf : globV c f = some W)
    (hm : mapO (compE n c) args = some ies) : Both D Φ k c (.Call (.Name f fp) args [] pos) (.call W ies) := by
  refine both_plain (fun env A γ H s L Q X hE hA R lr w => ?_) rfl (fun _ _ => rfl)
  refine wpAny_Call_ofName (andThen (name_ok (Φ := Φ) (Q := fun V H' => V = W ∧ H' = H) g hE R lr (globV_lit hf) ⟨rfl, rfl⟩) ?_)
  intro vf s1 γ1 Vf H1 st R1 rf q
  obtain ⟨rfl, rfl⟩ := q
  refine backV st R1 ?_
  rw [starEach_of hs]
  refine orc_call (QL := fun vs H' => pCall Φ Vf vs H' Q X) hO hA R1 rf (by simp) (evalArgs_ok ih hE hA hm R1 (lr.stp R st) w) (fun _ _ q => q)

theorem e_append {o a : Expr} {apos pos : Pos} {io ia : IE} (ho : SE D Φ k c o io) (ha : SE D Φ k c a ia) (hb : plainBase o = true) (hl : apos.endLine = pos.line) (hs : isStar a = false) :
    Both D Φ k c (.Call (.Attribute o "append" apos) [a] [] pos) (.meth io .append [ia]) := by
  refine both_plain (fun env A γ H s L Q X hE hA R lr w => ?_) rfl (fun _ _ => rfl)
  have e1 : backTo pos (starEach [a] env) = [(false, eval a env)] := by
    rw [starEach_of (by simp [hs])]; rfl
  refine wpAny_Call_append (by cases o <;> first | rfl | (simp [plainBase] at hb)) (by rw [e1]; rfl) (by simp [hl]) e1 (andThen (ho env A γ H s L _ X hE hA R lr w) ?_)
  intro vo s1 γ1 Vo H1 st R1 ro q
  obtain ⟨hm, q⟩ := q
  cases Vo <;> simp only [okMeth] at hm
  rename_i i
  obtain ⟨l0, hl0⟩ := hm
  have ro' := ro
  simp only [Rep] at ro'
  obtain ⟨x, hx, rfl⟩ := ro'
  obtain ⟨vs, n, e, rs, z⟩ := R1.list hx hl0
  refine ⟨x, vs.toArray, rfl, ?_, thenV st R1 (ha env A γ1 H1 s1 L _ X hE hA R1 (lr.stp R st) q) ?_⟩
  · exact ⟨_, n, e, rfl, rfl, rfl⟩
  intro va s2 γ2 Va H2 st2 R2 ra q2
  obtain ⟨l, hl', hz, q2⟩ := oK_elim q2
  exact backV (st.trans0 R1 st2) R2 (append_ok R2 (ro.stp0 R1 st2) ra hl' hz q2)
theorem listTy {D : Wd} {γ : List Addr} {H : Hp} {s : Shared} {i : Nat} {o : Value} {l : List V} (R : HRel D γ H s.heap) (ro : Rep D γ s.heap o (.ref i)) (hl : listAt H i = some l) :
    s.TypeIs o "list" ∧ ∀ a, o = .ref a → ∃ ob, s.heap.get? a = some ob ∧ ob.dict = none := by
  simp only [Rep] at ro
  obtain ⟨x, hx, rfl⟩ := ro
  obtain ⟨vs, n, e, rs, z⟩ := R.list hx hl
  exact ⟨⟨_, e, rfl⟩, fun a ha => by cases ha; exact ⟨_, e, rfl⟩⟩
theorem attrBase {o : Expr} {name : Str} {env : Env} (hb : plainBase o = true) : attributeBase o name env (eval o env) = eval o env := by cases o <;> first | rfl | (simp [plainBase] at hb)
theorem e_clear {o : Expr} {apos pos : Pos} {io : IE} (ho : SE D Φ k c o io) (hb : plainBase o = true) (hl : apos.endLine = pos.line) :
    Both D Φ k c (.Call (.Attribute o "clear" apos) [] [] pos) (.meth io .clear []) := by
  refine both_plain (fun env A γ H s L Q X hE hA R lr w => ?_) rfl (fun _ _ => rfl)
  refine wpAny_Call_method (attrBase hb) rfl (by simp [hl]) F.plainAttrs_list F.slot_list_clear F.type_list_clear (andThen (ho env A γ H s L _ X hE hA R lr w) ?_)
  intro vo s1 γ1 Vo H1 st R1 ro q
  obtain ⟨hm, q⟩ := q
  cases Vo <;> simp only [okMeth] at hm
  rename_i i
  obtain ⟨l, hl'⟩ := hm
  obtain ⟨l2, hl2, q⟩ := oK_elim q
  obtain ⟨h1, h2⟩ := listTy R1 ro hl'
  exact ⟨h1, h2, backV st R1 (clear_ok R1 ro hl2 q)⟩
theorem e_index {o a : Expr} {apos pos : Pos} {io ia : IE} (ho : SE D Φ k c o io) (ha : SE D Φ k c a ia) (hb : plainBase o = true) (hl : apos.endLine = pos.line) (hs : isStar a = false) :
    Both D Φ k c (.Call (.Attribute o "index" apos) [a] [] pos) (.meth io .index [ia]) := by
  refine both_plain (fun env A γ H s L Q X hE hA R lr w => ?_) rfl (fun _ _ => rfl)
  have e1 : backTo pos (starEach [a] env) = [(false, eval a env)] := by
    rw [starEach_of (by simp [hs])]; rfl
  refine wpAny_Call_method (attrBase hb) (by rw [e1]; rfl) (by simp [hl]) F.plainAttrs_list F.slot_list_index F.type_list_index (andThen (ho env A γ H s L _ X hE hA R lr w) ?_)
  intro vo s1 γ1 Vo H1 st R1 ro q
  obtain ⟨hm, q⟩ := q
  cases Vo <;> simp only [okMeth] at hm
  rename_i i
  obtain ⟨l, hl'⟩ := hm
  obtain ⟨h1, h2⟩ := listTy R1 ro hl'
  refine ⟨h1, h2, ?_⟩
  rw [e1]
  refine Calls.callWith_builtin rfl (Calls.evalArgs_plain (Calls.spliced_cons (thenV st R1 (ha env A γ1 H1 s1 L _ X hE hA R1 (lr.stp R st) q) ?_)))
  intro va s2 γ2 Va H2 st2 R2 ra q2
  obtain ⟨l2, hl2, q2⟩ := oK_elim q2
  obtain ⟨j, hj, q2⟩ := oK_elim q2
  exact Calls.spliced_nil (backV (st.trans0 R1 st2) R2 (index_ok hA R2 (ro.stp0 R1 st2) ra hl2 hj q2))
end
end Mine

set_option autoImplicit false
/- What is iterated over: the iterator's state, abstractly. -/
namespace Mine
open PySem PyProof.Rows

structure Itr (D : Wd) (A : Around) (I : Addr) (fp : List Addr) (l : List V) (st : Hp → Prop) (Inv : List Addr → Nat → Heap → Prop) : Prop where
  mem : I ∈ fp
  frame : ∀ γ γ' i h h', Inv γ i h → (∃ δ, γ' = γ ++ δ) → (∀ b ∈ fp, ∀ o, h.get? b = some o → h'.get? b = some o) → (∀ a ws, TupAt h a ws → TupAt h' a ws) → Inv γ' i h'
  notTup : ∀ γ i h ws, Inv γ i h → ¬ TupAt h I ws
  next : ∀ γ H (s : Shared) (i : Nat) (W : V) (Q : Option Value → Shared → Prop) (E : Value → Shared → Prop), l[i]? = some W → HRel D γ H s.heap → I ∉ γ → st H → Inv γ i s.heap →
    (∀ v h' tk, (∃ o, h'.get? I = some o) → (∀ b o, b ≠ I → s.heap.get? b = some o → h'.get? b = some o) → Inv γ (i + 1) h' → Rep D γ h' v W → Q (some v) { s with heap := h', toks := tk }) → wpAny D.M A (pyNext (.ref I)) Q E s
  done : ∀ γ H (s : Shared) (Q : Option Value → Shared → Prop) (E : Value → Shared → Prop), HRel D γ H s.heap → st H → Inv γ l.length s.heap →
    (∀ h' tk, (∀ b o, b ≠ I → s.heap.get? b = some o → h'.get? b = some o) → Q none { s with heap := h', toks := tk }) → wpAny D.M A (pyNext (.ref I)) Q E s
  self : ∀ γ i (s : Shared) (Q : Value → Shared → Prop) (E : Value → Shared → Prop), Inv γ i s.heap → Q (.ref I) s → wpAny D.M A (pyIter (.ref I)) Q E s

section
variable {D : Wd} {A : Around} {k : Nat}

theorem tupAt_but {h h' : Heap} {I : Addr} (hk : ∀ b o, b ≠ I → h.get? b = some o → h'.get? b = some o) (hn : ∀ ws, ¬ TupAt h I ws) {a : Addr} {ws : List Value} (x : TupAt h a ws) : TupAt h' a ws := by
  obtain ⟨n, e, z⟩ := id x
  exact ⟨n, hk _ _ (by rintro rfl; exact hn _ x) e, z⟩

theorem HRel.but {γ : List Addr} {H : Hp} {h h' : Heap} {I : Addr} (R : HRel D γ H h) (hk : ∀ b o, b ≠ I → h.get? b = some o → h'.get? b = some o) (hI : I ∉ γ) (hB : D.hB.get? I = none) (hn : ∀ ws, ¬ TupAt h I ws) : HRel D γ H h' where
  len := R.len
  nodup := R.nodup
  objs := fun i a o e1 e2 => by
    have := R.objs i a o e1 e2
    have ha : a ≠ I := by rintro rfl; exact hI (List.mem_of_getElem? e1)
    cases o with
    | list xs =>
      obtain ⟨vs, n, e, r, z⟩ := this
      exact ⟨vs, n, hk _ _ ha e, Reps.mono ⟨[], by simp⟩ (fun _ _ => tupAt_but hk hn) r, z⟩
  fresh := R.fresh
  base := fun b o e => hk _ _ (by rintro rfl; rw [hB] at e; cases e) (R.base b o e)

noncomputable def rangeInv (I : Addr) (a : Int) (n : Nat) (_ : List Addr) (i : Nat) (h : Heap) : Prop := IsRangeIter h I (a + (i : Int)) ((n : Int) - (i : Int)) 1

theorem itr_range (hA : AOk k A) (I : Addr) (a : Int) (n : Nat) : Itr D A I [I] ((List.range n).map fun (j : Nat) => V.int (a + (j : Int))) (fun _ => True) (rangeInv I a n) where
  mem := by simp
  frame := fun γ γ' i h h' iv _ hk _ => hk I (by simp) _ iv
  notTup := fun γ i h ws iv t => by
    obtain ⟨m, e, _⟩ := t
    have iv' : h.get? I = some _ := iv
    rw [iv'] at e; simp at e
  next := fun γ H s i W Q E hl R hI _ iv hQ => by
    have hi : i < n := by
      have := (List.getElem?_eq_some_iff.mp hl).1; simpa using this
    rw [List.getElem?_map, List.getElem?_range hi] at hl
    simp at hl
    refine wpAny_pyNext_range_item iv (by omega) fun h' hit hs => hQ _ h' _ ⟨_, hit⟩ (fun b o hb e => hs.extBut b o hb e) ?_ ?_
    · show IsRangeIter h' I (a + ((i + 1 : Nat) : Int)) ((n : Int) - ((i + 1 : Nat) : Int)) 1
      have e1 : a + ((i + 1 : Nat) : Int) = a + (i : Int) + 1 := by omega
      have e2 : (n : Int) - ((i + 1 : Nat) : Int) = (n : Int) - (i : Int) - 1 := by omega
      rw [e1, e2]; exact hit
    · subst hl; simp only [Rep]; exact ⟨_, rfl⟩
  done := fun γ H s Q E R _ iv hQ => by
    have iv' : IsRangeIter s.heap I (a + (n : Int)) ((n : Int) - (n : Int)) 1 := by
      have : ((List.range n).map fun (j : Nat) => V.int (a + (j : Int))).length = n := by simp
      rw [this] at iv; exact iv
    exact wpAny_pyNext_range_end hA.handled iv' (by omega) fun h' he => hQ h' s.toks fun b o hb e => he b o hb e
  self := fun γ i s Q E iv q => (Walks.range (prog := D.prog) (w := D.w) (A := A) hA.handled I a 1 n).self i s Q E (by
    show IsRangeIter s.heap I (a + (i : Nat) * 1) ((n : Int) - (i : Nat)) 1
    rw [Int.mul_one]; exact iv) q

noncomputable def tupInv (mg : Wd) (I t : Addr) (vs : List Value) (l : List V) (γ : List Addr) (i : Nat) (h : Heap) : Prop :=
  h.IsTupleIter I t i ∧ TupAt h t vs ∧ Reps mg γ h vs l

theorem itr_tup (hA : AOk k A) (I t : Addr) (hne : t ≠ I) (vs : List Value) (l : List V) : Itr D A I [I, t] l (fun _ => True) (tupInv D I t vs l) where
  mem := by simp
  frame := fun γ γ' i h h' iv hg hk ht => by
    obtain ⟨⟨o, e, c, d⟩, b, r⟩ := iv
    exact ⟨⟨o, hk I (by simp) o e, c, d⟩, ht _ _ b, Reps.mono hg ht r⟩
  notTup := fun γ i h ws iv x => by
    obtain ⟨⟨o, e, c, d⟩, _⟩ := iv
    obtain ⟨m, e', _⟩ := x
    rw [e] at e'; cases e'; simp at c
  next := fun γ H s i W Q E hl R hI _ iv hQ => by
    obtain ⟨it, ta, rs⟩ := iv
    have hnt : ∀ ws, ¬ TupAt s.heap I ws := fun ws x => by
      obtain ⟨o, e, c, d⟩ := it
      obtain ⟨m, e', _⟩ := x
      rw [e] at e'; cases e'; simp at c
    obtain ⟨v, hv, rv⟩ := rs.get hl
    refine wpAny_pyNext_tuple_item it ta.isTuple (x := v) (by simpa using hv) fun h' hit hs => ?_
    have hk : ∀ b o, b ≠ I → s.heap.get? b = some o → h'.get? b = some o := fun b o hb e => hs.extBut b o hb e
    have ht : ∀ a ws, TupAt s.heap a ws → TupAt h' a ws := fun _ _ => tupAt_but hk hnt
    exact hQ v h' s.toks (let ⟨o, e, _⟩ := hit; ⟨o, e⟩) hk ⟨hit, ht _ _ ta, Reps.mono ⟨[], by simp⟩ ht rs⟩ (Rep.mono ⟨[], by simp⟩ ht rv)
  done := fun γ H s Q E R _ iv hQ => by
    obtain ⟨it, ta, rs⟩ := iv
    exact wpAny_pyNext_tuple_end hA.handled it ta.isTuple (by simp [rs.length]) fun h' he => hQ h' s.toks fun b o hb e => he b o hb e
  self := fun γ i s Q E iv q => (Walks.tuple (prog := D.prog) (w := D.w) (A := A) hA.handled I t hne vs.toArray).self i s Q E ⟨iv.1, iv.2.1.isTuple⟩ q

noncomputable def lstInv (I a : Addr) (j : Nat) (γ : List Addr) (i : Nat) (h : Heap) : Prop := h.IsListIter I a i ∧ γ[j]? = some a

theorem itr_list (hA : AOk k A) (I a : Addr) (j : Nat) (l : List V) : Itr D A I [I] l (fun H => listAt H j = some l) (lstInv I a j) where
  mem := by simp
  frame := fun γ γ' i h h' iv hg hk ht => by
    obtain ⟨⟨o, e, c, d⟩, b⟩ := iv
    exact ⟨⟨o, hk I (by simp) o e, c, d⟩, getElem?_ext hg b⟩
  notTup := fun γ i h ws iv x => by
    obtain ⟨⟨o, e, c, d⟩, _⟩ := iv
    obtain ⟨m, e', _⟩ := x
    rw [e] at e'; cases e'; simp at c
  next := fun γ H s i W Q E hl R hI hst iv hQ => by
    obtain ⟨it, hj⟩ := iv
    have hnt : ∀ ws, ¬ TupAt s.heap I ws := fun ws x => by
      obtain ⟨o, e, c, d⟩ := it
      obtain ⟨m, e', _⟩ := x
      rw [e] at e'; cases e'; simp at c
    obtain ⟨vs, n, e, rs, z⟩ := R.list hj hst
    obtain ⟨v, hv, rv⟩ := rs.get hl
    refine wpAny_pyNext_list_item it (items := vs.toArray) ⟨_, e, rfl, n, rfl⟩ (x := v) (by simpa using hv) fun h' hit hs => ?_
    have hk : ∀ b o, b ≠ I → s.heap.get? b = some o → h'.get? b = some o := fun b o hb e => hs.extBut b o hb e
    have ht : ∀ a ws, TupAt s.heap a ws → TupAt h' a ws := fun _ _ => tupAt_but hk hnt
    exact hQ v h' s.toks (let ⟨o, e, _⟩ := hit; ⟨o, e⟩) hk ⟨hit, hj⟩ (Rep.mono ⟨[], by simp⟩ ht rv)
  done := fun γ H s Q E R hst iv hQ => by
    obtain ⟨it, hj⟩ := iv
    obtain ⟨vs, n, e, rs, z⟩ := R.list hj hst
    exact wpAny_pyNext_list_end hA.handled it (items := vs.toArray) ⟨_, e, rfl, n, rfl⟩ (by simp [rs.length]) fun h' he => hQ h' s.toks fun b o hb e => he b o hb e
  self := fun γ i s Q E iv q => wpAny_pyIter_listiter iv.1 q

noncomputable def revInv (I a : Addr) (j : Nat) (l : List V) (γ : List Addr) (i : Nat) (h : Heap) : Prop := h.IsRevIter I a ((l.length : Int) - 1 - (i : Int)) ∧ γ[j]? = some a

theorem itr_rev (hA : AOk k A) (I a : Addr) (j : Nat) (l : List V) : Itr D A I [I] l.reverse (fun H => listAt H j = some l) (revInv I a j l) where
  mem := by simp
  frame := fun γ γ' i h h' iv hg hk ht => by
    obtain ⟨⟨o, e, c, d⟩, b⟩ := iv
    exact ⟨⟨o, hk I (by simp) o e, c, d⟩, getElem?_ext hg b⟩
  notTup := fun γ i h ws iv x => by
    obtain ⟨⟨o, e, c, d⟩, _⟩ := iv
    obtain ⟨m, e', _⟩ := x
    rw [e] at e'; cases e'; simp at c
  next := fun γ H s i W Q E hl R hI hst iv hQ => by
    obtain ⟨it, hj⟩ := iv
    have hnt : ∀ ws, ¬ TupAt s.heap I ws := fun ws x => by
      obtain ⟨o, e, c, d⟩ := it
      obtain ⟨m, e', _⟩ := x
      rw [e] at e'; cases e'; simp at c
    obtain ⟨vs, n, e, rs, z⟩ := R.list hj hst
    have hi : i < l.length := by have := (List.getElem?_eq_some_iff.mp hl).1; simpa using this
    rw [List.getElem?_reverse hi] at hl
    obtain ⟨v, hv, rv⟩ := rs.get hl
    have e1 : (l.length : Int) - 1 - (i : Int) = ((l.length - 1 - i : Nat) : Int) := by omega
    rw [e1] at it
    refine wpAny_pyNext_rev_item it (items := vs.toArray) ⟨_, e, rfl, n, rfl⟩ (x := v) (by simpa using hv) fun h' hit hs => ?_
    have hk : ∀ b o, b ≠ I → s.heap.get? b = some o → h'.get? b = some o := fun b o hb e => hs.extBut b o hb e
    have ht : ∀ a ws, TupAt s.heap a ws → TupAt h' a ws := fun _ _ => tupAt_but hk hnt
    refine hQ v h' s.toks (let ⟨o, e, _⟩ := hit; ⟨o, e⟩) hk ⟨?_, hj⟩ (Rep.mono ⟨[], by simp⟩ ht rv)
    have e2 : (l.length : Int) - 1 - ((i + 1 : Nat) : Int) = ((l.length - 1 - i : Nat) : Int) - 1 := by omega
    rw [e2]; exact hit
  done := fun γ H s Q E R hst iv hQ => by
    obtain ⟨it, hj⟩ := iv
    have e1 : (l.length : Int) - 1 - ((l.reverse.length : Nat) : Int) = -1 := by simp; omega
    rw [e1] at it
    exact wpAny_pyNext_rev_end hA.handled it fun h' he => hQ h' s.toks fun b o hb e => he b o hb e
  self := fun γ i s Q E iv q => wpAny_pyIter_revIter iv.1 q

/- what a source hands to a loop -/
noncomputable def SrcPost (D : Wd) (A : Around) (γ : List Addr) (s : Shared) (K : List V → (Hp → Prop) → Hp → Prop) (it : Value) (s2 : Shared) : Prop :=
  ∃ γ2 H2 I fp l st Inv, it = .ref I ∧ Stp [] γ γ2 s s2 ∧ HRel D γ2 H2 s2.heap ∧ Itr D A I fp l st Inv ∧ Inv γ2 0 s2.heap ∧ (∀ b ∈ fp, b ∉ γ2 ∧ (∃ o, s2.heap.get? b = some o) ∧ (b = I ∨ ∃ ws, TupAt s2.heap b ws)) ∧ s.heap.get? I = none ∧ st H2 ∧ l.length ≤ 2000000 ∧ K l st H2

theorem val_src {γ : List Addr} {H : Hp} {s : Shared} {v : Value} {W : V} {K : List V → (Hp → Prop) → Hp → Prop} {E : Value → Shared → Prop} (hA : AOk k A) (R : HRel D γ H s.heap) (r : Rep D γ s.heap v W)
    (h : pSrc .val [W] H (fun l st => K l st H)) : wpAny D.M A (pyIter v) (SrcPost D A γ s K) E s := by
  have grow : ∀ (o : Obj) b o', s.heap.get? b = some o' → (s.heap.push o).get? b = some o' := fun o b o' e => Heap.get?_push_of_some _ e
  have nin : s.heap.objs.size ∉ γ := fun hm => by
    obtain ⟨o, e, _⟩ := R.alive hm
    exact absurd (Heap.lt_size e) (Nat.lt_irrefl _)
  cases W <;> simp only [pSrc] at h
  case tup l =>
    simp only [Rep] at r; obtain ⟨t, vs, rfl, ta, rs⟩ := r
    have hlt : t < s.heap.objs.size := by obtain ⟨n, e, _⟩ := ta; exact Heap.lt_size e
    have htg : t ∉ γ := fun hm => by
      obtain ⟨o, e, nt, _⟩ := R.alive hm
      obtain ⟨n, e', _⟩ := ta
      rw [e'] at e; cases e; exact nt rfl
    refine wpAny_pyIter_tuple ta.isTuple ?_
    refine ⟨γ, H, s.heap.objs.size, [s.heap.objs.size, t], l, fun _ => True, tupInv D s.heap.objs.size t vs l, rfl, ⟨⟨_, s.toks, rfl⟩, fun b o _ _ e => grow _ b o e, ⟨[], by simp, by simp⟩⟩, R.grow (grow _), itr_tup hA _ t (Nat.ne_of_lt hlt) vs l, ?_, ?_, none_end _, trivial, by rw [← rs.length]; exact ta.size, h⟩
    · exact ⟨⟨_, Heap.get?_push_size _ rfl, rfl, rfl⟩, tupAt_grow (grow _) ta, Reps.mono ⟨[], by simp⟩ (fun _ _ => tupAt_grow (grow _)) rs⟩
    · intro b hb
      simp at hb
      rcases hb with rfl | rfl
      · exact ⟨nin, ⟨_, Heap.get?_push_size _ rfl⟩, .inl rfl⟩
      · have ta' := tupAt_grow (grow { cls := .type "tuple_iterator", data := .fields #[.ref b, .int 0 0] }) ta
        obtain ⟨n, e, _⟩ := id ta'
        exact ⟨htg, ⟨_, e⟩, .inr ⟨vs, ta'⟩⟩
  case ref j =>
    obtain ⟨l, hl, h⟩ := oK_elim h
    simp only [Rep] at r; obtain ⟨a, hj, rfl⟩ := r
    obtain ⟨vs, n, e, rs, z⟩ := R.list hj hl
    refine wpAny_pyIter_list (items := vs.toArray) ⟨_, e, rfl, n, rfl⟩ ?_
    refine ⟨γ, H, s.heap.objs.size, [s.heap.objs.size], l, fun H' => listAt H' j = some l, lstInv s.heap.objs.size a j, rfl, ⟨⟨_, s.toks, rfl⟩, fun b o _ _ e => grow _ b o e, ⟨[], by simp, by simp⟩⟩, R.grow (grow _), itr_list hA _ a j l, ?_, ?_, none_end _, hl, by rw [← rs.length]; exact z, h⟩
    · exact ⟨⟨_, Heap.get?_push_size _ rfl, rfl, rfl⟩, hj⟩
    · intro b hb
      simp at hb; subst hb
      exact ⟨nin, ⟨_, Heap.get?_push_size _ rfl⟩, .inl rfl⟩

theorem range_src {γ : List Addr} {H : Hp} {s s0 : Shared} {r : Addr} {a b : Int} {t u v : Tok} {K : List V → (Hp → Prop) → Hp → Prop} {E : Value → Shared → Prop} {γ0 : List Addr} (hA : AOk k A) (st : Stp [] γ0 γ s0 s) (R : HRel D γ H s.heap)
    (hr : IsRange s.heap r a b 1 t u v) (ha : -(2 ^ 62) ≤ a) (ha' : a < 2 ^ 62) (hb : -(2 ^ 62) ≤ b) (hb' : b < 2 ^ 62) (hz : b - a ≤ 1000000) (h : K (rangeL a b) (fun _ => True) H) : wpAny D.M A (pyIter (.ref r)) (SrcPost D A γ0 s0 K) E s := by
  have grow : ∀ (o : Obj) b o', s.heap.get? b = some o' → (s.heap.push o).get? b = some o' := fun o b o' e => Heap.get?_push_of_some _ e
  have nin : s.heap.objs.size ∉ γ := fun hm => by
    obtain ⟨o, e, _⟩ := R.alive hm
    exact absurd (Heap.lt_size e) (Nat.lt_irrefl _)
  refine wpAny_pyIter_range hr (small_one ha ha' hb hb') ?_
  have hsz : Builtin.Range.rangeSize a b 1 = (((b - a).toNat : Nat) : Int) := by rw [rangeSize_one]; split <;> omega
  have hn0 : s0.heap.get? s.heap.objs.size = none := by
    cases q : s0.heap.get? s.heap.objs.size with
    | none => rfl
    | some o =>
      by_cases hg : s.heap.objs.size ∈ γ0
      · obtain ⟨δ, e, _⟩ := st.ext
        exact absurd (by rw [e]; exact List.mem_append_left _ hg) nin
      · exact absurd (Heap.lt_size (st.keep _ _ hg (by simp) q)) (Nat.lt_irrefl _)
  have st' : Stp [] γ γ s { s with heap := s.heap.push { cls := .type "range_iterator", data := .fields #[rawInt a, rawInt (Builtin.Range.rangeSize a b 1), rawInt 1] } } := ⟨⟨_, s.toks, rfl⟩, fun b o _ _ e => grow _ b o e, ⟨[], by simp, by simp⟩⟩
  refine ⟨γ, H, s.heap.objs.size, [s.heap.objs.size], rangeL a b, fun _ => True, rangeInv s.heap.objs.size a (b - a).toNat, rfl, st.trans0 R st', R.grow (grow _), itr_range hA _ a _, ?_, ?_, hn0, trivial, by simp [rangeL]; omega, h⟩
  · show (s.heap.push _).get? s.heap.objs.size = some _
    rw [Heap.get?_push_size _ rfl, hsz]
    simp
  · intro b hb
    simp at hb; subst hb
    exact ⟨nin, ⟨_, Heap.get?_push_size _ rfl⟩, .inl rfl⟩

theorem rev_src {γ : List Addr} {H : Hp} {s s0 : Shared} {ps : List Value} {Vs : List V} {K : List V → (Hp → Prop) → Hp → Prop} {E : Value → Shared → Prop} {γ0 : List Addr} (hA : AOk k A) (st : Stp [] γ0 γ s0 s) (R : HRel D γ H s.heap)
    (rv : Reps D γ s.heap ps Vs) (q : pSrc .rev Vs H (fun l st => K l st H)) : wpAny D.M A (call (.type "reversed") ps) (fun x s1 => wpAny D.M A (pyIter x) (SrcPost D A γ0 s0 K) E s1) E s := by
  have hV : ∃ j l, Vs = [.ref j] ∧ listAt H j = some l ∧ K l.reverse (fun H' => listAt H' j = some l) H := by
    cases Vs with
    | nil => exact q.elim
    | cons W Vs =>
      cases Vs with
      | cons W2 Vs => cases W <;> exact q.elim
      | nil =>
        cases W with
        | ref j => obtain ⟨l, hl, h⟩ := oK_elim q; exact ⟨j, l, rfl, hl, h⟩
        | _ => exact q.elim
  obtain ⟨j, l, rfl, hl, h⟩ := hV
  simp only [Reps, Rep] at rv
  obtain ⟨x, r, rfl, ⟨a, hj, rfl⟩, rfl⟩ := rv
  obtain ⟨vs, n, e, rs, z⟩ := R.list hj hl
  have grow : ∀ (o : Obj) b o', s.heap.get? b = some o' → (s.heap.push o).get? b = some o' := fun o b o' e => Heap.get?_push_of_some _ e
  have nin : s.heap.objs.size ∉ γ := fun hm => by
    obtain ⟨o, e, _⟩ := R.alive hm
    exact absurd (Heap.lt_size e) (Nat.lt_irrefl _)
  have hn0 : s0.heap.get? s.heap.objs.size = none := by
    cases q : s0.heap.get? s.heap.objs.size with
    | none => rfl
    | some o =>
      by_cases hg : s.heap.objs.size ∈ γ0
      · obtain ⟨δ, e, _⟩ := st.ext
        exact absurd (by rw [e]; exact List.mem_append_left _ hg) nin
      · exact absurd (Heap.lt_size (st.keep _ _ hg (by simp) q)) (Nat.lt_irrefl _)
  refine call_reversed_list (items := vs.toArray) ⟨_, e, rfl, n, rfl⟩ ?_
  have hit : (s.heap.push (revObj a ((vs.toArray.size : Int) - 1))).IsRevIter s.heap.objs.size a ((l.length : Int) - 1 - ((0 : Nat) : Int)) := by
    refine ⟨_, Heap.get?_push_size _ rfl, rfl, ?_⟩
    simp [revObj, rs.length]
  refine wpAny_pyIter_revIter hit ?_
  have st' : Stp [] γ γ s { s with heap := s.heap.push (revObj a ((vs.toArray.size : Int) - 1)) } := ⟨⟨_, s.toks, rfl⟩, fun b o _ _ e => grow _ b o e, ⟨[], by simp, by simp⟩⟩
  refine ⟨γ, H, s.heap.objs.size, [s.heap.objs.size], l.reverse, fun H' => listAt H' j = some l, revInv s.heap.objs.size a j l, rfl, st.trans0 R st', R.grow (grow _), itr_rev hA _ a j l, ⟨hit, hj⟩, ?_, hn0, hl, by rw [List.length_reverse, ← rs.length]; exact z, h⟩
  intro b hb
  simp at hb; subst hb
  exact ⟨nin, ⟨_, Heap.get?_push_size _ rfl⟩, .inl rfl⟩

theorem SrcPost.back {γ γ1 : List Addr} {H1 : Hp} {s s1 s2 : Shared} {K : List V → (Hp → Prop) → Hp → Prop} {it : Value} (t : Stp [] γ γ1 s s1) (R : HRel D γ1 H1 s1.heap) (h : SrcPost D A γ1 s1 K it s2) : SrcPost D A γ s K it s2 := by
  obtain ⟨γ2, H2, I, fp, l, st, Inv, e, t2, R2, it, iv, hf, hn, hs, hK⟩ := h
  refine ⟨γ2, H2, I, fp, l, st, Inv, e, t.trans0 R t2, R2, it, iv, hf, ?_, hs, hK⟩
  cases q : s.heap.get? I with
  | none => rfl
  | some o =>
    by_cases hg : I ∈ γ
    · obtain ⟨δ, e1, _⟩ := (t.trans0 R t2).ext
      exact absurd (by rw [e1]; exact List.mem_append_left _ hg) (hf I it.mem).1
    · have := t.keep _ _ hg (by simp) q
      rw [hn] at this; cases this
end

section
variable {D : Wd} {Φ : Orc} {k : Nat} {c : CC}

theorem src_val {n : Nat} {iter : Expr} {ie : IE} {env : Env} {A : Around} {γ : List Addr} {H : Hp} {s : Shared} {L : Lc} {X : XL} {K : List V → (Hp → Prop) → Hp → Prop} (ih : SE D Φ k c iter ie) (hE : EnvOk c env) (hA : AOk k A) (R : HRel D γ H s.heap)
    (lr : LRel D γ env c.slots s.heap L) (w : wpEs Φ [ie] L H (fun vs H1 => pSrc .val vs H1 (fun l st => K l st H1)) X) :
    wpAny D.M A (eval iter env) (fun x s1 => wpAny D.M A (pyIter x) (SrcPost D A γ s K) (PostX D γ s X) s1) (PostX D γ s X) s := by
  refine andThen (ih env A γ H s L _ X hE hA R lr w) ?_
  intro v s1 γ1 V H1 st R1 rv q
  exact wpAny_mono (val_src hA R1 rv q) (fun it s2 p => p.back st R1) fun _ _ x => x

theorem src_ok {n : Nat} {iter : Expr} {kk : SrcK} {ss : List IE} {env : Env} {A : Around} {γ : List Addr} {H : Hp} {s : Shared} {L : Lc} {X : XL} {K : List V → (Hp → Prop) → Hp → Prop} (g : GOk D c.G) (ih : ∀ e ie, compE n c e = some ie → SE D Φ k c e ie)
    (hc : compSrc (compE n c) c iter = some (kk, ss)) (hE : EnvOk c env) (hA : AOk k A) (R : HRel D γ H s.heap)
    (lr : LRel D γ env c.slots s.heap L) (w : wpEs Φ ss L H (fun vs H1 => pSrc kk vs H1 (fun l st => K l st H1)) X) :
    wpAny D.M A (eval iter env) (fun x s1 => wpAny D.M A (pyIter x) (SrcPost D A γ s K) (PostX D γ s X) s1) (PostX D γ s X) s := by
  unfold compSrc at hc
  split at hc
  · rename_i f fp args pos
    split at hc
    · cases hc
    · rename_i hst
      have hs : args.any isStar = false := by
        cases h : args.any isStar <;> simp_all
      split at hc
      · rename_i k' as hk hm
        cases hc
        obtain ⟨W, hW, hk⟩ := Option.bind_eq_some_iff.mp hk
        unfold srcK at hk
        split at hk
        · cases hk
          refine wpAny_Call_ofName (andThen (name_ok (Φ := Φ) (Q := fun V H' => V = .ty .range ∧ H' = H) g hE R lr (globV_lit hW) ⟨rfl, rfl⟩) ?_)
          intro vf s1 γ1 Vf H1 st R1 rf q
          obtain ⟨rfl, rfl⟩ := q
          simp only [Rep] at rf; subst rf
          rw [starEach_of hs]
          refine PyProof.Rows.callWith_type (by simp) (wpAny_mono (evalArgs_ok ih hE hA hm R1 (lr.stp R st) w) (fun b s2 hb => ?_) fun _ _ x => x.back st R1)
          obtain ⟨ps, kw⟩ := b
          obtain ⟨hkw, γ2, Vs, H2, st2, R2, rv, q⟩ := hb
          simp only at hkw rv; subst hkw
          have st02 := st.trans0 R1 st2
          have grow : ∀ (o : Obj) b o', s2.heap.get? b = some o' → (s2.heap.push o).get? b = some o' := fun o b o' e => Heap.get?_push_of_some _ e
          unfold pSrc at q
          split at q
          · cases ‹SrcK.range = SrcK.val›
          · cases ‹SrcK.range = SrcK.val›
          · rename_i b0 _
            simp only [Reps, Rep] at rv
            obtain ⟨x, r, rfl, ⟨t, rfl⟩, rfl⟩ := rv
            refine call_range_1 ?_
            refine range_src (s0 := s) (γ0 := γ) (γ := γ2) (H := H2) hA ?_ (R2.grow (grow _)) (IsRange.new _ _ _ _ _ _ _) (by omega) (by omega) (by omega) (by omega) (by omega) q.2
            exact st02.trans0 R2 ⟨⟨_, _, rfl⟩, fun b o _ _ e => grow _ b o e, ⟨[], by simp, by simp⟩⟩
          · rename_i a0 b0 _
            simp only [Reps, Rep] at rv
            obtain ⟨x, r, rfl, ⟨t, rfl⟩, y, r', rfl, ⟨t', rfl⟩, rfl⟩ := rv
            refine call_range_2 ?_
            refine range_src (s0 := s) (γ0 := γ) (γ := γ2) (H := H2) hA ?_ (R2.grow (grow _)) (IsRange.new _ _ _ _ _ _ _) (by omega) (by omega) (by omega) (by omega) (by omega) q.2
            exact st02.trans0 R2 ⟨⟨_, _, rfl⟩, fun b o _ _ e => grow _ b o e, ⟨[], by simp, by simp⟩⟩
          · cases ‹SrcK.range = SrcK.rev›
          · cases ‹SrcK.range = SrcK.zip›
          · exact q.elim
        · cases hk
          refine wpAny_Call_ofName (andThen (name_ok (Φ := Φ) (Q := fun V H' => V = .ty .reversed ∧ H' = H) g hE R lr (globV_lit hW) ⟨rfl, rfl⟩) ?_)
          intro vf s1 γ1 Vf H1 st R1 rf q
          obtain ⟨rfl, rfl⟩ := q
          simp only [Rep] at rf; subst rf
          rw [starEach_of hs]
          refine PyProof.Rows.callWith_type (by simp) (wpAny_mono (evalArgs_ok ih hE hA hm R1 (lr.stp R st) w) (fun b s2 hb => ?_) fun _ _ x => x.back st R1)
          obtain ⟨ps, kw⟩ := b
          obtain ⟨hkw, γ2, Vs, H2, st2, R2, rv, q⟩ := hb
          simp only at hkw rv; subst hkw
          exact rev_src hA (st.trans0 R1 st2) R2 rv q
        · cases hk
      · rw [Option.map_eq_some_iff] at hc
        obtain ⟨v, hv, he⟩ := hc
        cases he
        exact src_val (n := n) (ih _ _ hv) hE hA R lr w
  · rw [Option.map_eq_some_iff] at hc
    obtain ⟨v, hv, he⟩ := hc
    cases he
    exact src_val (n := n) (ih _ _ hv) hE hA R lr w
end
end Mine

set_option autoImplicit false
/- Comprehensions. -/
namespace Mine
open PySem PyProof.Rows

theorem PostX.no {D : Wd} {γ : List Addr} {s : Shared} {X : XL} {e : Value} {s' : Shared} (h : PostX D γ s X e s') : False := by
  obtain ⟨_, _, _, _, _, x, _⟩ := h; exact x

noncomputable def closGo (env : Env) : List (Str × NameKind) → List (Str × Addr) → List (Str × Addr)
  | [], acc => acc
  | (n, k) :: r, acc => if k == .free then (match env.cells.lookup n with | some a => closGo env r ((n, a) :: acc) | none => closGo env r acc) else closGo env r acc

theorem closGo_eq {env : Env} : ∀ (names : List (Str × NameKind)) (acc : List (Str × Addr)), (∀ x ∈ names, x.2 = .free → ∃ a, env.cells.lookup x.1 = some a) →
    (forIn names acc (fun (x : Str × NameKind) (cs : List (Str × Addr)) => (if x.2 == .free then (do let c ← cellOf env x.1; pure (ForInStep.yield ((x.1, c) :: cs))) else pure (ForInStep.yield cs) : Sem (ForInStep (List (Str × Addr)))))) = pure (closGo env names acc)
  | [], acc, _ => rfl
  | (n, k) :: r, acc, h => by
    have hr : ∀ x ∈ r, x.2 = .free → ∃ a, env.cells.lookup x.1 = some a := fun x hx => h x (List.mem_cons_of_mem _ hx)
    rw [List.forIn_cons, closGo]
    cases hk : (k == NameKind.free) with
    | true =>
      have hk' : k = .free := by simpa using hk
      obtain ⟨a, ha⟩ := h (n, k) List.mem_cons_self hk'
      have : cellOf env n = pure a := by unfold cellOf; simp only at ha; rw [ha]
      simp only at ha
      simp only [if_true, this, ha, pure_bind]
      exact closGo_eq r _ hr
    | false =>
      simp only [Bool.false_eq_true, if_false, pure_bind]
      exact closGo_eq r _ hr

theorem closureFor_go {env : Env} {scope : Scope} (h : ∀ x ∈ scope.names, x.2 = .free → ∃ a, env.cells.lookup x.1 = some a) : closureFor scope env = pure (closGo env scope.names []) := by
  have := closGo_eq scope.names [] h
  unfold closureFor
  have e : (forIn scope.names ([] : List (Str × Addr)) fun x r => (do if (x.2 == NameKind.free) = true then (do let c ← cellOf env x.1; pure (ForInStep.yield ((x.1, c) :: r))) else pure (ForInStep.yield r) : Sem (ForInStep (List (Str × Addr))))) = pure (closGo env scope.names []) := this
  exact (congrArg (fun m : Sem (List (Str × Addr)) => m >>= fun cs => pure cs) e)

theorem closGo_mem {env : Env} : ∀ (names : List (Str × NameKind)) (acc : List (Str × Addr)), (∀ n a, (n, a) ∈ acc → env.cells.lookup n = some a) → ∀ n a, (n, a) ∈ closGo env names acc → env.cells.lookup n = some a
  | [], acc, h, n, a, hm => h n a hm
  | (m, k) :: r, acc, h, n, a, hm => by
    rw [closGo] at hm
    split at hm
    · split at hm
      · rename_i b hb
        refine closGo_mem r _ ?_ n a hm
        intro n' a' hm'
        rcases List.mem_cons.mp hm' with q | q
        · cases q; exact hb
        · exact h n' a' q
      · exact closGo_mem r _ h n a hm
    · exact closGo_mem r _ h n a hm
theorem closGo_keep {env : Env} : ∀ (names : List (Str × NameKind)) (acc : List (Str × Addr)) n a, (n, a) ∈ acc → (n, a) ∈ closGo env names acc
  | [], _, _, _, h => h
  | (m, k) :: r, acc, n, a, h => by
    rw [closGo]
    split
    · split
      · exact closGo_keep r _ n a (List.mem_cons_of_mem _ h)
      · exact closGo_keep r _ n a h
    · exact closGo_keep r _ n a h
theorem closGo_has {env : Env} : ∀ (names : List (Str × NameKind)) (acc : List (Str × Addr)) n a, (n, NameKind.free) ∈ names → env.cells.lookup n = some a → (n, a) ∈ closGo env names acc
  | (m, k) :: r, acc, n, a, h, hl => by
    rw [closGo]
    rcases List.mem_cons.mp h with q | q
    · cases q
      simp only [beq_self_eq_true, if_true, hl]
      exact closGo_keep r _ _ _ List.mem_cons_self
    · split
      · split
        · exact closGo_has r _ n a q hl
        · exact closGo_has r _ n a q hl
      · exact closGo_has r _ n a q hl

theorem lookup_of_mem {l : List (Str × Addr)} {n : Str} {a : Addr} (h : (n, a) ∈ l) : ∃ b, l.lookup n = some b := by
  cases e : l.lookup n with
  | some b => exact ⟨b, rfl⟩
  | none =>
    have := List.lookup_eq_none_iff.mp e (n, a) h
    simp at this

theorem closGo_lookup {env : Env} {names : List (Str × NameKind)} {n : Str} (h : (n, NameKind.free) ∈ names) {a : Addr} (hl : env.cells.lookup n = some a) : (closGo env names []).lookup n = some a := by
  obtain ⟨b, hb⟩ := lookup_of_mem (closGo_has names [] n a h hl)
  have := closGo_mem names [] (by simp) n b (mem_of_lookup hb)
  rw [hl] at this; cases this; exact hb

/- a name of the relabelled block that is a cell was free, and is one outside -/
theorem relab_cell {scope outer : Scope} {y : Str} (hno : ∀ x ∈ scope.names, x.2 ≠ .cell) (h : (relab scope outer).names.lookup y = some .cell) : (y, NameKind.free) ∈ scope.names ∧ outer.names.lookup y = some .cell := by
  unfold relab at h
  simp only at h
  revert h
  generalize scope.names = l at hno
  induction l with
  | nil => intro h; simp at h
  | cons p r ih =>
    obtain ⟨n, k⟩ := p
    intro h
    simp only [List.map_cons] at h
    have ih' := ih (fun x hx => hno x (List.mem_cons_of_mem _ hx))
    by_cases hc : (k == NameKind.free && outer.kind == .function && outer.names.lookup n == some .cell) = true
    · rw [if_pos hc] at h
      rw [List.lookup_cons] at h
      cases hy : y == n with
      | true =>
        have : y = n := by simpa using hy
        subst this
        simp only [Bool.and_eq_true, beq_iff_eq] at hc
        exact ⟨by rw [hc.1.1]; exact List.mem_cons_self, hc.2⟩
      | false =>
        rw [hy] at h
        obtain ⟨a, b⟩ := ih' h
        exact ⟨List.mem_cons_of_mem _ a, b⟩
    · rw [if_neg hc] at h
      rw [List.lookup_cons] at h
      cases hy : y == n with
      | true =>
        rw [hy] at h
        simp only at h
        cases h
        exact absurd rfl (hno (n, .cell) List.mem_cons_self)
      | false =>
        rw [hy] at h
        obtain ⟨a, b⟩ := ih' h
        exact ⟨List.mem_cons_of_mem _ a, b⟩
theorem relab_local {scope outer : Scope} {y : Str} (h : (relab scope outer).names.lookup y = some .local) : (y, NameKind.local) ∈ scope.names := by
  unfold relab at h
  simp only at h
  revert h
  generalize scope.names = l
  induction l with
  | nil => intro h; simp at h
  | cons p r ih =>
    obtain ⟨n, k⟩ := p
    intro h
    simp only [List.map_cons] at h
    by_cases hc : (k == NameKind.free && outer.kind == .function && outer.names.lookup n == some .cell) = true
    · rw [if_pos hc] at h
      rw [List.lookup_cons] at h
      cases hy : y == n with
      | true => rw [hy] at h; simp at h
      | false => rw [hy] at h; exact List.mem_cons_of_mem _ (ih h)
    · rw [if_neg hc] at h
      rw [List.lookup_cons] at h
      cases hy : y == n with
      | true =>
        rw [hy] at h
        have : y = n := by simpa using hy
        subst this
        simp only at h
        cases h
        exact List.mem_cons_self
      | false => rw [hy] at h; exact List.mem_cons_of_mem _ (ih h)

section
variable {D : Wd} {Φ : Orc} {k : Nat} {c : CC}

theorem tests_ok {n : Nat} (ih : ∀ e ie, compE n c e = some ie → ST D Φ k c e ie) {env : Env} {A : Around} {X : XL} (hE : EnvOk c env) (hA : AOk k A) {L : Lc} : ∀ (ifs : List Expr) (ies : List IE) (γ : List Addr) (H : Hp) (s : Shared) (Q : Bool → Hp → Prop),
    mapO (compE n c) ifs = some ies → HRel D γ H s.heap → LRel D γ env c.slots s.heap L → wpIfs Φ ies L H Q X →
    wpAny D.M A (forIn ifs true fun e r => if r = true then do let ok ← isTrue e env (eval e env); pure (ForInStep.yield ok) else pure (ForInStep.yield r)) (PostB D γ s Q) (PostX D γ s X) s
  | [], ies, γ, H, s, Q, hm, R, _, h => by
    rw [mapO_nil hm] at h
    rw [List.forIn_nil]
    exact wpAny_pure (PostB.here R h)
  | e :: r, ies, γ, H, s, Q, hm, R, l, h => by
    obtain ⟨b, bs, rfl, h1, h2⟩ := mapO_cons hm
    rw [List.forIn_cons]
    simp only [if_true]
    refine wpAny_bind (wpAny_bind (andThenB (ih e b h1 env A γ H s L _ X hE hA R l h) ?_))
    intro v s1 γ1 H1 st R1 q
    refine wpAny_pure ?_
    cases v with
    | true => exact backB st R1 (tests_ok ih hE hA r bs γ1 H1 s1 Q h2 R1 (l.stp R st) (q))
    | false =>
      have skip : ∀ (r : List Expr), (forIn r false fun e r => if r = true then do let ok ← isTrue e env (eval e env); pure (ForInStep.yield ok) else pure (ForInStep.yield r) : Sem Bool) = pure false := by
        intro r
        induction r with
        | nil => rfl
        | cons a r ihr => rw [List.forIn_cons]; simpa using ihr
      show wpAny D.M A (forIn r false _) _ _ s1
      rw [skip]
      exact wpAny_pure ⟨γ1, H1, st, R1, q⟩
end
end Mine

set_option autoImplicit false
/- Comprehensions: the loop. -/
namespace Mine
open PySem PyProof.Rows

structure CInv (D : Wd) (γ : List Addr) (s : Shared) (Dd C : Addr) (fp : List Addr) (Inv : List Addr → Nat → Heap → Prop) (st : Hp → Prop) (i : Nat) (acc : List V) (γ' : List Addr) (H' : Hp) (s' : Shared) : Prop where
  stp : Stp [] γ γ' s s'
  rel : HRel D γ' H' s'.heap
  out : ∃ ys n, s'.heap.get? Dd = some { cls := .type "list", data := .seq ys.toArray n } ∧ Reps D γ' s'.heap ys acc
  dnin : Dd ∉ γ'
  loc : ∃ m, s'.heap.Ns C m
  cnin : C ∉ γ'
  inv : Inv γ' i s'.heap
  stb : st H'
  fps : ∀ b ∈ fp, b ∉ γ' ∧ ∃ o, s'.heap.get? b = some o

structure CFix (D : Wd) (s : Shared) (Dd C I : Addr) (fp : List Addr) : Prop where
  d0 : s.heap.get? Dd = none
  c0 : s.heap.get? C = none
  i0 : s.heap.get? I = none
  dc : Dd ≠ C
  df : Dd ∉ fp
  cf : C ∉ fp

theorem notTup_dict {h : Heap} {C : Addr} {m : Str → Option Value} (n : h.Ns C m) (ws : List Value) : ¬ TupAt h C ws := fun x => by
  obtain ⟨o, es, ep, e, d, _⟩ := n
  obtain ⟨k, e', _⟩ := x
  rw [e] at e'; cases e'; cases d
theorem notTup_list {h : Heap} {C : Addr} {vs : List Value} {n : Nat} (e : h.get? C = some { cls := .type "list", data := .seq vs.toArray n }) (ws : List Value) : ¬ TupAt h C ws := fun x => by
  obtain ⟨k, e', _⟩ := x
  rw [e] at e'; simp at e'

theorem Stp.change {γ γ' : List Addr} {s s' : Shared} {h' : Heap} {tk : Nat} {z : Addr} (t : Stp [] γ γ' s s') (hk : ∀ b o, b ≠ z → s'.heap.get? b = some o → h'.get? b = some o) (hz : s.heap.get? z = none) : Stp [] γ γ' s { s' with heap := h', toks := tk } := by
  refine ⟨?_, fun b o hb hw e => hk b o (by rintro rfl; rw [hz] at e; cases e) (t.keep b o hb hw e), t.ext⟩
  obtain ⟨h1, t1, rfl⟩ := t.same
  exact ⟨_, _, rfl⟩

section
variable {D : Wd} {Φ : Orc} {k : Nat} {c : CC}

theorem base_none {γ : List Addr} {H : Hp} {s : Shared} (R : HRel D γ H s.heap) {z : Addr} (h : s.heap.get? z = none) : D.hB.get? z = none := by
  cases e : D.hB.get? z with
  | none => rfl
  | some o => have := R.base _ _ e; rw [h] at this; cases this

theorem comp_loop {n : Nat} {elt iter : Expr} {ifs : List Expr} {x : Str} {px pos : Pos} {scope : Scope} {ielt : IE} {iifs : List IE} {c' : CC} {env cenv : Env} {A : Around} {X : XL} {L : Lc} {γ : List Addr} {H : Hp} {s : Shared} {Dd C I : Addr} {fp : List Addr}
    {l : List V} {st : Hp → Prop} {Inv : List Addr → Nat → Heap → Prop} {K : List V → Hp → Prop} {Rr : Result → Shared → Prop} {slot : Nat}
    (hE' : EnvOk c' cenv) (hA : AOk k A) (R0 : HRel D γ H s.heap) (lr : LRel D γ env c.slots s.heap L) (hloc : cenv.locals = C) (hx : cenv.kindOf x = some .local)
    (ihe : ∀ e ie, compE n c' e = some ie → Both D Φ k c' e ie) (hce : compE n c' elt = some ielt) (hci : mapO (compE n c') ifs = some iifs)
    (F : CFix D s Dd C I fp) (it : Itr D A I fp l st Inv)
    (mkL : ∀ γ' h m W v, h.Ns C m → m x = some v → Rep D γ' h v W → LRel D γ' env c.slots h L → C ∉ γ' → LRel D γ' cenv c'.slots h (L.set slot (some W)))
    (fin : ∀ γ' H' s' acc, CInv D γ s Dd C fp Inv st l.length acc γ' H' s' → K acc H' → ∀ h' tk, (∀ b o, b ≠ I → s'.heap.get? b = some o → h'.get? b = some o) → Rr (.ok .next) { s' with heap := h', toks := tk }) :
    ∀ (i : Nat) (acc : List V) (γ' : List Addr) (H' : Hp) (s' : Shared), i ≤ l.length → acc.length ≤ i → l.length ≤ 2000000 → CInv D γ s Dd C fp Inv st i acc γ' H' s' →
      compGo (fun L' H' K => wpIfs Φ iifs L' H' K X) (fun L' H' K => (wp2 Φ ielt).E L' H' K X) st [slot] L (l.drop i) acc H' K →
      codeAny D.M A (.compLoop (.ListComp elt [⟨.Name x px, iter, ifs, 0⟩] scope pos) 0 (.ref I) (.ref Dd) cenv) Rr s' := by
  intro i acc γ' H' s' hi hacc hlen ci cg
  have hkind : cenv.scope.kind = .function := by rw [hE'.scope]; exact hE'.kind
  refine codeAny_compLoop_tests (fun m s' => ∃ i acc γ' H', m = l.length - i ∧ i ≤ l.length ∧ acc.length ≤ i ∧ CInv D γ s Dd C fp Inv st i acc γ' H' s' ∧
    compGo (fun L' H' K => wpIfs Φ iifs L' H' K X) (fun L' H' K => (wp2 Φ ielt).E L' H' K X) st [slot] L (l.drop i) acc H' K) ?_ (l.length - i) ⟨i, acc, γ', H', rfl, hi, hacc, ci, cg⟩
  clear cg ci hacc hi i acc γ' H' s'
  rintro m s' ⟨i, acc, γ', H', rfl, hi, hacc, ci, cg⟩
  have hIg : I ∉ γ' := (ci.fps I it.mem).1
  have hIB := base_none R0 F.i0
  have hCB := base_none R0 F.c0
  have hDB := base_none R0 F.d0
  have hCI : C ≠ I := fun q => F.cf (q ▸ it.mem)
  have hDI : Dd ≠ I := fun q => F.df (q ▸ it.mem)
  by_cases hlt : i < l.length
  · have hW : l[i]? = some l[i] := by simp [hlt]
    have hdrop : l.drop i = l[i] :: l.drop (i + 1) := List.drop_eq_getElem_cons hlt
    rw [hdrop] at cg
    obtain ⟨L', hb, cg⟩ := oK_elim cg
    simp only [bindVars, Option.some.injEq] at hb
    subst hb
    refine it.next γ' H' s' i _ _ _ hW ci.rel hIg ci.stb ci.inv fun v h1 tk1 hI1 hk1 iv1 rv1 => ?_
    have nt1 := fun ws => it.notTup γ' i s'.heap ws ci.inv
    have R1 : HRel D γ' H' h1 := ci.rel.but hk1 hIg hIB nt1
    obtain ⟨m0, hm0⟩ := ci.loc
    have hm1 : h1.Ns C m0 := hm0.at' fun o e => hk1 _ o hCI e
    refine wpAny_assign_Name (wpAny_storeName_local hx (hloc ▸ hm1) (fun h2 hn2 hs2 => ?_) (by rw [hkind]; rfl))
    rw [hloc] at hn2 hs2
    dsimp only at hn2 hs2 ⊢
    have hk2 : ∀ b o, b ≠ C → h1.get? b = some o → h2.get? b = some o := fun b o hb e => hs2.extBut b o hb e
    have nt2 := notTup_dict hm1
    have R2 : HRel D γ' H' h2 := R1.but hk2 ci.cnin hCB nt2
    have t2 : ∀ a ws, TupAt s'.heap a ws → TupAt h2 a ws := fun a ws q => tupAt_but hk2 nt2 (tupAt_but hk1 nt1 q)
    have stp2 : Stp [] γ γ' s { s' with heap := h2, toks := tk1 + 1 } := ((ci.stp.change (tk := tk1) hk1 F.i0).change (tk := tk1 + 1) hk2 F.c0)
    have lrs : LRel D γ' env c.slots h2 L := lr.stp R0 stp2
    have rv2 : Rep D γ' h2 v l[i] := Rep.mono ⟨[], by simp⟩ (fun a ws q => tupAt_but hk2 nt2 q) rv1
    have l2 := mkL γ' h2 _ l[i] v hn2 (by simp) rv2 lrs ci.cnin
    have iv2 : Inv γ' (i + 1) h2 := it.frame γ' γ' (i + 1) h1 h2 iv1 ⟨[], by simp⟩ (fun b hb o e => hk2 b o (fun q => F.cf (q ▸ hb)) e) (fun a ws q => tupAt_but hk2 nt2 q)
    have fp2 : ∀ b ∈ fp, b ∉ γ' ∧ ∃ o, h2.get? b = some o := fun b hb => by
      refine ⟨(ci.fps b hb).1, ?_⟩
      obtain ⟨o, e⟩ := (ci.fps b hb).2
      by_cases hbI : b = I
      · subst hbI; obtain ⟨o', e'⟩ := hI1; exact ⟨o', hk2 _ _ (Ne.symm hCI) e'⟩
      · exact ⟨o, hk2 _ _ (fun q => F.cf (q ▸ hb)) (hk1 _ _ hbI e)⟩
    obtain ⟨ys, ny, hy, ry⟩ := ci.out
    have hy2 : h2.get? Dd = some { cls := .type "list", data := .seq ys.toArray ny } := hk2 _ _ F.dc (hk1 _ _ hDI hy)
    have ry2 : Reps D γ' h2 ys acc := Reps.mono ⟨[], by simp⟩ t2 ry
    have ts := tests_ok (fun e ie h => (ihe e ie h).2) hE' hA ifs iifs γ' H' { s' with heap := h2, toks := tk1 + 1 } _ hci R2 l2 cg
    refine wpAny_mono ts (fun ok s3 p => ?_) (fun _ _ x => x.no.elim)
    obtain ⟨γ3, H3, st3, R3, q3⟩ := p
    have stp3 : Stp [] γ γ3 s s3 := stp2.trans0 R2 st3
    have dn3 : Dd ∉ γ3 := notin_ext st3 ci.dnin hy2
    have hC2 : ∃ o, h2.get? C = some o := by obtain ⟨o, es, ep, e, _⟩ := hn2; exact ⟨o, e⟩
    have cn3 : C ∉ γ3 := by obtain ⟨o, e⟩ := hC2; exact notin_ext st3 ci.cnin e
    have t3 : ∀ a ws, TupAt h2 a ws → TupAt s3.heap a ws := fun a ws q => q.stp (s := { s' with heap := h2, toks := tk1 + 1 }) R2 st3 (by simp)
    have ext3 : ∃ δ, γ3 = γ' ++ δ := let ⟨δ, e, _⟩ := st3.ext; ⟨δ, e⟩
    have iv3 : Inv γ3 (i + 1) s3.heap := it.frame γ' γ3 (i + 1) h2 s3.heap iv2 ext3 (fun b hb o e => st3.keep b o (fp2 b hb).1 (by simp) e) t3
    have fp3 : ∀ b ∈ fp, b ∉ γ3 ∧ ∃ o, s3.heap.get? b = some o := fun b hb => by
      obtain ⟨a, o, e⟩ := fp2 b hb
      exact ⟨notin_ext st3 a e, o, st3.keep b o a (by simp) e⟩
    have hy3 : s3.heap.get? Dd = some { cls := .type "list", data := .seq ys.toArray ny } := st3.keep _ _ ci.dnin (by simp) hy2
    have ry3 : Reps D γ3 s3.heap ys acc := Reps.mono ext3 t3 ry2
    have hC3 : ∃ m, s3.heap.Ns C m := ⟨_, hn2.at' fun o e => st3.keep _ o ci.cnin (by simp) e⟩
    cases ok with
    | false =>
      have q3 := q3
      show ∃ m, m < l.length - i ∧ _
      exact ⟨l.length - (i + 1), by omega, i + 1, acc, γ3, H3, rfl, hlt, by omega, ⟨stp3, R3, ⟨ys, ny, hy3, ry3⟩, dn3, hC3, cn3, iv3, q3.1, fp3⟩, q3.2⟩
    | true =>
      have q3 := q3
      show wpAny D.M A (eval elt cenv) _ _ s3
      have l3 : LRel D γ3 cenv c'.slots s3.heap (L.set slot (some l[i])) := l2.stp (s := { s' with heap := h2, toks := tk1 + 1 }) R2 st3
      refine wpAny_mono ((ihe elt ielt hce).1 cenv A γ3 H3 s3 _ _ X hE' hA R3 l3 q3) (fun y s4 p => ?_) (fun _ _ x => x.no.elim)
      obtain ⟨γ4, Y, H4, st4, R4, ryv, q4⟩ := p
      have stp4 : Stp [] γ γ4 s s4 := stp3.trans0 R3 st4
      have dn4 : Dd ∉ γ4 := notin_ext st4 dn3 hy3
      have cn4 : C ∉ γ4 := by obtain ⟨m, o, es, ep, e, _⟩ := hC3; exact notin_ext st4 cn3 e
      have t4 : ∀ a ws, TupAt s3.heap a ws → TupAt s4.heap a ws := fun a ws q => q.stp R3 st4 (by simp)
      have ext4 : ∃ δ, γ4 = γ3 ++ δ := let ⟨δ, e, _⟩ := st4.ext; ⟨δ, e⟩
      have hy4 : s4.heap.get? Dd = some { cls := .type "list", data := .seq ys.toArray ny } := st4.keep _ _ dn3 (by simp) hy3
      have ry4 : Reps D γ4 s4.heap ys acc := Reps.mono ext4 t4 ry3
      have hyl := ry4.length
      refine wpAny_list_append_plain (items := ys.toArray) ⟨ny, hy4⟩ (fun h5 hp5 hs5 => ?_) (by simp [sizeLine_eq]; omega)
      have hk5 : ∀ b o, b ≠ Dd → s4.heap.get? b = some o → h5.get? b = some o := fun b o hb e => hs5.extBut b o hb e
      have nt5 := notTup_list hy4
      have t5 : ∀ a ws, TupAt s4.heap a ws → TupAt h5 a ws := fun a ws q => tupAt_but hk5 nt5 q
      obtain ⟨n5, e5⟩ := hp5
      have em : ys.toArray.push y = (ys ++ [y]).toArray := by simp
      rw [em] at e5
      refine ⟨l.length - (i + 1), by omega, i + 1, acc ++ [Y], γ4, H4, rfl, hlt, by simp; omega, ?_, q4.2⟩
      refine ⟨stp4.change (tk := s4.toks) hk5 F.d0, R4.but hk5 dn4 hDB nt5, ⟨ys ++ [y], n5, e5, Reps.mono ⟨[], by simp⟩ t5 (ry4.append (Reps.one ryv))⟩, dn4, ?_, cn4, ?_, q4.1, ?_⟩
      · obtain ⟨m, hm⟩ := hC3
        exact ⟨m, (hm.at' fun o e => st4.keep _ o cn3 (by simp) e).at' fun o e => hk5 _ o (Ne.symm F.dc) e⟩
      · exact it.frame γ3 γ4 (i + 1) s3.heap h5 iv3 ext4 (fun b hb o e => hk5 b o (fun q => F.df (q ▸ hb)) (st4.keep b o (fp3 b hb).1 (by simp) e)) (fun a ws q => t5 a ws (t4 a ws q))
      · intro b hb
        obtain ⟨a, o, e⟩ := fp3 b hb
        exact ⟨notin_ext st4 a e, o, hk5 b o (fun q => F.df (q ▸ hb)) (st4.keep b o a (by simp) e)⟩
  · have hin : i = l.length := by omega
    subst hin
    rw [List.drop_length] at cg
    exact it.done γ' H' s' _ _ ci.rel ci.stb ci.inv fun h1 tk1 hk1 => fin γ' H' s' acc ci cg h1 tk1 hk1
end
end Mine

set_option autoImplicit false
/- Comprehensions: the whole. -/
namespace Mine
open PySem PyProof.Rows

section
variable {D : Wd} {Φ : Orc} {k : Nat} {c : CC}

theorem HRel.adopt {γ : List Addr} {H : Hp} {vs : List Value} {l : List V} {h : Heap} {a : Addr} {n : Nat} (R : HRel D γ H h) (r : Reps D γ h vs l) (hz : l.length ≤ 2000000)
    (hn : a ∉ γ) (hB : D.hB.get? a = none) (ha : h.get? a = some { cls := .type "list", data := .seq vs.toArray n }) : HRel D (γ ++ [a]) (H ++ [.list l]) h where
  len := by simp [R.len]
  nodup := by
    refine List.nodup_append.mpr ⟨R.nodup, by simp, ?_⟩
    intro b hb c hc
    simp at hc; subst hc
    intro e; subst e
    exact hn hb
  objs := fun i b o e1 e2 => by
    rcases Nat.lt_trichotomy i γ.length with hi | hi | hi
    · rw [List.getElem?_append_left hi] at e1
      rw [List.getElem?_append_left (R.len ▸ hi)] at e2
      have := R.objs i b o e1 e2
      cases o with
      | list xs =>
        obtain ⟨ws, n, e, q, z⟩ := this
        exact ⟨ws, n, e, Reps.mono ⟨_, rfl⟩ (fun _ _ x => x) q, z⟩
    · subst hi
      rw [List.getElem?_append_right (Nat.le_refl _)] at e1
      rw [R.len, List.getElem?_append_right (Nat.le_refl _)] at e2
      simp at e1 e2; subst e1; subst e2
      exact ⟨vs, n, ha, Reps.mono ⟨_, rfl⟩ (fun _ _ x => x) r, by rw [r.length]; exact hz⟩
    · exfalso
      have : (γ ++ [a]).length ≤ i := by simp; omega
      rw [List.getElem?_eq_none this] at e1; cases e1
  fresh := by
    intro b hb
    rcases List.mem_append.mp hb with q | q
    · exact R.fresh b q
    · simp at q; subst q; exact hB
  base := R.base

theorem PostV.adopt {γ γ' : List Addr} {H' : Hp} {s s' : Shared} {Q : V → Hp → Prop} {vs : List Value} {l : List V} {h' : Heap} {a : Addr} {n tk : Nat} (st : Stp [] γ γ' s { s' with heap := h', toks := tk }) (R : HRel D γ' H' h') (r : Reps D γ' h' vs l) (hz : l.length ≤ 2000000)
    (hn : a ∉ γ') (h0 : s.heap.get? a = none) (hB : D.hB.get? a = none) (ha : h'.get? a = some { cls := .type "list", data := .seq vs.toArray n }) (h : Q (.ref H'.length) (H' ++ [.list l])) :
    PostV D γ s Q (.ref a) { s' with heap := h', toks := tk } := by
  refine ⟨γ' ++ [a], .ref H'.length, H' ++ [.list l], ⟨st.same, st.keep, ?_⟩, R.adopt r hz hn hB ha, ?_, h⟩
  · obtain ⟨δ, e, f⟩ := st.ext
    refine ⟨δ ++ [a], by rw [e]; simp, fun b hb => ?_⟩
    rcases List.mem_append.mp hb with q | q
    · exact f b q
    · simp at q; subst q; exact h0
  · simp only [Rep]; exact ⟨_, by rw [List.getElem?_append_right (by rw [R.len]; exact Nat.le_refl _)]; simp [R.len], rfl⟩

structure CompOk (c : CC) (scope : Scope) (x : Str) : Prop where
  kind : scope.kind = .function
  nocell : ∀ y ∈ scope.names, y.2 ≠ .cell
  locs : ∀ y ∈ scope.names, y.2 = .local → scope.names.lookup y.1 = some .local
  frees : ∀ y ∈ scope.names, y.2 = .free → c.scope.names.lookup y.1 = some .cell
  var : scope.names.lookup x = some .local
  own : ∀ y, (y, NameKind.local) ∈ scope.names → y = x ∨ c.slots.lookup y = none
  low : ∀ y i, c.slots.lookup y = some i → i < c.nxt

noncomputable abbrev inner (c : CC) (scope : Scope) (x : Str) : CC := innerC c scope x

theorem relabel_eq {scope : Scope} {env : Env} (he : EnvOk c env) : relabel scope env = relab scope c.scope := by
  rw [← he.scope]; rfl

theorem env_inner {scope : Scope} {x : Str} {env : Env} (he : EnvOk c env) (ok : CompOk c scope x) (cl : List (Str × Addr)) (C : Addr) : EnvOk (inner c scope x) (compEnvC scope cl C env) :=
  ⟨relabel_eq he, ok.kind, he.globals, he.builtins⟩

theorem lrel_inner {scope : Scope} {x : Str} {env : Env} {L : Lc} {C : Addr} (he : EnvOk c env) (ok : CompOk c scope x) :
    ∀ γ' h m W v, h.Ns C m → m x = some v → Rep D γ' h v W → LRel D γ' env c.slots h L → C ∉ γ' → LRel D γ' (compEnvC scope (closGo env scope.names []) C env) (inner c scope x).slots h (L.set c.nxt (some W)) := by
  intro γ' h m W v hn hm rv lr hC
  have hrl : ∀ y, (compEnvC scope (closGo env scope.names []) C env).kindOf y = (relab scope c.scope).names.lookup y := fun y => by
    show (relabel scope env).names.lookup y = _
    rw [relabel_eq he]
  refine ⟨⟨m, hn, ?_⟩, ?_, hC⟩
  · intro y i V hy hs hL
    rw [hrl] at hy
    have hm' := relab_local hy
    have hs' : ((x, c.nxt) :: c.slots).lookup y = some i := hs
    rw [List.lookup_cons] at hs'
    cases hxy : y == x with
    | true =>
      rw [hxy] at hs'
      have : y = x := by simpa using hxy
      subst this
      cases hs'
      rw [List.getElem?_set] at hL
      simp only [if_true] at hL
      split at hL
      · cases hL; exact ⟨v, hm, rv⟩
      · cases hL
    | false =>
      rw [hxy] at hs'
      rcases ok.own y hm' with q | q
      · subst q; simp at hxy
      · rw [q] at hs'; cases hs'
  · intro y hy
    rw [hrl] at hy
    obtain ⟨hf, ho⟩ := relab_cell ok.nocell hy
    have hk : env.kindOf y = some .cell := by unfold Env.kindOf; rw [he.scope]; exact ho
    obtain ⟨ca, u, e1, e2, e3, e4⟩ := lr.cel y hk
    refine ⟨ca, u, closGo_lookup hf e1, e2, e3, fun i V hs hL => ?_⟩
    have hs' : ((x, c.nxt) :: c.slots).lookup y = some i := hs
    rw [List.lookup_cons] at hs'
    cases hxy : y == x with
    | true =>
      exfalso
      have : y = x := by simpa using hxy
      subst this
      have := lookup_relabel_local (env := env) ok.var
      have h2 : (relabel scope env).names.lookup y = some .local := this
      rw [relabel_eq he] at h2
      rw [h2] at hy; cases hy
    | false =>
      rw [hxy] at hs'
      have hlt := ok.low y i hs'
      rw [List.getElem?_set_ne (by omega)] at hL
      exact e4 i V hs' hL

theorem comp_run {n : Nat} {elt iter : Expr} {ifs : List Expr} {x : Str} {px pos cp : Pos} {scope : Scope} {ielt : IE} {iifs : List IE} {kk : SrcK} {ss : List IE} {env : Env} {A : Around} {X : XL} {L : Lc} {γ : List Addr} {H : Hp} {s : Shared}
    {Kf : List V → Hp → Prop} {use : Option (Value → Sem Unit)} {Qf : Value → Shared → Prop} (g : GOk D c.G) (ih : ∀ c e ie, GOk D c.G → compE n c e = some ie → Both D Φ k c e ie) (ok : CompOk c scope x)
    (hsrc : compSrc (compE n c) c iter = some (kk, ss)) (hce : compE n (inner c scope x) elt = some ielt) (hci : mapO (compE n (inner c scope x)) ifs = some iifs) (hE : EnvOk c env) (hA : AOk k A) (R : HRel D γ H s.heap)
    (lr : LRel D γ env c.slots s.heap L) (hset : ∀ x, foldedSetIterable iter env x = pure x)
    (w : wpEs Φ ss L H (fun vs H1 => pSrc kk vs H1 fun items st => compGo (fun L' H' K => wpIfs Φ iifs L' H' K X) (fun L' H' K => (wp2 Φ ielt).E L' H' K X) st [c.nxt] L items [] H1 Kf) X)
    (fin : ∀ γ' H' s' Dd C acc, Stp [] γ γ' s s' → HRel D γ' H' s'.heap → (∃ ys n, s'.heap.get? Dd = some { cls := .type "list", data := .seq ys.toArray n } ∧ Reps D γ' s'.heap ys acc) → Dd ∉ γ' → s.heap.get? Dd = none → (∃ m, s'.heap.Ns C m) → C ∉ γ' → s.heap.get? C = none → Dd ≠ C → Kf acc H' →
      compPost D.M A (PostX D γ s X) use Qf (.ref Dd) C (.ok .next) s') :
    wpAny D.M A (comprehension (.ListComp elt [⟨.Name x px, iter, ifs, 0⟩] scope pos) scope env cp (newList []) false (eval iter env) use) Qf (PostX D γ s X) s := by
  have hclos : closureFor scope env = pure (closGo env scope.names []) := closureFor_go fun y hy hf => by
    have hk : env.kindOf y.1 = some .cell := by unfold Env.kindOf; rw [hE.scope]; exact ok.frees y hy hf
    obtain ⟨ca, u, e1, _⟩ := lr.cel y.1 hk
    exact ⟨ca, e1⟩
  refine wpAny_comprehension_free (use := use) rfl hset hclos ok.kind ok.locs (wpAny_mono (src_ok (K := fun l st H1 => compGo (fun L' H' K => wpIfs Φ iifs L' H' K X) (fun L' H' K => (wp2 Φ ielt).E L' H' K X) st [c.nxt] L l [] H1 Kf) g (fun e ie h => (ih c e ie g h).1) hsrc hE hA R lr w)
    (fun xv s1 h1 => wpAny_mono h1 (fun it s2 h2 => ?_) fun _ _ e => e) fun _ _ e => e)
  obtain ⟨γ2, H2, I, fp, l, st, Inv, rfl, stp2, R2, itr, iv, fps, hI0, hst, hlen, cg⟩ := h2
  refine wpAny_newObj_type (hd := by size_fits) (wpAny_newFunctionEnv ok.nocell (by intro y hy; simp at hy) (fun h₁ hns₁ hsb₁ => ?_) ok.kind)
  dsimp only at hns₁ hsb₁ ⊢
  generalize hH2 : s2.heap.push { cls := .type "list", dict := none, data := .seq ([] : List Value).toArray } = G2 at hns₁ hsb₁ ⊢
  have hC : G2.objs.size = s2.heap.objs.size + 1 := by rw [← hH2, Heap.size_push]
  have hDC : s2.heap.objs.size ≠ G2.objs.size := by rw [hC]; exact Nat.ne_of_lt (Nat.lt_succ_self _)
  have fresh : ∀ a, s2.heap.objs.size ≤ a → s2.heap.get? a = none := fun a ha => by
    cases e : s2.heap.get? a with
    | none => rfl
    | some o' => exact absurd (Heap.lt_size e) (Nat.not_lt.mpr ha)
  have fresh0 : ∀ a, s2.heap.objs.size ≤ a → s.heap.get? a = none := fun a ha => by
    cases e : s.heap.get? a with
    | none => rfl
    | some o' =>
      by_cases hg : a ∈ γ
      · obtain ⟨δ, e1, _⟩ := stp2.ext
        obtain ⟨o2, e2, _⟩ := R2.alive (a := a) (by rw [e1]; exact List.mem_append_left _ hg)
        rw [fresh a ha] at e2; cases e2
      · have := stp2.keep _ _ hg (by simp) e
        rw [fresh a ha] at this; cases this
  have nin2 : ∀ a, s2.heap.objs.size ≤ a → a ∉ γ2 := fun a ha hm => by
    obtain ⟨o2, e2, _⟩ := R2.alive hm
    rw [fresh a ha] at e2; cases e2
  have below : ∀ b o, s2.heap.get? b = some o → b ≠ G2.objs.size ∧ b ≠ s2.heap.objs.size := fun b o hb => ⟨Nat.ne_of_lt (Nat.lt_trans (Heap.lt_size hb) (by rw [hC]; exact Nat.lt_succ_self _)), Nat.ne_of_lt (Heap.lt_size hb)⟩
  have old : ∀ b o, s2.heap.get? b = some o → h₁.get? b = some o := fun b o e => hsb₁.extBut b o (below b o e).1 (Heap.get?_push_of_some _ (hH2 ▸ Heap.get?_push_of_some _ e))
  have hacc : h₁.get? s2.heap.objs.size = some { cls := .type "list", data := .seq ([] : List Value).toArray } := hsb₁.extBut _ _ hDC (Heap.get?_push_of_some _ (hH2 ▸ Heap.get?_push_size _ rfl))
  have F : CFix D s s2.heap.objs.size G2.objs.size I fp := by
    refine ⟨fresh0 _ (Nat.le_refl _), fresh0 _ (by rw [hC]; exact Nat.le_succ _), hI0, hDC, fun hm => ?_, fun hm => ?_⟩
    · obtain ⟨_, ⟨o, e⟩, _⟩ := fps _ hm; exact absurd (Heap.lt_size e) (Nat.lt_irrefl _)
    · obtain ⟨_, ⟨o, e⟩, _⟩ := fps _ hm; exact absurd (Heap.lt_size e) (by rw [hC]; exact Nat.not_lt.mpr (Nat.le_succ _))
  have loop : ∀ s3 : Shared, s3 = { s2 with heap := h₁, toks := s2.toks + ([] : List (Str × Value)).length } →
      codeAny D.M A (.compLoop (.ListComp elt [⟨.Name x px, iter, ifs, 0⟩] scope pos) 0 (.ref I) (.ref s2.heap.objs.size) (compEnvC scope (closGo env scope.names []) G2.objs.size env))
        (compPost D.M A (PostX D γ s X) use Qf (.ref s2.heap.objs.size) G2.objs.size) s3 := by
    rintro s3 rfl
    have st3 : Stp [] γ2 γ2 s2 { s2 with heap := h₁, toks := s2.toks + ([] : List (Str × Value)).length } := stp_grow old
    refine comp_loop (env := env) (c := c) (c' := inner c scope x) (st := st) (Inv := Inv) (l := l) (K := Kf) (fp := fp) (L := L) (slot := c.nxt) (X := X) (γ := γ) (H := H) (s := s) (C := G2.objs.size)
      (env_inner hE ok _ _) hA R lr rfl ?_ (fun e ie h => ih (inner c scope x) e ie g h) hce hci F itr (lrel_inner hE ok) ?_ 0 [] γ2 H2 _ (Nat.zero_le _) (by simp) hlen ?_ cg
    · exact lookup_relabel_local ok.var
    · intro γ' H' s' acc ci hK h' tk hk
      obtain ⟨ys, ny, hy, ry⟩ := ci.out
      have hIg : I ∉ γ' := (ci.fps I itr.mem).1
      have nt := fun ws => itr.notTup γ' l.length s'.heap ws ci.inv
      refine fin γ' H' _ _ _ acc (ci.stp.change (tk := tk) hk F.i0) (ci.rel.but hk hIg (base_none R F.i0) nt) ⟨ys, ny, hk _ _ (fun q => F.df (q ▸ itr.mem)) hy, Reps.mono ⟨[], by simp⟩ (fun _ _ q => tupAt_but hk nt q) ry⟩ ci.dnin F.d0 ?_ ci.cnin F.c0 hDC hK
      obtain ⟨m, hm⟩ := ci.loc
      exact ⟨m, hm.at' fun o e => hk _ o (fun q => F.cf (q ▸ itr.mem)) e⟩
    · refine ⟨stp2.trans0 R2 st3, R2.grow old, ⟨[], 0, hacc, by simp only [Reps]⟩, nin2 _ (Nat.le_refl _), ⟨_, hns₁⟩, nin2 _ (by rw [hC]; exact Nat.le_succ _), ?_, hst, ?_⟩
      · exact itr.frame γ2 γ2 0 s2.heap h₁ iv ⟨[], by simp⟩ (fun b hb o e => old b o e) (fun _ _ q => tupAt_grow old q)
      · intro b hb
        obtain ⟨a, ⟨o, e⟩, _⟩ := fps b hb
        exact ⟨a, o, old b o e⟩
  have iv1 : Inv γ2 0 h₁ := itr.frame γ2 γ2 0 s2.heap h₁ iv ⟨[], by simp⟩ (fun b hb o e => old b o e) (fun _ _ q => tupAt_grow old q)
  exact codeAny_compStart_list (loop _ rfl) (itr.self γ2 0 _ _ _ iv1 (loop _ rfl))

theorem e_comp {n : Nat} {elt iter : Expr} {ifs : List Expr} {x : Str} {px pos : Pos} {scope : Scope} {ielt : IE} {iifs : List IE} {kk : SrcK} {ss : List IE} (g : GOk D c.G) (ih : ∀ c e ie, GOk D c.G → compE n c e = some ie → Both D Φ k c e ie) (ok : CompOk c scope x)
    (hsrc : compSrc (compE n c) c iter = some (kk, ss)) (hce : compE n (inner c scope x) elt = some ielt) (hci : mapO (compE n (inner c scope x)) ifs = some iifs) (hset : ∀ env x, foldedSetIterable iter env x = pure x) :
    Both D Φ k c (.ListComp elt [⟨.Name x px, iter, ifs, 0⟩] scope pos) (.comp ielt [c.nxt] kk ss iifs) := by
  refine both_plain (fun env A γ H s L Q X hE hA R lr w => ?_) rfl (fun _ _ => rfl)
  rw [eval_ListComp]
  refine comp_run (use := none) (cp := _) g ih ok hsrc hce hci hE hA R lr (hset env) w ?_
  intro γ' H' s' Dd C acc stp R' ho dn d0 hc cn c0 hdc hK
  obtain ⟨m, hm⟩ := hc
  refine ⟨m, hm, fun h' hs => ?_⟩
  have hk : ∀ b o, b ≠ C → s'.heap.get? b = some o → h'.get? b = some o := fun b o hb e => hs.extBut b o hb e
  have nt := notTup_dict hm
  obtain ⟨ys, ny, hy, ry⟩ := ho
  have R'' : HRel D γ' H' h' := R'.but hk cn (base_none R c0) nt
  have hy' := hk _ _ hdc hy
  have ry' : Reps D γ' h' ys acc := Reps.mono ⟨[], by simp⟩ (fun _ _ q => tupAt_but hk nt q) ry
  exact PostV.adopt (h' := h') (tk := s'.toks) (stp.change hk c0) R'' ry' (by have := hK.1; omega) dn d0 (base_none R d0) hy' hK.2
end
end Mine

set_option autoImplicit false
/- Every expression that is taken over means what its small tree says. -/
namespace Mine
open PySem PyProof.Rows

section
variable {D : Wd} {Φ : Orc} {k : Nat}

theorem noSetIter {iter : Expr} {n : Nat} {c : CC} {p : SrcK × List IE} (h : compSrc (compE n c) c iter = some p) : ∀ env x, foldedSetIterable iter env x = pure x := by
  intro env x
  cases iter <;> first | rfl | (cases n <;> exact nomatch (show (none : Option (SrcK × List IE)) = some p from h))

theorem opt_part {lo : Option Expr} {il : Option IE} {n : Nat} {c : CC} {env : Env} {A : Around} {γ : List Addr} {H : Hp} {s : Shared} {L : Lc} {Q : V → Hp → Prop} {X : XL} (ih : ∀ e ie, compE n c e = some ie → SE D Φ k c e ie) (h : optE (compE n c) lo = some il)
    (hE : EnvOk c env) (hA : AOk k A) (R : HRel D γ H s.heap) (lr : LRel D γ env c.slots s.heap L) (w : wpO Φ il L H Q X) : wpAny D.M A (evalPart lo env) (PostV D γ s Q) (PostX D γ s X) s := by
  cases lo with
  | none => cases (show some none = some il from h); exact wpAny_evalPart_none (PostV.here (V := .none) R (by simp only [Rep]) w)
  | some e =>
    obtain ⟨a, ha, rfl⟩ := Option.map_eq_some_iff.mp h
    exact wpAny_evalPart_some (ih _ _ ha env A γ H s L Q X hE hA R lr w)
theorem part_of {γ : List Addr} {h : Heap} {v : Value} {W : V} {l : Option Int} (r : Rep D γ h v W) (e : optInt W = some l) : IsPart v l := by
  cases W with
  | none => simp only [Rep] at r; subst r; cases e; exact .none
  | int i => simp only [Rep] at r; obtain ⟨t, rfl⟩ := r; cases e; exact .int i t
  | _ => cases e
theorem slice_same {lo hi : Option Int} {vs : List Value} {xs : List V} {γ : List Addr} {h : Heap} (r : Reps D γ h vs xs) : Reps D γ h (PySem.W.kms_pick vs lo hi) (sliceL xs lo hi) := by
  have e := r.length
  have e1 : PySem.W.kms_lo lo vs.length = (match lo with | some k => clampI xs.length k | none => 0) := by
    cases lo with
    | none => rfl
    | some x => simp only [PySem.W.kms_lo, clampI]; split <;> split <;> omega
  have e2 : PySem.W.kms_hi hi vs.length = (match hi with | some k => clampI xs.length k | none => xs.length) := by
    cases hi with
    | none => exact e
    | some x => simp only [PySem.W.kms_hi, clampI]; split <;> split <;> omega
  unfold PySem.W.kms_pick sliceL
  rw [e1, e2]
  exact (r.drop _).take _

theorem e_slice {x : Str} {px p pos : Pos} {lo hi : Option Expr} {n : Nat} {c : CC} {io : IE} {il ih' : Option IE} (g : GOk D c.G) (ih : ∀ e ie, compE n c e = some ie → SE D Φ k c e ie) (hn : nameV c x = some io) (hl : optE (compE n c) lo = some il) (hh : optE (compE n c) hi = some ih') :
    Both D Φ k c (.Subscript (.Name x px) (.Slice lo hi none p) pos) (.slice io il ih') := by
  refine both_plain ?_ rfl (fun _ _ => rfl)
  intro env A γ H s L Q X hE hA R lr w
  refine wpAny_Subscript_list_slice (andThen (name_ok g hE R lr hn w) ?_) (fun _ _ => rfl)
  intro vo s1 γ1 Vo H1 st1 R1 ro q1
  refine thenV st1 R1 (opt_part ih hl hE hA R1 (lr.stp R st1) q1) ?_
  intro vl s2 γ2 Vl H2 st2 R2 rl q2
  have st02 := st1.trans0 R1 st2
  refine thenV st02 R2 (opt_part ih hh hE hA R2 (lr.stp R st02) q2) ?_
  intro vh s3 γ3 Vh H3 st3 R3 rh q3
  have st03 := st02.trans0 R2 st3
  have hV : ∃ i xs l h', Vo = .ref i ∧ listAt H3 i = some xs ∧ optInt Vl = some l ∧ optInt Vh = some h' ∧ Q (.ref H3.length) (H3 ++ [.list (sliceL xs l h')]) := by
    cases Vo with
    | ref i =>
      obtain ⟨xs, h1, q⟩ := oK_elim q3
      obtain ⟨l, h2, q⟩ := oK_elim q
      obtain ⟨h', h3, q⟩ := oK_elim q
      exact ⟨i, xs, l, h', rfl, h1, h2, h3, q⟩
    | _ => exact q3.elim
  obtain ⟨i, xs, l, h', rfl, h1, h2, h3, q⟩ := hV
  have ro3 := (ro.stp0 R1 st2).stp0 R2 st3
  simp only [Rep] at ro3
  obtain ⟨a, hi3, rfl⟩ := ro3
  obtain ⟨vs, m, e, rs, z⟩ := R3.list hi3 h1
  refine ⟨a, vs.toArray, l, h', rfl, ⟨_, e, rfl, m, rfl⟩, by simp [sizeLine_eq]; omega, part_of (rl.stp0 R2 st3) h2, part_of rh h3, ?_⟩
  rw [PySem.W.kms_pick_eq]
  have hz : (sliceL xs l h').length ≤ 2000000 := by
    have := rs.length
    unfold sliceL
    simp only [List.length_take, List.length_drop]
    omega
  have hk : ∀ b o, s3.heap.get? b = some o → ((s3.heap.push { cls := .type "slice", data := .fields #[vl, vh, .none] }).push { cls := .type "list", data := .seq (PySem.W.kms_pick vs.toArray.toList l h').toArray }).get? b = some o :=
    fun b o e => Heap.get?_push_of_some _ (Heap.get?_push_of_some _ e)
  have e1 := Heap.get?_push_size (s3.heap.push { cls := .type "slice", data := .fields #[vl, vh, .none] }) (o := { cls := .type "list", data := .seq (PySem.W.kms_pick vs.toArray.toList l h').toArray }) rfl
  rw [Heap.size_push] at e1
  have hn1 : s3.heap.get? (s3.heap.objs.size + 1) = none := by
    cases q : s3.heap.get? (s3.heap.objs.size + 1) with
    | none => rfl
    | some o => exact absurd (Heap.lt_size q) (Nat.not_lt.mpr (Nat.le_succ _))
  exact (PostV.addList (tk := s3.toks) R3 (slice_same rs) hz hk hn1 e1 q).back st03 R3

theorem compOk_of {c : CC} {scope : Scope} {x : Str} {a : Int} (hs : (a == 0 && okComp scope c.scope && scope.names.lookup x == some .local && (scope.names.all fun y => y.2 != .local || y.1 == x || (c.slots.lookup y.1).isNone) && (c.slots.all fun p => p.2 < c.nxt)) = true) : a = 0 ∧ CompOk c scope x := by
  simp only [Bool.and_eq_true] at hs
  obtain ⟨⟨⟨⟨ha, hok⟩, hvar⟩, hown⟩, hlow⟩ := hs
  refine ⟨by simpa using ha, ?_⟩
  unfold okComp at hok
  simp only [Bool.and_eq_true, beq_iff_eq, List.all_eq_true, Bool.or_eq_true, bne_iff_ne, ne_eq] at hok
  simp only [List.all_eq_true, Bool.or_eq_true, bne_iff_ne, ne_eq, beq_iff_eq, Option.isNone_iff_eq_none] at hown
  simp only [List.all_eq_true, decide_eq_true_eq] at hlow
  refine ⟨hok.1, fun y hy => (hok.2 y hy).1.1, fun y hy hl => ?_, fun y hy hf => ?_, by simpa using hvar, fun y hy => ?_, fun y i hl => hlow (y, i) (mem_of_lookup hl)⟩
  · rcases (hok.2 y hy).1.2 with q | q
    · exact absurd hl q
    · exact q
  · rcases (hok.2 y hy).2 with q | q
    · exact absurd hf q
    · exact q.2
  · rcases hown (y, .local) hy with (q | q) | q
    · exact absurd rfl q
    · exact .inl q
    · exact .inr q

theorem comp_inv {n : Nat} {c : CC} {elt : Expr} {gens : List Comprehension} {scope : Scope} {pos : Pos} {ie : IE} (h : compE (n + 1) c (.ListComp elt gens scope pos) = some ie) :
    ∃ x px iter ifs kk ss ielt iifs, gens = [⟨.Name x px, iter, ifs, 0⟩] ∧ CompOk c scope x ∧ compSrc (compE n c) c iter = some (kk, ss) ∧ compE n (inner c scope x) elt = some ielt ∧ mapO (compE n (inner c scope x)) ifs = some iifs ∧ ie = .comp ielt [c.nxt] kk ss iifs := by
  cases gens with
  | nil => exact nomatch (show (none : Option IE) = some ie from h)
  | cons gen gens =>
    obtain ⟨tgt, iter, ifs, a⟩ := gen
    cases gens with
    | cons g2 gens => cases tgt <;> exact nomatch (show (none : Option IE) = some ie from h)
    | nil =>
      cases tgt with
      | Name x px =>
        obtain ⟨hs, h'⟩ := onlyIf_some h
        obtain ⟨ha, ok⟩ := compOk_of (c := c) (scope := scope) (x := x) (a := a) hs
        clear h; subst ha
        obtain ⟨ks, e, fs, h1, h2, h3, rfl⟩ := oThree_some h'
        exact ⟨x, px, iter, ifs, ks.1, ks.2, e, fs, rfl, ok, h1, h2, h3, rfl⟩
      | _ => exact nomatch (show (none : Option IE) = some ie from h)

theorem soundE (hO : OrcOk D k Φ) : ∀ (n : Nat) (c : CC) (e : Expr) (ie : IE), GOk D c.G → compE n c e = some ie → Both D Φ k c e ie := by
  intro n
  induction n with
  | zero => intro c e ie g h; cases h
  | succ n ih =>
    intro c e ie g h
    have ihB : ∀ e ie, compE n c e = some ie → Both D Φ k c e ie := fun e ie h => ih c e ie g h
    have ihE : ∀ e ie, compE n c e = some ie → SE D Φ k c e ie := fun e ie h => (ihB e ie h).1
    cases e with
    | Constant kk a b =>
      obtain ⟨W, hW, rfl⟩ := Option.map_eq_some_iff.mp h; exact e_const hW
    | Name x p => exact e_name g h
    | BinOp l op r p => obtain ⟨a, b, h1, h2, rfl⟩ := oTwo_some h; exact e_bin (ihE _ _ h1) (ihE _ _ h2)
    | UnaryOp op x p =>
      cases op with
      | USub => obtain ⟨a, ha, rfl⟩ := Option.map_eq_some_iff.mp h; exact e_neg (ihE _ _ ha)
      | Not => obtain ⟨a, ha, rfl⟩ := Option.map_eq_some_iff.mp h; exact e_not (ihB _ _ ha)
      | _ => exact nomatch (show (none : Option IE) = some ie from h)
    | BoolOp op vs p =>
      cases op with
      | And => obtain ⟨ies, h1, h2⟩ := Option.bind_eq_some_iff.mp h; exact e_and ihB h1 h2
      | Or => obtain ⟨ies, h1, h2⟩ := Option.bind_eq_some_iff.mp h; exact e_or ihB h1 h2
    | IfExp t a b p => obtain ⟨a, b, d, h1, h2, h3, rfl⟩ := oThree_some h; exact e_ite (ihB _ _ h1) (ihB _ _ h2) (ihB _ _ h3)
    | Compare l ops rs p =>
      cases ops with
      | nil => exact nomatch (show (none : Option IE) = some ie from h)
      | cons op ops =>
        cases rs with
        | nil => cases ops with
          | nil => exact nomatch (show (none : Option IE) = some ie from h)
          | cons o2 ops => cases ops <;> exact nomatch (show (none : Option IE) = some ie from h)
        | cons r rs =>
          cases ops with
          | nil => cases rs with
            | nil => obtain ⟨a, b, h1, h2, rfl⟩ := oTwo_some h; exact e_cmp (ihE _ _ h1) (ihE _ _ h2) (noMarks h2)
            | cons r2 rs => exact nomatch (show (none : Option IE) = some ie from h)
          | cons op2 ops => cases ops with
            | cons op3 ops => exact nomatch (show (none : Option IE) = some ie from h)
            | nil => cases rs with
              | nil => exact nomatch (show (none : Option IE) = some ie from h)
              | cons r2 rs => cases rs with
                | cons r3 rs => exact nomatch (show (none : Option IE) = some ie from h)
                | nil => obtain ⟨a, b, d, h1, h2, h3, rfl⟩ := oThree_some h; exact e_cmp2 (ihE _ _ h1) (ihE _ _ h2) (ihE _ _ h3) (noMarks h3)
    | Tuple es a p =>
      obtain ⟨hs, h⟩ := onlyIf_some h
      obtain ⟨a, ha, rfl⟩ := Option.map_eq_some_iff.mp h
      exact e_tup ihE (by simpa using hs) ha
    | List es p =>
      obtain ⟨hs, h⟩ := onlyIf_some h
      obtain ⟨a, ha, rfl⟩ := Option.map_eq_some_iff.mp h
      exact e_lst ihE (by simpa using hs) ha
    | Call f args kw p =>
      cases kw with
      | cons k1 kw => cases f <;> exact nomatch (show (none : Option IE) = some ie from h)
      | nil =>
        cases f with
        | Name x px =>
          obtain ⟨hs, h⟩ := onlyIf_some h
          simp only [Bool.and_eq_true, Bool.not_eq_true'] at hs
          obtain ⟨a, b, h1, h2, rfl⟩ := oTwo_some h
          exact e_call g hO ihE hs.1 h1 h2
        | Attribute o name apos =>
          obtain ⟨hs, h⟩ := onlyIf_some h
          simp only [Bool.and_eq_true, Bool.not_eq_true'] at hs
          have hm : ∃ m, mtOf name = some m := by
            cases hq : mtOf name with
            | none => rw [hq] at h; cases h
            | some m => exact ⟨m, rfl⟩
          obtain ⟨m, hm⟩ := hm
          rw [hm] at h
          have h' : onlyIf (args.length.beq (methN m)) (oTwo (fun v as => .meth v m as) (compE n c o) (methA (compE n c) args)) = some ie := h
          have hname := mtOf_some hm
          obtain ⟨hn, h3⟩ := onlyIf_some h'
          obtain ⟨v, ias, ho, ha, rfl⟩ := oTwo_some h3
          clear h3 h' h
          have hn := Nat.eq_of_beq_eq_true hn
          have hl := Nat.eq_of_beq_eq_true hs.2
          rw [hname]
          match args, hn, ha, hs with
          | [], hn, ha, hs =>
            cases ha
            cases m with
            | clear => exact e_clear (ihE _ _ ho) hs.1.2 hl
            | append => cases hn
            | index => cases hn
          | [a], hn, ha, hs =>
            obtain ⟨ia, hia, rfl⟩ := Option.map_eq_some_iff.mp ha
            cases m with
            | clear => cases hn
            | append => exact e_append (ihE _ _ ho) (ihE _ _ hia) hs.1.2 hl (by simpa using hs.1.1.1)
            | index => exact e_index (ihE _ _ ho) (ihE _ _ hia) hs.1.2 hl (by simpa using hs.1.1.1)
          | _ :: _ :: _, hn, ha, hs => cases ha
        | _ => exact nomatch (show (none : Option IE) = some ie from h)
    | Subscript o i p =>
      change subE (compE n c) c o i = some ie at h
      unfold subE at h
      cases hp : sliceParts o i with
      | none =>
        rw [hp] at h
        obtain ⟨a, b, h1, h2, rfl⟩ := oTwo_some h
        exact e_sub (ihE _ _ h1) (ihE _ _ h2) (noSlice h2)
      | some q =>
        rw [hp] at h
        obtain ⟨x, lo, hi⟩ := q
        obtain ⟨px, sp, rfl, rfl⟩ := sliceParts_some hp
        obtain ⟨a, b, d, h1, h2, h3, rfl⟩ := oThree_some h
        exact e_slice g ihE h1 h2 h3
    | ListComp elt gens scope pos =>
      obtain ⟨x, px, iter, ifs, kk, ss, ielt, iifs, rfl, ok, h1, h2, h3, rfl⟩ := comp_inv h
      exact e_comp g ih ok h1 h2 h3 (noSetIter h1)
    | _ => exact nomatch (show (none : Option IE) = some ie from h)
end
end Mine

set_option autoImplicit false
/- Statements (nothing is raised). -/
namespace Mine
open PySem PyProof.Rows

noncomputable def ownA (env : Env) : List Addr := env.locals :: env.cells.map (·.2)

structure FRel (D : Wd) (γ : List Addr) (env : Env) (slots : List (Str × Nat)) (h : Heap) (L : Lc) : Prop where
  l : LRel D γ env slots h L
  own : ∀ a ∈ ownA env, a ∉ γ ∧ D.hB.get? a = none ∧ (∃ o, h.get? a = some o) ∧ ∀ ws, ¬ TupAt h a ws
  apart : env.cells.Pairwise fun x y => x.2 ≠ y.2
  above : ∀ p ∈ env.cells, p.2 ≠ env.locals

noncomputable def FlRep (mg : Wd) (γ : List Addr) (h : Heap) : Flow → Fl → Prop
  | .next, .next => True
  | .brk, .brk => True
  | .cont, .cont => True
  | .ret v, .ret V => Rep mg γ h v V
  | _, _ => False

noncomputable def PostF (D : Wd) (γ : List Addr) (s : Shared) (env : Env) (slots : List (Str × Nat)) (Q : QS) (fl : Flow) (s' : Shared) : Prop :=
  ∃ γ' H' L' F, Stp (ownA env) γ γ' s s' ∧ HRel D γ' H' s'.heap ∧ FRel D γ' env slots s'.heap L' ∧ FlRep D γ' s'.heap fl F ∧ Q F L' H'

noncomputable abbrev NoX : Value → Shared → Prop := fun _ _ => False

structure SlotsOk (c : CC) : Prop where
  inj : ∀ (x y : Str) (i : Nat), c.slots.lookup x = some i → c.slots.lookup y = some i → x = y

section
variable {D : Wd} {Φ : Orc} {k : Nat} {γ γ1 : List Addr} {H H1 : Hp} {s s1 : Shared} {env : Env} {slots : List (Str × Nat)} {L : Lc}

theorem FRel.stp (f : FRel D γ env slots s.heap L) (R : HRel D γ H s.heap) (t : Stp [] γ γ1 s s1) : FRel D γ1 env slots s1.heap L where
  l := f.l.stp R t
  own := fun a ha => by
    obtain ⟨h1, h2, ⟨o, e⟩, h3⟩ := f.own a ha
    have e' := t.keep _ _ h1 (by simp) e
    refine ⟨notin_ext t h1 e, h2, ⟨o, e'⟩, fun ws q => h3 ws ?_⟩
    obtain ⟨n, q1, q2⟩ := q
    rw [e'] at q1; cases q1
    exact ⟨n, e, q2⟩
  apart := f.apart
  above := f.above

theorem Stp.transF {wr γ2 : List Addr} {s2 : Shared} (R1 : HRel D γ1 H1 s1.heap) (a : Stp wr γ γ1 s s1) (b : Stp wr γ1 γ2 s1 s2) (hw : ∀ x ∈ wr, ∃ o', s1.heap.get? x = some o') : Stp wr γ γ2 s s2 :=
  a.trans R1 b (fun x hx _ _ => hw x hx)

theorem FRel.alive (f : FRel D γ env slots s.heap L) : ∀ x ∈ ownA env, ∃ o', s.heap.get? x = some o' := fun x hx => by
  obtain ⟨_, _, e, _⟩ := f.own x hx; exact e

theorem PostF.back {Q : QS} {fl : Flow} {s' : Shared} {L1 : Lc} (t : Stp (ownA env) γ γ1 s s1) (R : HRel D γ1 H1 s1.heap) (f : FRel D γ1 env slots s1.heap L1) (h : PostF D γ1 s1 env slots Q fl s') : PostF D γ s env slots Q fl s' := by
  obtain ⟨γ', H', L', F, a, b, c, d, e⟩ := h
  exact ⟨γ', H', L', F, t.transF R a f.alive, b, c, d, e⟩

theorem lookup_cell_mem {x : Str} {c : Addr} (h : env.cells.lookup x = some c) : c ∈ ownA env := List.mem_cons_of_mem _ (List.mem_map.mpr ⟨(x, c), mem_of_lookup h, rfl⟩)

theorem notTup_cell {h : Heap} {c : Addr} {u : Option Value} (x : h.IsCell c u) (ws : List Value) : ¬ TupAt h c ws := fun q => by
  obtain ⟨o, e, d⟩ := x
  obtain ⟨n, e', _⟩ := q
  rw [e] at e'; cases e'; cases d

theorem notTup_same {h h' : Heap} {a : Addr} {o : Obj} (e : h.get? a = some o) (e' : h'.get? a = some o) (q : ∀ ws, ¬ TupAt h a ws) (ws : List Value) : ¬ TupAt h' a ws := fun x => by
  obtain ⟨n, q1, q2⟩ := x
  rw [e'] at q1; cases q1
  exact q ws ⟨n, e, q2⟩

theorem store_ok {c : CC} {A : Around} {E : Value → Shared → Prop} {x : Str} {i : Nat} {v : Value} {W : V} (hE : EnvOk c env) (so : SlotsOk c) (R : HRel D γ H s.heap) (f : FRel D γ env c.slots s.heap L) (hs : slotV c x = some i) (rv : Rep D γ s.heap v W) :
    wpAny D.M A (storeName env x v) (fun _ s' => Stp (ownA env) γ γ s s' ∧ HRel D γ H s'.heap ∧ FRel D γ env c.slots s'.heap (L.set i (some W))) E s := by
  have hkf : env.scope.kind = .function := by rw [hE.scope]; exact hE.kind
  have hkind : ∀ y, env.kindOf y = c.scope.names.lookup y := fun y => by unfold Env.kindOf; rw [hE.scope]
  unfold slotV at hs
  split at hs
  · rename_i hk
    have hk' : env.kindOf x = some .local := (hkind x).trans hk
    obtain ⟨m, hn, fm⟩ := f.l.ns
    obtain ⟨lg, lB, _, cL⟩ := f.own env.locals List.mem_cons_self
    refine wpAny_storeName_local hk' hn (fun h' hn' hs' => ?_) (by rw [hkf]; rfl)
    have hkk : ∀ b o, b ≠ env.locals → s.heap.get? b = some o → h'.get? b = some o := fun b o hb e => hs'.extBut b o hb e
    have tt : ∀ a ws, TupAt s.heap a ws → TupAt h' a ws := fun a ws q => tupAt_but hkk cL q
    refine ⟨⟨⟨_, _, rfl⟩, fun b o _ hb e => hkk b o (fun q => hb (q ▸ List.mem_cons_self)) e, ⟨[], by simp, by simp⟩⟩, R.but hkk lg lB cL, ⟨⟨⟨_, hn', ?_⟩, ?_, lg⟩, ?_, f.apart, f.above⟩⟩
    · intro y j V hy hj hL
      by_cases hxy : y = x
      · subst hxy
        rw [hs] at hj; cases hj
        rw [List.getElem?_set] at hL
        simp only [if_true] at hL
        split at hL
        · cases hL; exact ⟨v, by simp, Rep.mono ⟨[], by simp⟩ tt rv⟩
        · cases hL
      · have hij : i ≠ j := fun q => hxy (so.inj y x i (q ▸ hj) hs)
        rw [List.getElem?_set_ne hij] at hL
        obtain ⟨u, hu, ru⟩ := fm y j V hy hj hL
        exact ⟨u, by simp [hxy, hu], Rep.mono ⟨[], by simp⟩ tt ru⟩
    · intro y hy
      obtain ⟨ca, u, e1, e2, e3, e4⟩ := f.l.cel y hy
      refine ⟨ca, u, e1, e2.sameBut hs' (f.above (y, ca) (mem_of_lookup e1)), e3, fun j V hj hL => ?_⟩
      have hij : i ≠ j := fun q => by
        have := so.inj y x i (q ▸ hj) hs
        subst this; rw [hy] at hk'; cases hk'
      rw [List.getElem?_set_ne hij] at hL
      obtain ⟨w, hw, rw_⟩ := e4 j V hj hL
      exact ⟨w, hw, Rep.mono ⟨[], by simp⟩ tt rw_⟩
    · intro a ha
      obtain ⟨a1, a2, ⟨o, e⟩, a3⟩ := f.own a ha
      by_cases hal : a = env.locals
      · subst hal
        exact ⟨a1, a2, (let ⟨o', _, _, eo, _⟩ := hn'; ⟨o', eo⟩), notTup_dict hn'⟩
      · exact ⟨a1, a2, ⟨o, hkk _ _ hal e⟩, notTup_same e (hkk _ _ hal e) a3⟩
  · rename_i hk
    have hk' : env.kindOf x = some .cell := (hkind x).trans hk
    obtain ⟨ca, u, e1, e2, e3, e4⟩ := f.l.cel x hk'
    obtain ⟨lg, lB, _, cL⟩ := f.own ca (lookup_cell_mem e1)
    have hcl : ca ≠ env.locals := f.above (x, ca) (mem_of_lookup e1)
    refine wpAny_storeName_cell hkf hk' e1 e2 (fun h' hc' hs' => ?_)
    have hkk : ∀ b o, b ≠ ca → s.heap.get? b = some o → h'.get? b = some o := fun b o hb e => hs'.extBut b o hb e
    have tt : ∀ a ws, TupAt s.heap a ws → TupAt h' a ws := fun a ws q => tupAt_but hkk cL q
    obtain ⟨m, hn, fm⟩ := f.l.ns
    refine ⟨⟨⟨_, s.toks, rfl⟩, fun b o _ hb e => hkk b o (fun q => hb (q ▸ lookup_cell_mem e1)) e, ⟨[], by simp, by simp⟩⟩, R.but hkk lg lB cL, ⟨⟨⟨m, hn.sameBut hs' (Ne.symm hcl), ?_⟩, ?_, f.l.nin⟩, ?_, f.apart, f.above⟩⟩
    · intro y j V hy hj hL
      have hij : i ≠ j := fun q => by
        have := so.inj y x i (q ▸ hj) hs
        subst this; rw [hy] at hk'; cases hk'
      rw [List.getElem?_set_ne hij] at hL
      obtain ⟨w, hw, rw_⟩ := fm y j V hy hj hL
      exact ⟨w, hw, Rep.mono ⟨[], by simp⟩ tt rw_⟩
    · intro y hy
      by_cases hxy : y = x
      · subst hxy
        refine ⟨ca, some v, e1, hc', e3, fun j V hj hL => ?_⟩
        rw [hs] at hj; cases hj
        rw [List.getElem?_set] at hL
        simp only [if_true] at hL
        split at hL
        · cases hL; exact ⟨v, rfl, Rep.mono ⟨[], by simp⟩ tt rv⟩
        · cases hL
      · obtain ⟨cb, u', f1, f2, f3, f4⟩ := f.l.cel y hy
        have hne : cb ≠ ca := fun q => hxy (name_of_addr f.apart (mem_of_lookup f1) (q ▸ mem_of_lookup e1))
        refine ⟨cb, u', f1, f2.sameBut hs' hne, f3, fun j V hj hL => ?_⟩
        have hij : i ≠ j := fun q => hxy (so.inj y x i (q ▸ hj) hs)
        rw [List.getElem?_set_ne hij] at hL
        obtain ⟨w, hw, rw_⟩ := f4 j V hj hL
        exact ⟨w, hw, Rep.mono ⟨[], by simp⟩ tt rw_⟩
    · intro a ha
      obtain ⟨a1, a2, ⟨o, e⟩, a3⟩ := f.own a ha
      by_cases hal : a = ca
      · subst hal
        exact ⟨a1, a2, (let ⟨o', eo, _⟩ := hc'; ⟨o', eo⟩), notTup_cell hc'⟩
      · exact ⟨a1, a2, ⟨o, hkk _ _ hal e⟩, notTup_same e (hkk _ _ hal e) a3⟩
  · cases hs
end
end Mine

set_option autoImplicit false
/- Statements, one at a time. -/
namespace Mine
open PySem PyProof.Rows

noncomputable def SS (D : Wd) (Φ : Orc) (k : Nat) (c : CC) (st : Stmt) (is : IS) : Prop := ∀ env A γ H s L Q X, EnvOk c env → AOk k A → HRel D γ H s.heap → FRel D γ env c.slots s.heap L →
  wpS Φ is L H Q X → wpAny D.M A (exec st env) (PostF D γ s env c.slots Q) NoX s
noncomputable def SSs (D : Wd) (Φ : Orc) (k : Nat) (c : CC) (sts : List Stmt) (iss : List IS) : Prop := ∀ env A γ H s L Q X, EnvOk c env → AOk k A → HRel D γ H s.heap → FRel D γ env c.slots s.heap L →
  wpSs Φ iss L H Q X → wpAny D.M A (execs sts env) (PostF D γ s env c.slots Q) NoX s

section
variable {D : Wd} {Φ : Orc} {k : Nat} {c : CC}

theorem exprNoX {t : Sem Value} {γ : List Addr} {s : Shared} {A : Around} {Q : V → Hp → Prop} {X : XL} {E : Value → Shared → Prop} (h : wpAny D.M A t (PostV D γ s Q) (PostX D γ s X) s) : wpAny D.M A t (PostV D γ s Q) E s :=
  wpAny_mono h (fun _ _ x => x) fun _ _ x => x.no.elim
theorem exprNoXB {t : Sem Bool} {γ : List Addr} {s : Shared} {A : Around} {Q : Bool → Hp → Prop} {X : XL} {E : Value → Shared → Prop} (h : wpAny D.M A t (PostB D γ s Q) (PostX D γ s X) s) : wpAny D.M A t (PostB D γ s Q) E s :=
  wpAny_mono h (fun _ _ x => x) fun _ _ x => x.no.elim

theorem sss_of {f : Stmt → Option IS} (ih : ∀ st is, f st = some is → SS D Φ k c st is) : ∀ (sts : List Stmt) (iss : List IS), mapO f sts = some iss → SSs D Φ k c sts iss
  | [], iss, hm => by
    rw [mapO_nil hm]
    intro env A γ H s L Q X hE hA R fr w
    exact wpAny_execs_nil ⟨γ, H, L, .next, Stp.refl, R, fr, trivial, w⟩
  | st :: r, iss, hm => by
    obtain ⟨b, bs, rfl, h1, h2⟩ := mapO_cons hm
    intro env A γ H s L Q X hE hA R fr w
    refine wpAny_execs_cons (wpAny_mono (ih st b h1 env A γ H s L _ X hE hA R fr w) (fun fl s1 p => ?_) fun _ _ x => x)
    obtain ⟨γ1, H1, L1, F, st1, R1, fr1, hf, q⟩ := p
    cases fl with
    | next =>
      cases F <;> simp only [FlRep] at hf
      refine wpAny_mono (sss_of ih r bs h2 env A γ1 H1 s1 L1 Q X hE hA R1 fr1 q) (fun _ _ x => x.back st1 R1 fr1) fun _ _ x => x
    | brk => cases F <;> simp only [FlRep] at hf; exact ⟨γ1, H1, L1, .brk, st1, R1, fr1, trivial, q⟩
    | cont => cases F <;> simp only [FlRep] at hf; exact ⟨γ1, H1, L1, .cont, st1, R1, fr1, trivial, q⟩
    | ret v => cases F <;> simp only [FlRep] at hf; exact ⟨γ1, H1, L1, .ret _, st1, R1, fr1, hf, q⟩

theorem kindF {env : Env} (hE : EnvOk c env) : env.scope.kind = .function := by rw [hE.scope]; exact hE.kind

theorem s_expr {e : Expr} {pos : Pos} {ie : IE} (h : SE D Φ k c e ie) (hc : isComp e = false) : SS D Φ k c (.Expr e pos) (.expr ie) := by
  intro env A γ H s L Q X hE hA R fr w
  have hk := kindF hE
  refine wpAny_Expr_any (wpAny_mono (h env A γ H s L _ _ hE hA R fr.l w) (fun v s1 p => ?_) fun _ _ x => x.no.elim) (by unfold interactive; rw [hk]; rfl) (by cases e <;> first | rfl | (simp [isComp] at hc))
  obtain ⟨γ1, V, H1, st, R1, rv, q⟩ := p
  exact ⟨γ1, H1, L, .next, st.weak, R1, fr.stp R st, trivial, q⟩

theorem s_ret {e : Expr} {pos : Pos} {ie : IE} (h : SE D Φ k c e ie) : SS D Φ k c (.Return (some e) pos) (.ret ie) := by
  intro env A γ H s L Q X hE hA R fr w
  refine wpAny_Return_some (wpAny_mono (h env A γ H s L _ _ hE hA R fr.l w) (fun v s1 p => ?_) fun _ _ x => x.no.elim)
  obtain ⟨γ1, V, H1, st, R1, rv, q⟩ := p
  exact ⟨γ1, H1, L, .ret V, st.weak, R1, fr.stp R st, rv, q⟩

theorem s_assign {e : Expr} {x : Str} {px pos : Pos} {ie : IE} {i : Nat} (so : SlotsOk c) (h : SE D Φ k c e ie) (hs : slotV c x = some i) (hw : ∀ env, EnvOk c env → swapsWith e (some (.Name x px)) pos.line env = pure false) :
    SS D Φ k c (.Assign [.Name x px] e pos) (.assign i ie) := by
  intro env A γ H s L Q X hE hA R fr w
  refine wpAny_Assign_Name (wpAny_mono (h env A γ H s L _ _ hE hA R fr.l w) (fun v s1 p => ?_) fun _ _ x => x.no.elim) (hw env hE)
  obtain ⟨γ1, V, H1, st, R1, rv, q⟩ := p
  refine wpAny_mono (store_ok hE so R1 (fr.stp R st) hs rv) (fun _ s2 p => ?_) fun _ _ x => x
  obtain ⟨st2, R2, fr2⟩ := p
  exact ⟨γ1, H1, _, .next, st.weak.transF R1 st2 (fr.stp R st).alive, R2, fr2, trivial, q⟩

theorem s_assign_comp {n : Nat} {elt iter : Expr} {ifs : List Expr} {x y : Str} {px py pos spos : Pos} {scope : Scope} {ielt : IE} {iifs : List IE} {kk : SrcK} {ss : List IE} {i : Nat} (g : GOk D c.G) (so : SlotsOk c)
    (ih : ∀ c e ie, GOk D c.G → compE n c e = some ie → Both D Φ k c e ie) (ok : CompOk c scope x)
    (hsrc : compSrc (compE n c) c iter = some (kk, ss)) (hce : compE n (inner c scope x) elt = some ielt) (hci : mapO (compE n (inner c scope x)) ifs = some iifs) (hset : ∀ env x, foldedSetIterable iter env x = pure x) (hs : slotV c y = some i) :
    SS D Φ k c (.Assign [.Name y py] (.ListComp elt [⟨.Name x px, iter, ifs, 0⟩] scope pos) spos) (.assign i (.comp ielt [c.nxt] kk ss iifs)) := by
  intro env A γ H s L Q X hE hA R fr w
  have hsw : ∃ b, swapsWith (.ListComp elt [⟨.Name x px, iter, ifs, 0⟩] scope pos) (some (.Name y py)) spos.line env = pure b := ⟨_, rfl⟩
  obtain ⟨b, hb⟩ := hsw
  cases b with
  | false =>
    refine wpAny_Assign_Name (wpAny_mono ((e_comp g ih ok hsrc hce hci hset).1 env A γ H s L _ _ hE hA R fr.l w) (fun v s1 p => ?_) fun _ _ x => x.no.elim) hb
    obtain ⟨γ1, V, H1, st, R1, rv, q⟩ := p
    refine wpAny_mono (store_ok hE so R1 (fr.stp R st) hs rv) (fun _ s2 p => ?_) fun _ _ x => x
    obtain ⟨st2, R2, fr2⟩ := p
    exact ⟨γ1, H1, _, .next, st.weak.transF R1 st2 (fr.stp R st).alive, R2, fr2, trivial, q⟩
  | true =>
    rw [exec_Assign_Name_used _ _ _ _ hb]
    refine wpAny_bind (wpAny_standAt (wpAny_bind ?_))
    show wpAny _ A (do let _ ← comprehension (.ListComp elt [⟨.Name x px, iter, ifs, 0⟩] scope pos) scope env _ (newList []) false (eval iter env) (some (assign (.Name y py) env))) _ _ s
    refine wpAny_bind (wpAny_mono (comp_run (use := some (assign (.Name y py) env)) (Qf := fun _ s' => PostF D γ s env c.slots Q .next s') g ih ok hsrc hce hci hE hA R fr.l (hset env) w ?_) (fun _ s' hq => wpAny_pure (wpAny_pure hq)) fun _ _ x => x.no.elim)
    intro γ' H' s' Dd C acc stp R' ho dn d0 hc cn c0 hdc hK
    obtain ⟨ys, ny, hy, ry⟩ := ho
    obtain ⟨m, hm⟩ := hc
    have dB := base_none R d0
    have R2 := R'.adopt ry (by have := hK.1; omega) dn dB hy
    have fr' := fr.stp R stp
    have stp2 : Stp [] γ (γ' ++ [Dd]) s s' := by
      refine ⟨stp.same, stp.keep, ?_⟩
      obtain ⟨δ, e, f⟩ := stp.ext
      refine ⟨δ ++ [Dd], by rw [e]; simp, fun b hb => ?_⟩
      rcases List.mem_append.mp hb with q | q
      · exact f b q
      · simp at q; subst q; exact d0
    have fr2 : FRel D (γ' ++ [Dd]) env c.slots s'.heap L := fr.stp R stp2
    show wpAny D.M A (assign (.Name y py) env (.ref Dd)) _ _ s'
    refine wpAny_assign_Name (wpAny_mono (store_ok (W := .ref H'.length) hE so R2 fr2 hs (by simp only [Rep]; exact ⟨_, by rw [List.getElem?_append_right (by rw [R'.len]; exact Nat.le_refl _)]; simp [R'.len], rfl⟩)) (fun _ s2 p => ?_) fun _ _ x => x)
    obtain ⟨st3, R3, fr3⟩ := p
    have hCown : C ∉ ownA env := fun hm' => by
      obtain ⟨o, e⟩ := fr.alive C hm'
      rw [c0] at e; cases e
    have hm3 : s2.heap.Ns C m := hm.at' fun o e => st3.keep _ o (by
      intro q
      rcases List.mem_append.mp q with q | q
      · exact cn q
      · simp at q; exact hdc q.symm) hCown e
    refine ⟨m, hm3, fun h' hs' => ?_⟩
    have hk : ∀ b o, b ≠ C → s2.heap.get? b = some o → h'.get? b = some o := fun b o hb e => hs'.extBut b o hb e
    have cn2 : C ∉ γ' ++ [Dd] := by
      intro q
      rcases List.mem_append.mp q with q | q
      · exact cn q
      · simp at q; exact hdc q.symm
    have nt := notTup_dict hm3
    have fr4 : FRel D (γ' ++ [Dd]) env c.slots h' (L.set i (some (.ref H'.length))) := by
      have tt : ∀ a ws, TupAt s2.heap a ws → TupAt h' a ws := fun a ws q => tupAt_but hk nt q
      have hLC : env.locals ≠ C := fun q => hCown (q ▸ List.mem_cons_self)
      refine ⟨⟨?_, ?_, fr3.l.nin⟩, ?_, fr3.apart, fr3.above⟩
      · obtain ⟨m2, hn2, f2⟩ := fr3.l.ns
        refine ⟨m2, hn2.at' fun o e => hk _ o hLC e, fun z j V h1 h2 h3 => ?_⟩
        obtain ⟨v, e1, e2⟩ := f2 z j V h1 h2 h3
        exact ⟨v, e1, Rep.mono ⟨[], by simp⟩ tt e2⟩
      · intro z hz
        obtain ⟨ca, u, e1, e2, e3, e4⟩ := fr3.l.cel z hz
        refine ⟨ca, u, e1, e2.sameBut hs' (fun q => hCown (q ▸ lookup_cell_mem e1)), e3, fun j V h1 h2 => ?_⟩
        obtain ⟨v, e5, e6⟩ := e4 j V h1 h2
        exact ⟨v, e5, Rep.mono ⟨[], by simp⟩ tt e6⟩
      · intro a ha
        obtain ⟨a1, a2, ⟨o, e⟩, a3⟩ := fr3.own a ha
        have e' := hk a o (fun q => hCown (q ▸ ha)) e
        exact ⟨a1, a2, ⟨o, e'⟩, notTup_same e e' a3⟩
    refine ⟨γ' ++ [Dd], _, _, .next, ?_, R3.but hk cn2 (base_none R c0) nt, fr4, trivial, hK.2⟩
    have st4 := stp2.weak.transF R2 st3 fr2.alive
    refine ⟨?_, fun b o hb hw e => hk b o (by rintro rfl; rw [c0] at e; cases e) (st4.keep b o hb hw e), st4.ext⟩
    obtain ⟨h4, t4, e4⟩ := st4.same
    rw [e4]; exact ⟨_, _, rfl⟩

theorem s_if {t : Expr} {a b : List Stmt} {pos : Pos} {it : IE} {ia ib : List IS} (ht : ST D Φ k c t it) (ha : SSs D Φ k c a ia) (hb : SSs D Φ k c b ib) : SS D Φ k c (.If t a b pos) (.ite it ia ib) := by
  intro env A γ H s L Q X hE hA R fr w
  refine wpAny_If (wpAny_mono (ht env A γ H s L _ _ hE hA R fr.l w) (fun v s1 p => ?_) fun _ _ x => x.no.elim)
  obtain ⟨γ1, H1, st, R1, q⟩ := p
  cases v with
  | true => exact wpAny_mono (ha env A γ1 H1 s1 L Q X hE hA R1 (fr.stp R st) q) (fun _ _ x => x.back st.weak R1 (fr.stp R st)) fun _ _ x => x
  | false => exact wpAny_mono (hb env A γ1 H1 s1 L Q X hE hA R1 (fr.stp R st) q) (fun _ _ x => x.back st.weak R1 (fr.stp R st)) fun _ _ x => x

theorem s_while {t : Expr} {b : List Stmt} {pos : Pos} {it : IE} {ib : List IS} (ht : ST D Φ k c t it) (hb : SSs D Φ k c b ib) : SS D Φ k c (.While t b [] pos) (.while it ib) := by
  intro env A γ H s L Q X hE hA R fr w
  obtain ⟨n, w⟩ := w
  refine wpAny_While (codeAny_whileLoop (fun m s' => ∃ γ' H' L', Stp (ownA env) γ γ' s s' ∧ HRel D γ' H' s'.heap ∧ FRel D γ' env c.slots s'.heap L' ∧
    whileGo (fun L' H' K => (wp2 Φ it).T L' H' K (fun x => X x L')) (fun L' H' K => wpSs Φ ib L' H' K X) m L' H' Q) ?_ n ⟨γ, H, L, Stp.refl, R, fr, w⟩)
  rintro m s' ⟨γ', H', L', st, R', fr', w⟩
  cases m with
  | zero => exact w.elim
  | succ m =>
    refine wpAny_mono (ht env A γ' H' s' L' _ _ hE hA R' fr'.l w) (fun v s1 p => ?_) fun _ _ x => x.no.elim
    obtain ⟨γ1, H1, st1, R1, q⟩ := p
    have st01 : Stp (ownA env) γ γ1 s s1 := st.transF R' st1.weak fr'.alive
    have fr1 := fr'.stp R' st1
    cases v with
    | true =>
      refine wpAny_mono (hb env A γ1 H1 s1 L' _ X hE hA R1 fr1 q) (fun fl s2 p => ?_) fun _ _ x => x.elim
      obtain ⟨γ2, H2, L2, F, st2, R2, fr2, hf, q2⟩ := p
      have st02 := st01.transF R1 st2 fr1.alive
      cases fl <;> cases F <;> simp only [FlRep] at hf
      · exact ⟨m, Nat.lt_succ_self _, γ2, H2, L2, st02, R2, fr2, q2⟩
      · exact ⟨γ2, H2, L2, .next, st02, R2, fr2, trivial, q2⟩
      · exact ⟨m, Nat.lt_succ_self _, γ2, H2, L2, st02, R2, fr2, q2⟩
      · exact ⟨γ2, H2, L2, .ret _, st02, R2, fr2, hf, q2⟩
    | false => exact wpAny_execs_nil ⟨γ1, H1, L', .next, st01, R1, fr1, trivial, q⟩

theorem s_for {n : Nat} {x : Str} {px pos : Pos} {iter : Expr} {b : List Stmt} {kk : SrcK} {ss : List IE} {ib : List IS} {i : Nat} (g : GOk D c.G) (so : SlotsOk c) (ih : ∀ e ie, compE n c e = some ie → SE D Φ k c e ie) (hs : slotV c x = some i)
    (hsrc : compSrc (compE n c) c iter = some (kk, ss)) (hb : SSs D Φ k c b ib) : SS D Φ k c (.For (.Name x px) iter b [] pos) (.for [i] kk ss ib) := by
  intro env A γ H s L Q X hE hA R fr w
  refine wpAny_For (wpAny_mono (src_ok (K := fun l st H1 => forGo (fun L' H' K => wpSs Φ ib L' H' K X) st [i] l L H1 Q) g ih hsrc hE hA R fr.l w) (fun xv s1 h1 => wpAny_mono h1 (fun it s2 h2 => ?_) fun _ _ x => x.no.elim) fun _ _ x => x.no.elim) (noSetIter hsrc env)
  obtain ⟨γ2, H2, I, fp, l, st, Inv, rfl, stp2, R2, itr, iv, fps, hI0, hst, hlen, w2⟩ := h2
  have fr2 := fr.stp R stp2
  have IB := base_none R hI0
  have fpo : ∀ b ∈ fp, b ∉ ownA env := fun b hb hm => by
    rcases (fps b hb).2.2 with q | ⟨ws, q⟩
    · subst q; obtain ⟨o, e⟩ := fr.alive _ hm; rw [hI0] at e; cases e
    · exact (fr2.own b hm).2.2.2 ws q
  refine codeAny_forLoop (fun m s' => ∃ j γ' H' L', m = l.length - j ∧ j ≤ l.length ∧ Stp (ownA env) γ γ' s s' ∧ HRel D γ' H' s'.heap ∧ FRel D γ' env c.slots s'.heap L' ∧ Inv γ' j s'.heap ∧ st H' ∧ (∀ b ∈ fp, b ∉ γ' ∧ ∃ o, s'.heap.get? b = some o) ∧
    forGo (fun L' H' K => wpSs Φ ib L' H' K X) st [i] (l.drop j) L' H' Q) ?_ l.length ⟨0, γ2, H2, L, rfl, Nat.zero_le _, stp2.weak, R2, fr2, iv, hst, fun b hb => ⟨(fps b hb).1, (fps b hb).2.1⟩, w2⟩
  rintro m s' ⟨j, γ', H', L', rfl, hj, st', R', fr', iv', hst', fp', w'⟩
  have hIg : I ∉ γ' := (fp' I itr.mem).1
  have nt := fun ws => itr.notTup γ' j s'.heap ws iv'
  have hIo : I ∉ ownA env := fpo I itr.mem
  have change : ∀ {h1 : Heap} {tk : Nat}, (∀ b o, b ≠ I → s'.heap.get? b = some o → h1.get? b = some o) → Stp (ownA env) γ γ' s { s' with heap := h1, toks := tk } ∧ HRel D γ' H' h1 ∧ FRel D γ' env c.slots h1 L' := by
    intro h1 tk hk
    have tt : ∀ a ws, TupAt s'.heap a ws → TupAt h1 a ws := fun a ws q => tupAt_but hk nt q
    refine ⟨⟨?_, fun b o hb hw e => hk b o (by rintro rfl; rw [hI0] at e; cases e) (st'.keep b o hb hw e), st'.ext⟩, R'.but hk hIg IB nt, ⟨⟨?_, ?_, fr'.l.nin⟩, ?_, fr'.apart, fr'.above⟩⟩
    · obtain ⟨h4, t4, e4⟩ := st'.same
      rw [e4]; exact ⟨_, _, rfl⟩
    · obtain ⟨m2, hn2, f2⟩ := fr'.l.ns
      refine ⟨m2, hn2.at' fun o e => hk _ o (fun q => hIo (q ▸ List.mem_cons_self)) e, fun z j V h1 h2 h3 => ?_⟩
      obtain ⟨v, e1, e2⟩ := f2 z j V h1 h2 h3
      exact ⟨v, e1, Rep.mono ⟨[], by simp⟩ tt e2⟩
    · intro z hz
      obtain ⟨ca, u, e1, ⟨o, eo, ed⟩, e3, e4⟩ := fr'.l.cel z hz
      refine ⟨ca, u, e1, ⟨o, hk _ _ (fun q => hIo (q ▸ lookup_cell_mem e1)) eo, ed⟩, e3, fun j V h1 h2 => ?_⟩
      obtain ⟨v, e5, e6⟩ := e4 j V h1 h2
      exact ⟨v, e5, Rep.mono ⟨[], by simp⟩ tt e6⟩
    · intro a ha
      obtain ⟨a1, a2, ⟨o, e⟩, a3⟩ := fr'.own a ha
      have e' := hk a o (fun q => hIo (q ▸ ha)) e
      exact ⟨a1, a2, ⟨o, e'⟩, notTup_same e e' a3⟩
  by_cases hlt : j < l.length
  · have hW : l[j]? = some l[j] := by simp [hlt]
    rw [List.drop_eq_getElem_cons hlt] at w'
    obtain ⟨L1, hb1, w'⟩ := oK_elim w'
    simp only [bindVars, Option.some.injEq] at hb1
    subst hb1
    refine itr.next γ' H' s' j _ _ _ hW R' hIg hst' iv' fun v h1 tk1 hI1 hk1 iv1 rv1 => ?_
    obtain ⟨stc, Rc, frc⟩ := change (tk := tk1) hk1
    show wpAny D.M A (assign (.Name x px) env v) _ _ _
    refine wpAny_assign_Name (wpAny_mono (store_ok (s := { s' with heap := h1, toks := tk1 }) hE so Rc frc hs rv1) (fun _ s3 p => ?_) fun _ _ x => x)
    obtain ⟨st3, R3, fr3⟩ := p
    have stc3 : Stp (ownA env) γ γ' s s3 := stc.transF (s1 := { s' with heap := h1, toks := tk1 }) Rc st3 (FRel.alive (s := { s' with heap := h1, toks := tk1 }) frc)
    have tt3 : ∀ a ws, TupAt h1 a ws → TupAt s3.heap a ws := fun a ws q => TupAt.stp (s := { s' with heap := h1, toks := tk1 }) Rc st3 (fun x hx => (frc.own x hx).2.2.2) q
    have fp1 : ∀ b ∈ fp, b ∉ γ' ∧ ∃ o, h1.get? b = some o := fun b hb => by
      refine ⟨(fp' b hb).1, ?_⟩
      by_cases hbI : b = I
      · subst hbI; exact hI1
      · obtain ⟨o, e⟩ := (fp' b hb).2; exact ⟨o, hk1 _ _ hbI e⟩
    have fp3 : ∀ b ∈ fp, b ∉ γ' ∧ ∃ o, s3.heap.get? b = some o := fun b hb => by
      obtain ⟨a, o, e⟩ := fp1 b hb
      exact ⟨a, o, st3.keep b o a (fpo b hb) e⟩
    have iv3 : Inv γ' (j + 1) s3.heap := itr.frame γ' γ' (j + 1) h1 s3.heap iv1 ⟨[], by simp⟩ (fun b hb o e => st3.keep b o (fp1 b hb).1 (fpo b hb) e) tt3
    refine wpAny_mono (hb env A γ' H' s3 _ _ X hE hA R3 fr3 w') (fun fl s4 p => ?_) fun _ _ x => x.elim
    obtain ⟨γ4, H4, L4, F, st4, R4, fr4, hf, q4⟩ := p
    have stc4 := stc3.transF R3 st4 fr3.alive
    have ext4 : ∃ δ, γ4 = γ' ++ δ := let ⟨δ, e, _⟩ := st4.ext; ⟨δ, e⟩
    have tt4 : ∀ a ws, TupAt s3.heap a ws → TupAt s4.heap a ws := fun a ws q => TupAt.stp R3 st4 (fun x hx => (fr3.own x hx).2.2.2) q
    have go : st H4 ∧ forGo (fun L' H' K => wpSs Φ ib L' H' K X) st [i] (l.drop (j + 1)) L4 H4 Q → ∃ m, m < l.length - j ∧ ∃ j γ' H' L', m = l.length - j ∧ j ≤ l.length ∧ Stp (ownA env) γ γ' s s4 ∧ HRel D γ' H' s4.heap ∧ FRel D γ' env c.slots s4.heap L' ∧ Inv γ' j s4.heap ∧ st H' ∧ (∀ b ∈ fp, b ∉ γ' ∧ ∃ o, s4.heap.get? b = some o) ∧
        forGo (fun L' H' K => wpSs Φ ib L' H' K X) st [i] (l.drop j) L' H' Q := fun q => by
      refine ⟨l.length - (j + 1), by omega, j + 1, γ4, H4, L4, rfl, hlt, stc4, R4, fr4, ?_, q.1, ?_, q.2⟩
      · exact itr.frame γ' γ4 (j + 1) s3.heap s4.heap iv3 ext4 (fun b hb o e => st4.keep b o (fp3 b hb).1 (fpo b hb) e) tt4
      · intro b hb
        obtain ⟨a, o, e⟩ := fp3 b hb
        have e' := st4.keep b o a (fpo b hb) e
        refine ⟨?_, o, e'⟩
        obtain ⟨δ, ed, fd⟩ := st4.ext
        subst ed
        intro q
        rcases List.mem_append.mp q with q | q
        · exact a q
        · rw [fd b q] at e; cases e
    cases fl <;> cases F <;> simp only [FlRep] at hf
    · exact go q4
    · exact ⟨γ4, H4, L4, .next, stc4, R4, fr4, trivial, q4⟩
    · exact go q4
    · exact ⟨γ4, H4, L4, .ret _, stc4, R4, fr4, hf, q4⟩
  · have hin : j = l.length := by omega
    subst hin
    rw [List.drop_length] at w'
    refine itr.done γ' H' s' _ _ R' hst' iv' fun h1 tk1 hk1 => ?_
    obtain ⟨stc, Rc, frc⟩ := change (tk := tk1) hk1
    exact wpAny_execs_nil ⟨γ', H', L', .next, stc, Rc, frc, trivial, w'⟩
end
end Mine

set_option autoImplicit false
/- Statements together; a call of a def. -/
namespace Mine
open PySem PyProof.Rows

section
variable {D : Wd} {Φ : Orc} {k : Nat}

theorem noSwap {e : Expr} {n : Nat} {c : CC} {ie : IE} (h : compE n c e = some ie) (hl : ∀ a b d f, e ≠ .ListComp a b d f) (t : Option Expr) (l : Nat) (env : Env) : swapsWith e t l env = pure false := by
  cases e <;> first | rfl | exact absurd rfl (hl _ _ _ _) | (cases n <;> exact nomatch (show (none : Option IE) = some ie from h))

theorem s_assign_any (hO : OrcOk D k Φ) {n : Nat} {c : CC} (g : GOk D c.G) (so : SlotsOk c) {x : Str} {px pos : Pos} {e : Expr} {i : Nat} {ie : IE} (h1 : slotV c x = some i) (h2 : compE n c e = some ie) : SS D Φ k c (.Assign [.Name x px] e pos) (.assign i ie) := by
  by_cases hl : ∃ a b d f, e = .ListComp a b d f
  · obtain ⟨elt, gens, scope, pos', rfl⟩ := hl
    cases n with
    | zero => cases h2
    | succ n =>
      obtain ⟨y, py, iter, ifs, kk, ss, ielt, iifs, rfl, ok, e1, e2, e3, rfl⟩ := comp_inv h2
      exact s_assign_comp g so (fun c e ie g h => soundE hO n c e ie g h) ok e1 e2 e3 (noSetIter e1) h1
  · exact s_assign so (soundE hO n c e ie g h2).1 h1 (fun env _ => noSwap h2 (fun a b d f q => hl ⟨a, b, d, f, q⟩) _ _ env)

theorem soundS (hO : OrcOk D k Φ) : ∀ (n : Nat) (c : CC) (st : Stmt) (is : IS), GOk D c.G → SlotsOk c → compS n c st = some is → SS D Φ k c st is := by
  intro n
  induction n with
  | zero => intro c st is g so h; cases h
  | succ n ih =>
    intro c st is g so h
    have ihE : ∀ e ie, compE n c e = some ie → Both D Φ k c e ie := fun e ie h => soundE hO n c e ie g h
    have ihS := sss_of (f := compS n c) (fun st is h => ih c st is g so h)
    cases st with
    | Expr e p =>
      obtain ⟨hc, h⟩ := onlyIf_some h
      obtain ⟨a, ha, rfl⟩ := Option.map_eq_some_iff.mp h
      exact s_expr (ihE _ _ ha).1 (by simpa using hc)
    | Assign ts e p =>
      cases ts with
      | nil => exact nomatch (show (none : Option IS) = some is from h)
      | cons t ts =>
        cases ts with
        | cons t2 ts => cases t <;> exact nomatch (show (none : Option IS) = some is from h)
        | nil =>
          cases t with
          | Name x px => obtain ⟨a, b, h1, h2, rfl⟩ := oTwo_some h; exact s_assign_any hO g so h1 h2
          | _ => exact nomatch (show (none : Option IS) = some is from h)
    | Return e p =>
      cases e with
      | none =>
        cases (show some IS.retNone = some is from h)
        intro env A γ H s L Q X hE hA R fr w
        exact wpAny_Return_none ⟨γ, H, L, .ret .none, Stp.refl, R, fr, by simp only [FlRep, Rep], w⟩
      | some e => obtain ⟨a, ha, rfl⟩ := Option.map_eq_some_iff.mp h; exact s_ret (ihE _ _ ha).1
    | If t a b p => obtain ⟨t, a, b, h1, h2, h3, rfl⟩ := oThree_some h; exact s_if (ihE _ _ h1).2 (ihS _ _ h2) (ihS _ _ h3)
    | While t b e p =>
      cases e with
      | nil => obtain ⟨t, b, h1, h2, rfl⟩ := oTwo_some h; exact s_while (ihE _ _ h1).2 (ihS _ _ h2)
      | cons e es => exact nomatch (show (none : Option IS) = some is from h)
    | For t iter b e p =>
      cases e with
      | cons e es => cases t <;> exact nomatch (show (none : Option IS) = some is from h)
      | nil =>
        cases t with
        | Name x px => obtain ⟨i, ks, b, h1, h2, h3, rfl⟩ := oThree_some h; exact s_for g so (fun e ie h => (ihE e ie h).1) h1 h2 (ihS _ _ h3)
        | _ => exact nomatch (show (none : Option IS) = some is from h)
    | Pass p =>
      cases (show some IS.pass = some is from h)
      intro env A γ H s L Q X hE hA R fr w
      exact wpAny_Pass ⟨γ, H, L, .next, Stp.refl, R, fr, trivial, w⟩
    | Break p =>
      cases (show some IS.brk = some is from h)
      intro env A γ H s L Q X hE hA R fr w
      exact wpAny_Break ⟨γ, H, L, .brk, Stp.refl, R, fr, trivial, w⟩
    | Continue p =>
      cases (show some IS.cont = some is from h)
      intro env A γ H s L Q X hE hA R fr w
      exact wpAny_Continue ⟨γ, H, L, .cont, Stp.refl, R, fr, trivial, w⟩
    | _ => exact nomatch (show (none : Option IS) = some is from h)

theorem slotsGo_lookup : ∀ (names : List Str) (k : Nat) (x : Str) (i : Nat), (slotsGo names k).lookup x = some i → ∃ j, i = k + j ∧ names[j]? = some x
  | [], _, _, _, h => by simp [slotsGo] at h
  | y :: r, k, x, i, h => by
    simp only [slotsGo, List.lookup_cons] at h
    cases hxy : x == y with
    | true =>
      rw [hxy] at h
      simp only [Option.some.injEq] at h
      exact ⟨0, by omega, by simp; exact (by simpa using hxy : x = y).symm⟩
    | false =>
      rw [hxy] at h
      obtain ⟨j, e1, e2⟩ := slotsGo_lookup r (k + 1) x i h
      exact ⟨j + 1, by omega, by simpa using e2⟩

theorem bindL_spec {kindOf : Str → Option NameKind} : ∀ (binds : List (Str × Value)) (m : Str → Option Value) (x : Str), kindOf x = some .local → (binds.map (·.1)).Nodup → bindL kindOf binds m x = (binds.lookup x).or (m x)
  | [], m, x, _, _ => by simp [bindL]
  | (n, v) :: r, m, x, hx, hn => by
    simp only [List.map_cons, List.nodup_cons] at hn
    rw [bindL, bindL_spec r _ x hx hn.2, List.lookup_cons]
    cases hxn : x == n with
    | true =>
      have : x = n := by simpa using hxn
      subst this
      have hr : r.lookup x = none := by
        rw [List.lookup_eq_none_iff]
        intro p hp
        have : x ≠ p.1 := fun q => hn.1 (q ▸ List.mem_map_of_mem hp)
        simpa using this
      simp [hr, hx]
    | false =>
      have hne : x ≠ n := by simpa using hxn
      congr 1
      split
      · simp [hne]
      · rfl
theorem bindC_spec {kindOf : Str → Option NameKind} : ∀ (binds : List (Str × Value)) (m : Str → Option Value) (x : Str), kindOf x ≠ some .local → (binds.map (·.1)).Nodup → bindC kindOf binds m x = (binds.lookup x).or (m x)
  | [], m, x, _, _ => by simp [bindC]
  | (n, v) :: r, m, x, hx, hn => by
    simp only [List.map_cons, List.nodup_cons] at hn
    rw [bindC, bindC_spec r _ x hx hn.2, List.lookup_cons]
    cases hxn : x == n with
    | true =>
      have : x = n := by simpa using hxn
      subst this
      have hr : r.lookup x = none := by
        rw [List.lookup_eq_none_iff]
        intro p hp
        have : x ≠ p.1 := fun q => hn.1 (q ▸ List.mem_map_of_mem hp)
        simpa using this
      simp [hr, hx]
    | false =>
      have hne : x ≠ n := by simpa using hxn
      congr 1
      split
      · rfl
      · simp [hne]

theorem zip_lookup : ∀ (ps : List Str) (vals : List Value) (i : Nat) (x : Str) (v : Value), ps.Nodup → ps[i]? = some x → vals[i]? = some v → (ps.zip vals).lookup x = some v
  | p :: ps, [], i, x, v, _, _, h => by simp at h
  | p :: ps, w :: vals, 0, x, v, hn, h1, h2 => by
    simp at h1 h2; subst h1; subst h2; simp [List.lookup_cons]
  | p :: ps, w :: vals, i + 1, x, v, hn, h1, h2 => by
    simp only [List.nodup_cons] at hn
    simp at h1 h2
    have hne : (x == p) = false := by
      have : x ≠ p := fun q => hn.1 (q ▸ List.mem_of_getElem? h1)
      simpa using this
    rw [List.zip_cons_cons, List.lookup_cons, hne]
    exact zip_lookup ps vals i x v hn.2 h1 h2
  | [], _, _, _, _, _, h, _ => by simp at h

theorem cellsFrom_names : ∀ (names : List (Str × NameKind)) (n : Nat) (acc : List (Str × Addr)) (x : Str), x ∈ (cellsFrom n names acc).map (·.1) → x ∈ acc.map (·.1) ∨ (x, NameKind.cell) ∈ names
  | [], _, _, _, h => .inl h
  | (y, kd) :: r, n, acc, x, h => by
    unfold cellsFrom at h
    split at h
    · rename_i hk
      rcases cellsFrom_names r _ _ x h with q | q
      · simp only [List.map_cons, List.mem_cons] at q
        rcases q with q | q
        · subst q
          have : kd = .cell := by simpa using hk
          subst this
          exact .inr List.mem_cons_self
        · exact .inl q
      · exact .inr (List.mem_cons_of_mem _ q)
    · rcases cellsFrom_names r _ _ x h with q | q
      · exact .inl q
      · exact .inr (List.mem_cons_of_mem _ q)
theorem cellsFrom_nodup : ∀ (names : List (Str × NameKind)) (n : Nat) (acc : List (Str × Addr)), (names.map (·.1)).Nodup → (acc.map (·.1)).Nodup → (∀ x ∈ acc.map (·.1), x ∉ names.map (·.1)) → ((cellsFrom n names acc).map (·.1)).Nodup
  | [], _, _, _, h, _ => h
  | (y, kd) :: r, n, acc, hn, ha, hd => by
    simp only [List.map_cons, List.nodup_cons] at hn
    unfold cellsFrom
    split
    · refine cellsFrom_nodup r _ _ hn.2 ?_ ?_
      · simp only [List.map_cons, List.nodup_cons]
        exact ⟨fun q => hd y q (by simp), ha⟩
      · intro x hx
        simp only [List.map_cons, List.mem_cons] at hx
        rcases hx with q | q
        · subst q; exact hn.1
        · exact fun q' => hd x q (by simp at q' ⊢; exact .inr q')
    · exact cellsFrom_nodup r _ _ hn.2 ha (fun x hx q' => hd x hx (by simp at q' ⊢; exact .inr q'))
theorem lookup_of_nodup : ∀ {l : List (Str × Addr)} {n : Str} {a : Addr}, (l.map (·.1)).Nodup → (n, a) ∈ l → l.lookup n = some a
  | (m, b) :: r, n, a, hn, h => by
    simp only [List.map_cons, List.nodup_cons] at hn
    rw [List.lookup_cons]
    rcases List.mem_cons.mp h with q | q
    · cases q; simp
    · have : (n == m) = false := by
        have : n ≠ m := fun e => hn.1 (e ▸ List.mem_map_of_mem q)
        simpa using this
      rw [this]
      exact lookup_of_nodup hn.2 q

/- what is known of a def of the text -/
structure FnOk (D : Wd) (G : List (Str × V)) (x : Str) (f : Fn) : Prop where
  at' : ∃ a o name params body scope pm cd doc ps, D.mg x = some (.ref a) ∧ D.hB.get? a = some o ∧ o.data = .func (Calls.docDef name params body scope pm cd doc) ∧ D.hB.CodeRec cd name ∧
    compFn G ps body scope = some f ∧ (∀ vals : List Value, vals.length = ps.length → bindArgs (Calls.docDef name params body scope pm cd doc) ⟨vals, []⟩ = pure (ps.zip vals)) ∧
    ps.Nodup ∧ (scope.names.map (·.1)).Nodup ∧ (∀ p ∈ ps, scope.names.lookup p = some .local ∨ scope.names.lookup p = some .cell) ∧ scope.isCoroutine = false ∧ scope.isGenerator = false ∧ scope.kind = .function

theorem fn_ok {G : List (Str × V)} (g : GOk D G) (hO : OrcOk D k Φ) {x : Str} {f : Fn} (fo : FnOk D G x f) : ∀ vs H Q X, wpFn Φ f vs H Q X → ∀ A γ s vals a, AOk (k + 1) A → HRel D γ H s.heap → Reps D γ s.heap vals vs → D.mg x = some (.ref a) →
    (∃ o fd, D.hB.get? a = some o ∧ o.data = .func fd) ∧ wpAny D.M A (call (.ref a) vals) (PostV D γ s Q) (PostX D γ s X) s := by
  intro vs H Q X w A γ s vals a hA R rv hxa
  obtain ⟨a', o, name, params, body, scope, pm, cd, doc, ps, hx, ho, hd, hcd, hf, hb, hps, hnn, hk, hco, hgen, hkind⟩ := fo.at'
  rw [hxa] at hx; cases hx
  refine ⟨⟨o, _, ho, hd⟩, ?_⟩
  unfold compFn at hf
  simp only [Option.map_eq_some_iff] at hf
  obtain ⟨ib, hib, rfl⟩ := hf
  obtain ⟨hlen, w⟩ := w
  simp only at hlen
  have hvl : vals.length = ps.length := by rw [rv.length, hlen]
  have hz : (ps.zip vals).map (·.1) = ps := by rw [List.map_fst_zip]; omega
  have hzn : ((ps.zip vals).map (·.1)).Nodup := by rw [hz]; exact hps
  have kinds : ∀ y ∈ ps.zip vals, scope.names.lookup y.1 = some .local ∨ (scope.names.lookup y.1 = some .cell ∧ ((cellsFrom (s.heap.objs.size + 1) scope.names []).lookup y.1).isSome = true) := fun y hy => by
    have : y.1 ∈ ps := by rw [← hz]; exact List.mem_map_of_mem hy
    rcases hk y.1 this with q | q
    · exact .inl q
    · exact .inr ⟨q, PySem.W.cellsFrom_some _ _ _ (.inl q)⟩
  refine wpAny_call (codeAny_call_cells (fd := Calls.docDef name params body scope pm cd doc) (body := body) (binds := ps.zip vals) (Nat.lt_of_lt_of_le (Nat.lt_of_le_of_lt (Nat.le_add_right _ _) hA.depth) (by decide)) (R.base _ _ ho) hd (g.lim.keeps R.base) (hcd.keeps R.base) rfl (hb vals hvl) rfl kinds (fun s1 ic => ?_) hco hgen hkind)
  generalize henv : callEnvC (Calls.docDef name params body scope pm cd doc) s.heap.objs.size a = env at ic ⊢
  have hko : ∀ y, env.kindOf y = scope.names.lookup y := fun y => by subst henv; rfl
  have hloc : env.locals = s.heap.objs.size := by subst henv; rfl
  have hcells : env.cells = cellsFrom (s.heap.objs.size + 1) scope.names [] := by subst henv; rfl
  let c : CC := { G, scope, slots := slotsGo (ownNames ps scope) 0, nxt := (ownNames ps scope).length }
  have hE : EnvOk c env := ⟨by subst henv; rfl, hkind, by subst henv; rfl, by subst henv; rfl⟩
  have so : SlotsOk c := ⟨fun y z i h1 h2 => by
    obtain ⟨j, e1, e2⟩ := slotsGo_lookup _ _ _ _ h1
    obtain ⟨j', e1', e2'⟩ := slotsGo_lookup _ _ _ _ h2
    have : j = j' := by omega
    subst this
    rw [e2] at e2'; cases e2'; rfl⟩
  have new : ∀ b, s.heap.objs.size ≤ b → b ∉ γ ∧ D.hB.get? b = none := fun b hb => by
    have e : s.heap.get? b = none := by
      cases q : s.heap.get? b with
      | none => rfl
      | some o => exact absurd (Heap.lt_size q) (Nat.not_lt.mpr hb)
    exact ⟨(fun hm => by obtain ⟨o, e', _⟩ := R.alive hm; rw [e] at e'; cases e'), base_none R e⟩
  have keep := ic.toInCall.keep
  have tt : ∀ a ws, TupAt s.heap a ws → TupAt s1.heap a ws := fun _ _ q => tupAt_grow keep q
  have cn : ((env.cells).map (·.1)).Nodup := by rw [hcells]; exact cellsFrom_nodup _ _ _ hnn (by simp) (by simp)
  have ini : ∀ (y : Str) (i : Nat) (V : V), c.slots.lookup y = some i → (initL { names := (ownNames ps scope).length + 3, params := ps.length, body := ib } vs)[i]? = some (some V) → ∃ v, (ps.zip vals).lookup y = some v ∧ Rep D γ s1.heap v V := by
    intro y i V hs hL
    obtain ⟨j, e1, e2⟩ := slotsGo_lookup _ _ _ _ hs
    have hij : i = j := by omega
    subst hij
    unfold initL at hL
    have hi : i < vs.length := by
      apply Classical.byContradiction
      intro hn
      rw [List.getElem?_append_right (by simp; omega), List.getElem?_replicate] at hL
      split at hL <;> cases hL
    rw [List.getElem?_append_left (by simpa using hi), List.getElem?_map] at hL
    simp only [Option.map_eq_some_iff, Option.some.injEq, exists_eq_right] at hL
    obtain ⟨v, hv, rvv⟩ := rv.get hL
    have hpi : ps[i]? = some y := by
      unfold ownNames at e2
      rw [List.getElem?_append_left (by omega)] at e2
      exact e2
    exact ⟨v, zip_lookup ps vals i y v hps hpi hv, Rep.mono ⟨[], by simp⟩ tt rvv⟩
  have fr : FRel D γ env c.slots s1.heap (initL { names := (ownNames ps scope).length + 3, params := ps.length, body := ib } vs) := by
    refine ⟨⟨⟨_, ic.toInCall.ns, ?_⟩, ?_, ?_⟩, ?_, ic.apart, ?_⟩
    · intro y i V hy hs hL
      obtain ⟨v, hv, r⟩ := ini y i V hs hL
      exact ⟨v, by rw [bindL_spec _ _ _ hy hzn, hv]; rfl, r⟩
    · intro y hy
      have hc' : (env.cells.lookup y).isSome = true := by rw [hcells]; exact PySem.W.cellsFrom_some _ _ _ (.inl (by rw [← hko]; exact hy))
      obtain ⟨ca, hca⟩ := Option.isSome_iff_exists.mp hc'
      have habove := ic.above y ca (mem_of_lookup hca)
      rw [hloc] at habove
      refine ⟨ca, _, hca, ic.cell y ca hca, (new ca (Nat.le_of_lt habove)).1, fun i V hs hL => ?_⟩
      obtain ⟨v, hv, r⟩ := ini y i V hs hL
      exact ⟨v, by rw [bindC_spec _ _ _ (by rw [hy]; intro q; cases q) hzn, hv]; rfl, r⟩
    · exact (new _ (by rw [hloc]; exact Nat.le_refl _)).1
    · intro b hb
      rcases List.mem_cons.mp hb with q | q
      · subst q
        have n1 := new env.locals (by rw [hloc]; exact Nat.le_refl _)
        exact ⟨n1.1, n1.2, (let ⟨o, _, _, e, _⟩ := ic.toInCall.ns; ⟨o, e⟩), notTup_dict ic.toInCall.ns⟩
      · obtain ⟨⟨y, ca⟩, hm, rfl⟩ := List.mem_map.mp q
        have habove := ic.above y ca hm
        rw [hloc] at habove
        have n1 := new ca (Nat.le_of_lt habove)
        have hcell := ic.cell y ca (lookup_of_nodup cn hm)
        exact ⟨n1.1, n1.2, (let ⟨o, e, _⟩ := hcell; ⟨o, e⟩), notTup_cell hcell⟩
    · intro p hp
      exact Nat.ne_of_gt (ic.above p.1 p.2 hp)
  have body_ok := sss_of (f := compS 40 c) (fun st is h => soundS hO 40 c st is g so h) body ib hib env (A.deeper env) γ H s1 _ _ _ hE (hA.deeper env) (R.grow keep) fr w
  refine wpAny_mono body_ok (fun fl s2 p => ?_) fun _ _ x => x.elim
  obtain ⟨γ2, H2, L2, F, st2, R2, fr2, hf2, q2⟩ := p
  have own0 : ∀ b ∈ ownA env, s.heap.get? b = none := fun b hb => by
    have hge : s.heap.objs.size ≤ b := by
      rcases List.mem_cons.mp hb with q | q
      · rw [q, hloc]; exact Nat.le_refl _
      · obtain ⟨⟨y, ca⟩, hm, rfl⟩ := List.mem_map.mp q
        have habove := ic.above y ca hm
        rw [hloc] at habove
        exact Nat.le_of_lt habove
    cases q : s.heap.get? b with
    | none => rfl
    | some o => exact absurd (Heap.lt_size q) (Nat.not_lt.mpr hge)
  have st0 : Stp [] γ γ2 s s2 := by
    refine ⟨?_, fun b o hb _ e => st2.keep b o hb (fun q => by rw [own0 b q] at e; cases e) (keep b o e), ?_⟩
    · obtain ⟨h1, t1, e1⟩ := ic.toInCall.same
      obtain ⟨h2, t2, e2⟩ := st2.same
      rw [e2, e1]; exact ⟨_, _, rfl⟩
    · obtain ⟨δ, e, f⟩ := st2.ext
      refine ⟨δ, e, fun b hb => ?_⟩
      cases q : s.heap.get? b with
      | none => rfl
      | some o => have := f b hb; rw [keep b o q] at this; cases this
  cases fl <;> cases F <;> simp only [FlRep] at hf2
  · exact ⟨γ2, .none, H2, st0, R2, by simp only [Rep], q2⟩
  · exact ⟨γ2, .none, H2, st0, R2, by simp only [Rep], q2⟩
  · exact ⟨γ2, .none, H2, st0, R2, by simp only [Rep], q2⟩
  · exact ⟨γ2, _, H2, st0, R2, hf2, q2⟩
end
end Mine

set_option autoImplicit false
/- From the text's top: what is known of each def. -/
namespace Mine
open PySem PyProof.Rows

theorem zip_lookup_some : ∀ (ps : List Str) (vals : List Value) (n : Str), vals.length = ps.length → n ∈ ps → ((ps.zip vals).lookup n).isSome = true
  | [], _, n, _, h => by cases h
  | p :: ps, [], n, e, _ => by simp at e
  | p :: ps, v :: vals, n, e, h => by
    simp only [List.zip_cons_cons, List.lookup_cons]
    split
    · rfl
    · rename_i q
      refine zip_lookup_some ps vals n (by simpa using e) ?_
      rcases List.mem_cons.mp h with q' | q'
      · subst q'; simp at q
      · exact q'

theorem zip_filterMap : ∀ (ps : List Str) (vals : List Value) (pre : List (Str × Value)), vals.length = ps.length → ps.Nodup → (∀ p ∈ ps, pre.lookup p = none) → ps.filterMap (fun n => ((pre ++ ps.zip vals).lookup n).map (n, ·)) = ps.zip vals
  | [], _, _, _, _, _ => by simp
  | p :: ps, [], _, e, _, _ => by simp at e
  | p :: ps, v :: vals, pre, e, hn, hp => by
    have h1 : (pre ++ (p :: ps).zip (v :: vals)).lookup p = some v := by
      rw [List.lookup_append, hp p (by simp)]; simp
    simp only [List.filterMap_cons, h1, Option.map_some]
    simp only [List.zip_cons_cons, List.cons.injEq, true_and]
    have := zip_filterMap ps vals (pre ++ [(p, v)]) (by simpa using e) (List.nodup_cons.mp hn).2 (fun q hq => by
      rw [List.lookup_append, hp q (by simp [hq])]
      have : (q == p) = false := by
        have : q ≠ p := fun e => (List.nodup_cons.mp hn).1 (e ▸ hq)
        simpa using this
      simp [List.lookup_cons, this])
    simpa using this

theorem bind_simple {name : Str} {args : List Arg} {body : List Stmt} {scope : Scope} {pm cd doc : Value} {kd : List (Option Expr)} {vals : List Value} (hn : (args.map (·.arg)).Nodup) (hl : vals.length = (args.map (·.arg)).length) :
    bindArgs (Calls.docDef name ⟨[], args, none, [], kd, none, []⟩ body scope pm cd doc) ⟨vals, []⟩ = pure ((args.map (·.arg)).zip vals) := by
  unfold bindArgs
  simp only [Calls.docDef, seqItems?, notAStandIn, List.map_nil, List.nil_append, List.append_nil, Option.isNone_none]
  generalize args.map (·.arg) = ps at *
  have h1 : (ps.filter fun n => ((ps.zip vals).lookup n).isNone) = [] := by
    rw [List.filter_eq_nil_iff]
    intro n hm
    have := zip_lookup_some _ vals n hl hm
    simp only [Option.isNone_iff_eq_none]
    intro q; rw [q] at this; cases this
  have h2 := zip_filterMap _ vals [] hl hn (by simp)
  simp only [List.nil_append] at h2
  have h3 : ¬ vals.length > ps.length := by omega
  simp [h1, h2, h3]

/- everything about a def that can be looked at -/
noncomputable def strsNodup : List Str → Bool
  | [] => true
  | x :: r => !r.contains x && strsNodup r
theorem strsNodup_ok : ∀ {l : List Str}, strsNodup l = true → l.Nodup
  | [], _ => List.nodup_nil
  | x :: r, h => by
    simp only [strsNodup, Bool.and_eq_true, Bool.not_eq_true', List.contains_eq_mem, decide_eq_false_iff_not] at h
    exact List.nodup_cons.mpr ⟨h.1, strsNodup_ok h.2⟩

noncomputable def simpleArgs : Arguments → Option (List Str)
  | ⟨[], args, none, [], _, none, []⟩ => some (args.map (·.arg))
  | _ => none

noncomputable def checkRec (G : List (Str × V)) (d : DefRec) : Option Fn :=
  match simpleArgs d.params with
  | some ps => if strsNodup ps && strsNodup (d.scope.names.map (·.1)) && (ps.all fun p => d.scope.names.lookup p == some .local || d.scope.names.lookup p == some .cell) && !d.scope.isCoroutine && !d.scope.isGenerator && d.scope.kind == .function then
      compFn G ps d.body d.scope else none
  | none => none

noncomputable def checkFn (G : List (Str × V)) (p : Program) (x : Str) : Option Fn :=
  match (recsOf p).find? (fun d => d.name == x) with
  | some d => checkRec G d
  | none => none

theorem fnOk_of_top {D : Wd} {G : List (Str × V)} {p : Program} {loose : List Str} {mean : ExcName → Option Value} (T : Top p loose mean D.mg D.mb D.hB) {x : Str} {f : Fn} (h : checkFn G p x = some f) : FnOk D G x f := by
  unfold checkFn at h
  split at h
  · rename_i d hd
    have hx : d.name = x := by have := List.find?_some hd; simpa using this
    have hm := List.mem_of_find?_eq_some hd
    obtain ⟨a, o, pm, cd, doc, h1, h2, h3, h4⟩ := T.fn d hm
    subst hx
    unfold checkRec at h
    split at h
    · rename_i ps hps
      split at h
      · rename_i hc
        simp only [Bool.and_eq_true, Bool.not_eq_true'] at hc
        obtain ⟨⟨⟨⟨⟨c1, c2⟩, c3⟩, c4⟩, c5⟩, c6⟩ := hc
        have hnd := strsNodup_ok c1
        refine ⟨⟨a, o, d.name, d.params, d.body, d.scope, pm, cd, doc, ps, h1, h2, h3, h4, h, ?_, hnd, strsNodup_ok c2, ?_, c4, c5, ?_⟩⟩
        · intro vals hl
          revert hps
          cases d.params with
          | mk po ar va ko kd kw df =>
            intro hps
            unfold simpleArgs at hps
            split at hps
            · rename_i heq
              cases heq
              cases hps
              exact bind_simple hnd hl
            · cases hps
        · intro q hq
          have := List.all_eq_true.mp c3 q hq
          simpa using this
        · revert c6; cases d.scope.kind <;> intro c6 <;> first | rfl | cases c6
      · cases h
    · cases h
  · cases h
end Mine

set_option autoImplicit false
namespace Mine
open PySem
section
variable {Φ : Orc} {L : Lc} {H : Hp} {Q : V → Hp → Prop} {P : Bool → Hp → Prop} {X : XL} {QF : QS} {XF : XS}
theorem X_lit {v : V} : (wp2 Φ (.lit v)).E L H Q X = Q v H := rfl
theorem X_loc {i : Nat} : (wp2 Φ (.loc i)).E L H Q X = oKK L[i]? fun v => Q v H := rfl
theorem X_bin {op : Operator} {a b : IE} : (wp2 Φ (.bin op a b)).E L H Q X = (wp2 Φ a).E L H (fun va H1 => (wp2 Φ b).E L H1 (fun vb H2 => pBin op va vb H2 Q) X) X := rfl
noncomputable def negX (v : V) (Q : V → Prop) : Prop := match v with | .int i => Q (.int (-i)) | _ => False
theorem negX_int {i : Int} {Q : V → Prop} : negX (.int i) Q = Q (.int (-i)) := rfl
theorem X_neg {a : IE} : (wp2 Φ (.neg a)).E L H Q X = (wp2 Φ a).E L H (fun v H1 => negX v fun u => Q u H1) X := rfl
theorem X_not {a : IE} : (wp2 Φ (.not a)).E L H Q X = (wp2 Φ a).E L H (fun v H1 => tX H1 v fun c => Q (.bool (!c)) H1) X := rfl
theorem Y_not {a : IE} : (wp2 Φ (.not a)).T L H P X = (wp2 Φ a).T L H (fun c H1 => P (!c) H1) X := rfl
theorem X_and {a b : IE} : (wp2 Φ (.and a b)).E L H Q X = (wp2 Φ a).E L H (fun v H1 => tX H1 v fun c => ifP c ((wp2 Φ b).E L H1 Q X) (Q v H1)) X := rfl
theorem Y_and {a b : IE} : (wp2 Φ (.and a b)).T L H P X = (wp2 Φ a).T L H (fun c H1 => ifP c ((wp2 Φ b).T L H1 P X) (P false H1)) X := rfl
theorem X_or {a b : IE} : (wp2 Φ (.or a b)).E L H Q X = (wp2 Φ a).E L H (fun v H1 => tX H1 v fun c => ifP c (Q v H1) ((wp2 Φ b).E L H1 Q X)) X := rfl
theorem Y_or {a b : IE} : (wp2 Φ (.or a b)).T L H P X = (wp2 Φ a).T L H (fun c H1 => ifP c (P true H1) ((wp2 Φ b).T L H1 P X)) X := rfl
theorem X_cmp {a b : IE} {op : CmpOp} : (wp2 Φ (.cmp a op b)).E L H Q X = (wp2 Φ a).E L H (fun va H1 => (wp2 Φ b).E L H1 (fun vb H2 => pCmp op va vb H2 Q) X) X := rfl
theorem X_cmp2 {a b c : IE} {op op' : CmpOp} : (wp2 Φ (.cmp2 a op b op' c)).E L H Q X = (wp2 Φ a).E L H (fun va H1 => (wp2 Φ b).E L H1 (fun vb H2 => pCmp op va vb H2 (fun r H3 =>
      tX H3 r fun t => ifP t ((wp2 Φ c).E L H3 (fun vc H4 => pCmp op' vb vc H4 Q) X) (Q r H3))) X) X := rfl
theorem X_ite {t a b : IE} : (wp2 Φ (.ite t a b)).E L H Q X = (wp2 Φ t).T L H (fun c H1 => ifP c ((wp2 Φ a).E L H1 Q X) ((wp2 Φ b).E L H1 Q X)) X := rfl
theorem Y_ite {t a b : IE} : (wp2 Φ (.ite t a b)).T L H P X = (wp2 Φ t).T L H (fun c H1 => ifP c ((wp2 Φ a).T L H1 P X) ((wp2 Φ b).T L H1 P X)) X := rfl
theorem X_tup {es : List IE} : (wp2 Φ (.tup es)).E L H Q X = wpEs Φ es L H (fun vs H1 => vs.length ≤ 1000000 ∧ Q (.tup vs) H1) X := rfl
theorem X_lst {es : List IE} : (wp2 Φ (.lst es)).E L H Q X = wpEs Φ es L H (fun vs H1 => vs.length ≤ 1000000 ∧ Q (.ref H1.length) (H1 ++ [.list vs])) X := rfl
theorem X_call {f : V} {args : List IE} : (wp2 Φ (.call f args)).E L H Q X = wpEs Φ args L H (fun vs H1 => pCall Φ f vs H1 Q X) X := rfl
theorem X_meth {o : IE} {name : Mt} {args : List IE} : (wp2 Φ (.meth o name args)).E L H Q X = (wp2 Φ o).E L H (fun vo H1 => okMeth H1 vo ∧ wpEs Φ args L H1 (fun vs H2 => pMeth vo name vs H2 Q) X) X := rfl
theorem X_sub {o i : IE} : (wp2 Φ (.sub o i)).E L H Q X = (wp2 Φ o).E L H (fun vo H1 => (wp2 Φ i).E L H1 (fun vi H2 => pSub vo vi H2 Q) X) X := rfl
noncomputable def coTX (Φ : Orc) (ifs : List IE) (X : XL) : Lc → Hp → (Bool → Hp → Prop) → Prop := fun L' H' K => wpIfs Φ ifs L' H' K X
noncomputable def coEX (Φ : Orc) (elt : IE) (X : XL) : Lc → Hp → (V → Hp → Prop) → Prop := fun L' H' K => (wp2 Φ elt).E L' H' K X
theorem X_comp {elt : IE} {vars : List Nat} {k : SrcK} {srcs ifs : List IE} : (wp2 Φ (.comp elt vars k srcs ifs)).E L H Q X = wpEs Φ srcs L H (fun vs H1 => pSrc k vs H1 fun items st =>
      compGo (coTX Φ ifs X) (coEX Φ elt X) st vars L items [] H1 (fun ys H2 => ys.length ≤ 1000000 ∧ Q (.ref H2.length) (H2 ++ [.list ys]))) X := rfl
theorem Y_lit {v : V} : (wp2 Φ (.lit v)).T L H P X = tX H v fun c => P c H := rfl
theorem Y_loc {i : Nat} : (wp2 Φ (.loc i)).T L H P X = oKK L[i]? fun v => tX H v fun c => P c H := rfl
theorem Y_cmp {a b : IE} {op : CmpOp} : (wp2 Φ (.cmp a op b)).T L H P X = (wp2 Φ (.cmp a op b)).E L H (fun v H1 => tX H1 v fun c => P c H1) X := rfl
theorem Y_cmp2 {a b c : IE} {op op' : CmpOp} : (wp2 Φ (.cmp2 a op b op' c)).T L H P X = (wp2 Φ (.cmp2 a op b op' c)).E L H (fun v H1 => tX H1 v fun c => P c H1) X := rfl
theorem Y_call {f : V} {args : List IE} : (wp2 Φ (.call f args)).T L H P X = (wp2 Φ (.call f args)).E L H (fun v H1 => tX H1 v fun c => P c H1) X := rfl
theorem Y_sub {o i : IE} : (wp2 Φ (.sub o i)).T L H P X = (wp2 Φ (.sub o i)).E L H (fun v H1 => tX H1 v fun c => P c H1) X := rfl
theorem XEs_nil {R : List V → Hp → Prop} : wpEs Φ [] L H R X = R [] H := rfl
theorem XEs_cons {e : IE} {r : List IE} {R : List V → Hp → Prop} : wpEs Φ (e :: r) L H R X = (wp2 Φ e).E L H (fun v H1 => wpEs Φ r L H1 (fun vs H2 => R (v :: vs) H2) X) X := rfl
theorem XIfs_nil : wpIfs Φ [] L H P X = P true H := rfl
theorem XIfs_cons {e : IE} {r : List IE} : wpIfs Φ (e :: r) L H P X = (wp2 Φ e).T L H (fun c H1 => ifP c (wpIfs Φ r L H1 P X) (P false H1)) X := rfl
theorem Z_expr {e : IE} : wpS Φ (.expr e) L H QF XF = (wp2 Φ e).E L H (fun _ H1 => QF .next L H1) (fun x => XF x L) := rfl
theorem Z_assign {i : Nat} {e : IE} : wpS Φ (.assign i e) L H QF XF = (wp2 Φ e).E L H (fun v H1 => QF .next (L.set i (some v)) H1) (fun x => XF x L) := rfl
theorem Z_ret {e : IE} : wpS Φ (.ret e) L H QF XF = (wp2 Φ e).E L H (fun v H1 => QF (.ret v) L H1) (fun x => XF x L) := rfl
theorem Z_retNone : wpS Φ .retNone L H QF XF = QF (.ret .none) L H := rfl
theorem Z_ite {t : IE} {a b : List IS} : wpS Φ (.ite t a b) L H QF XF = (wp2 Φ t).T L H (fun c H1 => ifP c (wpSs Φ a L H1 QF XF) (wpSs Φ b L H1 QF XF)) (fun x => XF x L) := rfl
noncomputable def whTX (Φ : Orc) (t : IE) (XF : XS) : Lc → Hp → (Bool → Hp → Prop) → Prop := fun L' H' K => (wp2 Φ t).T L' H' K (fun x => XF x L')
noncomputable def whBX (Φ : Orc) (b : List IS) (XF : XS) : Lc → Hp → QS → Prop := fun L' H' K => wpSs Φ b L' H' K XF
theorem Z_while {t : IE} {b : List IS} : wpS Φ (.while t b) L H QF XF = ∃ n, whileGo (whTX Φ t XF) (whBX Φ b XF) n L H QF := rfl
theorem Z_for {vars : List Nat} {k : SrcK} {srcs : List IE} {b : List IS} : wpS Φ (.for vars k srcs b) L H QF XF = wpEs Φ srcs L H (fun vs H1 => pSrc k vs H1 fun items st =>
      forGo (whBX Φ b XF) st vars items L H1 QF) (fun x => XF x L) := rfl
theorem Z_pass : wpS Φ .pass L H QF XF = QF .next L H := rfl
theorem Z_brk : wpS Φ .brk L H QF XF = QF .brk L H := rfl
theorem Z_cont : wpS Φ .cont L H QF XF = QF .cont L H := rfl
theorem Zs_nil : wpSs Φ [] L H QF XF = QF .next L H := rfl
noncomputable def sqX (Φ : Orc) (r : List IS) (QF : QS) (XF : XS) : QS := fun fl L1 H1 => match fl with
      | .next => wpSs Φ r L1 H1 QF XF
      | .brk => QF .brk L1 H1
      | .cont => QF .cont L1 H1
      | .ret v => QF (.ret v) L1 H1
theorem sqX_next {r : List IS} : sqX Φ r QF XF .next L H = wpSs Φ r L H QF XF := rfl
theorem sqX_brk {r : List IS} : sqX Φ r QF XF .brk L H = QF .brk L H := rfl
theorem sqX_cont {r : List IS} : sqX Φ r QF XF .cont L H = QF .cont L H := rfl
theorem sqX_ret {r : List IS} {v : V} : sqX Φ r QF XF (.ret v) L H = QF (.ret v) L H := rfl
theorem Zs_cons {s : IS} {r : List IS} : wpSs Φ (s :: r) L H QF XF = wpS Φ s L H (sqX Φ r QF XF) XF := rfl
theorem zs_cons {s : IS} {r : List IS} (h : wpS Φ s L H (sqX Φ r QF XF) XF) : wpSs Φ (s :: r) L H QF XF := h
noncomputable def wkX (test : Lc → Hp → (Bool → Hp → Prop) → Prop) (body : Lc → Hp → QS → Prop) (n : Nat) (Q : QS) : QS := fun fl L1 H2 => match fl with
      | .next => whileGo test body n L1 H2 Q
      | .cont => whileGo test body n L1 H2 Q
      | .brk => Q .next L1 H2
      | .ret v => Q (.ret v) L1 H2
noncomputable def fkX (body : Lc → Hp → QS → Prop) (st : Hp → Prop) (vars : List Nat) (r : List V) (Q : QS) : QS := fun fl L1 H1 => match fl with
      | .next => st H1 ∧ forGo body st vars r L1 H1 Q
      | .cont => st H1 ∧ forGo body st vars r L1 H1 Q
      | .brk => Q .next L1 H1
      | .ret v => Q (.ret v) L1 H1
end
section
variable {Φ : Orc} {t : IE} {b : List IS} {XF : XS} {X : XL} {test : Lc → Hp → (Bool → Hp → Prop) → Prop} {body : Lc → Hp → QS → Prop} {n : Nat} {Q : QS} {L : Lc} {H : Hp} {st : Hp → Prop} {vars : List Nat} {x : V} {r : List V} {v : V} {acc : List V} {QL : List V → Hp → Prop} {ifs : List IE} {elt : IE}
theorem whX_s : whileGo (whTX Φ t XF) (whBX Φ b XF) (n + 1) L H Q = (wp2 Φ t).T L H (fun c H1 => ifP c (wpSs Φ b L H1 (wkX (whTX Φ t XF) (whBX Φ b XF) n Q) XF) (Q .next L H1)) (fun x => XF x L) := rfl
theorem wkX_next : wkX test body n Q .next L H = whileGo test body n L H Q := rfl
theorem wkX_cont : wkX test body n Q .cont L H = whileGo test body n L H Q := rfl
theorem wkX_brk : wkX test body n Q .brk L H = Q .next L H := rfl
theorem wkX_ret : wkX test body n Q (.ret v) L H = Q (.ret v) L H := rfl
theorem foX_nil : forGo body st vars [] L H Q = Q .next L H := rfl
theorem foX_cons : forGo (whBX Φ b XF) st vars (x :: r) L H Q = oK (bindVars vars x L) fun L' => wpSs Φ b L' H (fkX (whBX Φ b XF) st vars r Q) XF := rfl
theorem fkX_next : fkX body st vars r Q .next L H = (st H ∧ forGo body st vars r L H Q) := rfl
theorem fkX_cont : fkX body st vars r Q .cont L H = (st H ∧ forGo body st vars r L H Q) := rfl
theorem fkX_brk : fkX body st vars r Q .brk L H = Q .next L H := rfl
theorem fkX_ret : fkX body st vars r Q (.ret v) L H = Q (.ret v) L H := rfl
theorem coX_nil {tst : Lc → Hp → (Bool → Hp → Prop) → Prop} {el : Lc → Hp → (V → Hp → Prop) → Prop} : compGo tst el st vars L [] acc H QL = QL acc H := rfl
theorem coX_cons : compGo (coTX Φ ifs X) (coEX Φ elt X) st vars L (x :: r) acc H QL = oK (bindVars vars x L) fun L' => wpIfs Φ ifs L' H (fun c H1 =>
      ifP c ((wp2 Φ elt).E L' H1 (fun y H2 => st H2 ∧ compGo (coTX Φ ifs X) (coEX Φ elt X) st vars L r (acc ++ [y]) H2 QL) X) (st H1 ∧ compGo (coTX Φ ifs X) (coEX Φ elt X) st vars L r acc H1 QL)) X := rfl
theorem xb_one {i : Nat} : bindVars [i] x L = some (L.set i (some x)) := rfl
theorem oKK_some {α : Type} {a : α} {P : α → Prop} : oKK (some (some a)) P = P a := rfl
theorem oK_some {α : Type} {a : α} {P : α → Prop} : oK (some a) P = P a := rfl
theorem tX_bool {b : Bool} {P : Bool → Prop} : tX H (.bool b) P = P b := rfl
theorem iX_t {A B : Prop} : ifP true A B = A := rfl
theorem iX_f {A B : Prop} : ifP false A B = B := rfl
theorem iX_d {p : Prop} [Decidable p] {A B : Prop} : ifP (decide p) A B = ((p → A) ∧ (¬ p → B)) := by by_cases h : p <;> simp [ifP, h]
theorem iX_p {p : Prop} [Decidable p] {A B : Prop} (h1 : p → A) (h2 : ¬ p → B) : ifP (decide p) A B := by by_cases h : p <;> simp only [h, decide_true, decide_false, ifP]; exact h1 h; exact h2 h
theorem iX_b {c : Bool} {A B : Prop} (h1 : c = true → A) (h2 : c = false → B) : ifP c A B := by cases c; exact h2 rfl; exact h1 rfl
end
section
variable {Φ : Orc} {H : Hp} {Q : V → Hp → Prop} {X : XL} {i j : Int} {m n : Nat} {x y : Str} {l : List V} {ns : List Int} {a v : V} {b c : Bool}
theorem q_add : pBin .Add (.int i) (.int j) H Q = Q (.int (i + j)) H := rfl
theorem q_sub : pBin .Sub (.int i) (.int j) H Q = Q (.int (i - j)) H := rfl
theorem q_mul : pBin .Mult (.int i) (.int j) H Q = (((-(2 ^ 64) < i ∧ i < 2 ^ 64) ∨ (-(2 ^ 64) < j ∧ j < 2 ^ 64)) ∧ Q (.int (i * j)) H) := rfl
theorem q_div : pBin .FloorDiv (.int i) (.int j) H Q = ((0 < j ∧ j < 2 ^ 128) ∧ Q (.int (i / j)) H) := rfl
theorem q_mod : pBin .Mod (.int i) (.int j) H Q = ((0 < j ∧ j < 2 ^ 128) ∧ Q (.int (i % j)) H) := rfl
theorem q_pow : pBin .Pow (.int i) (.int j) H Q = ((0 ≤ j ∧ j ≤ 1000000 ∧ i.natAbs < 2 ^ 64) ∧ Q (.int (i ^ j.toNat)) H) := rfl
theorem q_list : pBin .Add (.ref m) (.ref n) H Q = oK (listAt H m) fun xs => oK (listAt H n) fun ys => xs.length + ys.length ≤ 1000000 ∧ Q (.ref H.length) (H ++ [.list (xs ++ ys)]) := rfl
theorem q_eq : pCmp .Eq (.int i) (.int j) H Q = Q (.bool (decide (i = j))) H := rfl
theorem q_ne : pCmp .NotEq (.int i) (.int j) H Q = Q (.bool (decide (i ≠ j))) H := rfl
theorem q_eqs : pCmp .Eq (.str x) (.str y) H Q = Q (.bool (x == y)) H := rfl
theorem q_nes : pCmp .NotEq (.str x) (.str y) H Q = Q (.bool (!(x == y))) H := rfl
theorem q_eqb : pCmp .Eq (.bool b) (.bool c) H Q = Q (.bool (b == c)) H := rfl
theorem q_lt : pCmp .Lt (.int i) (.int j) H Q = Q (.bool (decide (i < j))) H := rfl
theorem q_le : pCmp .LtE (.int i) (.int j) H Q = Q (.bool (decide (i ≤ j))) H := rfl
theorem q_gt : pCmp .Gt (.int i) (.int j) H Q = Q (.bool (decide (j < i))) H := rfl
theorem q_ge : pCmp .GtE (.int i) (.int j) H Q = Q (.bool (decide (j ≤ i))) H := rfl
theorem q_in : pCmp .In a (.tup l) H Q = oK (memV a l) fun c => Q (.bool c) H := rfl
theorem q_inl : pCmp .In a (.ref n) H Q = oK (listAt H n) fun l => oK (memV a l) fun c => Q (.bool c) H := rfl
theorem q_nin : pCmp .NotIn a (.tup l) H Q = oK (memV a l) fun c => Q (.bool (!c)) H := rfl
theorem q_is : pCmp .Is a .none H Q = Q (.bool (isNoneV a)) H := rfl
theorem q_isnot : pCmp .IsNot a .none H Q = Q (.bool (!isNoneV a)) H := rfl
theorem q_stup : pSub (.tup l) (.int i) H Q = oK (idx l i) fun v => Q v H := rfl
theorem q_sref : pSub (.ref n) (.int i) H Q = oK (listAt H n) fun l => oK (idx l i) fun v => Q v H := rfl
theorem q_sscr : pSub (.scr ns) (.int i) H Q = oK (idx ns i) fun v => Q (.int v) H := rfl
theorem q_fn {vs : List V} : pCall Φ (.fn x) vs H Q X = Φ x vs H Q X := rfl
theorem q_lentup : pCall Φ (.bi .len) [.tup l] H Q X = Q (.int (l.length : Int)) H := rfl
theorem q_lenref : pCall Φ (.bi .len) [.ref n] H Q X = oK (listAt H n) fun l => Q (.int (l.length : Int)) H := rfl
theorem q_lenscr : pCall Φ (.bi .len) [.scr ns] H Q X = Q (.int (ns.length : Int)) H := rfl
theorem q_isi {t : Ty} : pCall Φ (.bi .isinstance) [v, .ty t] H Q X = oK (isInstH H v t) fun c => Q (.bool c) H := rfl
theorem q_all : pCall Φ (.bi .all) [.ref n] H Q X = oK (listAt H n) fun l => oK (allBools l) fun bs => Q (.bool (bs.all id)) H := rfl
theorem q_max : pCall Φ (.bi .max) [.int i, .int j] H Q X = Q (.int (max i j)) H := rfl
theorem q_min : pCall Φ (.bi .min) [.int i, .int j] H Q X = Q (.int (min i j)) H := rfl
theorem q_int : pCall Φ (.ty .int) [.bool b] H Q X = Q (.int (if b then 1 else 0)) H := rfl
theorem q_tuple : pCall Φ (.ty .tuple) [.ref n] H Q X = oK (listAt H n) fun l => Q (.tup l) H := rfl
theorem q_listc : pCall Φ (.ty .list) [.ref n] H Q X = oK (listAt H n) fun l => Q (.ref H.length) (H ++ [.list l]) := rfl
theorem q_append : pMeth (.ref n) .append [v] H Q = oK (listAt H n) fun l => l.length ≤ 1000000 ∧ Q .none (H.set n (.list (l ++ [v]))) := rfl
theorem q_clear : pMeth (.ref n) .clear [] H Q = oK (listAt H n) fun _ => Q .none (H.set n (.list [])) := rfl
theorem q_index : pMeth (.ref n) .index [v] H Q = oK (listAt H n) fun l => oK (idxV v l) fun j => Q (.int (j : Int)) H := rfl
theorem u_tup {R : List V → (Hp → Prop) → Prop} : pSrc .val [.tup l] H R = R l (fun _ => True) := rfl
theorem u_ref {R : List V → (Hp → Prop) → Prop} : pSrc .val [.ref n] H R = oK (listAt H n) fun l => R l (fun H' => listAt H' n = some l) := rfl
theorem q_slice {lo hi : V} : pSlice (.ref n) lo hi H Q = oK (listAt H n) fun xs => oK (optInt lo) fun l => oK (optInt hi) fun h => Q (.ref H.length) (H ++ [.list (sliceL xs l h)]) := rfl
theorem oi_none : optInt .none = some none := rfl
theorem oi_int : optInt (.int i) = some (some i) := rfl
theorem X_slice {L : Lc} {o : IE} {lo hi : Option IE} : (wp2 Φ (.slice o lo hi)).E L H Q X = (wp2 Φ o).E L H (fun vo H1 => wpO Φ lo L H1 (fun vl H2 => wpO Φ hi L H2 (fun vh H3 => pSlice vo vl vh H3 Q) X) X) X := rfl
theorem XO_none {L : Lc} : wpO Φ none L H Q X = Q .none H := rfl
theorem XO_some {L : Lc} {e : IE} : wpO Φ (some e) L H Q X = (wp2 Φ e).E L H Q X := rfl
theorem u_rev {R : List V → (Hp → Prop) → Prop} : pSrc .rev [.ref n] H R = oK (listAt H n) fun l => R l.reverse (fun H' => listAt H' n = some l) := rfl
theorem u_range {R : List V → (Hp → Prop) → Prop} : pSrc .range [.int i] H R = ((-(2 ^ 62) ≤ i ∧ i ≤ 1000000) ∧ R (rangeL 0 i) (fun _ => True)) := rfl
theorem u_range2 {R : List V → (Hp → Prop) → Prop} : pSrc .range [.int i, .int j] H R = ((-(2 ^ 62) ≤ i ∧ i < 2 ^ 62 ∧ -(2 ^ 62) ≤ j ∧ j < 2 ^ 62 ∧ j - i ≤ 1000000) ∧ R (rangeL i j) (fun _ => True)) := rfl
end
theorem fn_of {Φ : Orc} {f : Fn} {vs : List V} {H : Hp} {Q : V → Hp → Prop} {X : XL} (h1 : vs.length = f.params) (h : wpSs Φ f.body (initL f vs) H (fun fl _ H1 => Q (retV fl) H1) (fun x _ H1 => X x H1)) : wpFn Φ f vs H Q X := ⟨h1, h⟩
theorem retV_ret {v : V} : retV (.ret v) = v := rfl
theorem retV_next : retV .next = .none := rfl
theorem idx_0 {α : Type} {l : List α} : idx l 0 = l[0]? := rfl
theorem idx_1 {α : Type} {l : List α} : idx l 1 = l[1]? := rfl
theorem idx_2 {α : Type} {l : List α} : idx l 2 = l[2]? := rfl
theorem idx_3 {α : Type} {l : List α} : idx l 3 = l[3]? := rfl
theorem idx_4 {α : Type} {l : List α} : idx l 4 = l[4]? := rfl
theorem idx_5 {α : Type} {l : List α} : idx l 5 = l[5]? := rfl
/- the oracle grows -/
noncomputable def ext (n : Str) (C : List V → Hp → (V → Hp → Prop) → XL → Prop) (Φ : Orc) : Orc := fun x vs H Q X => if x == n then C vs H Q X else Φ x vs H Q X
noncomputable def noΦ : Orc := fun _ _ _ _ _ => False
theorem listAt_pre {H H' : Hp} {i : Nat} {l : List V} (p : H <+: H') (h : listAt H i = some l) : listAt H' i = some l := by
  obtain ⟨Δ, rfl⟩ := p
  unfold listAt at h ⊢
  split at h
  · rename_i xs e
    rw [List.getElem?_append_left (List.getElem?_eq_some_iff.mp e).1, e]
    exact h
  · cases h
theorem listAt_new {H : Hp} {l : List V} : listAt (H ++ [.list l]) H.length = some l := by simp [listAt]
theorem set_new {H : Hp} {l m : List V} : (H ++ [O.list l]).set H.length (.list m) = H ++ [.list m] := by simp
theorem pre_new {H : Hp} {o : O} : H <+: H ++ [o] := List.prefix_append _ _
theorem idx_nat {α : Type} {l : List α} {k : Nat} : idx l (k : Int) = l[k]? := by simp [idx]
end Mine

set_option autoImplicit false
/- The top of a law, and its end. -/
namespace Mine
open PySem PySem.W PyProof.Rows

noncomputable def isName : Stmt → Bool
  | .Assign [.Name x _] _ _ => x == ("__name__" : Str)
  | _ => false
noncomputable def viewOf (p : Program) : Program := { p with main := { p.main with body := p.main.body.filter fun st => !isName st } }
theorem noΦ_ok {D : Wd} : OrcOk D 0 noΦ := fun _ _ _ _ _ h => h.elim
theorem ext_ok {D : Wd} {G : List (Str × V)} {k : Nat} {Φ : Orc} {n : Str} {f : Fn} {C : List V → Hp → (V → Hp → Prop) → XL → Prop} (g : GOk D G) (hO : OrcOk D k Φ) (fo : FnOk D G n f)
    (h : ∀ vs H Q X, C vs H Q X → wpFn Φ f vs H Q X) : OrcOk D (k + 1) (ext n C Φ) := by
  intro x vs H Q X hx A γ s vals a hA R rv ha
  unfold ext at hx
  split at hx
  · rename_i e
    have e : x = n := by simpa using e
    subst e
    exact fn_ok g hO fo vs H Q X (h vs H Q X hx) A γ s vals a hA R rv ha
  · exact hO x vs H Q X hx A γ s vals a (hA.mono (by omega)) R rv ha

theorem ext_none {D : Wd} {k : Nat} {Φ : Orc} {n : Str} {C : List V → Hp → (V → Hp → Prop) → XL → Prop} (h : D.mg n = none) (hO : OrcOk D k Φ) : OrcOk D k (ext n C Φ) := by
  intro x vs H Q X hx A γ s vals a hA R rv ha
  unfold ext at hx
  split at hx
  · rename_i e
    have e : x = n := by simpa using e
    subst e
    rw [h] at ha; cases ha
  · exact hO x vs H Q X hx A γ s vals a hA R rv ha

theorem ints_get : ∀ {vs : List Value} {ns : List Int}, IntsAre vs ns → vs.length = ns.length ∧ ∀ (k : Nat) (i : Int), ns[k]? = some i → ∃ t, vs[k]? = some (.int i t)
  | _, _, .nil => ⟨rfl, fun k i h => by simp at h⟩
  | _, _, .cons n t r => by
    obtain ⟨h1, h2⟩ := ints_get r
    refine ⟨by simp [h1], fun k i h => ?_⟩
    cases k with
    | zero => simp at h; subst h; exact ⟨t, by simp⟩
    | succ k => simp at h; obtain ⟨u, hu⟩ := h2 k i h; exact ⟨u, by simpa using hu⟩

noncomputable def GVal (D : Wd) (x : Str) (W : V) : Prop := ∃ v, (D.mg x = some v ∨ (D.mg x = none ∧ D.mb x = some v)) ∧ ∀ γ, Rep D γ D.hB v W
noncomputable def GAll (D : Wd) : List (Str × V) → Prop
  | [] => True
  | p :: r => GVal D p.1 p.2 ∧ GAll D r
theorem gall_lookup {D : Wd} : ∀ {G : List (Str × V)}, GAll D G → ∀ (x : Str) (W : V), G.lookup x = some W → GVal D x W
  | [], _, x, W, h => by cases h
  | (y, U) :: r, g, x, W, h => by
    rw [List.lookup_cons] at h
    split at h
    · rename_i e
      have e : x = y := by simpa using e
      cases h; subst e; exact g.1
    · exact gall_lookup g.2 x W h
theorem gok {D : Wd} {G : List (Str × V)} {p : Program} {loose : List Str} {mean : ExcName → Option Value} (T : Top p loose mean D.mg D.mb D.hB) (g : GAll D G) : GOk D G :=
  ⟨T.g, T.b, fun x V h => gall_lookup g x V h, T.nolimit⟩
theorem gv_fn {D : Wd} {x : Str} {a : Addr} (h : D.mg x = some (.ref a)) : GVal D x (.fn x) :=
  ⟨_, .inl h, fun _ => by simp only [Rep]; exact ⟨a, rfl, h⟩⟩
theorem gv_int {D : Wd} {x : Str} {i : Int} {t : Tok} (h : D.mg x = some (.int i t)) : GVal D x (.int i) :=
  ⟨_, .inl h, fun _ => by simp only [Rep]; exact ⟨t, rfl⟩⟩
theorem gv_tup {D : Wd} {x : Str} {a : Addr} {vs : List Value} {n : Nat} {l : List V} (h : D.mg x = some (.ref a)) (e : D.hB.get? a = some { cls := .type "tuple", data := .seq vs.toArray n }) (hz : vs.length ≤ 2000000) (r : ∀ γ, Reps D γ D.hB vs l) : GVal D x (.tup l) :=
  ⟨_, .inl h, fun γ => by simp only [Rep]; exact ⟨a, vs, rfl, ⟨n, e, hz⟩, r γ⟩⟩
theorem gv_bi {D : Wd} {b : Bi} {x : Str} (h : D.mg x = none) (e : D.mb x = some (.builtin b.name)) : GVal D x (.bi b) :=
  ⟨_, .inr ⟨h, e⟩, fun _ => by simp only [Rep]⟩
theorem gv_ty {D : Wd} {b : Ty} {x : Str} (h : D.mg x = none) (e : D.mb x = some (.type b.name)) : GVal D x (.ty b) :=
  ⟨_, .inr ⟨h, e⟩, fun _ => by simp only [Rep]⟩
theorem reps_int {D : Wd} {γ : List Addr} {h : Heap} {i : Int} {t : Tok} {vs : List Value} {l : List V} (r : Reps D γ h vs l) : Reps D γ h (.int i t :: vs) (.int i :: l) := by
  simp only [Reps]; exact ⟨_, _, rfl, by simp only [Rep]; exact ⟨t, rfl⟩, r⟩
theorem reps_str {D : Wd} {γ : List Addr} {h : Heap} {x : Str} {t : Tok} {vs : List Value} {l : List V} (f : StrFine x) (r : Reps D γ h vs l) : Reps D γ h (.str x t :: vs) (.str x :: l) := by
  simp only [Reps]; exact ⟨_, _, rfl, by simp only [Rep]; exact ⟨t, rfl, f⟩, r⟩
theorem reps_nil {D : Wd} {γ : List Addr} {h : Heap} : Reps D γ h [] [] := by simp only [Reps]

theorem law_top {prog : Program} {w : World} {s₁ : Shared} {mg mb : Str → Option Value} {k : Nat} {Φ : Orc} {c : ClaimW} {cl : Str → Option Addr} {mean : ExcName → Option Value} {fa a : Addr} {vs : List Value} {ns : List Int} {args : List WData} {x : Str}
    (hO : OrcOk ⟨prog, w, s₁.heap, mg, mb⟩ k Φ) (hA : AOk k callerA) (hx : mg x = some (.ref fa)) (hΦ : Φ x [.scr ns] [] (fun V _ => V = .bool true) (fun _ _ => False))
    (hL : s₁.heap.IsList a vs.toArray) (hI : IntsAre vs ns) (hlen : ns.length ≤ 2000000) (hg : s₁.gens = #[]) (hr : ∀ cls, c.raises args cls = false) (hp : c.post args (.bool true) args = true) :
    wpAny (model prog w) callerA (call (.ref fa) [.ref a]) (fun v s' => GoodWG c cl mean args s₁ (.ok (.ret v)) s') (fun e s' => GoodWG c cl mean args s₁ (.error e) s') s₁ := by
  obtain ⟨h1, h2⟩ := ints_get hI
  have R : HRel ⟨prog, w, s₁.heap, mg, mb⟩ [] [] s₁.heap := ⟨rfl, List.nodup_nil, fun i a o e => by simp at e, fun a h => by simp at h, fun _ _ e => e⟩
  have rv : Reps ⟨prog, w, s₁.heap, mg, mb⟩ [] s₁.heap [.ref a] [.scr ns] := Reps.one (by simp only [Rep]; exact ⟨a, vs, rfl, hL, by omega, h1, h2⟩)
  refine wpAny_mono (hO x [.scr ns] [] _ _ hΦ callerA [] s₁ [.ref a] fa hA R rv hx).2 ?_ ?_
  · rintro v s' ⟨γ', V, H', st, _, r, rfl⟩
    simp only [Rep] at r; subst r
    obtain ⟨h', tk, rfl⟩ := st.same
    exact GoodW.toG ⟨.inl ⟨_, _, [], rfl, hr, ReadsW.bool true, hp, fun _ => ⟨List.nodup_nil, fun _ hm => (nomatch hm)⟩⟩, fun b o e => st.keep b o (by simp) (by simp) e, rfl, hg⟩
  · rintro e s' ⟨γ', H', x, _, _, _, h⟩
    exact h.elim
theorem caller_ok {k : Nat} (h : k ≤ 500) : AOk k callerA := ⟨rfl, by show 1 + claimMargin + k < 900; unfold claimMargin; omega, by show 4 + 4 * k < 9000; omega⟩
end Mine

set_option autoImplicit false
namespace Mine
open PySem

noncomputable def f_month_length : Fn := { names := 5, params := 2, body := [
  (.ite (.and (.cmp (.loc 1) .Eq (.lit (.int 2))) (.cmp (.bin .Mod (.loc 0) (.lit (.int 4))) .Eq (.lit (.int 0)))) [(.ret (.lit (.int 29)))] []),
  (.ret (.sub (.lit (.tup [(.int 31), (.int 28), (.int 31), (.int 30), (.int 31), (.int 30), (.int 31), (.int 31), (.int 30), (.int 31), (.int 30), (.int 31)])) (.bin .Sub (.loc 1) (.lit (.int 1)))))] }

noncomputable def f_date_of : Fn := { names := 8, params := 1, body := [
  (.assign 1 (.bin .Mod (.loc 0) (.lit (.int 1461)))),
  (.assign 2 (.lit (.int 0))),
  (.while (.and (.cmp (.loc 2) .Lt (.lit (.int 3))) (.cmp (.loc 1) .GtE (.sub (.lit (.tup [(.int 0), (.int 366), (.int 731), (.int 1096)])) (.bin .Add (.loc 2) (.lit (.int 1)))))) [(.assign 2 (.bin .Add (.loc 2) (.lit (.int 1))))]),
  (.assign 3 (.bin .Add (.bin .Mult (.bin .FloorDiv (.loc 0) (.lit (.int 1461))) (.lit (.int 4))) (.loc 2))),
  (.assign 1 (.bin .Sub (.loc 1) (.sub (.lit (.tup [(.int 0), (.int 366), (.int 731), (.int 1096)])) (.loc 2)))),
  (.assign 4 (.lit (.int 1))),
  (.while (.cmp (.loc 1) .GtE (.call (.fn "month_length") [(.loc 3), (.loc 4)])) [(.assign 1 (.bin .Sub (.loc 1) (.call (.fn "month_length") [(.loc 3), (.loc 4)]))), (.assign 4 (.bin .Add (.loc 4) (.lit (.int 1))))]),
  (.ret (.tup [(.loc 3), (.loc 4), (.bin .Add (.loc 1) (.lit (.int 1)))]))] }

noncomputable def f_from_end : Fn := { names := 5, params := 1, body := [
  (.assign 1 (.call (.fn "date_of") [(.loc 0)])),
  (.ret (.bin .Sub (.bin .Sub (.sub (.loc 1) (.lit (.int 2))) (.call (.fn "month_length") [(.sub (.loc 1) (.lit (.int 0))), (.sub (.loc 1) (.lit (.int 1)))])) (.lit (.int 1))))] }

noncomputable def f_innermost : Fn := { names := 4, params := 1, body := [
  (.while (.cmp (.sub (.loc 0) (.lit (.int 0))) .In (.lit (.tup [(.str "from"), (.str "until"), (.str "also"), (.str "but")]))) [(.assign 0 (.sub (.loc 0) (.lit (.int 2))))]),
  (.ret (.loc 0))] }

noncomputable def f_length_of : Fn := { names := 5, params := 1, body := [
  (.assign 1 (.call (.fn "innermost") [(.loc 0)])),
  (.ite (.or (.cmp (.sub (.loc 1) (.lit (.int 0))) .Eq (.lit (.str "once"))) (.cmp (.sub (.loc 1) (.lit (.int 0))) .Eq (.lit (.str "every")))) [(.ret (.sub (.loc 1) (.lit (.int 2))))] []),
  (.ret (.sub (.loc 1) (.lit (.int 3))))] }

noncomputable def f_begins_plain : Fn := { names := 6, params := 2, body := [
  (.ite (.cmp (.sub (.loc 0) (.lit (.int 0))) .Eq (.lit (.str "once"))) [(.ret (.cmp (.loc 1) .Eq (.sub (.loc 0) (.lit (.int 1)))))] []),
  (.ite (.cmp (.sub (.loc 0) (.lit (.int 0))) .Eq (.lit (.str "every"))) [(.ret (.and (.cmp (.loc 1) .GtE (.sub (.loc 0) (.lit (.int 1)))) (.cmp (.bin .Mod (.bin .Sub (.loc 1) (.sub (.loc 0) (.lit (.int 1)))) (.sub (.loc 0) (.lit (.int 3)))) .Eq (.lit (.int 0)))))] []),
  (.ite (.cmp (.bin .Mod (.loc 1) (.lit (.int 24))) .NotEq (.sub (.loc 0) (.lit (.int 2)))) [(.ret (.lit (.bool false)))] []),
  (.assign 2 (.bin .FloorDiv (.loc 1) (.lit (.int 24)))),
  (.ite (.cmp (.sub (.loc 0) (.lit (.int 0))) .Eq (.lit (.str "week"))) [(.ret (.cmp (.bin .Mod (.loc 2) (.lit (.int 7))) .In (.sub (.loc 0) (.lit (.int 1)))))] []),
  (.ite (.cmp (.sub (.loc 0) (.lit (.int 1))) .Lt (.lit (.int 0))) [(.ret (.cmp (.call (.fn "from_end") [(.loc 2)]) .Eq (.sub (.loc 0) (.lit (.int 1)))))] []),
  (.ret (.cmp (.sub (.call (.fn "date_of") [(.loc 2)]) (.lit (.int 2))) .Eq (.sub (.loc 0) (.lit (.int 1)))))] }

noncomputable def f_begins : Fn := { names := 5, params := 2, body := [
  (.ite (.cmp (.loc 1) .Lt (.lit (.int 0))) [(.ret (.lit (.bool false)))] []),
  (.while (.cmp (.sub (.loc 0) (.lit (.int 0))) .In (.lit (.tup [(.str "from"), (.str "until"), (.str "also"), (.str "but")]))) [(.ite (.and (.cmp (.sub (.loc 0) (.lit (.int 0))) .Eq (.lit (.str "from"))) (.cmp (.loc 1) .Lt (.sub (.loc 0) (.lit (.int 1))))) [(.ret (.lit (.bool false)))] []), (.ite (.and (.cmp (.sub (.loc 0) (.lit (.int 0))) .Eq (.lit (.str "until"))) (.cmp (.loc 1) .GtE (.sub (.loc 0) (.lit (.int 1))))) [(.ret (.lit (.bool false)))] []), (.ite (.and (.cmp (.sub (.loc 0) (.lit (.int 0))) .Eq (.lit (.str "also"))) (.cmp (.loc 1) .Eq (.sub (.loc 0) (.lit (.int 1))))) [(.ret (.lit (.bool true)))] []), (.ite (.and (.cmp (.sub (.loc 0) (.lit (.int 0))) .Eq (.lit (.str "but"))) (.cmp (.bin .FloorDiv (.loc 1) (.lit (.int 24))) .In (.sub (.loc 0) (.lit (.int 1))))) [(.ret (.lit (.bool false)))] []), (.assign 0 (.sub (.loc 0) (.lit (.int 2))))]),
  (.ret (.call (.fn "begins_plain") [(.loc 0), (.loc 1)]))] }

noncomputable def f_l_cell_at : Fn := { names := 5, params := 2, body := [
  (.ite (.cmp (.loc 1) .Lt (.call (.bi .len) [(.loc 0)])) [(.ret (.sub (.loc 0) (.loc 1)))] []),
  (.ret (.lit (.int 0)))] }

noncomputable def f_l_whole : Fn := { names := 4, params := 1, body := [
  (.ret (.and (.call (.bi .isinstance) [(.loc 0), (.lit (.ty .int))]) (.not (.call (.bi .isinstance) [(.loc 0), (.lit (.ty .bool))]))))] }

noncomputable def f_l_days : Fn := { names := 6, params := 2, body := [
  (.assign 2 (.lst [(.lit (.int 31)), (.lit (.int 28)), (.lit (.int 31)), (.lit (.int 30)), (.lit (.int 31)), (.lit (.int 30)), (.lit (.int 31)), (.lit (.int 31)), (.lit (.int 30)), (.lit (.int 31)), (.lit (.int 30)), (.lit (.int 31))])),
  (.ret (.bin .Add (.sub (.loc 2) (.bin .Sub (.loc 1) (.lit (.int 1)))) (.call (.ty .int) [(.and (.cmp (.loc 1) .Eq (.lit (.int 2))) (.cmp (.bin .Mod (.loc 0) (.lit (.int 4))) .Eq (.lit (.int 0))))])))] }

noncomputable def f_l_in_month : Fn := { names := 7, params := 1, body := [
  (.assign 1 (.bin .Mod (.loc 0) (.lit (.int 1461)))),
  (.assign 2 (.lit (.int 0))),
  (.assign 3 (.lit (.int 1))),
  (.while (.cmp (.loc 1) .GtE (.call (.fn "_law_days") [(.loc 2), (.loc 3)])) [(.assign 1 (.bin .Sub (.loc 1) (.call (.fn "_law_days") [(.loc 2), (.loc 3)]))), (.assign 2 (.bin .Add (.loc 2) (.bin .FloorDiv (.loc 3) (.lit (.int 12))))), (.assign 3 (.bin .Add (.bin .Mod (.loc 3) (.lit (.int 12))) (.lit (.int 1))))]),
  (.ret (.lst [(.bin .Add (.loc 1) (.lit (.int 1))), (.bin .Sub (.loc 1) (.call (.fn "_law_days") [(.loc 2), (.loc 3)]))]))] }

noncomputable def f_l_plain_begins : Fn := { names := 5, params := 2, body := [
  (.ite (.cmp (.sub (.loc 0) (.lit (.int 0))) .Eq (.lit (.str "once"))) [(.ret (.cmp (.loc 1) .Eq (.sub (.loc 0) (.lit (.int 1)))))] []),
  (.ite (.cmp (.sub (.loc 0) (.lit (.int 0))) .Eq (.lit (.str "every"))) [(.ret (.and (.cmp (.loc 1) .GtE (.sub (.loc 0) (.lit (.int 1)))) (.cmp (.bin .Mod (.bin .Sub (.loc 1) (.sub (.loc 0) (.lit (.int 1)))) (.sub (.loc 0) (.lit (.int 3)))) .Eq (.lit (.int 0)))))] []),
  (.ite (.or (.cmp (.loc 1) .Lt (.lit (.int 0))) (.cmp (.bin .Mod (.loc 1) (.lit (.int 24))) .NotEq (.sub (.loc 0) (.lit (.int 2))))) [(.ret (.lit (.bool false)))] []),
  (.ite (.cmp (.sub (.loc 0) (.lit (.int 0))) .Eq (.lit (.str "week"))) [(.ret (.cmp (.bin .Mod (.bin .FloorDiv (.loc 1) (.lit (.int 24))) (.lit (.int 7))) .In (.sub (.loc 0) (.lit (.int 1)))))] []),
  (.ret (.cmp (.sub (.loc 0) (.lit (.int 1))) .In (.call (.fn "_law_in_month") [(.bin .FloorDiv (.loc 1) (.lit (.int 24)))])))] }

noncomputable def f_l_weekdays : Fn := { names := 6, params := 1, body := [
  (.assign 1 (.lst [])),
  (.for [2] .range [(.lit (.int 7))] [(.ite (.cmp (.bin .Mod (.loc 0) (.lit (.int 2))) .Eq (.lit (.int 1))) [(.expr (.meth (.loc 1) .append [(.loc 2)]))] []), (.assign 0 (.bin .FloorDiv (.loc 0) (.lit (.int 2))))]),
  (.ret (.call (.ty .tuple) [(.loc 1)]))] }

noncomputable def f_l_plain_by : Fn := { names := 10, params := 3, body := [
  (.assign 3 (.bin .Mod (.sub (.loc 0) (.lit (.int 0))) (.lit (.int 4)))),
  (.assign 4 (.bin .Add (.lit (.int 1)) (.bin .Mod (.bin .FloorDiv (.sub (.loc 0) (.lit (.int 0))) (.lit (.int 4))) (.loc 2)))),
  (.assign 5 (.bin .Add (.loc 1) (.bin .Mod (.sub (.loc 0) (.lit (.int 1))) (.lit (.int 60))))),
  (.ite (.cmp (.loc 3) .Eq (.lit (.int 0))) [(.ret (.tup [(.lit (.str "once")), (.loc 5), (.loc 4)]))] []),
  (.ite (.cmp (.loc 3) .Eq (.lit (.int 1))) [(.ret (.tup [(.lit (.str "every")), (.loc 5), (.loc 4), (.bin .Add (.lit (.int 1)) (.bin .Mod (.sub (.loc 0) (.lit (.int 2))) (.lit (.int 30))))]))] []),
  (.ite (.cmp (.loc 3) .Eq (.lit (.int 2))) [(.ret (.tup [(.lit (.str "week")), (.call (.fn "_law_weekdays") [(.bin .Add (.lit (.int 1)) (.bin .Mod (.sub (.loc 0) (.lit (.int 2))) (.lit (.int 127))))]), (.bin .Mod (.sub (.loc 0) (.lit (.int 1))) (.lit (.int 24))), (.loc 4)]))] []),
  (.assign 6 (.bin .Sub (.bin .Mod (.sub (.loc 0) (.lit (.int 2))) (.lit (.int 62))) (.lit (.int 31)))),
  (.ite (.cmp (.bin .Mod (.bin .FloorDiv (.sub (.loc 0) (.lit (.int 2))) (.lit (.int 62))) (.lit (.int 2))) .Eq (.lit (.int 1))) [(.assign 6 (.sub (.lst [(.neg (.lit (.int 1))), (.lit (.int 0)), (.lit (.int 30)), (.lit (.int 29)), (.lit (.int 28)), (.neg (.lit (.int 31))), (.neg (.lit (.int 30))), (.neg (.lit (.int 29))), (.neg (.lit (.int 28))), (.lit (.int 27))]) (.bin .Mod (.bin .FloorDiv (.sub (.loc 0) (.lit (.int 2))) (.lit (.int 124))) (.lit (.int 10)))))] []),
  (.ret (.tup [(.lit (.str "month")), (.bin .Add (.loc 6) (.call (.ty .int) [(.cmp (.loc 6) .GtE (.lit (.int 0)))])), (.bin .Mod (.sub (.loc 0) (.lit (.int 1))) (.lit (.int 24))), (.loc 4)]))] }
end Mine

set_option autoImplicit false
set_option linter.unusedSimpArgs false
/- The plain functions and the contracts of law 02. -/
namespace Mine
open PySem

noncomputable def mlen (leap : Bool) (m : Int) : Int := if m = 2 then (if leap then 29 else 28) else if m = 4 ∨ m = 6 ∨ m = 9 ∨ m = 11 then 30 else 31

theorem idx_ints {l : List Int} {k : Int} (h1 : 0 ≤ k) (h2 : k < (l.length : Int)) (d : Int) : idx (l.map V.int) k = some (.int (l.getD k.toNat d)) := by
  have h3 : k.toNat < l.length := by omega
  simp only [idx, h1, if_true]
  simp [h3]
theorem mlen_at : ∀ k : Fin 12, [31, 28, 31, 30, 31, 30, 31, 31, 30, 31, 30, 31].getD k.val 0 = mlen false (k.val + 1) := by decide
theorem months_at {m : Int} (h1 : 1 ≤ m) (h2 : m ≤ 12) : idx [V.int 31, .int 28, .int 31, .int 30, .int 31, .int 30, .int 31, .int 31, .int 30, .int 31, .int 30, .int 31] (m - 1) = some (.int (mlen false m)) := by
  have h0 : 0 ≤ m - 1 := by omega
  have h3 : (m - 1).toNat < 12 := by omega
  have e := mlen_at ⟨(m - 1).toNat, h3⟩
  have e2 : (((m - 1).toNat : Nat) : Int) + 1 = m := by omega
  simp only [e2] at e
  exact (idx_ints (l := [31, 28, 31, 30, 31, 30, 31, 31, 30, 31, 30, 31]) h0 (by show m - 1 < 12; omega) 0).trans (by rw [e])

noncomputable abbrev Ctr := List V → Hp → (V → Hp → Prop) → XL → Prop
noncomputable def C_month_length : Ctr := fun vs H Q _ => ∃ y m : Int, vs = [.int y, .int m] ∧ 1 ≤ m ∧ m ≤ 12 ∧ Q (.int (mlen (decide (y % 4 = 0)) m)) H

theorem w_month_length : ∀ vs H Q X, C_month_length vs H Q X → wpFn noΦ f_month_length vs H Q X := by
  rintro vs H Q X ⟨y, m, rfl, h1, h2, q⟩
  refine fn_of rfl ?_
  simp only [f_month_length, initL, List.map_cons, List.map_nil, List.replicate, List.cons_append, List.nil_append, ↓X_lit, ↓X_loc, ↓X_bin, ↓negX_int, ↓X_neg, ↓X_not, ↓Y_not, ↓X_and, ↓Y_and, ↓X_or, ↓Y_or, ↓X_cmp, ↓X_cmp2, ↓X_ite, ↓Y_ite, ↓X_tup, ↓X_lst, ↓X_call, ↓X_meth, ↓X_sub, ↓X_comp, ↓Y_lit, ↓Y_loc, ↓Y_cmp, ↓Y_cmp2, ↓Y_call, ↓Y_sub, ↓XEs_nil, ↓XEs_cons, ↓XIfs_nil, ↓XIfs_cons, ↓Z_expr, ↓Z_assign, ↓Z_ret, ↓Z_retNone, ↓Z_ite, ↓Z_for, ↓Z_pass, ↓Z_brk, ↓Z_cont, ↓Zs_nil, ↓sqX_next, ↓sqX_brk, ↓sqX_cont, ↓sqX_ret, ↓Zs_cons, ↓wkX_next, ↓wkX_cont, ↓wkX_brk, ↓wkX_ret, ↓fkX_next, ↓fkX_cont, ↓fkX_brk, ↓fkX_ret, ↓xb_one, ↓oKK_some, ↓oK_some, ↓tX_bool, ↓iX_t, ↓iX_f, ↓iX_d, ↓q_add, ↓q_sub, ↓q_mul, ↓q_div, ↓q_mod, ↓q_pow, ↓q_list, ↓q_eq, ↓q_ne, ↓q_eqs, ↓q_nes, ↓q_eqb, ↓q_lt, ↓q_le, ↓q_gt, ↓q_ge, ↓q_in, ↓q_inl, ↓q_nin, ↓q_is, ↓q_isnot, ↓q_stup, ↓q_sref, ↓q_sscr, ↓q_fn, ↓q_lentup, ↓q_lenref, ↓q_lenscr, ↓q_isi, ↓q_all, ↓q_max, ↓q_min, ↓q_int, ↓q_tuple, ↓q_listc, ↓q_append, ↓q_clear, ↓q_index, ↓u_tup, ↓u_ref, ↓u_range, ↓q_slice, ↓oi_none, ↓oi_int, ↓X_slice, ↓XO_none, ↓XO_some, ↓u_rev, ↓u_range2, ↓retV_ret, ↓retV_next, List.getElem?_cons_zero, List.getElem?_cons_succ, List.set_cons_zero, List.set_cons_succ, Bool.not_true, Bool.not_false, idx_0, idx_1, idx_2, idx_3, idx_4, idx_5, Int.reduceAdd, Int.reduceSub, Int.reduceMul, Int.reduceNeg, Int.reducePow, Int.reduceLT, Int.reduceLE, Int.reduceEq, Int.reduceNe, Int.reduceToNat, Int.reduceAbs, Nat.reduceAdd, Nat.reduceLT, Nat.reduceLeDiff, Nat.reducePow, Nat.reduceLT, List.length_cons, List.length_nil, true_implies, false_implies, not_true_eq_false, not_false_eq_true, and_true, true_and, and_self, or_true, true_or, decide_true, decide_false, exists_eq_left', Option.some.injEq, months_at h1 h2]
  refine ⟨fun h => ⟨fun h' => ?_, fun h' => ?_⟩, fun h => ?_⟩
  · simpa [mlen, h, h'] using q
  · simpa [mlen, h, h'] using q
  · simpa [mlen, h] using q
noncomputable def Φ1 : Orc := ext "month_length" C_month_length noΦ

/- the months of a year: what is left of the days, and the month -/
noncomputable def monGo (leap : Bool) : Nat → Int → Int → Int × Int
  | 0, r, m => (r, m)
  | n + 1, r, m => if mlen leap m ≤ r then monGo leap n (r - mlen leap m) (m + 1) else (r, m)
noncomputable def yearAt (r : Int) : Int := if r < 366 then 0 else if r < 731 then 1 else if r < 1096 then 2 else 3
noncomputable def yearOff (p : Int) : Int := if p = 0 then 0 else if p = 1 then 366 else if p = 2 then 731 else 1096
noncomputable def dMon (r : Int) : Int × Int := monGo (decide (yearAt r = 0)) 11 (r - yearOff (yearAt r)) 1
noncomputable def dDay (d : Int) : Int := (dMon (d % 1461)).1 + 1
noncomputable def dMonth (d : Int) : Int := (dMon (d % 1461)).2
noncomputable def dYear (d : Int) : Int := d / 1461 * 4 + yearAt (d % 1461)

noncomputable def C_date_of : Ctr := fun vs H Q _ => ∃ d : Int, vs = [.int d] ∧ Q (.tup [.int (dYear d), .int (dMonth d), .int (dDay d)]) H

theorem P1_ml : Φ1 "month_length" = C_month_length := rfl
theorem leap_year (d : Int) : decide (dYear d % 4 = 0) = decide (yearAt (d % 1461) = 0) := by
  unfold dYear yearAt
  rw [Bool.eq_iff_iff]; simp only [decide_eq_true_eq]
  split
  · omega
  · split
    · omega
    · split <;> omega

theorem mon_loop {XF : XS} {d p y : Int} {t4 t5 t6 : Option V} {leap : Bool} (hl : decide (y % 4 = 0) = leap) {Q : QS} {H : Hp} : ∀ (n : Nat) (r m : Int), 1 ≤ m → m + (n : Int) ≤ 12 → (monGo leap n r m).1 < mlen leap (monGo leap n r m).2 →
    Q .next [some (V.int d), some (.int (monGo leap n r m).1), some (.int p), some (.int y), some (.int (monGo leap n r m).2), t4, t5, t6] H →
    whileGo (whTX Φ1 ((IE.loc 1).cmp CmpOp.GtE (IE.call (V.fn "month_length") [IE.loc 3, IE.loc 4])) XF)
      (whBX Φ1 [IS.assign 1 (IE.bin Operator.Sub (IE.loc 1) (IE.call (V.fn "month_length") [IE.loc 3, IE.loc 4])), IS.assign 4 (IE.bin Operator.Add (IE.loc 4) (IE.lit (V.int 1)))] XF)
      (n + 1) [some (V.int d), some (.int r), some (.int p), some (.int y), some (.int m), t4, t5, t6] H Q := by
  intro n
  induction n with
  | zero =>
    intro r m h1 h2 h3 q
    simp only [↓X_lit, ↓X_loc, ↓X_bin, ↓negX_int, ↓X_neg, ↓X_not, ↓Y_not, ↓X_and, ↓Y_and, ↓X_or, ↓Y_or, ↓X_cmp, ↓X_cmp2, ↓X_ite, ↓Y_ite, ↓X_tup, ↓X_lst, ↓X_call, ↓X_meth, ↓X_sub, ↓X_comp, ↓Y_lit, ↓Y_loc, ↓Y_cmp, ↓Y_cmp2, ↓Y_call, ↓Y_sub, ↓XEs_nil, ↓XEs_cons, ↓XIfs_nil, ↓XIfs_cons, ↓Z_expr, ↓Z_assign, ↓Z_ret, ↓Z_retNone, ↓Z_ite, ↓Z_for, ↓Z_pass, ↓Z_brk, ↓Z_cont, ↓Zs_nil, ↓sqX_next, ↓sqX_brk, ↓sqX_cont, ↓sqX_ret, ↓Zs_cons, ↓wkX_next, ↓wkX_cont, ↓wkX_brk, ↓wkX_ret, ↓fkX_next, ↓fkX_cont, ↓fkX_brk, ↓fkX_ret, ↓xb_one, ↓oKK_some, ↓oK_some, ↓tX_bool, ↓iX_t, ↓iX_f, ↓iX_d, ↓q_add, ↓q_sub, ↓q_mul, ↓q_div, ↓q_mod, ↓q_pow, ↓q_list, ↓q_eq, ↓q_ne, ↓q_eqs, ↓q_nes, ↓q_eqb, ↓q_lt, ↓q_le, ↓q_gt, ↓q_ge, ↓q_in, ↓q_inl, ↓q_nin, ↓q_is, ↓q_isnot, ↓q_stup, ↓q_sref, ↓q_sscr, ↓q_fn, ↓q_lentup, ↓q_lenref, ↓q_lenscr, ↓q_isi, ↓q_all, ↓q_max, ↓q_min, ↓q_int, ↓q_tuple, ↓q_listc, ↓q_append, ↓q_clear, ↓q_index, ↓u_tup, ↓u_ref, ↓u_range, ↓q_slice, ↓oi_none, ↓oi_int, ↓X_slice, ↓XO_none, ↓XO_some, ↓u_rev, ↓u_range2, ↓retV_ret, ↓retV_next, List.getElem?_cons_zero, List.getElem?_cons_succ, List.set_cons_zero, List.set_cons_succ, Bool.not_true, Bool.not_false, idx_0, idx_1, idx_2, idx_3, idx_4, idx_5, Int.reduceAdd, Int.reduceSub, Int.reduceMul, Int.reduceNeg, Int.reducePow, Int.reduceLT, Int.reduceLE, Int.reduceEq, Int.reduceNe, Int.reduceToNat, Int.reduceAbs, Nat.reduceAdd, Nat.reduceLT, Nat.reduceLeDiff, Nat.reducePow, Nat.reduceLT, List.length_cons, List.length_nil, true_implies, false_implies, not_true_eq_false, not_false_eq_true, and_true, true_and, and_self, or_true, true_or, decide_true, decide_false, exists_eq_left', Option.some.injEq, ↓whX_s, ↓P1_ml, C_month_length]
    refine ⟨y, m, rfl, h1, by omega, ?_⟩
    rw [hl]
    exact ⟨fun h => absurd h3 (by simp only [monGo]; omega), fun _ => q⟩
  | succ n ih =>
    intro r m h1 h2 h3 q
    rw [whX_s]
    simp only [↓X_lit, ↓X_loc, ↓X_bin, ↓negX_int, ↓X_neg, ↓X_not, ↓Y_not, ↓X_and, ↓Y_and, ↓X_or, ↓Y_or, ↓X_cmp, ↓X_cmp2, ↓X_ite, ↓Y_ite, ↓X_tup, ↓X_lst, ↓X_call, ↓X_meth, ↓X_sub, ↓X_comp, ↓Y_lit, ↓Y_loc, ↓Y_cmp, ↓Y_cmp2, ↓Y_call, ↓Y_sub, ↓XEs_nil, ↓XEs_cons, ↓XIfs_nil, ↓XIfs_cons, ↓Z_expr, ↓Z_assign, ↓Z_ret, ↓Z_retNone, ↓Z_ite, ↓Z_for, ↓Z_pass, ↓Z_brk, ↓Z_cont, ↓Zs_nil, ↓sqX_next, ↓sqX_brk, ↓sqX_cont, ↓sqX_ret, ↓Zs_cons, ↓wkX_next, ↓wkX_cont, ↓wkX_brk, ↓wkX_ret, ↓fkX_next, ↓fkX_cont, ↓fkX_brk, ↓fkX_ret, ↓xb_one, ↓oKK_some, ↓oK_some, ↓tX_bool, ↓iX_t, ↓iX_f, ↓iX_d, ↓q_add, ↓q_sub, ↓q_mul, ↓q_div, ↓q_mod, ↓q_pow, ↓q_list, ↓q_eq, ↓q_ne, ↓q_eqs, ↓q_nes, ↓q_eqb, ↓q_lt, ↓q_le, ↓q_gt, ↓q_ge, ↓q_in, ↓q_inl, ↓q_nin, ↓q_is, ↓q_isnot, ↓q_stup, ↓q_sref, ↓q_sscr, ↓q_fn, ↓q_lentup, ↓q_lenref, ↓q_lenscr, ↓q_isi, ↓q_all, ↓q_max, ↓q_min, ↓q_int, ↓q_tuple, ↓q_listc, ↓q_append, ↓q_clear, ↓q_index, ↓u_tup, ↓u_ref, ↓u_range, ↓q_slice, ↓oi_none, ↓oi_int, ↓X_slice, ↓XO_none, ↓XO_some, ↓u_rev, ↓u_range2, ↓retV_ret, ↓retV_next, List.getElem?_cons_zero, List.getElem?_cons_succ, List.set_cons_zero, List.set_cons_succ, Bool.not_true, Bool.not_false, idx_0, idx_1, idx_2, idx_3, idx_4, idx_5, Int.reduceAdd, Int.reduceSub, Int.reduceMul, Int.reduceNeg, Int.reducePow, Int.reduceLT, Int.reduceLE, Int.reduceEq, Int.reduceNe, Int.reduceToNat, Int.reduceAbs, Nat.reduceAdd, Nat.reduceLT, Nat.reduceLeDiff, Nat.reducePow, Nat.reduceLT, List.length_cons, List.length_nil, true_implies, false_implies, not_true_eq_false, not_false_eq_true, and_true, true_and, and_self, or_true, true_or, decide_true, decide_false, exists_eq_left', Option.some.injEq, ↓P1_ml, C_month_length]
    refine ⟨y, m, rfl, h1, by omega, ?_⟩
    rw [hl]
    refine ⟨fun h => ⟨y, m, rfl, h1, by omega, ?_⟩, fun h => ?_⟩
    · rw [hl]
      have e : monGo leap (n + 1) r m = monGo leap n (r - mlen leap m) (m + 1) := by simp only [monGo]; rw [if_pos h]
      rw [e] at h3 q
      exact ih _ _ (by omega) (by omega) h3 q
    · have e : monGo leap (n + 1) r m = (r, m) := by simp only [monGo]; rw [if_neg h]
      rw [e] at q
      exact q

noncomputable def imGo : Nat → Int → Int → Int → Int × Int × Int
  | 0, r, y, m => (r, y, m)
  | n + 1, r, y, m => if mlen (decide (y % 4 = 0)) m ≤ r then imGo n (r - mlen (decide (y % 4 = 0)) m) (y + m / 12) (m % 12 + 1) else (r, y, m)
noncomputable def fits (r : Int) : Bool := decide (0 ≤ (dMon r).1) && decide ((dMon r).1 < mlen (decide (yearAt r = 0)) (dMon r).2) && decide (1 ≤ (dMon r).2) && decide ((dMon r).2 ≤ 12) && decide (imGo 47 r 0 1 = ((dMon r).1, yearAt r, (dMon r).2))
theorem fits_all : ∀ r : Fin 1461, fits (r.val : Int) = true := by decide +kernel
theorem fits_at (d : Int) : fits (d % 1461) = true := by
  have h1 : 0 ≤ d % 1461 := Int.emod_nonneg _ (by decide)
  have h2 : d % 1461 < 1461 := Int.emod_lt_of_pos _ (by decide)
  have := fits_all ⟨(d % 1461).toNat, by omega⟩
  simp only at this
  rwa [Int.toNat_of_nonneg h1] at this
theorem dMon_at (d : Int) : 0 ≤ (dMon (d % 1461)).1 ∧ (dMon (d % 1461)).1 < mlen (decide (yearAt (d % 1461) = 0)) (dMon (d % 1461)).2 ∧ 1 ≤ (dMon (d % 1461)).2 ∧ (dMon (d % 1461)).2 ≤ 12 ∧ imGo 47 (d % 1461) 0 1 = ((dMon (d % 1461)).1, yearAt (d % 1461), (dMon (d % 1461)).2) := by
  have := fits_at d
  simp only [fits, Bool.and_eq_true, decide_eq_true_eq] at this
  obtain ⟨⟨⟨⟨a, b⟩, c⟩, e⟩, f⟩ := this
  exact ⟨a, b, c, e, f⟩

theorem date_tail {XF : XS} {d p : Int} {Q : V → Hp → Prop} {H : Hp} {X : XL} (hp : yearAt (d % 1461) = p) (q : Q (.tup [.int (dYear d), .int (dMonth d), .int (dDay d)]) H) :
    wpS Φ1 (IS.while ((IE.loc 1).cmp CmpOp.GtE (IE.call (V.fn "month_length") [IE.loc 3, IE.loc 4])) [IS.assign 1 (IE.bin Operator.Sub (IE.loc 1) (IE.call (V.fn "month_length") [IE.loc 3, IE.loc 4])), IS.assign 4 (IE.bin Operator.Add (IE.loc 4) (IE.lit (V.int 1)))])
      [some (V.int d), some (V.int (d % 1461 - yearOff p)), some (V.int p), some (V.int (d / 1461 * 4 + p)), some (V.int 1), none, none, none] H
      (sqX Φ1 [IS.ret (IE.tup [IE.loc 3, IE.loc 4, IE.bin Operator.Add (IE.loc 1) (IE.lit (V.int 1))])] (fun fl _ H1 => Q (retV fl) H1) fun x _ H1 => X x H1) XF := by
  rw [Z_while]
  subst hp
  have hl : decide ((d / 1461 * 4 + yearAt (d % 1461)) % 4 = 0) = decide (yearAt (d % 1461) = 0) := leap_year d
  refine ⟨12, mon_loop hl 11 _ 1 (by omega) (by omega) (dMon_at d).2.1 ?_⟩
  simp only [↓X_lit, ↓X_loc, ↓X_bin, ↓negX_int, ↓X_neg, ↓X_not, ↓Y_not, ↓X_and, ↓Y_and, ↓X_or, ↓Y_or, ↓X_cmp, ↓X_cmp2, ↓X_ite, ↓Y_ite, ↓X_tup, ↓X_lst, ↓X_call, ↓X_meth, ↓X_sub, ↓X_comp, ↓Y_lit, ↓Y_loc, ↓Y_cmp, ↓Y_cmp2, ↓Y_call, ↓Y_sub, ↓XEs_nil, ↓XEs_cons, ↓XIfs_nil, ↓XIfs_cons, ↓Z_expr, ↓Z_assign, ↓Z_ret, ↓Z_retNone, ↓Z_ite, ↓Z_for, ↓Z_pass, ↓Z_brk, ↓Z_cont, ↓Zs_nil, ↓sqX_next, ↓sqX_brk, ↓sqX_cont, ↓sqX_ret, ↓Zs_cons, ↓wkX_next, ↓wkX_cont, ↓wkX_brk, ↓wkX_ret, ↓fkX_next, ↓fkX_cont, ↓fkX_brk, ↓fkX_ret, ↓xb_one, ↓oKK_some, ↓oK_some, ↓tX_bool, ↓iX_t, ↓iX_f, ↓iX_d, ↓q_add, ↓q_sub, ↓q_mul, ↓q_div, ↓q_mod, ↓q_pow, ↓q_list, ↓q_eq, ↓q_ne, ↓q_eqs, ↓q_nes, ↓q_eqb, ↓q_lt, ↓q_le, ↓q_gt, ↓q_ge, ↓q_in, ↓q_inl, ↓q_nin, ↓q_is, ↓q_isnot, ↓q_stup, ↓q_sref, ↓q_sscr, ↓q_fn, ↓q_lentup, ↓q_lenref, ↓q_lenscr, ↓q_isi, ↓q_all, ↓q_max, ↓q_min, ↓q_int, ↓q_tuple, ↓q_listc, ↓q_append, ↓q_clear, ↓q_index, ↓u_tup, ↓u_ref, ↓u_range, ↓q_slice, ↓oi_none, ↓oi_int, ↓X_slice, ↓XO_none, ↓XO_some, ↓u_rev, ↓u_range2, ↓retV_ret, ↓retV_next, List.getElem?_cons_zero, List.getElem?_cons_succ, List.set_cons_zero, List.set_cons_succ, Bool.not_true, Bool.not_false, idx_0, idx_1, idx_2, idx_3, idx_4, idx_5, Int.reduceAdd, Int.reduceSub, Int.reduceMul, Int.reduceNeg, Int.reducePow, Int.reduceLT, Int.reduceLE, Int.reduceEq, Int.reduceNe, Int.reduceToNat, Int.reduceAbs, Nat.reduceAdd, Nat.reduceLT, Nat.reduceLeDiff, Nat.reducePow, Nat.reduceLT, List.length_cons, List.length_nil, true_implies, false_implies, not_true_eq_false, not_false_eq_true, and_true, true_and, and_self, or_true, true_or, decide_true, decide_false, exists_eq_left', Option.some.injEq]
  exact q

theorem w_date_of : ∀ vs H Q X, C_date_of vs H Q X → wpFn Φ1 f_date_of vs H Q X := by
  rintro vs H Q X ⟨d, rfl, q⟩
  refine fn_of rfl ?_
  simp only [f_date_of, initL, List.map_cons, List.map_nil, List.replicate, List.cons_append, List.nil_append, ↓X_lit, ↓X_loc, ↓X_bin, ↓negX_int, ↓X_neg, ↓X_not, ↓Y_not, ↓X_and, ↓Y_and, ↓X_or, ↓Y_or, ↓X_cmp, ↓X_cmp2, ↓X_ite, ↓Y_ite, ↓X_tup, ↓X_lst, ↓X_call, ↓X_meth, ↓X_sub, ↓X_comp, ↓Y_lit, ↓Y_loc, ↓Y_cmp, ↓Y_cmp2, ↓Y_call, ↓Y_sub, ↓XEs_nil, ↓XEs_cons, ↓XIfs_nil, ↓XIfs_cons, ↓Z_expr, ↓Z_assign, ↓Z_ret, ↓Z_retNone, ↓Z_ite, ↓Z_for, ↓Z_pass, ↓Z_brk, ↓Z_cont, ↓Zs_nil, ↓sqX_next, ↓sqX_brk, ↓sqX_cont, ↓sqX_ret, ↓Zs_cons, ↓wkX_next, ↓wkX_cont, ↓wkX_brk, ↓wkX_ret, ↓fkX_next, ↓fkX_cont, ↓fkX_brk, ↓fkX_ret, ↓xb_one, ↓oKK_some, ↓oK_some, ↓tX_bool, ↓iX_t, ↓iX_f, ↓iX_d, ↓q_add, ↓q_sub, ↓q_mul, ↓q_div, ↓q_mod, ↓q_pow, ↓q_list, ↓q_eq, ↓q_ne, ↓q_eqs, ↓q_nes, ↓q_eqb, ↓q_lt, ↓q_le, ↓q_gt, ↓q_ge, ↓q_in, ↓q_inl, ↓q_nin, ↓q_is, ↓q_isnot, ↓q_stup, ↓q_sref, ↓q_sscr, ↓q_fn, ↓q_lentup, ↓q_lenref, ↓q_lenscr, ↓q_isi, ↓q_all, ↓q_max, ↓q_min, ↓q_int, ↓q_tuple, ↓q_listc, ↓q_append, ↓q_clear, ↓q_index, ↓u_tup, ↓u_ref, ↓u_range, ↓q_slice, ↓oi_none, ↓oi_int, ↓X_slice, ↓XO_none, ↓XO_some, ↓u_rev, ↓u_range2, ↓retV_ret, ↓retV_next, List.getElem?_cons_zero, List.getElem?_cons_succ, List.set_cons_zero, List.set_cons_succ, Bool.not_true, Bool.not_false, idx_0, idx_1, idx_2, idx_3, idx_4, idx_5, Int.reduceAdd, Int.reduceSub, Int.reduceMul, Int.reduceNeg, Int.reducePow, Int.reduceLT, Int.reduceLE, Int.reduceEq, Int.reduceNe, Int.reduceToNat, Int.reduceAbs, Nat.reduceAdd, Nat.reduceLT, Nat.reduceLeDiff, Nat.reducePow, Nat.reduceLT, List.length_cons, List.length_nil, true_implies, false_implies, not_true_eq_false, not_false_eq_true, and_true, true_and, and_self, or_true, true_or, decide_true, decide_false, exists_eq_left', Option.some.injEq, ↓P1_ml]
  rw [Z_while]
  refine ⟨4, ?_⟩
  simp only [↓X_lit, ↓X_loc, ↓X_bin, ↓negX_int, ↓X_neg, ↓X_not, ↓Y_not, ↓X_and, ↓Y_and, ↓X_or, ↓Y_or, ↓X_cmp, ↓X_cmp2, ↓X_ite, ↓Y_ite, ↓X_tup, ↓X_lst, ↓X_call, ↓X_meth, ↓X_sub, ↓X_comp, ↓Y_lit, ↓Y_loc, ↓Y_cmp, ↓Y_cmp2, ↓Y_call, ↓Y_sub, ↓XEs_nil, ↓XEs_cons, ↓XIfs_nil, ↓XIfs_cons, ↓Z_expr, ↓Z_assign, ↓Z_ret, ↓Z_retNone, ↓Z_ite, ↓Z_for, ↓Z_pass, ↓Z_brk, ↓Z_cont, ↓Zs_nil, ↓sqX_next, ↓sqX_brk, ↓sqX_cont, ↓sqX_ret, ↓Zs_cons, ↓wkX_next, ↓wkX_cont, ↓wkX_brk, ↓wkX_ret, ↓fkX_next, ↓fkX_cont, ↓fkX_brk, ↓fkX_ret, ↓xb_one, ↓oKK_some, ↓oK_some, ↓tX_bool, ↓iX_t, ↓iX_f, ↓iX_d, ↓q_add, ↓q_sub, ↓q_mul, ↓q_div, ↓q_mod, ↓q_pow, ↓q_list, ↓q_eq, ↓q_ne, ↓q_eqs, ↓q_nes, ↓q_eqb, ↓q_lt, ↓q_le, ↓q_gt, ↓q_ge, ↓q_in, ↓q_inl, ↓q_nin, ↓q_is, ↓q_isnot, ↓q_stup, ↓q_sref, ↓q_sscr, ↓q_fn, ↓q_lentup, ↓q_lenref, ↓q_lenscr, ↓q_isi, ↓q_all, ↓q_max, ↓q_min, ↓q_int, ↓q_tuple, ↓q_listc, ↓q_append, ↓q_clear, ↓q_index, ↓u_tup, ↓u_ref, ↓u_range, ↓q_slice, ↓oi_none, ↓oi_int, ↓X_slice, ↓XO_none, ↓XO_some, ↓u_rev, ↓u_range2, ↓retV_ret, ↓retV_next, List.getElem?_cons_zero, List.getElem?_cons_succ, List.set_cons_zero, List.set_cons_succ, Bool.not_true, Bool.not_false, idx_0, idx_1, idx_2, idx_3, idx_4, idx_5, Int.reduceAdd, Int.reduceSub, Int.reduceMul, Int.reduceNeg, Int.reducePow, Int.reduceLT, Int.reduceLE, Int.reduceEq, Int.reduceNe, Int.reduceToNat, Int.reduceAbs, Nat.reduceAdd, Nat.reduceLT, Nat.reduceLeDiff, Nat.reducePow, Nat.reduceLT, List.length_cons, List.length_nil, true_implies, false_implies, not_true_eq_false, not_false_eq_true, and_true, true_and, and_self, or_true, true_or, decide_true, decide_false, exists_eq_left', Option.some.injEq, ↓whX_s]
  refine ⟨fun h => ⟨fun h' => ⟨fun h'' => ?_, fun h'' => ?_⟩, fun h' => ?_⟩, fun h => ?_⟩
  · exact date_tail (p := 3) (by unfold yearAt; rw [if_neg (by omega), if_neg (by omega), if_neg (by omega)]) q
  · exact date_tail (p := 2) (by unfold yearAt; rw [if_neg (by omega), if_neg (by omega), if_pos (by omega)]) q
  · exact date_tail (p := 1) (by unfold yearAt; rw [if_neg (by omega), if_pos (by omega)]) q
  · exact date_tail (p := 0) (by unfold yearAt; rw [if_pos (by omega)]) q
noncomputable def Φ2 : Orc := ext "date_of" C_date_of Φ1
theorem P2_ml : Φ2 "month_length" = C_month_length := rfl
theorem P2_do : Φ2 "date_of" = C_date_of := rfl

noncomputable def mLen (d : Int) : Int := mlen (decide (yearAt (d % 1461) = 0)) (dMonth d)
noncomputable def C_from_end : Ctr := fun vs H Q _ => ∃ d : Int, vs = [.int d] ∧ Q (.int (dDay d - mLen d - 1)) H
theorem w_from_end : ∀ vs H Q X, C_from_end vs H Q X → wpFn Φ2 f_from_end vs H Q X := by
  rintro vs H Q X ⟨d, rfl, q⟩
  refine fn_of rfl ?_
  simp only [f_from_end, initL, List.map_cons, List.map_nil, List.replicate, List.cons_append, List.nil_append, ↓X_lit, ↓X_loc, ↓X_bin, ↓negX_int, ↓X_neg, ↓X_not, ↓Y_not, ↓X_and, ↓Y_and, ↓X_or, ↓Y_or, ↓X_cmp, ↓X_cmp2, ↓X_ite, ↓Y_ite, ↓X_tup, ↓X_lst, ↓X_call, ↓X_meth, ↓X_sub, ↓X_comp, ↓Y_lit, ↓Y_loc, ↓Y_cmp, ↓Y_cmp2, ↓Y_call, ↓Y_sub, ↓XEs_nil, ↓XEs_cons, ↓XIfs_nil, ↓XIfs_cons, ↓Z_expr, ↓Z_assign, ↓Z_ret, ↓Z_retNone, ↓Z_ite, ↓Z_for, ↓Z_pass, ↓Z_brk, ↓Z_cont, ↓Zs_nil, ↓sqX_next, ↓sqX_brk, ↓sqX_cont, ↓sqX_ret, ↓Zs_cons, ↓wkX_next, ↓wkX_cont, ↓wkX_brk, ↓wkX_ret, ↓fkX_next, ↓fkX_cont, ↓fkX_brk, ↓fkX_ret, ↓xb_one, ↓oKK_some, ↓oK_some, ↓tX_bool, ↓iX_t, ↓iX_f, ↓iX_d, ↓q_add, ↓q_sub, ↓q_mul, ↓q_div, ↓q_mod, ↓q_pow, ↓q_list, ↓q_eq, ↓q_ne, ↓q_eqs, ↓q_nes, ↓q_eqb, ↓q_lt, ↓q_le, ↓q_gt, ↓q_ge, ↓q_in, ↓q_inl, ↓q_nin, ↓q_is, ↓q_isnot, ↓q_stup, ↓q_sref, ↓q_sscr, ↓q_fn, ↓q_lentup, ↓q_lenref, ↓q_lenscr, ↓q_isi, ↓q_all, ↓q_max, ↓q_min, ↓q_int, ↓q_tuple, ↓q_listc, ↓q_append, ↓q_clear, ↓q_index, ↓u_tup, ↓u_ref, ↓u_range, ↓q_slice, ↓oi_none, ↓oi_int, ↓X_slice, ↓XO_none, ↓XO_some, ↓u_rev, ↓u_range2, ↓retV_ret, ↓retV_next, List.getElem?_cons_zero, List.getElem?_cons_succ, List.set_cons_zero, List.set_cons_succ, Bool.not_true, Bool.not_false, idx_0, idx_1, idx_2, idx_3, idx_4, idx_5, Int.reduceAdd, Int.reduceSub, Int.reduceMul, Int.reduceNeg, Int.reducePow, Int.reduceLT, Int.reduceLE, Int.reduceEq, Int.reduceNe, Int.reduceToNat, Int.reduceAbs, Nat.reduceAdd, Nat.reduceLT, Nat.reduceLeDiff, Nat.reducePow, Nat.reduceLT, List.length_cons, List.length_nil, true_implies, false_implies, not_true_eq_false, not_false_eq_true, and_true, true_and, and_self, or_true, true_or, decide_true, decide_false, exists_eq_left', Option.some.injEq, ↓P2_ml, ↓P2_do, C_date_of, C_month_length]
  refine ⟨d, rfl, dYear d, dMonth d, rfl, (dMon_at d).2.2.1, (dMon_at d).2.2.2.1, ?_⟩
  rw [leap_year]
  exact q
noncomputable def Φ3 : Orc := ext "from_end" C_from_end Φ2
end Mine

set_option autoImplicit false
set_option linter.unusedSimpArgs false
/- Rules of when: their shape and what the program says of them. -/
namespace Mine
open PySem

inductive Rl where
  | once (h s : Int)
  | every (h s p : Int)
  | week (ds : List Int) (t s : Int)
  | month (d t s : Int)
  | frm (h : Int) (r : Rl)
  | til (h : Int) (r : Rl)
  | als (h : Int) (r : Rl)
  | but (ds : List Int) (r : Rl)

noncomputable def intsV (ds : List Int) : V := .tup (ds.map .int)
noncomputable def rv : Rl → V
  | .once h s => .tup [.str "once", .int h, .int s]
  | .every h s p => .tup [.str "every", .int h, .int s, .int p]
  | .week ds t s => .tup [.str "week", intsV ds, .int t, .int s]
  | .month d t s => .tup [.str "month", .int d, .int t, .int s]
  | .frm h r => .tup [.str "from", .int h, rv r]
  | .til h r => .tup [.str "until", .int h, rv r]
  | .als h r => .tup [.str "also", .int h, rv r]
  | .but ds r => .tup [.str "but", intsV ds, rv r]
noncomputable def Rl.inner : Rl → Rl
  | .frm _ r => r.inner
  | .til _ r => r.inner
  | .als _ r => r.inner
  | .but _ r => r.inner
  | r => r
noncomputable def Rl.plain : Rl → Bool
  | .frm _ _ => false
  | .til _ _ => false
  | .als _ _ => false
  | .but _ _ => false
  | _ => true
noncomputable def Rl.size : Rl → Int
  | .once _ s => s
  | .every _ s _ => s
  | .week _ _ s => s
  | .month _ _ s => s
  | .frm _ r => r.size
  | .til _ r => r.size
  | .als _ r => r.size
  | .but _ r => r.size
noncomputable def Rl.ok : Rl → Prop
  | .once _ _ => True
  | .every _ _ p => 0 < p ∧ p < 2 ^ 64
  | .week _ _ _ => True
  | .month d _ _ => d ≠ 0
  | .frm _ r => r.ok
  | .til _ r => r.ok
  | .als _ r => r.ok
  | .but _ r => r.ok
noncomputable def Rl.depth : Rl → Nat
  | .frm _ r => r.depth + 1
  | .til _ r => r.depth + 1
  | .als _ r => r.depth + 1
  | .but _ r => r.depth + 1
  | _ => 0
/- begins_plain -/
noncomputable def bp : Rl → Int → Bool
  | .once h _, x => decide (x = h)
  | .every h _ p, x => decide (h ≤ x) && decide ((x - h) % p = 0)
  | .week ds t _, x => decide (x % 24 = t) && ds.contains (x / 24 % 7)
  | .month d t _, x => decide (x % 24 = t) && (if d < 0 then decide (dDay (x / 24) - mLen (x / 24) - 1 = d) else decide (dDay (x / 24) = d))
  | _, _ => false
noncomputable def bgo : Rl → Int → Bool
  | .frm h r, x => if x < h then false else bgo r x
  | .til h r, x => if h ≤ x then false else bgo r x
  | .als h r, x => if x = h then true else bgo r x
  | .but ds r, x => if ds.contains (x / 24) then false else bgo r x
  | r, x => bp r x
noncomputable def bg (r : Rl) (x : Int) : Bool := if x < 0 then false else bgo r x

theorem sw_once_once : ((Str.ofString "once") == (Str.ofString "once")) = true := by decide
theorem sw_once_every : ((Str.ofString "once") == (Str.ofString "every")) = false := by decide
theorem sw_once_week : ((Str.ofString "once") == (Str.ofString "week")) = false := by decide
theorem sw_once_month : ((Str.ofString "once") == (Str.ofString "month")) = false := by decide
theorem sw_once_from : ((Str.ofString "once") == (Str.ofString "from")) = false := by decide
theorem sw_once_until : ((Str.ofString "once") == (Str.ofString "until")) = false := by decide
theorem sw_once_also : ((Str.ofString "once") == (Str.ofString "also")) = false := by decide
theorem sw_once_but : ((Str.ofString "once") == (Str.ofString "but")) = false := by decide
theorem sw_every_once : ((Str.ofString "every") == (Str.ofString "once")) = false := by decide
theorem sw_every_every : ((Str.ofString "every") == (Str.ofString "every")) = true := by decide
theorem sw_every_week : ((Str.ofString "every") == (Str.ofString "week")) = false := by decide
theorem sw_every_month : ((Str.ofString "every") == (Str.ofString "month")) = false := by decide
theorem sw_every_from : ((Str.ofString "every") == (Str.ofString "from")) = false := by decide
theorem sw_every_until : ((Str.ofString "every") == (Str.ofString "until")) = false := by decide
theorem sw_every_also : ((Str.ofString "every") == (Str.ofString "also")) = false := by decide
theorem sw_every_but : ((Str.ofString "every") == (Str.ofString "but")) = false := by decide
theorem sw_week_once : ((Str.ofString "week") == (Str.ofString "once")) = false := by decide
theorem sw_week_every : ((Str.ofString "week") == (Str.ofString "every")) = false := by decide
theorem sw_week_week : ((Str.ofString "week") == (Str.ofString "week")) = true := by decide
theorem sw_week_month : ((Str.ofString "week") == (Str.ofString "month")) = false := by decide
theorem sw_week_from : ((Str.ofString "week") == (Str.ofString "from")) = false := by decide
theorem sw_week_until : ((Str.ofString "week") == (Str.ofString "until")) = false := by decide
theorem sw_week_also : ((Str.ofString "week") == (Str.ofString "also")) = false := by decide
theorem sw_week_but : ((Str.ofString "week") == (Str.ofString "but")) = false := by decide
theorem sw_month_once : ((Str.ofString "month") == (Str.ofString "once")) = false := by decide
theorem sw_month_every : ((Str.ofString "month") == (Str.ofString "every")) = false := by decide
theorem sw_month_week : ((Str.ofString "month") == (Str.ofString "week")) = false := by decide
theorem sw_month_month : ((Str.ofString "month") == (Str.ofString "month")) = true := by decide
theorem sw_month_from : ((Str.ofString "month") == (Str.ofString "from")) = false := by decide
theorem sw_month_until : ((Str.ofString "month") == (Str.ofString "until")) = false := by decide
theorem sw_month_also : ((Str.ofString "month") == (Str.ofString "also")) = false := by decide
theorem sw_month_but : ((Str.ofString "month") == (Str.ofString "but")) = false := by decide
theorem sw_from_once : ((Str.ofString "from") == (Str.ofString "once")) = false := by decide
theorem sw_from_every : ((Str.ofString "from") == (Str.ofString "every")) = false := by decide
theorem sw_from_week : ((Str.ofString "from") == (Str.ofString "week")) = false := by decide
theorem sw_from_month : ((Str.ofString "from") == (Str.ofString "month")) = false := by decide
theorem sw_from_from : ((Str.ofString "from") == (Str.ofString "from")) = true := by decide
theorem sw_from_until : ((Str.ofString "from") == (Str.ofString "until")) = false := by decide
theorem sw_from_also : ((Str.ofString "from") == (Str.ofString "also")) = false := by decide
theorem sw_from_but : ((Str.ofString "from") == (Str.ofString "but")) = false := by decide
theorem sw_until_once : ((Str.ofString "until") == (Str.ofString "once")) = false := by decide
theorem sw_until_every : ((Str.ofString "until") == (Str.ofString "every")) = false := by decide
theorem sw_until_week : ((Str.ofString "until") == (Str.ofString "week")) = false := by decide
theorem sw_until_month : ((Str.ofString "until") == (Str.ofString "month")) = false := by decide
theorem sw_until_from : ((Str.ofString "until") == (Str.ofString "from")) = false := by decide
theorem sw_until_until : ((Str.ofString "until") == (Str.ofString "until")) = true := by decide
theorem sw_until_also : ((Str.ofString "until") == (Str.ofString "also")) = false := by decide
theorem sw_until_but : ((Str.ofString "until") == (Str.ofString "but")) = false := by decide
theorem sw_also_once : ((Str.ofString "also") == (Str.ofString "once")) = false := by decide
theorem sw_also_every : ((Str.ofString "also") == (Str.ofString "every")) = false := by decide
theorem sw_also_week : ((Str.ofString "also") == (Str.ofString "week")) = false := by decide
theorem sw_also_month : ((Str.ofString "also") == (Str.ofString "month")) = false := by decide
theorem sw_also_from : ((Str.ofString "also") == (Str.ofString "from")) = false := by decide
theorem sw_also_until : ((Str.ofString "also") == (Str.ofString "until")) = false := by decide
theorem sw_also_also : ((Str.ofString "also") == (Str.ofString "also")) = true := by decide
theorem sw_also_but : ((Str.ofString "also") == (Str.ofString "but")) = false := by decide
theorem sw_but_once : ((Str.ofString "but") == (Str.ofString "once")) = false := by decide
theorem sw_but_every : ((Str.ofString "but") == (Str.ofString "every")) = false := by decide
theorem sw_but_week : ((Str.ofString "but") == (Str.ofString "week")) = false := by decide
theorem sw_but_month : ((Str.ofString "but") == (Str.ofString "month")) = false := by decide
theorem sw_but_from : ((Str.ofString "but") == (Str.ofString "from")) = false := by decide
theorem sw_but_until : ((Str.ofString "but") == (Str.ofString "until")) = false := by decide
theorem sw_but_also : ((Str.ofString "but") == (Str.ofString "also")) = false := by decide
theorem sw_but_but : ((Str.ofString "but") == (Str.ofString "but")) = true := by decide

theorem toPys_ints : ∀ ds : List Int, toPys (ds.map V.int) = some (ds.map PyData.int)
  | [] => rfl
  | d :: r => by simp only [List.map_cons, toPys, toPy, toPys_ints r]
theorem any_ints (x : Int) : ∀ ds : List Int, ((ds.map PyData.int).any fun e => PyData.eqv e (.int x)) = ds.contains x
  | [] => rfl
  | d :: r => by
    simp only [List.map_cons, List.any_cons, any_ints x r, eqv_int, List.contains_cons]
    congr 1
    rw [Bool.eq_iff_iff]; simp only [decide_eq_true_eq, beq_iff_eq]; exact eq_comm
theorem mem_ints {x : Int} {ds : List Int} : memV (.int x) (ds.map V.int) = some (ds.contains x) := by
  unfold memV
  rw [toPys_ints]
  simp only [toPy]
  rw [if_pos (Nat.le_of_ble_eq_true rfl), any_ints]

noncomputable def outers : List V := [.str "from", .str "until", .str "also", .str "but"]
noncomputable def C_innermost : Ctr := fun vs H Q _ => ∃ r, vs = [rv r] ∧ Q (rv r.inner) H
theorem mo_once : memV (.str "once") [V.str "from", .str "until", .str "also", .str "but"] = some false := by decide
theorem mo_every : memV (.str "every") [V.str "from", .str "until", .str "also", .str "but"] = some false := by decide
theorem mo_week : memV (.str "week") [V.str "from", .str "until", .str "also", .str "but"] = some false := by decide
theorem mo_month : memV (.str "month") [V.str "from", .str "until", .str "also", .str "but"] = some false := by decide
theorem mo_frm : memV (.str "from") [V.str "from", .str "until", .str "also", .str "but"] = some true := by decide
theorem mo_til : memV (.str "until") [V.str "from", .str "until", .str "also", .str "but"] = some true := by decide
theorem mo_als : memV (.str "also") [V.str "from", .str "until", .str "also", .str "but"] = some true := by decide
theorem mo_but : memV (.str "but") [V.str "from", .str "until", .str "also", .str "but"] = some true := by decide

section
variable {Φ : Orc} {u w : Str} {rest : List V} {Lr : Lc} {H : Hp} {c : IE} {a : List IS} {QF : QS} {XF : XS} {P : Bool → Hp → Prop} {X : XL} {l : List V} {b : Bool}
theorem t_in (hm : memV (.str u) l = some b) (h : P b H) : (wp2 Φ (.cmp (.sub (.loc 0) (.lit (.int 0))) .In (.lit (.tup l)))).T (some (.tup (.str u :: rest)) :: Lr) H P X := by
  show oK (memV (.str u) l) _
  rw [hm]; exact h
theorem iw_ne (he : (u == w) = false) (h : QF .next (some (.tup (.str u :: rest)) :: Lr) H) : wpS Φ (.ite (.cmp (.sub (.loc 0) (.lit (.int 0))) .Eq (.lit (.str w))) a []) (some (.tup (.str u :: rest)) :: Lr) H QF XF := by
  show ifP (u == w) _ _
  rw [he]; exact h
theorem iw_eq (he : (u == w) = true) (h : wpSs Φ a (some (.tup (.str u :: rest)) :: Lr) H QF XF) : wpS Φ (.ite (.cmp (.sub (.loc 0) (.lit (.int 0))) .Eq (.lit (.str w))) a []) (some (.tup (.str u :: rest)) :: Lr) H QF XF := by
  show ifP (u == w) _ _
  rw [he]; exact h
theorem iwa_ne (he : (u == w) = false) (h : QF .next (some (.tup (.str u :: rest)) :: Lr) H) : wpS Φ (.ite (.and (.cmp (.sub (.loc 0) (.lit (.int 0))) .Eq (.lit (.str w))) c) a []) (some (.tup (.str u :: rest)) :: Lr) H QF XF := by
  show ifP (u == w) _ _
  rw [he]; exact h
theorem iwa_eq (he : (u == w) = true) (h : (wp2 Φ c).T (some (.tup (.str u :: rest)) :: Lr) H (fun c H1 => ifP c (wpSs Φ a (some (.tup (.str u :: rest)) :: Lr) H1 QF XF) (QF .next (some (.tup (.str u :: rest)) :: Lr) H1)) (fun x => XF x (some (.tup (.str u :: rest)) :: Lr))) :
    wpS Φ (.ite (.and (.cmp (.sub (.loc 0) (.lit (.int 0))) .Eq (.lit (.str w))) c) a []) (some (.tup (.str u :: rest)) :: Lr) H QF XF := by
  show ifP (u == w) _ _
  rw [he]; exact h
end

theorem inn_loop {XF : XS} {t1 t2 t3 : Option V} {Q : QS} {H : Hp} : ∀ (r : Rl), Q .next [some (rv r.inner), t1, t2, t3] H →
    whileGo (whTX Φ3 (.cmp (.sub (.loc 0) (.lit (.int 0))) .In (.lit (.tup [(.str "from"), (.str "until"), (.str "also"), (.str "but")]))) XF)
      (whBX Φ3 [(.assign 0 (.sub (.loc 0) (.lit (.int 2))))] XF) (r.depth + 1) [some (rv r), t1, t2, t3] H Q := by
  intro r
  induction r with
  | once h s => intro q; rw [whX_s]; exact t_in mo_once q
  | every h s p => intro q; rw [whX_s]; exact t_in mo_every q
  | week ds t s => intro q; rw [whX_s]; exact t_in mo_week q
  | month d t s => intro q; rw [whX_s]; exact t_in mo_month q
  | frm h r ih => intro q; rw [whX_s]; exact t_in mo_frm (ih q)
  | til h r ih => intro q; rw [whX_s]; exact t_in mo_til (ih q)
  | als h r ih => intro q; rw [whX_s]; exact t_in mo_als (ih q)
  | but ds r ih => intro q; rw [whX_s]; exact t_in mo_but (ih q)

theorem w_innermost : ∀ vs H Q X, C_innermost vs H Q X → wpFn Φ3 f_innermost vs H Q X := by
  rintro vs H Q X ⟨r, rfl, q⟩
  refine fn_of rfl ?_
  simp only [f_innermost, initL, List.map_cons, List.map_nil, List.replicate, List.cons_append, List.nil_append, ↓X_lit, ↓X_loc, ↓X_bin, ↓negX_int, ↓X_neg, ↓X_not, ↓Y_not, ↓X_and, ↓Y_and, ↓X_or, ↓Y_or, ↓X_cmp, ↓X_cmp2, ↓X_ite, ↓Y_ite, ↓X_tup, ↓X_lst, ↓X_call, ↓X_meth, ↓X_sub, ↓X_comp, ↓Y_lit, ↓Y_loc, ↓Y_cmp, ↓Y_cmp2, ↓Y_call, ↓Y_sub, ↓XEs_nil, ↓XEs_cons, ↓XIfs_nil, ↓XIfs_cons, ↓Z_expr, ↓Z_assign, ↓Z_ret, ↓Z_retNone, ↓Z_ite, ↓Z_for, ↓Z_pass, ↓Z_brk, ↓Z_cont, ↓Zs_nil, ↓sqX_next, ↓sqX_brk, ↓sqX_cont, ↓sqX_ret, ↓Zs_cons, ↓wkX_next, ↓wkX_cont, ↓wkX_brk, ↓wkX_ret, ↓fkX_next, ↓fkX_cont, ↓fkX_brk, ↓fkX_ret, ↓xb_one, ↓oKK_some, ↓oK_some, ↓tX_bool, ↓iX_t, ↓iX_f, ↓iX_d, ↓q_add, ↓q_sub, ↓q_mul, ↓q_div, ↓q_mod, ↓q_pow, ↓q_list, ↓q_eq, ↓q_ne, ↓q_eqs, ↓q_nes, ↓q_eqb, ↓q_lt, ↓q_le, ↓q_gt, ↓q_ge, ↓q_in, ↓q_inl, ↓q_nin, ↓q_is, ↓q_isnot, ↓q_stup, ↓q_sref, ↓q_sscr, ↓q_fn, ↓q_lentup, ↓q_lenref, ↓q_lenscr, ↓q_isi, ↓q_all, ↓q_max, ↓q_min, ↓q_int, ↓q_tuple, ↓q_listc, ↓q_append, ↓q_clear, ↓q_index, ↓u_tup, ↓u_ref, ↓u_range, ↓q_slice, ↓oi_none, ↓oi_int, ↓X_slice, ↓XO_none, ↓XO_some, ↓u_rev, ↓u_range2, ↓retV_ret, ↓retV_next, List.getElem?_cons_zero, List.getElem?_cons_succ, List.set_cons_zero, List.set_cons_succ, Bool.not_true, Bool.not_false, idx_0, idx_1, idx_2, idx_3, idx_4, idx_5, Int.reduceAdd, Int.reduceSub, Int.reduceMul, Int.reduceNeg, Int.reducePow, Int.reduceLT, Int.reduceLE, Int.reduceEq, Int.reduceNe, Int.reduceToNat, Int.reduceAbs, Nat.reduceAdd, Nat.reduceLT, Nat.reduceLeDiff, Nat.reducePow, Nat.reduceLT, List.length_cons, List.length_nil, true_implies, false_implies, not_true_eq_false, not_false_eq_true, and_true, true_and, and_self, or_true, true_or, decide_true, decide_false, exists_eq_left', Option.some.injEq]
  rw [Z_while]
  refine ⟨r.depth + 1, inn_loop r ?_⟩
  simp only [↓X_lit, ↓X_loc, ↓X_bin, ↓negX_int, ↓X_neg, ↓X_not, ↓Y_not, ↓X_and, ↓Y_and, ↓X_or, ↓Y_or, ↓X_cmp, ↓X_cmp2, ↓X_ite, ↓Y_ite, ↓X_tup, ↓X_lst, ↓X_call, ↓X_meth, ↓X_sub, ↓X_comp, ↓Y_lit, ↓Y_loc, ↓Y_cmp, ↓Y_cmp2, ↓Y_call, ↓Y_sub, ↓XEs_nil, ↓XEs_cons, ↓XIfs_nil, ↓XIfs_cons, ↓Z_expr, ↓Z_assign, ↓Z_ret, ↓Z_retNone, ↓Z_ite, ↓Z_for, ↓Z_pass, ↓Z_brk, ↓Z_cont, ↓Zs_nil, ↓sqX_next, ↓sqX_brk, ↓sqX_cont, ↓sqX_ret, ↓Zs_cons, ↓wkX_next, ↓wkX_cont, ↓wkX_brk, ↓wkX_ret, ↓fkX_next, ↓fkX_cont, ↓fkX_brk, ↓fkX_ret, ↓xb_one, ↓oKK_some, ↓oK_some, ↓tX_bool, ↓iX_t, ↓iX_f, ↓iX_d, ↓q_add, ↓q_sub, ↓q_mul, ↓q_div, ↓q_mod, ↓q_pow, ↓q_list, ↓q_eq, ↓q_ne, ↓q_eqs, ↓q_nes, ↓q_eqb, ↓q_lt, ↓q_le, ↓q_gt, ↓q_ge, ↓q_in, ↓q_inl, ↓q_nin, ↓q_is, ↓q_isnot, ↓q_stup, ↓q_sref, ↓q_sscr, ↓q_fn, ↓q_lentup, ↓q_lenref, ↓q_lenscr, ↓q_isi, ↓q_all, ↓q_max, ↓q_min, ↓q_int, ↓q_tuple, ↓q_listc, ↓q_append, ↓q_clear, ↓q_index, ↓u_tup, ↓u_ref, ↓u_range, ↓q_slice, ↓oi_none, ↓oi_int, ↓X_slice, ↓XO_none, ↓XO_some, ↓u_rev, ↓u_range2, ↓retV_ret, ↓retV_next, List.getElem?_cons_zero, List.getElem?_cons_succ, List.set_cons_zero, List.set_cons_succ, Bool.not_true, Bool.not_false, idx_0, idx_1, idx_2, idx_3, idx_4, idx_5, Int.reduceAdd, Int.reduceSub, Int.reduceMul, Int.reduceNeg, Int.reducePow, Int.reduceLT, Int.reduceLE, Int.reduceEq, Int.reduceNe, Int.reduceToNat, Int.reduceAbs, Nat.reduceAdd, Nat.reduceLT, Nat.reduceLeDiff, Nat.reducePow, Nat.reduceLT, List.length_cons, List.length_nil, true_implies, false_implies, not_true_eq_false, not_false_eq_true, and_true, true_and, and_self, or_true, true_or, decide_true, decide_false, exists_eq_left', Option.some.injEq]
  exact q
noncomputable def Φ4 : Orc := ext "innermost" C_innermost Φ3
theorem P4_im : Φ4 "innermost" = C_innermost := rfl

theorem inner_plain : ∀ r : Rl, r.inner.plain = true
  | .once _ _ => rfl
  | .every _ _ _ => rfl
  | .week _ _ _ => rfl
  | .month _ _ _ => rfl
  | .frm _ r => inner_plain r
  | .til _ r => inner_plain r
  | .als _ r => inner_plain r
  | .but _ r => inner_plain r
theorem inner_size : ∀ r : Rl, r.inner.size = r.size
  | .once _ _ => rfl
  | .every _ _ _ => rfl
  | .week _ _ _ => rfl
  | .month _ _ _ => rfl
  | .frm _ r => inner_size r
  | .til _ r => inner_size r
  | .als _ r => inner_size r
  | .but _ r => inner_size r
noncomputable def C_length_of : Ctr := fun vs H Q _ => ∃ r, vs = [rv r] ∧ Q (.int r.size) H
theorem w_length_of : ∀ vs H Q X, C_length_of vs H Q X → wpFn Φ4 f_length_of vs H Q X := by
  rintro vs H Q X ⟨r, rfl, q⟩
  refine fn_of rfl ?_
  simp only [f_length_of, initL, List.map_cons, List.map_nil, List.replicate, List.cons_append, List.nil_append, ↓X_lit, ↓X_loc, ↓X_bin, ↓negX_int, ↓X_neg, ↓X_not, ↓Y_not, ↓X_and, ↓Y_and, ↓X_or, ↓Y_or, ↓X_cmp, ↓X_cmp2, ↓X_ite, ↓Y_ite, ↓X_tup, ↓X_lst, ↓X_call, ↓X_meth, ↓X_sub, ↓X_comp, ↓Y_lit, ↓Y_loc, ↓Y_cmp, ↓Y_cmp2, ↓Y_call, ↓Y_sub, ↓XEs_nil, ↓XEs_cons, ↓XIfs_nil, ↓XIfs_cons, ↓Z_expr, ↓Z_assign, ↓Z_ret, ↓Z_retNone, ↓Z_ite, ↓Z_for, ↓Z_pass, ↓Z_brk, ↓Z_cont, ↓Zs_nil, ↓sqX_next, ↓sqX_brk, ↓sqX_cont, ↓sqX_ret, ↓Zs_cons, ↓wkX_next, ↓wkX_cont, ↓wkX_brk, ↓wkX_ret, ↓fkX_next, ↓fkX_cont, ↓fkX_brk, ↓fkX_ret, ↓xb_one, ↓oKK_some, ↓oK_some, ↓tX_bool, ↓iX_t, ↓iX_f, ↓iX_d, ↓q_add, ↓q_sub, ↓q_mul, ↓q_div, ↓q_mod, ↓q_pow, ↓q_list, ↓q_eq, ↓q_ne, ↓q_eqs, ↓q_nes, ↓q_eqb, ↓q_lt, ↓q_le, ↓q_gt, ↓q_ge, ↓q_in, ↓q_inl, ↓q_nin, ↓q_is, ↓q_isnot, ↓q_stup, ↓q_sref, ↓q_sscr, ↓q_fn, ↓q_lentup, ↓q_lenref, ↓q_lenscr, ↓q_isi, ↓q_all, ↓q_max, ↓q_min, ↓q_int, ↓q_tuple, ↓q_listc, ↓q_append, ↓q_clear, ↓q_index, ↓u_tup, ↓u_ref, ↓u_range, ↓q_slice, ↓oi_none, ↓oi_int, ↓X_slice, ↓XO_none, ↓XO_some, ↓u_rev, ↓u_range2, ↓retV_ret, ↓retV_next, List.getElem?_cons_zero, List.getElem?_cons_succ, List.set_cons_zero, List.set_cons_succ, Bool.not_true, Bool.not_false, idx_0, idx_1, idx_2, idx_3, idx_4, idx_5, Int.reduceAdd, Int.reduceSub, Int.reduceMul, Int.reduceNeg, Int.reducePow, Int.reduceLT, Int.reduceLE, Int.reduceEq, Int.reduceNe, Int.reduceToNat, Int.reduceAbs, Nat.reduceAdd, Nat.reduceLT, Nat.reduceLeDiff, Nat.reducePow, Nat.reduceLT, List.length_cons, List.length_nil, true_implies, false_implies, not_true_eq_false, not_false_eq_true, and_true, true_and, and_self, or_true, true_or, decide_true, decide_false, exists_eq_left', Option.some.injEq, ↓P4_im]
  refine ⟨r, rfl, ?_⟩
  have hp := inner_plain r
  rw [← inner_size] at q
  revert q hp
  cases r.inner with
  | once h s => intro q _; simp only [↓X_lit, ↓X_loc, ↓X_bin, ↓negX_int, ↓X_neg, ↓X_not, ↓Y_not, ↓X_and, ↓Y_and, ↓X_or, ↓Y_or, ↓X_cmp, ↓X_cmp2, ↓X_ite, ↓Y_ite, ↓X_tup, ↓X_lst, ↓X_call, ↓X_meth, ↓X_sub, ↓X_comp, ↓Y_lit, ↓Y_loc, ↓Y_cmp, ↓Y_cmp2, ↓Y_call, ↓Y_sub, ↓XEs_nil, ↓XEs_cons, ↓XIfs_nil, ↓XIfs_cons, ↓Z_expr, ↓Z_assign, ↓Z_ret, ↓Z_retNone, ↓Z_ite, ↓Z_for, ↓Z_pass, ↓Z_brk, ↓Z_cont, ↓Zs_nil, ↓sqX_next, ↓sqX_brk, ↓sqX_cont, ↓sqX_ret, ↓Zs_cons, ↓wkX_next, ↓wkX_cont, ↓wkX_brk, ↓wkX_ret, ↓fkX_next, ↓fkX_cont, ↓fkX_brk, ↓fkX_ret, ↓xb_one, ↓oKK_some, ↓oK_some, ↓tX_bool, ↓iX_t, ↓iX_f, ↓iX_d, ↓q_add, ↓q_sub, ↓q_mul, ↓q_div, ↓q_mod, ↓q_pow, ↓q_list, ↓q_eq, ↓q_ne, ↓q_eqs, ↓q_nes, ↓q_eqb, ↓q_lt, ↓q_le, ↓q_gt, ↓q_ge, ↓q_in, ↓q_inl, ↓q_nin, ↓q_is, ↓q_isnot, ↓q_stup, ↓q_sref, ↓q_sscr, ↓q_fn, ↓q_lentup, ↓q_lenref, ↓q_lenscr, ↓q_isi, ↓q_all, ↓q_max, ↓q_min, ↓q_int, ↓q_tuple, ↓q_listc, ↓q_append, ↓q_clear, ↓q_index, ↓u_tup, ↓u_ref, ↓u_range, ↓q_slice, ↓oi_none, ↓oi_int, ↓X_slice, ↓XO_none, ↓XO_some, ↓u_rev, ↓u_range2, ↓retV_ret, ↓retV_next, List.getElem?_cons_zero, List.getElem?_cons_succ, List.set_cons_zero, List.set_cons_succ, Bool.not_true, Bool.not_false, idx_0, idx_1, idx_2, idx_3, idx_4, idx_5, Int.reduceAdd, Int.reduceSub, Int.reduceMul, Int.reduceNeg, Int.reducePow, Int.reduceLT, Int.reduceLE, Int.reduceEq, Int.reduceNe, Int.reduceToNat, Int.reduceAbs, Nat.reduceAdd, Nat.reduceLT, Nat.reduceLeDiff, Nat.reducePow, Nat.reduceLT, List.length_cons, List.length_nil, true_implies, false_implies, not_true_eq_false, not_false_eq_true, and_true, true_and, and_self, or_true, true_or, decide_true, decide_false, exists_eq_left', Option.some.injEq, rv, sw_once_once, sw_once_every, sw_once_week, sw_once_month, sw_once_from, sw_once_until, sw_once_also, sw_once_but, sw_every_once, sw_every_every, sw_every_week, sw_every_month, sw_every_from, sw_every_until, sw_every_also, sw_every_but, sw_week_once, sw_week_every, sw_week_week, sw_week_month, sw_week_from, sw_week_until, sw_week_also, sw_week_but, sw_month_once, sw_month_every, sw_month_week, sw_month_month, sw_month_from, sw_month_until, sw_month_also, sw_month_but, sw_from_once, sw_from_every, sw_from_week, sw_from_month, sw_from_from, sw_from_until, sw_from_also, sw_from_but, sw_until_once, sw_until_every, sw_until_week, sw_until_month, sw_until_from, sw_until_until, sw_until_also, sw_until_but, sw_also_once, sw_also_every, sw_also_week, sw_also_month, sw_also_from, sw_also_until, sw_also_also, sw_also_but, sw_but_once, sw_but_every, sw_but_week, sw_but_month, sw_but_from, sw_but_until, sw_but_also, sw_but_but]; exact q
  | every h s p => intro q _; simp only [↓X_lit, ↓X_loc, ↓X_bin, ↓negX_int, ↓X_neg, ↓X_not, ↓Y_not, ↓X_and, ↓Y_and, ↓X_or, ↓Y_or, ↓X_cmp, ↓X_cmp2, ↓X_ite, ↓Y_ite, ↓X_tup, ↓X_lst, ↓X_call, ↓X_meth, ↓X_sub, ↓X_comp, ↓Y_lit, ↓Y_loc, ↓Y_cmp, ↓Y_cmp2, ↓Y_call, ↓Y_sub, ↓XEs_nil, ↓XEs_cons, ↓XIfs_nil, ↓XIfs_cons, ↓Z_expr, ↓Z_assign, ↓Z_ret, ↓Z_retNone, ↓Z_ite, ↓Z_for, ↓Z_pass, ↓Z_brk, ↓Z_cont, ↓Zs_nil, ↓sqX_next, ↓sqX_brk, ↓sqX_cont, ↓sqX_ret, ↓Zs_cons, ↓wkX_next, ↓wkX_cont, ↓wkX_brk, ↓wkX_ret, ↓fkX_next, ↓fkX_cont, ↓fkX_brk, ↓fkX_ret, ↓xb_one, ↓oKK_some, ↓oK_some, ↓tX_bool, ↓iX_t, ↓iX_f, ↓iX_d, ↓q_add, ↓q_sub, ↓q_mul, ↓q_div, ↓q_mod, ↓q_pow, ↓q_list, ↓q_eq, ↓q_ne, ↓q_eqs, ↓q_nes, ↓q_eqb, ↓q_lt, ↓q_le, ↓q_gt, ↓q_ge, ↓q_in, ↓q_inl, ↓q_nin, ↓q_is, ↓q_isnot, ↓q_stup, ↓q_sref, ↓q_sscr, ↓q_fn, ↓q_lentup, ↓q_lenref, ↓q_lenscr, ↓q_isi, ↓q_all, ↓q_max, ↓q_min, ↓q_int, ↓q_tuple, ↓q_listc, ↓q_append, ↓q_clear, ↓q_index, ↓u_tup, ↓u_ref, ↓u_range, ↓q_slice, ↓oi_none, ↓oi_int, ↓X_slice, ↓XO_none, ↓XO_some, ↓u_rev, ↓u_range2, ↓retV_ret, ↓retV_next, List.getElem?_cons_zero, List.getElem?_cons_succ, List.set_cons_zero, List.set_cons_succ, Bool.not_true, Bool.not_false, idx_0, idx_1, idx_2, idx_3, idx_4, idx_5, Int.reduceAdd, Int.reduceSub, Int.reduceMul, Int.reduceNeg, Int.reducePow, Int.reduceLT, Int.reduceLE, Int.reduceEq, Int.reduceNe, Int.reduceToNat, Int.reduceAbs, Nat.reduceAdd, Nat.reduceLT, Nat.reduceLeDiff, Nat.reducePow, Nat.reduceLT, List.length_cons, List.length_nil, true_implies, false_implies, not_true_eq_false, not_false_eq_true, and_true, true_and, and_self, or_true, true_or, decide_true, decide_false, exists_eq_left', Option.some.injEq, rv, sw_once_once, sw_once_every, sw_once_week, sw_once_month, sw_once_from, sw_once_until, sw_once_also, sw_once_but, sw_every_once, sw_every_every, sw_every_week, sw_every_month, sw_every_from, sw_every_until, sw_every_also, sw_every_but, sw_week_once, sw_week_every, sw_week_week, sw_week_month, sw_week_from, sw_week_until, sw_week_also, sw_week_but, sw_month_once, sw_month_every, sw_month_week, sw_month_month, sw_month_from, sw_month_until, sw_month_also, sw_month_but, sw_from_once, sw_from_every, sw_from_week, sw_from_month, sw_from_from, sw_from_until, sw_from_also, sw_from_but, sw_until_once, sw_until_every, sw_until_week, sw_until_month, sw_until_from, sw_until_until, sw_until_also, sw_until_but, sw_also_once, sw_also_every, sw_also_week, sw_also_month, sw_also_from, sw_also_until, sw_also_also, sw_also_but, sw_but_once, sw_but_every, sw_but_week, sw_but_month, sw_but_from, sw_but_until, sw_but_also, sw_but_but]; exact q
  | week ds t s => intro q _; simp only [↓X_lit, ↓X_loc, ↓X_bin, ↓negX_int, ↓X_neg, ↓X_not, ↓Y_not, ↓X_and, ↓Y_and, ↓X_or, ↓Y_or, ↓X_cmp, ↓X_cmp2, ↓X_ite, ↓Y_ite, ↓X_tup, ↓X_lst, ↓X_call, ↓X_meth, ↓X_sub, ↓X_comp, ↓Y_lit, ↓Y_loc, ↓Y_cmp, ↓Y_cmp2, ↓Y_call, ↓Y_sub, ↓XEs_nil, ↓XEs_cons, ↓XIfs_nil, ↓XIfs_cons, ↓Z_expr, ↓Z_assign, ↓Z_ret, ↓Z_retNone, ↓Z_ite, ↓Z_for, ↓Z_pass, ↓Z_brk, ↓Z_cont, ↓Zs_nil, ↓sqX_next, ↓sqX_brk, ↓sqX_cont, ↓sqX_ret, ↓Zs_cons, ↓wkX_next, ↓wkX_cont, ↓wkX_brk, ↓wkX_ret, ↓fkX_next, ↓fkX_cont, ↓fkX_brk, ↓fkX_ret, ↓xb_one, ↓oKK_some, ↓oK_some, ↓tX_bool, ↓iX_t, ↓iX_f, ↓iX_d, ↓q_add, ↓q_sub, ↓q_mul, ↓q_div, ↓q_mod, ↓q_pow, ↓q_list, ↓q_eq, ↓q_ne, ↓q_eqs, ↓q_nes, ↓q_eqb, ↓q_lt, ↓q_le, ↓q_gt, ↓q_ge, ↓q_in, ↓q_inl, ↓q_nin, ↓q_is, ↓q_isnot, ↓q_stup, ↓q_sref, ↓q_sscr, ↓q_fn, ↓q_lentup, ↓q_lenref, ↓q_lenscr, ↓q_isi, ↓q_all, ↓q_max, ↓q_min, ↓q_int, ↓q_tuple, ↓q_listc, ↓q_append, ↓q_clear, ↓q_index, ↓u_tup, ↓u_ref, ↓u_range, ↓q_slice, ↓oi_none, ↓oi_int, ↓X_slice, ↓XO_none, ↓XO_some, ↓u_rev, ↓u_range2, ↓retV_ret, ↓retV_next, List.getElem?_cons_zero, List.getElem?_cons_succ, List.set_cons_zero, List.set_cons_succ, Bool.not_true, Bool.not_false, idx_0, idx_1, idx_2, idx_3, idx_4, idx_5, Int.reduceAdd, Int.reduceSub, Int.reduceMul, Int.reduceNeg, Int.reducePow, Int.reduceLT, Int.reduceLE, Int.reduceEq, Int.reduceNe, Int.reduceToNat, Int.reduceAbs, Nat.reduceAdd, Nat.reduceLT, Nat.reduceLeDiff, Nat.reducePow, Nat.reduceLT, List.length_cons, List.length_nil, true_implies, false_implies, not_true_eq_false, not_false_eq_true, and_true, true_and, and_self, or_true, true_or, decide_true, decide_false, exists_eq_left', Option.some.injEq, rv, sw_once_once, sw_once_every, sw_once_week, sw_once_month, sw_once_from, sw_once_until, sw_once_also, sw_once_but, sw_every_once, sw_every_every, sw_every_week, sw_every_month, sw_every_from, sw_every_until, sw_every_also, sw_every_but, sw_week_once, sw_week_every, sw_week_week, sw_week_month, sw_week_from, sw_week_until, sw_week_also, sw_week_but, sw_month_once, sw_month_every, sw_month_week, sw_month_month, sw_month_from, sw_month_until, sw_month_also, sw_month_but, sw_from_once, sw_from_every, sw_from_week, sw_from_month, sw_from_from, sw_from_until, sw_from_also, sw_from_but, sw_until_once, sw_until_every, sw_until_week, sw_until_month, sw_until_from, sw_until_until, sw_until_also, sw_until_but, sw_also_once, sw_also_every, sw_also_week, sw_also_month, sw_also_from, sw_also_until, sw_also_also, sw_also_but, sw_but_once, sw_but_every, sw_but_week, sw_but_month, sw_but_from, sw_but_until, sw_but_also, sw_but_but]; exact q
  | month d t s => intro q _; simp only [↓X_lit, ↓X_loc, ↓X_bin, ↓negX_int, ↓X_neg, ↓X_not, ↓Y_not, ↓X_and, ↓Y_and, ↓X_or, ↓Y_or, ↓X_cmp, ↓X_cmp2, ↓X_ite, ↓Y_ite, ↓X_tup, ↓X_lst, ↓X_call, ↓X_meth, ↓X_sub, ↓X_comp, ↓Y_lit, ↓Y_loc, ↓Y_cmp, ↓Y_cmp2, ↓Y_call, ↓Y_sub, ↓XEs_nil, ↓XEs_cons, ↓XIfs_nil, ↓XIfs_cons, ↓Z_expr, ↓Z_assign, ↓Z_ret, ↓Z_retNone, ↓Z_ite, ↓Z_for, ↓Z_pass, ↓Z_brk, ↓Z_cont, ↓Zs_nil, ↓sqX_next, ↓sqX_brk, ↓sqX_cont, ↓sqX_ret, ↓Zs_cons, ↓wkX_next, ↓wkX_cont, ↓wkX_brk, ↓wkX_ret, ↓fkX_next, ↓fkX_cont, ↓fkX_brk, ↓fkX_ret, ↓xb_one, ↓oKK_some, ↓oK_some, ↓tX_bool, ↓iX_t, ↓iX_f, ↓iX_d, ↓q_add, ↓q_sub, ↓q_mul, ↓q_div, ↓q_mod, ↓q_pow, ↓q_list, ↓q_eq, ↓q_ne, ↓q_eqs, ↓q_nes, ↓q_eqb, ↓q_lt, ↓q_le, ↓q_gt, ↓q_ge, ↓q_in, ↓q_inl, ↓q_nin, ↓q_is, ↓q_isnot, ↓q_stup, ↓q_sref, ↓q_sscr, ↓q_fn, ↓q_lentup, ↓q_lenref, ↓q_lenscr, ↓q_isi, ↓q_all, ↓q_max, ↓q_min, ↓q_int, ↓q_tuple, ↓q_listc, ↓q_append, ↓q_clear, ↓q_index, ↓u_tup, ↓u_ref, ↓u_range, ↓q_slice, ↓oi_none, ↓oi_int, ↓X_slice, ↓XO_none, ↓XO_some, ↓u_rev, ↓u_range2, ↓retV_ret, ↓retV_next, List.getElem?_cons_zero, List.getElem?_cons_succ, List.set_cons_zero, List.set_cons_succ, Bool.not_true, Bool.not_false, idx_0, idx_1, idx_2, idx_3, idx_4, idx_5, Int.reduceAdd, Int.reduceSub, Int.reduceMul, Int.reduceNeg, Int.reducePow, Int.reduceLT, Int.reduceLE, Int.reduceEq, Int.reduceNe, Int.reduceToNat, Int.reduceAbs, Nat.reduceAdd, Nat.reduceLT, Nat.reduceLeDiff, Nat.reducePow, Nat.reduceLT, List.length_cons, List.length_nil, true_implies, false_implies, not_true_eq_false, not_false_eq_true, and_true, true_and, and_self, or_true, true_or, decide_true, decide_false, exists_eq_left', Option.some.injEq, rv, sw_once_once, sw_once_every, sw_once_week, sw_once_month, sw_once_from, sw_once_until, sw_once_also, sw_once_but, sw_every_once, sw_every_every, sw_every_week, sw_every_month, sw_every_from, sw_every_until, sw_every_also, sw_every_but, sw_week_once, sw_week_every, sw_week_week, sw_week_month, sw_week_from, sw_week_until, sw_week_also, sw_week_but, sw_month_once, sw_month_every, sw_month_week, sw_month_month, sw_month_from, sw_month_until, sw_month_also, sw_month_but, sw_from_once, sw_from_every, sw_from_week, sw_from_month, sw_from_from, sw_from_until, sw_from_also, sw_from_but, sw_until_once, sw_until_every, sw_until_week, sw_until_month, sw_until_from, sw_until_until, sw_until_also, sw_until_but, sw_also_once, sw_also_every, sw_also_week, sw_also_month, sw_also_from, sw_also_until, sw_also_also, sw_also_but, sw_but_once, sw_but_every, sw_but_week, sw_but_month, sw_but_from, sw_but_until, sw_but_also, sw_but_but]; exact q
  | frm h r => intro _ hp; cases hp
  | til h r => intro _ hp; cases hp
  | als h r => intro _ hp; cases hp
  | but ds r => intro _ hp; cases hp
noncomputable def Φ5 : Orc := ext "length_of" C_length_of Φ4
theorem P5_fe : Φ5 "from_end" = C_from_end := rfl
theorem P5_do : Φ5 "date_of" = C_date_of := rfl

noncomputable def C_begins_plain : Ctr := fun vs H Q _ => ∃ r x, vs = [rv r, .int x] ∧ r.plain = true ∧ r.ok ∧ Q (.bool (bp r x)) H
theorem w_begins_plain : ∀ vs H Q X, C_begins_plain vs H Q X → wpFn Φ5 f_begins_plain vs H Q X := by
  rintro vs H Q X ⟨r, x, rfl, hp, hok, q⟩
  refine fn_of rfl ?_
  cases r with
  | once h s =>
    change wpSs Φ5 f_begins_plain.body [some (V.tup [.str "once", .int h, .int s]), some (.int x), none, none, none, none] H _ _
    refine zs_cons (iw_eq sw_once_once ?_)
    exact q
  | every h s p =>
    change wpSs Φ5 f_begins_plain.body [some (V.tup [.str "every", .int h, .int s, .int p]), some (.int x), none, none, none, none] H _ _
    refine zs_cons (iw_ne sw_every_once (zs_cons (iw_eq sw_every_every ?_)))
    generalize hK : sqX Φ5 (_ :: _) = K
    simp only [↓X_lit, ↓X_loc, ↓X_bin, ↓negX_int, ↓X_neg, ↓X_not, ↓Y_not, ↓X_and, ↓Y_and, ↓X_or, ↓Y_or, ↓X_cmp, ↓X_cmp2, ↓X_ite, ↓Y_ite, ↓X_tup, ↓X_lst, ↓X_call, ↓X_meth, ↓X_sub, ↓X_comp, ↓Y_lit, ↓Y_loc, ↓Y_cmp, ↓Y_cmp2, ↓Y_call, ↓Y_sub, ↓XEs_nil, ↓XEs_cons, ↓XIfs_nil, ↓XIfs_cons, ↓Z_expr, ↓Z_assign, ↓Z_ret, ↓Z_retNone, ↓Z_ite, ↓Z_for, ↓Z_pass, ↓Z_brk, ↓Z_cont, ↓Zs_nil, ↓sqX_next, ↓sqX_brk, ↓sqX_cont, ↓sqX_ret, ↓Zs_cons, ↓wkX_next, ↓wkX_cont, ↓wkX_brk, ↓wkX_ret, ↓fkX_next, ↓fkX_cont, ↓fkX_brk, ↓fkX_ret, ↓xb_one, ↓oKK_some, ↓oK_some, ↓tX_bool, ↓iX_t, ↓iX_f, ↓iX_d, ↓q_add, ↓q_sub, ↓q_mul, ↓q_div, ↓q_mod, ↓q_pow, ↓q_list, ↓q_eq, ↓q_ne, ↓q_eqs, ↓q_nes, ↓q_eqb, ↓q_lt, ↓q_le, ↓q_gt, ↓q_ge, ↓q_in, ↓q_inl, ↓q_nin, ↓q_is, ↓q_isnot, ↓q_stup, ↓q_sref, ↓q_sscr, ↓q_fn, ↓q_lentup, ↓q_lenref, ↓q_lenscr, ↓q_isi, ↓q_all, ↓q_max, ↓q_min, ↓q_int, ↓q_tuple, ↓q_listc, ↓q_append, ↓q_clear, ↓q_index, ↓u_tup, ↓u_ref, ↓u_range, ↓q_slice, ↓oi_none, ↓oi_int, ↓X_slice, ↓XO_none, ↓XO_some, ↓u_rev, ↓u_range2, ↓retV_ret, ↓retV_next, List.getElem?_cons_zero, List.getElem?_cons_succ, List.set_cons_zero, List.set_cons_succ, Bool.not_true, Bool.not_false, idx_0, idx_1, idx_2, idx_3, idx_4, idx_5, Int.reduceAdd, Int.reduceSub, Int.reduceMul, Int.reduceNeg, Int.reducePow, Int.reduceLT, Int.reduceLE, Int.reduceEq, Int.reduceNe, Int.reduceToNat, Int.reduceAbs, Nat.reduceAdd, Nat.reduceLT, Nat.reduceLeDiff, Nat.reducePow, Nat.reduceLT, List.length_cons, List.length_nil, true_implies, false_implies, not_true_eq_false, not_false_eq_true, and_true, true_and, and_self, or_true, true_or, decide_true, decide_false, exists_eq_left', Option.some.injEq, ← hK]
    have : p < 2 ^ 128 := by have := hok.2; omega
    refine ⟨fun hx => ⟨⟨hok.1, this⟩, ?_⟩, fun hx => ?_⟩
    · simpa [bp, hx] using q
    · simpa [bp, hx] using q
  | week ds t s =>
    change wpSs Φ5 f_begins_plain.body [some (V.tup [.str "week", intsV ds, .int t, .int s]), some (.int x), none, none, none, none] H _ _
    refine zs_cons (iw_ne sw_week_once (zs_cons (iw_ne sw_week_every ?_)))
    simp only [↓X_lit, ↓X_loc, ↓X_bin, ↓negX_int, ↓X_neg, ↓X_not, ↓Y_not, ↓X_and, ↓Y_and, ↓X_or, ↓Y_or, ↓X_cmp, ↓X_cmp2, ↓X_ite, ↓Y_ite, ↓X_tup, ↓X_lst, ↓X_call, ↓X_meth, ↓X_sub, ↓X_comp, ↓Y_lit, ↓Y_loc, ↓Y_cmp, ↓Y_cmp2, ↓Y_call, ↓Y_sub, ↓XEs_nil, ↓XEs_cons, ↓XIfs_nil, ↓XIfs_cons, ↓Z_expr, ↓Z_assign, ↓Z_ret, ↓Z_retNone, ↓Z_ite, ↓Z_for, ↓Z_pass, ↓Z_brk, ↓Z_cont, ↓Zs_nil, ↓sqX_next, ↓sqX_brk, ↓sqX_cont, ↓sqX_ret, ↓Zs_cons, ↓wkX_next, ↓wkX_cont, ↓wkX_brk, ↓wkX_ret, ↓fkX_next, ↓fkX_cont, ↓fkX_brk, ↓fkX_ret, ↓xb_one, ↓oKK_some, ↓oK_some, ↓tX_bool, ↓iX_t, ↓iX_f, ↓iX_d, ↓q_add, ↓q_sub, ↓q_mul, ↓q_div, ↓q_mod, ↓q_pow, ↓q_list, ↓q_eq, ↓q_ne, ↓q_eqs, ↓q_nes, ↓q_eqb, ↓q_lt, ↓q_le, ↓q_gt, ↓q_ge, ↓q_in, ↓q_inl, ↓q_nin, ↓q_is, ↓q_isnot, ↓q_stup, ↓q_sref, ↓q_sscr, ↓q_fn, ↓q_lentup, ↓q_lenref, ↓q_lenscr, ↓q_isi, ↓q_all, ↓q_max, ↓q_min, ↓q_int, ↓q_tuple, ↓q_listc, ↓q_append, ↓q_clear, ↓q_index, ↓u_tup, ↓u_ref, ↓u_range, ↓q_slice, ↓oi_none, ↓oi_int, ↓X_slice, ↓XO_none, ↓XO_some, ↓u_rev, ↓u_range2, ↓retV_ret, ↓retV_next, List.getElem?_cons_zero, List.getElem?_cons_succ, List.set_cons_zero, List.set_cons_succ, Bool.not_true, Bool.not_false, idx_0, idx_1, idx_2, idx_3, idx_4, idx_5, Int.reduceAdd, Int.reduceSub, Int.reduceMul, Int.reduceNeg, Int.reducePow, Int.reduceLT, Int.reduceLE, Int.reduceEq, Int.reduceNe, Int.reduceToNat, Int.reduceAbs, Nat.reduceAdd, Nat.reduceLT, Nat.reduceLeDiff, Nat.reducePow, Nat.reduceLT, List.length_cons, List.length_nil, true_implies, false_implies, not_true_eq_false, not_false_eq_true, and_true, true_and, and_self, or_true, true_or, decide_true, decide_false, exists_eq_left', Option.some.injEq, rv, sw_once_once, sw_once_every, sw_once_week, sw_once_month, sw_once_from, sw_once_until, sw_once_also, sw_once_but, sw_every_once, sw_every_every, sw_every_week, sw_every_month, sw_every_from, sw_every_until, sw_every_also, sw_every_but, sw_week_once, sw_week_every, sw_week_week, sw_week_month, sw_week_from, sw_week_until, sw_week_also, sw_week_but, sw_month_once, sw_month_every, sw_month_week, sw_month_month, sw_month_from, sw_month_until, sw_month_also, sw_month_but, sw_from_once, sw_from_every, sw_from_week, sw_from_month, sw_from_from, sw_from_until, sw_from_also, sw_from_but, sw_until_once, sw_until_every, sw_until_week, sw_until_month, sw_until_from, sw_until_until, sw_until_also, sw_until_but, sw_also_once, sw_also_every, sw_also_week, sw_also_month, sw_also_from, sw_also_until, sw_also_also, sw_also_but, sw_but_once, sw_but_every, sw_but_week, sw_but_month, sw_but_from, sw_but_until, sw_but_also, sw_but_but, intsV, mem_ints]
    refine ⟨fun hx => ?_, fun hx => ?_⟩
    · simpa [bp, hx] using q
    · have hx : x % 24 = t := by simpa using hx
      simpa [bp, hx] using q
  | month d t s =>
    change wpSs Φ5 f_begins_plain.body [some (V.tup [.str "month", .int d, .int t, .int s]), some (.int x), none, none, none, none] H _ _
    refine zs_cons (iw_ne sw_month_once (zs_cons (iw_ne sw_month_every ?_)))
    simp only [↓X_lit, ↓X_loc, ↓X_bin, ↓negX_int, ↓X_neg, ↓X_not, ↓Y_not, ↓X_and, ↓Y_and, ↓X_or, ↓Y_or, ↓X_cmp, ↓X_cmp2, ↓X_ite, ↓Y_ite, ↓X_tup, ↓X_lst, ↓X_call, ↓X_meth, ↓X_sub, ↓X_comp, ↓Y_lit, ↓Y_loc, ↓Y_cmp, ↓Y_cmp2, ↓Y_call, ↓Y_sub, ↓XEs_nil, ↓XEs_cons, ↓XIfs_nil, ↓XIfs_cons, ↓Z_expr, ↓Z_assign, ↓Z_ret, ↓Z_retNone, ↓Z_ite, ↓Z_for, ↓Z_pass, ↓Z_brk, ↓Z_cont, ↓Zs_nil, ↓sqX_next, ↓sqX_brk, ↓sqX_cont, ↓sqX_ret, ↓Zs_cons, ↓wkX_next, ↓wkX_cont, ↓wkX_brk, ↓wkX_ret, ↓fkX_next, ↓fkX_cont, ↓fkX_brk, ↓fkX_ret, ↓xb_one, ↓oKK_some, ↓oK_some, ↓tX_bool, ↓iX_t, ↓iX_f, ↓iX_d, ↓q_add, ↓q_sub, ↓q_mul, ↓q_div, ↓q_mod, ↓q_pow, ↓q_list, ↓q_eq, ↓q_ne, ↓q_eqs, ↓q_nes, ↓q_eqb, ↓q_lt, ↓q_le, ↓q_gt, ↓q_ge, ↓q_in, ↓q_inl, ↓q_nin, ↓q_is, ↓q_isnot, ↓q_stup, ↓q_sref, ↓q_sscr, ↓q_fn, ↓q_lentup, ↓q_lenref, ↓q_lenscr, ↓q_isi, ↓q_all, ↓q_max, ↓q_min, ↓q_int, ↓q_tuple, ↓q_listc, ↓q_append, ↓q_clear, ↓q_index, ↓u_tup, ↓u_ref, ↓u_range, ↓q_slice, ↓oi_none, ↓oi_int, ↓X_slice, ↓XO_none, ↓XO_some, ↓u_rev, ↓u_range2, ↓retV_ret, ↓retV_next, List.getElem?_cons_zero, List.getElem?_cons_succ, List.set_cons_zero, List.set_cons_succ, Bool.not_true, Bool.not_false, idx_0, idx_1, idx_2, idx_3, idx_4, idx_5, Int.reduceAdd, Int.reduceSub, Int.reduceMul, Int.reduceNeg, Int.reducePow, Int.reduceLT, Int.reduceLE, Int.reduceEq, Int.reduceNe, Int.reduceToNat, Int.reduceAbs, Nat.reduceAdd, Nat.reduceLT, Nat.reduceLeDiff, Nat.reducePow, Nat.reduceLT, List.length_cons, List.length_nil, true_implies, false_implies, not_true_eq_false, not_false_eq_true, and_true, true_and, and_self, or_true, true_or, decide_true, decide_false, exists_eq_left', Option.some.injEq, rv, sw_once_once, sw_once_every, sw_once_week, sw_once_month, sw_once_from, sw_once_until, sw_once_also, sw_once_but, sw_every_once, sw_every_every, sw_every_week, sw_every_month, sw_every_from, sw_every_until, sw_every_also, sw_every_but, sw_week_once, sw_week_every, sw_week_week, sw_week_month, sw_week_from, sw_week_until, sw_week_also, sw_week_but, sw_month_once, sw_month_every, sw_month_week, sw_month_month, sw_month_from, sw_month_until, sw_month_also, sw_month_but, sw_from_once, sw_from_every, sw_from_week, sw_from_month, sw_from_from, sw_from_until, sw_from_also, sw_from_but, sw_until_once, sw_until_every, sw_until_week, sw_until_month, sw_until_from, sw_until_until, sw_until_also, sw_until_but, sw_also_once, sw_also_every, sw_also_week, sw_also_month, sw_also_from, sw_also_until, sw_also_also, sw_also_but, sw_but_once, sw_but_every, sw_but_week, sw_but_month, sw_but_from, sw_but_until, sw_but_also, sw_but_but, ↓P5_fe, ↓P5_do, C_from_end, C_date_of]
    refine ⟨fun hx => ?_, fun hx => ⟨fun hd => ⟨_, rfl, ?_⟩, fun hd => ⟨_, rfl, ?_⟩⟩⟩
    · simpa [bp, hx] using q
    · have hx : x % 24 = t := by simpa using hx
      simpa [bp, hx, hd] using q
    · have hx : x % 24 = t := by simpa using hx
      simpa [bp, hx, hd] using q
  | frm h r => cases hp
  | til h r => cases hp
  | als h r => cases hp
  | but ds r => cases hp
noncomputable def Φ6 : Orc := ext "begins_plain" C_begins_plain Φ5
theorem P6_bp : Φ6 "begins_plain" = C_begins_plain := rfl

theorem inner_of_plain : ∀ r : Rl, r.plain = true → r.inner = r
  | .once _ _, _ => rfl
  | .every _ _ _, _ => rfl
  | .week _ _ _, _ => rfl
  | .month _ _ _, _ => rfl
noncomputable def C_begins : Ctr := fun vs H Q _ => ∃ r x, vs = [rv r, .int x] ∧ r.ok ∧ Q (.bool (bg r x)) H
theorem beg_loop {XF : XS} {t1 t2 t3 : Option V} {x : Int} {Q : QS} {H : Hp}
    (r0 : Rl)
    (hq : ∀ r : Rl, r.plain = true → r.ok → bgo r0 x = bp r x → Q .next [some (rv r), some (.int x), t1, t2, t3] H)
    (hr : ∀ (c : Bool) (r : Rl), bgo r0 x = c → Q (.ret (.bool c)) [some (rv r), some (.int x), t1, t2, t3] H) : ∀ (r : Rl), r.ok → bgo r x = bgo r0 x →
    whileGo (whTX Φ6 (.cmp (.sub (.loc 0) (.lit (.int 0))) .In (.lit (.tup [(.str "from"), (.str "until"), (.str "also"), (.str "but")]))) XF)
      (whBX Φ6 [(.ite (.and (.cmp (.sub (.loc 0) (.lit (.int 0))) .Eq (.lit (.str "from"))) (.cmp (.loc 1) .Lt (.sub (.loc 0) (.lit (.int 1))))) [(.ret (.lit (.bool false)))] []), (.ite (.and (.cmp (.sub (.loc 0) (.lit (.int 0))) .Eq (.lit (.str "until"))) (.cmp (.loc 1) .GtE (.sub (.loc 0) (.lit (.int 1))))) [(.ret (.lit (.bool false)))] []), (.ite (.and (.cmp (.sub (.loc 0) (.lit (.int 0))) .Eq (.lit (.str "also"))) (.cmp (.loc 1) .Eq (.sub (.loc 0) (.lit (.int 1))))) [(.ret (.lit (.bool true)))] []), (.ite (.and (.cmp (.sub (.loc 0) (.lit (.int 0))) .Eq (.lit (.str "but"))) (.cmp (.bin .FloorDiv (.loc 1) (.lit (.int 24))) .In (.sub (.loc 0) (.lit (.int 1))))) [(.ret (.lit (.bool false)))] []), (.assign 0 (.sub (.loc 0) (.lit (.int 2))))] XF) (r.depth + 1) [some (rv r), some (.int x), t1, t2, t3] H Q := by
  intro r
  induction r with
  | once h s => intro hok e; rw [whX_s]; exact t_in mo_once <| hq (.once h s) rfl hok e.symm
  | every h s p => intro hok e; rw [whX_s]; exact t_in mo_every <| hq (.every h s p) rfl hok e.symm
  | week ds t s => intro hok e; rw [whX_s]; exact t_in mo_week <| hq (.week ds t s) rfl hok e.symm
  | month d t s => intro hok e; rw [whX_s]; exact t_in mo_month <| hq (.month d t s) rfl hok e.symm
  | frm h r ih =>
    intro hok e; rw [whX_s]
    refine t_in mo_frm (zs_cons (iwa_eq sw_from_from ?_))
    show ifP (decide (x < h)) _ _
    refine iX_p (fun hx => hr false (.frm h r) (by rw [← e]; simp [bgo, hx])) (fun hx => ?_)
    refine zs_cons (iwa_ne sw_from_until (zs_cons (iwa_ne sw_from_also (zs_cons (iwa_ne sw_from_but ?_)))))
    exact ih hok (by rw [← e]; simp [bgo, hx])
  | til h r ih =>
    intro hok e; rw [whX_s]
    refine t_in mo_til (zs_cons (iwa_ne sw_until_from (zs_cons (iwa_eq sw_until_until ?_))))
    show ifP (decide (h ≤ x)) _ _
    refine iX_p (fun hx => hr false (.til h r) (by rw [← e]; simp [bgo, hx])) (fun hx => ?_)
    refine zs_cons (iwa_ne sw_until_also (zs_cons (iwa_ne sw_until_but ?_)))
    exact ih hok (by rw [← e]; simp only [bgo]; rw [if_neg hx])
  | als h r ih =>
    intro hok e; rw [whX_s]
    refine t_in mo_als (zs_cons (iwa_ne sw_also_from (zs_cons (iwa_ne sw_also_until (zs_cons (iwa_eq sw_also_also ?_))))))
    show ifP (decide (x = h)) _ _
    refine iX_p (fun hx => hr true (.als h r) (by rw [← e]; simp [bgo, hx])) (fun hx => ?_)
    refine zs_cons (iwa_ne sw_also_but ?_)
    exact ih hok (by rw [← e]; simp [bgo, hx])
  | but ds r ih =>
    intro hok e; rw [whX_s]
    refine t_in mo_but (zs_cons (iwa_ne sw_but_from (zs_cons (iwa_ne sw_but_until (zs_cons (iwa_ne sw_but_also (zs_cons (iwa_eq sw_but_but ?_))))))))
    refine ⟨⟨by decide, by decide⟩, ?_⟩
    show oK (memV (.int (x / 24)) (ds.map V.int)) _
    rw [mem_ints]
    refine iX_b (fun hx => hr false (.but ds r) (by rw [← e]; simp only [bgo]; rw [if_pos hx])) (fun hx => ?_)
    exact ih hok (by rw [← e]; simp only [bgo]; rw [if_neg (by rw [hx]; decide)])
theorem w_begins : ∀ vs H Q X, C_begins vs H Q X → wpFn Φ6 f_begins vs H Q X := by
  rintro vs H Q X ⟨r, x, rfl, hok, q⟩
  refine fn_of rfl ?_
  simp only [f_begins, initL, List.map_cons, List.map_nil, List.replicate, List.cons_append, List.nil_append, ↓X_lit, ↓X_loc, ↓X_bin, ↓negX_int, ↓X_neg, ↓X_not, ↓Y_not, ↓X_and, ↓Y_and, ↓X_or, ↓Y_or, ↓X_cmp, ↓X_cmp2, ↓X_ite, ↓Y_ite, ↓X_tup, ↓X_lst, ↓X_call, ↓X_meth, ↓X_sub, ↓X_comp, ↓Y_lit, ↓Y_loc, ↓Y_cmp, ↓Y_cmp2, ↓Y_call, ↓Y_sub, ↓XEs_nil, ↓XEs_cons, ↓XIfs_nil, ↓XIfs_cons, ↓Z_expr, ↓Z_assign, ↓Z_ret, ↓Z_retNone, ↓Z_ite, ↓Z_for, ↓Z_pass, ↓Z_brk, ↓Z_cont, ↓Zs_nil, ↓sqX_next, ↓sqX_brk, ↓sqX_cont, ↓sqX_ret, ↓Zs_cons, ↓wkX_next, ↓wkX_cont, ↓wkX_brk, ↓wkX_ret, ↓fkX_next, ↓fkX_cont, ↓fkX_brk, ↓fkX_ret, ↓xb_one, ↓oKK_some, ↓oK_some, ↓tX_bool, ↓iX_t, ↓iX_f, ↓iX_d, ↓q_add, ↓q_sub, ↓q_mul, ↓q_div, ↓q_mod, ↓q_pow, ↓q_list, ↓q_eq, ↓q_ne, ↓q_eqs, ↓q_nes, ↓q_eqb, ↓q_lt, ↓q_le, ↓q_gt, ↓q_ge, ↓q_in, ↓q_inl, ↓q_nin, ↓q_is, ↓q_isnot, ↓q_stup, ↓q_sref, ↓q_sscr, ↓q_fn, ↓q_lentup, ↓q_lenref, ↓q_lenscr, ↓q_isi, ↓q_all, ↓q_max, ↓q_min, ↓q_int, ↓q_tuple, ↓q_listc, ↓q_append, ↓q_clear, ↓q_index, ↓u_tup, ↓u_ref, ↓u_range, ↓q_slice, ↓oi_none, ↓oi_int, ↓X_slice, ↓XO_none, ↓XO_some, ↓u_rev, ↓u_range2, ↓retV_ret, ↓retV_next, List.getElem?_cons_zero, List.getElem?_cons_succ, List.set_cons_zero, List.set_cons_succ, Bool.not_true, Bool.not_false, idx_0, idx_1, idx_2, idx_3, idx_4, idx_5, Int.reduceAdd, Int.reduceSub, Int.reduceMul, Int.reduceNeg, Int.reducePow, Int.reduceLT, Int.reduceLE, Int.reduceEq, Int.reduceNe, Int.reduceToNat, Int.reduceAbs, Nat.reduceAdd, Nat.reduceLT, Nat.reduceLeDiff, Nat.reducePow, Nat.reduceLT, List.length_cons, List.length_nil, true_implies, false_implies, not_true_eq_false, not_false_eq_true, and_true, true_and, and_self, or_true, true_or, decide_true, decide_false, exists_eq_left', Option.some.injEq]
  refine ⟨fun hx => ?_, fun hx => ?_⟩
  · simpa [bg, hx] using q
  · have e : bg r x = bgo r x := by simp [bg, hx]
    rw [e] at q
    rw [Z_while]
    refine ⟨r.depth + 1, beg_loop r ?_ ?_ r hok rfl⟩
    · intro r' hp' hok' e'
      simp only [↓X_lit, ↓X_loc, ↓X_bin, ↓negX_int, ↓X_neg, ↓X_not, ↓Y_not, ↓X_and, ↓Y_and, ↓X_or, ↓Y_or, ↓X_cmp, ↓X_cmp2, ↓X_ite, ↓Y_ite, ↓X_tup, ↓X_lst, ↓X_call, ↓X_meth, ↓X_sub, ↓X_comp, ↓Y_lit, ↓Y_loc, ↓Y_cmp, ↓Y_cmp2, ↓Y_call, ↓Y_sub, ↓XEs_nil, ↓XEs_cons, ↓XIfs_nil, ↓XIfs_cons, ↓Z_expr, ↓Z_assign, ↓Z_ret, ↓Z_retNone, ↓Z_ite, ↓Z_for, ↓Z_pass, ↓Z_brk, ↓Z_cont, ↓Zs_nil, ↓sqX_next, ↓sqX_brk, ↓sqX_cont, ↓sqX_ret, ↓Zs_cons, ↓wkX_next, ↓wkX_cont, ↓wkX_brk, ↓wkX_ret, ↓fkX_next, ↓fkX_cont, ↓fkX_brk, ↓fkX_ret, ↓xb_one, ↓oKK_some, ↓oK_some, ↓tX_bool, ↓iX_t, ↓iX_f, ↓iX_d, ↓q_add, ↓q_sub, ↓q_mul, ↓q_div, ↓q_mod, ↓q_pow, ↓q_list, ↓q_eq, ↓q_ne, ↓q_eqs, ↓q_nes, ↓q_eqb, ↓q_lt, ↓q_le, ↓q_gt, ↓q_ge, ↓q_in, ↓q_inl, ↓q_nin, ↓q_is, ↓q_isnot, ↓q_stup, ↓q_sref, ↓q_sscr, ↓q_fn, ↓q_lentup, ↓q_lenref, ↓q_lenscr, ↓q_isi, ↓q_all, ↓q_max, ↓q_min, ↓q_int, ↓q_tuple, ↓q_listc, ↓q_append, ↓q_clear, ↓q_index, ↓u_tup, ↓u_ref, ↓u_range, ↓q_slice, ↓oi_none, ↓oi_int, ↓X_slice, ↓XO_none, ↓XO_some, ↓u_rev, ↓u_range2, ↓retV_ret, ↓retV_next, List.getElem?_cons_zero, List.getElem?_cons_succ, List.set_cons_zero, List.set_cons_succ, Bool.not_true, Bool.not_false, idx_0, idx_1, idx_2, idx_3, idx_4, idx_5, Int.reduceAdd, Int.reduceSub, Int.reduceMul, Int.reduceNeg, Int.reducePow, Int.reduceLT, Int.reduceLE, Int.reduceEq, Int.reduceNe, Int.reduceToNat, Int.reduceAbs, Nat.reduceAdd, Nat.reduceLT, Nat.reduceLeDiff, Nat.reducePow, Nat.reduceLT, List.length_cons, List.length_nil, true_implies, false_implies, not_true_eq_false, not_false_eq_true, and_true, true_and, and_self, or_true, true_or, decide_true, decide_false, exists_eq_left', Option.some.injEq, ↓P6_bp]
      exact ⟨r', x, rfl, hp', hok', by rw [← e']; exact q⟩
    · intro c r' e'
      simp only [↓X_lit, ↓X_loc, ↓X_bin, ↓negX_int, ↓X_neg, ↓X_not, ↓Y_not, ↓X_and, ↓Y_and, ↓X_or, ↓Y_or, ↓X_cmp, ↓X_cmp2, ↓X_ite, ↓Y_ite, ↓X_tup, ↓X_lst, ↓X_call, ↓X_meth, ↓X_sub, ↓X_comp, ↓Y_lit, ↓Y_loc, ↓Y_cmp, ↓Y_cmp2, ↓Y_call, ↓Y_sub, ↓XEs_nil, ↓XEs_cons, ↓XIfs_nil, ↓XIfs_cons, ↓Z_expr, ↓Z_assign, ↓Z_ret, ↓Z_retNone, ↓Z_ite, ↓Z_for, ↓Z_pass, ↓Z_brk, ↓Z_cont, ↓Zs_nil, ↓sqX_next, ↓sqX_brk, ↓sqX_cont, ↓sqX_ret, ↓Zs_cons, ↓wkX_next, ↓wkX_cont, ↓wkX_brk, ↓wkX_ret, ↓fkX_next, ↓fkX_cont, ↓fkX_brk, ↓fkX_ret, ↓xb_one, ↓oKK_some, ↓oK_some, ↓tX_bool, ↓iX_t, ↓iX_f, ↓iX_d, ↓q_add, ↓q_sub, ↓q_mul, ↓q_div, ↓q_mod, ↓q_pow, ↓q_list, ↓q_eq, ↓q_ne, ↓q_eqs, ↓q_nes, ↓q_eqb, ↓q_lt, ↓q_le, ↓q_gt, ↓q_ge, ↓q_in, ↓q_inl, ↓q_nin, ↓q_is, ↓q_isnot, ↓q_stup, ↓q_sref, ↓q_sscr, ↓q_fn, ↓q_lentup, ↓q_lenref, ↓q_lenscr, ↓q_isi, ↓q_all, ↓q_max, ↓q_min, ↓q_int, ↓q_tuple, ↓q_listc, ↓q_append, ↓q_clear, ↓q_index, ↓u_tup, ↓u_ref, ↓u_range, ↓q_slice, ↓oi_none, ↓oi_int, ↓X_slice, ↓XO_none, ↓XO_some, ↓u_rev, ↓u_range2, ↓retV_ret, ↓retV_next, List.getElem?_cons_zero, List.getElem?_cons_succ, List.set_cons_zero, List.set_cons_succ, Bool.not_true, Bool.not_false, idx_0, idx_1, idx_2, idx_3, idx_4, idx_5, Int.reduceAdd, Int.reduceSub, Int.reduceMul, Int.reduceNeg, Int.reducePow, Int.reduceLT, Int.reduceLE, Int.reduceEq, Int.reduceNe, Int.reduceToNat, Int.reduceAbs, Nat.reduceAdd, Nat.reduceLT, Nat.reduceLeDiff, Nat.reducePow, Nat.reduceLT, List.length_cons, List.length_nil, true_implies, false_implies, not_true_eq_false, not_false_eq_true, and_true, true_and, and_self, or_true, true_or, decide_true, decide_false, exists_eq_left', Option.some.injEq]
      rw [← e']; exact q
noncomputable def Φ7 : Orc := ext "begins" C_begins Φ6
end Mine

set_option autoImplicit false
set_option linter.unusedSimpArgs false
/- The law's own defs. -/
namespace Mine
open PySem

noncomputable def cell (ns : List Int) (k : Int) : Int := ns.getD k.toNat 0
noncomputable def C_cell_at : Ctr := fun vs H Q _ => ∃ ns k, vs = [.scr ns, .int k] ∧ 0 ≤ k ∧ Q (.int (cell ns k)) H
theorem cc_cell {ns : List Int} {k : Int} {H : Hp} {Q : V → Hp → Prop} {X : XL} : C_cell_at [.scr ns, .int k] H Q X = (0 ≤ k ∧ Q (.int (cell ns k)) H) := by
  refine propext ⟨?_, fun ⟨a, b⟩ => ⟨ns, k, rfl, a, b⟩⟩
  rintro ⟨ns', k', e, a, b⟩
  cases e
  exact ⟨a, b⟩
theorem w_cell_at : ∀ vs H Q X, C_cell_at vs H Q X → wpFn Φ7 f_l_cell_at vs H Q X := by
  rintro vs H Q X ⟨ns, k, rfl, h0, q⟩
  refine fn_of rfl ?_
  simp only [f_l_cell_at, initL, List.map_cons, List.map_nil, List.replicate, List.cons_append, List.nil_append, ↓X_lit, ↓X_loc, ↓X_bin, ↓negX_int, ↓X_neg, ↓X_not, ↓Y_not, ↓X_and, ↓Y_and, ↓X_or, ↓Y_or, ↓X_cmp, ↓X_cmp2, ↓X_ite, ↓Y_ite, ↓X_tup, ↓X_lst, ↓X_call, ↓X_meth, ↓X_sub, ↓X_comp, ↓Y_lit, ↓Y_loc, ↓Y_cmp, ↓Y_cmp2, ↓Y_call, ↓Y_sub, ↓XEs_nil, ↓XEs_cons, ↓XIfs_nil, ↓XIfs_cons, ↓Z_expr, ↓Z_assign, ↓Z_ret, ↓Z_retNone, ↓Z_ite, ↓Z_for, ↓Z_pass, ↓Z_brk, ↓Z_cont, ↓Zs_nil, ↓sqX_next, ↓sqX_brk, ↓sqX_cont, ↓sqX_ret, ↓Zs_cons, ↓wkX_next, ↓wkX_cont, ↓wkX_brk, ↓wkX_ret, ↓fkX_next, ↓fkX_cont, ↓fkX_brk, ↓fkX_ret, ↓xb_one, ↓oKK_some, ↓oK_some, ↓tX_bool, ↓iX_t, ↓iX_f, ↓iX_d, ↓q_add, ↓q_sub, ↓q_mul, ↓q_div, ↓q_mod, ↓q_pow, ↓q_list, ↓q_eq, ↓q_ne, ↓q_eqs, ↓q_nes, ↓q_eqb, ↓q_lt, ↓q_le, ↓q_gt, ↓q_ge, ↓q_in, ↓q_inl, ↓q_nin, ↓q_is, ↓q_isnot, ↓q_stup, ↓q_sref, ↓q_sscr, ↓q_fn, ↓q_lentup, ↓q_lenref, ↓q_lenscr, ↓q_isi, ↓q_all, ↓q_max, ↓q_min, ↓q_int, ↓q_tuple, ↓q_listc, ↓q_append, ↓q_clear, ↓q_index, ↓u_tup, ↓u_ref, ↓u_range, ↓q_slice, ↓oi_none, ↓oi_int, ↓X_slice, ↓XO_none, ↓XO_some, ↓u_rev, ↓u_range2, ↓retV_ret, ↓retV_next, List.getElem?_cons_zero, List.getElem?_cons_succ, List.set_cons_zero, List.set_cons_succ, Bool.not_true, Bool.not_false, idx_0, idx_1, idx_2, idx_3, idx_4, idx_5, Int.reduceAdd, Int.reduceSub, Int.reduceMul, Int.reduceNeg, Int.reducePow, Int.reduceLT, Int.reduceLE, Int.reduceEq, Int.reduceNe, Int.reduceToNat, Int.reduceAbs, Nat.reduceAdd, Nat.reduceLT, Nat.reduceLeDiff, Nat.reducePow, Nat.reduceLT, List.length_cons, List.length_nil, true_implies, false_implies, not_true_eq_false, not_false_eq_true, and_true, true_and, and_self, or_true, true_or, decide_true, decide_false, exists_eq_left', Option.some.injEq]
  refine ⟨fun h => ?_, fun h => ?_⟩
  · have hl : k.toNat < ns.length := by omega
    have e : idx ns k = some (cell ns k) := by simp [idx, h0, cell, hl]
    rw [e]; exact q
  · have hl : ¬ k.toNat < ns.length := by omega
    simpa [cell, hl] using q
noncomputable def Φ8 : Orc := ext "_law_cell_at" C_cell_at Φ7

noncomputable def C_whole : Ctr := fun vs H Q _ => ∃ x : Int, vs = [.int x] ∧ Q (.bool true) H
theorem isi_int_int {H : Hp} {x : Int} : isInstH H (.int x) .int = some true := rfl
theorem isi_int_bool {H : Hp} {x : Int} : isInstH H (.int x) .bool = some false := rfl
theorem isi_bool_bool {H : Hp} {x : Bool} : isInstH H (.bool x) .bool = some true := rfl
theorem w_whole : ∀ vs H Q X, C_whole vs H Q X → wpFn Φ8 f_l_whole vs H Q X := by
  rintro vs H Q X ⟨x, rfl, q⟩
  refine fn_of rfl ?_
  simp only [f_l_whole, initL, List.map_cons, List.map_nil, List.replicate, List.cons_append, List.nil_append, ↓X_lit, ↓X_loc, ↓X_bin, ↓negX_int, ↓X_neg, ↓X_not, ↓Y_not, ↓X_and, ↓Y_and, ↓X_or, ↓Y_or, ↓X_cmp, ↓X_cmp2, ↓X_ite, ↓Y_ite, ↓X_tup, ↓X_lst, ↓X_call, ↓X_meth, ↓X_sub, ↓X_comp, ↓Y_lit, ↓Y_loc, ↓Y_cmp, ↓Y_cmp2, ↓Y_call, ↓Y_sub, ↓XEs_nil, ↓XEs_cons, ↓XIfs_nil, ↓XIfs_cons, ↓Z_expr, ↓Z_assign, ↓Z_ret, ↓Z_retNone, ↓Z_ite, ↓Z_for, ↓Z_pass, ↓Z_brk, ↓Z_cont, ↓Zs_nil, ↓sqX_next, ↓sqX_brk, ↓sqX_cont, ↓sqX_ret, ↓Zs_cons, ↓wkX_next, ↓wkX_cont, ↓wkX_brk, ↓wkX_ret, ↓fkX_next, ↓fkX_cont, ↓fkX_brk, ↓fkX_ret, ↓xb_one, ↓oKK_some, ↓oK_some, ↓tX_bool, ↓iX_t, ↓iX_f, ↓iX_d, ↓q_add, ↓q_sub, ↓q_mul, ↓q_div, ↓q_mod, ↓q_pow, ↓q_list, ↓q_eq, ↓q_ne, ↓q_eqs, ↓q_nes, ↓q_eqb, ↓q_lt, ↓q_le, ↓q_gt, ↓q_ge, ↓q_in, ↓q_inl, ↓q_nin, ↓q_is, ↓q_isnot, ↓q_stup, ↓q_sref, ↓q_sscr, ↓q_fn, ↓q_lentup, ↓q_lenref, ↓q_lenscr, ↓q_isi, ↓q_all, ↓q_max, ↓q_min, ↓q_int, ↓q_tuple, ↓q_listc, ↓q_append, ↓q_clear, ↓q_index, ↓u_tup, ↓u_ref, ↓u_range, ↓q_slice, ↓oi_none, ↓oi_int, ↓X_slice, ↓XO_none, ↓XO_some, ↓u_rev, ↓u_range2, ↓retV_ret, ↓retV_next, List.getElem?_cons_zero, List.getElem?_cons_succ, List.set_cons_zero, List.set_cons_succ, Bool.not_true, Bool.not_false, idx_0, idx_1, idx_2, idx_3, idx_4, idx_5, Int.reduceAdd, Int.reduceSub, Int.reduceMul, Int.reduceNeg, Int.reducePow, Int.reduceLT, Int.reduceLE, Int.reduceEq, Int.reduceNe, Int.reduceToNat, Int.reduceAbs, Nat.reduceAdd, Nat.reduceLT, Nat.reduceLeDiff, Nat.reducePow, Nat.reduceLT, List.length_cons, List.length_nil, true_implies, false_implies, not_true_eq_false, not_false_eq_true, and_true, true_and, and_self, or_true, true_or, decide_true, decide_false, exists_eq_left', Option.some.injEq, isi_int_int, isi_int_bool]
  exact q
noncomputable def Φ9 : Orc := ext "_law_whole" C_whole Φ8

noncomputable def C_days : Ctr := fun vs H Q _ => ∃ y m : Int, vs = [.int y, .int m] ∧ 1 ≤ m ∧ m ≤ 12 ∧ ∀ H', H <+: H' → Q (.int (mlen (decide (y % 4 = 0)) m)) H'
theorem w_days : ∀ vs H Q X, C_days vs H Q X → wpFn Φ9 f_l_days vs H Q X := by
  rintro vs H Q X ⟨y, m, rfl, h1, h2, q⟩
  refine fn_of rfl ?_
  simp only [f_l_days, initL, List.map_cons, List.map_nil, List.replicate, List.cons_append, List.nil_append, ↓X_lit, ↓X_loc, ↓X_bin, ↓negX_int, ↓X_neg, ↓X_not, ↓Y_not, ↓X_and, ↓Y_and, ↓X_or, ↓Y_or, ↓X_cmp, ↓X_cmp2, ↓X_ite, ↓Y_ite, ↓X_tup, ↓X_lst, ↓X_call, ↓X_meth, ↓X_sub, ↓X_comp, ↓Y_lit, ↓Y_loc, ↓Y_cmp, ↓Y_cmp2, ↓Y_call, ↓Y_sub, ↓XEs_nil, ↓XEs_cons, ↓XIfs_nil, ↓XIfs_cons, ↓Z_expr, ↓Z_assign, ↓Z_ret, ↓Z_retNone, ↓Z_ite, ↓Z_for, ↓Z_pass, ↓Z_brk, ↓Z_cont, ↓Zs_nil, ↓sqX_next, ↓sqX_brk, ↓sqX_cont, ↓sqX_ret, ↓Zs_cons, ↓wkX_next, ↓wkX_cont, ↓wkX_brk, ↓wkX_ret, ↓fkX_next, ↓fkX_cont, ↓fkX_brk, ↓fkX_ret, ↓xb_one, ↓oKK_some, ↓oK_some, ↓tX_bool, ↓iX_t, ↓iX_f, ↓iX_d, ↓q_add, ↓q_sub, ↓q_mul, ↓q_div, ↓q_mod, ↓q_pow, ↓q_list, ↓q_eq, ↓q_ne, ↓q_eqs, ↓q_nes, ↓q_eqb, ↓q_lt, ↓q_le, ↓q_gt, ↓q_ge, ↓q_in, ↓q_inl, ↓q_nin, ↓q_is, ↓q_isnot, ↓q_stup, ↓q_sref, ↓q_sscr, ↓q_fn, ↓q_lentup, ↓q_lenref, ↓q_lenscr, ↓q_isi, ↓q_all, ↓q_max, ↓q_min, ↓q_int, ↓q_tuple, ↓q_listc, ↓q_append, ↓q_clear, ↓q_index, ↓u_tup, ↓u_ref, ↓u_range, ↓q_slice, ↓oi_none, ↓oi_int, ↓X_slice, ↓XO_none, ↓XO_some, ↓u_rev, ↓u_range2, ↓retV_ret, ↓retV_next, List.getElem?_cons_zero, List.getElem?_cons_succ, List.set_cons_zero, List.set_cons_succ, Bool.not_true, Bool.not_false, idx_0, idx_1, idx_2, idx_3, idx_4, idx_5, Int.reduceAdd, Int.reduceSub, Int.reduceMul, Int.reduceNeg, Int.reducePow, Int.reduceLT, Int.reduceLE, Int.reduceEq, Int.reduceNe, Int.reduceToNat, Int.reduceAbs, Nat.reduceAdd, Nat.reduceLT, Nat.reduceLeDiff, Nat.reducePow, Nat.reduceLT, List.length_cons, List.length_nil, true_implies, false_implies, not_true_eq_false, not_false_eq_true, and_true, true_and, and_self, or_true, true_or, decide_true, decide_false, exists_eq_left', Option.some.injEq, listAt_new, months_at h1 h2]
  have q := q (H ++ [.list [.int 31, .int 28, .int 31, .int 30, .int 31, .int 30, .int 31, .int 31, .int 30, .int 31, .int 30, .int 31]]) pre_new
  refine ⟨fun h => ?_, fun h => ?_⟩
  · subst h
    by_cases hy : y % 4 = 0
    · simpa [mlen, hy] using q
    · simpa [mlen, hy] using q
  · simpa [mlen, h] using q
noncomputable def Φa : Orc := ext "_law_days" C_days Φ9
theorem Pa_ds : Φa "_law_days" = C_days := rfl

noncomputable def C_in_month : Ctr := fun vs H Q _ => ∃ d : Int, vs = [.int d] ∧ ∀ H', H <+: H' → Q (.ref H'.length) (H' ++ [.list [.int (dDay d), .int (dDay d - mLen d - 1)]])
theorem im_loop {XF : XS} {d : Int} {t4 t5 t6 : Option V} {Q : QS} : ∀ (n : Nat) (r y m : Int) (H : Hp), 1 ≤ m → m ≤ 12 →
    (imGo n r y m).1 < mlen (decide ((imGo n r y m).2.1 % 4 = 0)) (imGo n r y m).2.2 →
    (∀ H', H <+: H' → Q .next [some (V.int d), some (.int (imGo n r y m).1), some (.int (imGo n r y m).2.1), some (.int (imGo n r y m).2.2), t4, t5, t6] H') →
    whileGo (whTX Φa (.cmp (.loc 1) .GtE (.call (.fn "_law_days") [(.loc 2), (.loc 3)])) XF)
      (whBX Φa [(.assign 1 (.bin .Sub (.loc 1) (.call (.fn "_law_days") [(.loc 2), (.loc 3)]))), (.assign 2 (.bin .Add (.loc 2) (.bin .FloorDiv (.loc 3) (.lit (.int 12))))), (.assign 3 (.bin .Add (.bin .Mod (.loc 3) (.lit (.int 12))) (.lit (.int 1))))] XF)
      (n + 1) [some (V.int d), some (.int r), some (.int y), some (.int m), t4, t5, t6] H Q := by
  intro n
  induction n with
  | zero =>
    intro r y m H h1 h2 h3 q
    simp only [↓X_lit, ↓X_loc, ↓X_bin, ↓negX_int, ↓X_neg, ↓X_not, ↓Y_not, ↓X_and, ↓Y_and, ↓X_or, ↓Y_or, ↓X_cmp, ↓X_cmp2, ↓X_ite, ↓Y_ite, ↓X_tup, ↓X_lst, ↓X_call, ↓X_meth, ↓X_sub, ↓X_comp, ↓Y_lit, ↓Y_loc, ↓Y_cmp, ↓Y_cmp2, ↓Y_call, ↓Y_sub, ↓XEs_nil, ↓XEs_cons, ↓XIfs_nil, ↓XIfs_cons, ↓Z_expr, ↓Z_assign, ↓Z_ret, ↓Z_retNone, ↓Z_ite, ↓Z_for, ↓Z_pass, ↓Z_brk, ↓Z_cont, ↓Zs_nil, ↓sqX_next, ↓sqX_brk, ↓sqX_cont, ↓sqX_ret, ↓Zs_cons, ↓wkX_next, ↓wkX_cont, ↓wkX_brk, ↓wkX_ret, ↓fkX_next, ↓fkX_cont, ↓fkX_brk, ↓fkX_ret, ↓xb_one, ↓oKK_some, ↓oK_some, ↓tX_bool, ↓iX_t, ↓iX_f, ↓iX_d, ↓q_add, ↓q_sub, ↓q_mul, ↓q_div, ↓q_mod, ↓q_pow, ↓q_list, ↓q_eq, ↓q_ne, ↓q_eqs, ↓q_nes, ↓q_eqb, ↓q_lt, ↓q_le, ↓q_gt, ↓q_ge, ↓q_in, ↓q_inl, ↓q_nin, ↓q_is, ↓q_isnot, ↓q_stup, ↓q_sref, ↓q_sscr, ↓q_fn, ↓q_lentup, ↓q_lenref, ↓q_lenscr, ↓q_isi, ↓q_all, ↓q_max, ↓q_min, ↓q_int, ↓q_tuple, ↓q_listc, ↓q_append, ↓q_clear, ↓q_index, ↓u_tup, ↓u_ref, ↓u_range, ↓q_slice, ↓oi_none, ↓oi_int, ↓X_slice, ↓XO_none, ↓XO_some, ↓u_rev, ↓u_range2, ↓retV_ret, ↓retV_next, List.getElem?_cons_zero, List.getElem?_cons_succ, List.set_cons_zero, List.set_cons_succ, Bool.not_true, Bool.not_false, idx_0, idx_1, idx_2, idx_3, idx_4, idx_5, Int.reduceAdd, Int.reduceSub, Int.reduceMul, Int.reduceNeg, Int.reducePow, Int.reduceLT, Int.reduceLE, Int.reduceEq, Int.reduceNe, Int.reduceToNat, Int.reduceAbs, Nat.reduceAdd, Nat.reduceLT, Nat.reduceLeDiff, Nat.reducePow, Nat.reduceLT, List.length_cons, List.length_nil, true_implies, false_implies, not_true_eq_false, not_false_eq_true, and_true, true_and, and_self, or_true, true_or, decide_true, decide_false, exists_eq_left', Option.some.injEq, ↓whX_s, ↓Pa_ds, C_days]
    refine ⟨y, m, rfl, h1, h2, fun H' hp => ?_⟩
    exact ⟨fun h => absurd h (Int.not_le.mpr h3), fun _ => q _ hp⟩
  | succ n ih =>
    intro r y m H h1 h2 h3 q
    rw [whX_s]
    simp only [↓X_lit, ↓X_loc, ↓X_bin, ↓negX_int, ↓X_neg, ↓X_not, ↓Y_not, ↓X_and, ↓Y_and, ↓X_or, ↓Y_or, ↓X_cmp, ↓X_cmp2, ↓X_ite, ↓Y_ite, ↓X_tup, ↓X_lst, ↓X_call, ↓X_meth, ↓X_sub, ↓X_comp, ↓Y_lit, ↓Y_loc, ↓Y_cmp, ↓Y_cmp2, ↓Y_call, ↓Y_sub, ↓XEs_nil, ↓XEs_cons, ↓XIfs_nil, ↓XIfs_cons, ↓Z_expr, ↓Z_assign, ↓Z_ret, ↓Z_retNone, ↓Z_ite, ↓Z_for, ↓Z_pass, ↓Z_brk, ↓Z_cont, ↓Zs_nil, ↓sqX_next, ↓sqX_brk, ↓sqX_cont, ↓sqX_ret, ↓Zs_cons, ↓wkX_next, ↓wkX_cont, ↓wkX_brk, ↓wkX_ret, ↓fkX_next, ↓fkX_cont, ↓fkX_brk, ↓fkX_ret, ↓xb_one, ↓oKK_some, ↓oK_some, ↓tX_bool, ↓iX_t, ↓iX_f, ↓iX_d, ↓q_add, ↓q_sub, ↓q_mul, ↓q_div, ↓q_mod, ↓q_pow, ↓q_list, ↓q_eq, ↓q_ne, ↓q_eqs, ↓q_nes, ↓q_eqb, ↓q_lt, ↓q_le, ↓q_gt, ↓q_ge, ↓q_in, ↓q_inl, ↓q_nin, ↓q_is, ↓q_isnot, ↓q_stup, ↓q_sref, ↓q_sscr, ↓q_fn, ↓q_lentup, ↓q_lenref, ↓q_lenscr, ↓q_isi, ↓q_all, ↓q_max, ↓q_min, ↓q_int, ↓q_tuple, ↓q_listc, ↓q_append, ↓q_clear, ↓q_index, ↓u_tup, ↓u_ref, ↓u_range, ↓q_slice, ↓oi_none, ↓oi_int, ↓X_slice, ↓XO_none, ↓XO_some, ↓u_rev, ↓u_range2, ↓retV_ret, ↓retV_next, List.getElem?_cons_zero, List.getElem?_cons_succ, List.set_cons_zero, List.set_cons_succ, Bool.not_true, Bool.not_false, idx_0, idx_1, idx_2, idx_3, idx_4, idx_5, Int.reduceAdd, Int.reduceSub, Int.reduceMul, Int.reduceNeg, Int.reducePow, Int.reduceLT, Int.reduceLE, Int.reduceEq, Int.reduceNe, Int.reduceToNat, Int.reduceAbs, Nat.reduceAdd, Nat.reduceLT, Nat.reduceLeDiff, Nat.reducePow, Nat.reduceLT, List.length_cons, List.length_nil, true_implies, false_implies, not_true_eq_false, not_false_eq_true, and_true, true_and, and_self, or_true, true_or, decide_true, decide_false, exists_eq_left', Option.some.injEq, ↓Pa_ds, C_days]
    refine ⟨y, m, rfl, h1, h2, fun H' hp => ⟨fun h => ⟨y, m, rfl, h1, h2, fun H2 hp2 => ?_⟩, fun h => ?_⟩⟩
    · have e : imGo (n + 1) r y m = imGo n (r - mlen (decide (y % 4 = 0)) m) (y + m / 12) (m % 12 + 1) := by simp only [imGo]; rw [if_pos h]
      rw [e] at h3 q
      exact ih _ _ _ _ (by omega) (by omega) h3 (fun H3 hp3 => q _ (hp.trans (hp2.trans hp3)))
    · have e : imGo (n + 1) r y m = (r, y, m) := by simp only [imGo]; rw [if_neg h]
      rw [e] at q
      exact q _ hp
theorem w_in_month : ∀ vs H Q X, C_in_month vs H Q X → wpFn Φa f_l_in_month vs H Q X := by
  rintro vs H Q X ⟨d, rfl, q⟩
  refine fn_of rfl ?_
  simp only [f_l_in_month, initL, List.map_cons, List.map_nil, List.replicate, List.cons_append, List.nil_append, ↓X_lit, ↓X_loc, ↓X_bin, ↓negX_int, ↓X_neg, ↓X_not, ↓Y_not, ↓X_and, ↓Y_and, ↓X_or, ↓Y_or, ↓X_cmp, ↓X_cmp2, ↓X_ite, ↓Y_ite, ↓X_tup, ↓X_lst, ↓X_call, ↓X_meth, ↓X_sub, ↓X_comp, ↓Y_lit, ↓Y_loc, ↓Y_cmp, ↓Y_cmp2, ↓Y_call, ↓Y_sub, ↓XEs_nil, ↓XEs_cons, ↓XIfs_nil, ↓XIfs_cons, ↓Z_expr, ↓Z_assign, ↓Z_ret, ↓Z_retNone, ↓Z_ite, ↓Z_for, ↓Z_pass, ↓Z_brk, ↓Z_cont, ↓Zs_nil, ↓sqX_next, ↓sqX_brk, ↓sqX_cont, ↓sqX_ret, ↓Zs_cons, ↓wkX_next, ↓wkX_cont, ↓wkX_brk, ↓wkX_ret, ↓fkX_next, ↓fkX_cont, ↓fkX_brk, ↓fkX_ret, ↓xb_one, ↓oKK_some, ↓oK_some, ↓tX_bool, ↓iX_t, ↓iX_f, ↓iX_d, ↓q_add, ↓q_sub, ↓q_mul, ↓q_div, ↓q_mod, ↓q_pow, ↓q_list, ↓q_eq, ↓q_ne, ↓q_eqs, ↓q_nes, ↓q_eqb, ↓q_lt, ↓q_le, ↓q_gt, ↓q_ge, ↓q_in, ↓q_inl, ↓q_nin, ↓q_is, ↓q_isnot, ↓q_stup, ↓q_sref, ↓q_sscr, ↓q_fn, ↓q_lentup, ↓q_lenref, ↓q_lenscr, ↓q_isi, ↓q_all, ↓q_max, ↓q_min, ↓q_int, ↓q_tuple, ↓q_listc, ↓q_append, ↓q_clear, ↓q_index, ↓u_tup, ↓u_ref, ↓u_range, ↓q_slice, ↓oi_none, ↓oi_int, ↓X_slice, ↓XO_none, ↓XO_some, ↓u_rev, ↓u_range2, ↓retV_ret, ↓retV_next, List.getElem?_cons_zero, List.getElem?_cons_succ, List.set_cons_zero, List.set_cons_succ, Bool.not_true, Bool.not_false, idx_0, idx_1, idx_2, idx_3, idx_4, idx_5, Int.reduceAdd, Int.reduceSub, Int.reduceMul, Int.reduceNeg, Int.reducePow, Int.reduceLT, Int.reduceLE, Int.reduceEq, Int.reduceNe, Int.reduceToNat, Int.reduceAbs, Nat.reduceAdd, Nat.reduceLT, Nat.reduceLeDiff, Nat.reducePow, Nat.reduceLT, List.length_cons, List.length_nil, true_implies, false_implies, not_true_eq_false, not_false_eq_true, and_true, true_and, and_self, or_true, true_or, decide_true, decide_false, exists_eq_left', Option.some.injEq]
  rw [Z_while]
  obtain ⟨a, b, c, e, f⟩ := dMon_at d
  have hl : decide (yearAt (d % 1461) % 4 = 0) = decide (yearAt (d % 1461) = 0) := by
    unfold yearAt; rw [Bool.eq_iff_iff]; simp only [decide_eq_true_eq]
    split
    · omega
    · split
      · omega
      · split <;> omega
  refine ⟨48, im_loop 47 _ 0 1 H (by omega) (by omega) ?_ ?_⟩
  · rw [f]; simp only; rw [hl]; exact b
  · rw [f]
    intro H' hp
    simp only [↓X_lit, ↓X_loc, ↓X_bin, ↓negX_int, ↓X_neg, ↓X_not, ↓Y_not, ↓X_and, ↓Y_and, ↓X_or, ↓Y_or, ↓X_cmp, ↓X_cmp2, ↓X_ite, ↓Y_ite, ↓X_tup, ↓X_lst, ↓X_call, ↓X_meth, ↓X_sub, ↓X_comp, ↓Y_lit, ↓Y_loc, ↓Y_cmp, ↓Y_cmp2, ↓Y_call, ↓Y_sub, ↓XEs_nil, ↓XEs_cons, ↓XIfs_nil, ↓XIfs_cons, ↓Z_expr, ↓Z_assign, ↓Z_ret, ↓Z_retNone, ↓Z_ite, ↓Z_for, ↓Z_pass, ↓Z_brk, ↓Z_cont, ↓Zs_nil, ↓sqX_next, ↓sqX_brk, ↓sqX_cont, ↓sqX_ret, ↓Zs_cons, ↓wkX_next, ↓wkX_cont, ↓wkX_brk, ↓wkX_ret, ↓fkX_next, ↓fkX_cont, ↓fkX_brk, ↓fkX_ret, ↓xb_one, ↓oKK_some, ↓oK_some, ↓tX_bool, ↓iX_t, ↓iX_f, ↓iX_d, ↓q_add, ↓q_sub, ↓q_mul, ↓q_div, ↓q_mod, ↓q_pow, ↓q_list, ↓q_eq, ↓q_ne, ↓q_eqs, ↓q_nes, ↓q_eqb, ↓q_lt, ↓q_le, ↓q_gt, ↓q_ge, ↓q_in, ↓q_inl, ↓q_nin, ↓q_is, ↓q_isnot, ↓q_stup, ↓q_sref, ↓q_sscr, ↓q_fn, ↓q_lentup, ↓q_lenref, ↓q_lenscr, ↓q_isi, ↓q_all, ↓q_max, ↓q_min, ↓q_int, ↓q_tuple, ↓q_listc, ↓q_append, ↓q_clear, ↓q_index, ↓u_tup, ↓u_ref, ↓u_range, ↓q_slice, ↓oi_none, ↓oi_int, ↓X_slice, ↓XO_none, ↓XO_some, ↓u_rev, ↓u_range2, ↓retV_ret, ↓retV_next, List.getElem?_cons_zero, List.getElem?_cons_succ, List.set_cons_zero, List.set_cons_succ, Bool.not_true, Bool.not_false, idx_0, idx_1, idx_2, idx_3, idx_4, idx_5, Int.reduceAdd, Int.reduceSub, Int.reduceMul, Int.reduceNeg, Int.reducePow, Int.reduceLT, Int.reduceLE, Int.reduceEq, Int.reduceNe, Int.reduceToNat, Int.reduceAbs, Nat.reduceAdd, Nat.reduceLT, Nat.reduceLeDiff, Nat.reducePow, Nat.reduceLT, List.length_cons, List.length_nil, true_implies, false_implies, not_true_eq_false, not_false_eq_true, and_true, true_and, and_self, or_true, true_or, decide_true, decide_false, exists_eq_left', Option.some.injEq, ↓Pa_ds, C_days]
    refine ⟨_, _, rfl, c, e, fun H2 hp2 => ?_⟩
    have := q H2 (hp.trans hp2)
    rw [hl]
    have e1 : dDay d - mLen d - 1 = (dMon (d % 1461)).1 - mlen (decide (yearAt (d % 1461) = 0)) (dMon (d % 1461)).2 := by
      unfold dDay mLen dMonth; omega
    rw [e1] at this
    exact this
noncomputable def Φb : Orc := ext "_law_in_month" C_in_month Φa
theorem Pb_im : Φb "_law_in_month" = C_in_month := rfl

noncomputable def lpb : Rl → Int → Bool
  | .once h _, x => decide (x = h)
  | .every h _ p, x => decide (h ≤ x) && decide ((x - h) % p = 0)
  | .week ds t _, x => !(decide (x < 0) || decide (x % 24 ≠ t)) && ds.contains (x / 24 % 7)
  | .month d t _, x => !(decide (x < 0) || decide (x % 24 ≠ t)) && [dDay (x / 24), dDay (x / 24) - mLen (x / 24) - 1].contains d
  | _, _ => false
noncomputable def C_plain_begins : Ctr := fun vs H Q _ => ∃ r x, vs = [rv r, .int x] ∧ r.plain = true ∧ r.ok ∧ ∀ H', H <+: H' → Q (.bool (lpb r x)) H'
theorem w_plain_begins : ∀ vs H Q X, C_plain_begins vs H Q X → wpFn Φb f_l_plain_begins vs H Q X := by
  rintro vs H Q X ⟨r, x, rfl, hp, hok, q⟩
  refine fn_of rfl ?_
  have q0 := q H (List.prefix_refl _)
  cases r with
  | once h s =>
    change wpSs Φb f_l_plain_begins.body [some (V.tup [.str "once", .int h, .int s]), some (.int x), none, none, none] H _ _
    refine zs_cons (iw_eq sw_once_once ?_)
    exact q0
  | every h s p =>
    change wpSs Φb f_l_plain_begins.body [some (V.tup [.str "every", .int h, .int s, .int p]), some (.int x), none, none, none] H _ _
    refine zs_cons (iw_ne sw_every_once (zs_cons (iw_eq sw_every_every ?_)))
    generalize hK : sqX Φb (_ :: _) = K
    simp only [↓X_lit, ↓X_loc, ↓X_bin, ↓negX_int, ↓X_neg, ↓X_not, ↓Y_not, ↓X_and, ↓Y_and, ↓X_or, ↓Y_or, ↓X_cmp, ↓X_cmp2, ↓X_ite, ↓Y_ite, ↓X_tup, ↓X_lst, ↓X_call, ↓X_meth, ↓X_sub, ↓X_comp, ↓Y_lit, ↓Y_loc, ↓Y_cmp, ↓Y_cmp2, ↓Y_call, ↓Y_sub, ↓XEs_nil, ↓XEs_cons, ↓XIfs_nil, ↓XIfs_cons, ↓Z_expr, ↓Z_assign, ↓Z_ret, ↓Z_retNone, ↓Z_ite, ↓Z_for, ↓Z_pass, ↓Z_brk, ↓Z_cont, ↓Zs_nil, ↓sqX_next, ↓sqX_brk, ↓sqX_cont, ↓sqX_ret, ↓Zs_cons, ↓wkX_next, ↓wkX_cont, ↓wkX_brk, ↓wkX_ret, ↓fkX_next, ↓fkX_cont, ↓fkX_brk, ↓fkX_ret, ↓xb_one, ↓oKK_some, ↓oK_some, ↓tX_bool, ↓iX_t, ↓iX_f, ↓iX_d, ↓q_add, ↓q_sub, ↓q_mul, ↓q_div, ↓q_mod, ↓q_pow, ↓q_list, ↓q_eq, ↓q_ne, ↓q_eqs, ↓q_nes, ↓q_eqb, ↓q_lt, ↓q_le, ↓q_gt, ↓q_ge, ↓q_in, ↓q_inl, ↓q_nin, ↓q_is, ↓q_isnot, ↓q_stup, ↓q_sref, ↓q_sscr, ↓q_fn, ↓q_lentup, ↓q_lenref, ↓q_lenscr, ↓q_isi, ↓q_all, ↓q_max, ↓q_min, ↓q_int, ↓q_tuple, ↓q_listc, ↓q_append, ↓q_clear, ↓q_index, ↓u_tup, ↓u_ref, ↓u_range, ↓q_slice, ↓oi_none, ↓oi_int, ↓X_slice, ↓XO_none, ↓XO_some, ↓u_rev, ↓u_range2, ↓retV_ret, ↓retV_next, List.getElem?_cons_zero, List.getElem?_cons_succ, List.set_cons_zero, List.set_cons_succ, Bool.not_true, Bool.not_false, idx_0, idx_1, idx_2, idx_3, idx_4, idx_5, Int.reduceAdd, Int.reduceSub, Int.reduceMul, Int.reduceNeg, Int.reducePow, Int.reduceLT, Int.reduceLE, Int.reduceEq, Int.reduceNe, Int.reduceToNat, Int.reduceAbs, Nat.reduceAdd, Nat.reduceLT, Nat.reduceLeDiff, Nat.reducePow, Nat.reduceLT, List.length_cons, List.length_nil, true_implies, false_implies, not_true_eq_false, not_false_eq_true, and_true, true_and, and_self, or_true, true_or, decide_true, decide_false, exists_eq_left', Option.some.injEq, ← hK]
    have : p < 2 ^ 128 := by have := hok.2; omega
    refine ⟨fun hx => ⟨⟨hok.1, this⟩, ?_⟩, fun hx => ?_⟩
    · simpa [lpb, hx] using q0
    · simpa [lpb, hx] using q0
  | week ds t s =>
    change wpSs Φb f_l_plain_begins.body [some (V.tup [.str "week", intsV ds, .int t, .int s]), some (.int x), none, none, none] H _ _
    refine zs_cons (iw_ne sw_week_once (zs_cons (iw_ne sw_week_every ?_)))
    simp only [↓X_lit, ↓X_loc, ↓X_bin, ↓negX_int, ↓X_neg, ↓X_not, ↓Y_not, ↓X_and, ↓Y_and, ↓X_or, ↓Y_or, ↓X_cmp, ↓X_cmp2, ↓X_ite, ↓Y_ite, ↓X_tup, ↓X_lst, ↓X_call, ↓X_meth, ↓X_sub, ↓X_comp, ↓Y_lit, ↓Y_loc, ↓Y_cmp, ↓Y_cmp2, ↓Y_call, ↓Y_sub, ↓XEs_nil, ↓XEs_cons, ↓XIfs_nil, ↓XIfs_cons, ↓Z_expr, ↓Z_assign, ↓Z_ret, ↓Z_retNone, ↓Z_ite, ↓Z_for, ↓Z_pass, ↓Z_brk, ↓Z_cont, ↓Zs_nil, ↓sqX_next, ↓sqX_brk, ↓sqX_cont, ↓sqX_ret, ↓Zs_cons, ↓wkX_next, ↓wkX_cont, ↓wkX_brk, ↓wkX_ret, ↓fkX_next, ↓fkX_cont, ↓fkX_brk, ↓fkX_ret, ↓xb_one, ↓oKK_some, ↓oK_some, ↓tX_bool, ↓iX_t, ↓iX_f, ↓iX_d, ↓q_add, ↓q_sub, ↓q_mul, ↓q_div, ↓q_mod, ↓q_pow, ↓q_list, ↓q_eq, ↓q_ne, ↓q_eqs, ↓q_nes, ↓q_eqb, ↓q_lt, ↓q_le, ↓q_gt, ↓q_ge, ↓q_in, ↓q_inl, ↓q_nin, ↓q_is, ↓q_isnot, ↓q_stup, ↓q_sref, ↓q_sscr, ↓q_fn, ↓q_lentup, ↓q_lenref, ↓q_lenscr, ↓q_isi, ↓q_all, ↓q_max, ↓q_min, ↓q_int, ↓q_tuple, ↓q_listc, ↓q_append, ↓q_clear, ↓q_index, ↓u_tup, ↓u_ref, ↓u_range, ↓q_slice, ↓oi_none, ↓oi_int, ↓X_slice, ↓XO_none, ↓XO_some, ↓u_rev, ↓u_range2, ↓retV_ret, ↓retV_next, List.getElem?_cons_zero, List.getElem?_cons_succ, List.set_cons_zero, List.set_cons_succ, Bool.not_true, Bool.not_false, idx_0, idx_1, idx_2, idx_3, idx_4, idx_5, Int.reduceAdd, Int.reduceSub, Int.reduceMul, Int.reduceNeg, Int.reducePow, Int.reduceLT, Int.reduceLE, Int.reduceEq, Int.reduceNe, Int.reduceToNat, Int.reduceAbs, Nat.reduceAdd, Nat.reduceLT, Nat.reduceLeDiff, Nat.reducePow, Nat.reduceLT, List.length_cons, List.length_nil, true_implies, false_implies, not_true_eq_false, not_false_eq_true, and_true, true_and, and_self, or_true, true_or, decide_true, decide_false, exists_eq_left', Option.some.injEq, rv, sw_once_once, sw_once_every, sw_once_week, sw_once_month, sw_once_from, sw_once_until, sw_once_also, sw_once_but, sw_every_once, sw_every_every, sw_every_week, sw_every_month, sw_every_from, sw_every_until, sw_every_also, sw_every_but, sw_week_once, sw_week_every, sw_week_week, sw_week_month, sw_week_from, sw_week_until, sw_week_also, sw_week_but, sw_month_once, sw_month_every, sw_month_week, sw_month_month, sw_month_from, sw_month_until, sw_month_also, sw_month_but, sw_from_once, sw_from_every, sw_from_week, sw_from_month, sw_from_from, sw_from_until, sw_from_also, sw_from_but, sw_until_once, sw_until_every, sw_until_week, sw_until_month, sw_until_from, sw_until_until, sw_until_also, sw_until_but, sw_also_once, sw_also_every, sw_also_week, sw_also_month, sw_also_from, sw_also_until, sw_also_also, sw_also_but, sw_but_once, sw_but_every, sw_but_week, sw_but_month, sw_but_from, sw_but_until, sw_but_also, sw_but_but, intsV, mem_ints]
    refine ⟨fun hx => ?_, fun hx => ⟨fun h2 => ?_, fun h2 => ?_⟩⟩
    · simpa [lpb, hx] using q0
    · simpa [lpb, hx, h2] using q0
    · have h2 : x % 24 = t := by simpa using h2
      simpa [lpb, hx, h2] using q0
  | month d t s =>
    change wpSs Φb f_l_plain_begins.body [some (V.tup [.str "month", .int d, .int t, .int s]), some (.int x), none, none, none] H _ _
    refine zs_cons (iw_ne sw_month_once (zs_cons (iw_ne sw_month_every ?_)))
    have em := mem_ints (x := d) (ds := [dDay (x / 24), dDay (x / 24) - mLen (x / 24) - 1])
    simp only [List.map_cons, List.map_nil] at em
    simp only [↓X_lit, ↓X_loc, ↓X_bin, ↓negX_int, ↓X_neg, ↓X_not, ↓Y_not, ↓X_and, ↓Y_and, ↓X_or, ↓Y_or, ↓X_cmp, ↓X_cmp2, ↓X_ite, ↓Y_ite, ↓X_tup, ↓X_lst, ↓X_call, ↓X_meth, ↓X_sub, ↓X_comp, ↓Y_lit, ↓Y_loc, ↓Y_cmp, ↓Y_cmp2, ↓Y_call, ↓Y_sub, ↓XEs_nil, ↓XEs_cons, ↓XIfs_nil, ↓XIfs_cons, ↓Z_expr, ↓Z_assign, ↓Z_ret, ↓Z_retNone, ↓Z_ite, ↓Z_for, ↓Z_pass, ↓Z_brk, ↓Z_cont, ↓Zs_nil, ↓sqX_next, ↓sqX_brk, ↓sqX_cont, ↓sqX_ret, ↓Zs_cons, ↓wkX_next, ↓wkX_cont, ↓wkX_brk, ↓wkX_ret, ↓fkX_next, ↓fkX_cont, ↓fkX_brk, ↓fkX_ret, ↓xb_one, ↓oKK_some, ↓oK_some, ↓tX_bool, ↓iX_t, ↓iX_f, ↓iX_d, ↓q_add, ↓q_sub, ↓q_mul, ↓q_div, ↓q_mod, ↓q_pow, ↓q_list, ↓q_eq, ↓q_ne, ↓q_eqs, ↓q_nes, ↓q_eqb, ↓q_lt, ↓q_le, ↓q_gt, ↓q_ge, ↓q_in, ↓q_inl, ↓q_nin, ↓q_is, ↓q_isnot, ↓q_stup, ↓q_sref, ↓q_sscr, ↓q_fn, ↓q_lentup, ↓q_lenref, ↓q_lenscr, ↓q_isi, ↓q_all, ↓q_max, ↓q_min, ↓q_int, ↓q_tuple, ↓q_listc, ↓q_append, ↓q_clear, ↓q_index, ↓u_tup, ↓u_ref, ↓u_range, ↓q_slice, ↓oi_none, ↓oi_int, ↓X_slice, ↓XO_none, ↓XO_some, ↓u_rev, ↓u_range2, ↓retV_ret, ↓retV_next, List.getElem?_cons_zero, List.getElem?_cons_succ, List.set_cons_zero, List.set_cons_succ, Bool.not_true, Bool.not_false, idx_0, idx_1, idx_2, idx_3, idx_4, idx_5, Int.reduceAdd, Int.reduceSub, Int.reduceMul, Int.reduceNeg, Int.reducePow, Int.reduceLT, Int.reduceLE, Int.reduceEq, Int.reduceNe, Int.reduceToNat, Int.reduceAbs, Nat.reduceAdd, Nat.reduceLT, Nat.reduceLeDiff, Nat.reducePow, Nat.reduceLT, List.length_cons, List.length_nil, true_implies, false_implies, not_true_eq_false, not_false_eq_true, and_true, true_and, and_self, or_true, true_or, decide_true, decide_false, exists_eq_left', Option.some.injEq, rv, sw_once_once, sw_once_every, sw_once_week, sw_once_month, sw_once_from, sw_once_until, sw_once_also, sw_once_but, sw_every_once, sw_every_every, sw_every_week, sw_every_month, sw_every_from, sw_every_until, sw_every_also, sw_every_but, sw_week_once, sw_week_every, sw_week_week, sw_week_month, sw_week_from, sw_week_until, sw_week_also, sw_week_but, sw_month_once, sw_month_every, sw_month_week, sw_month_month, sw_month_from, sw_month_until, sw_month_also, sw_month_but, sw_from_once, sw_from_every, sw_from_week, sw_from_month, sw_from_from, sw_from_until, sw_from_also, sw_from_but, sw_until_once, sw_until_every, sw_until_week, sw_until_month, sw_until_from, sw_until_until, sw_until_also, sw_until_but, sw_also_once, sw_also_every, sw_also_week, sw_also_month, sw_also_from, sw_also_until, sw_also_also, sw_also_but, sw_but_once, sw_but_every, sw_but_week, sw_but_month, sw_but_from, sw_but_until, sw_but_also, sw_but_but, ↓Pb_im, C_in_month, listAt_new]
    refine ⟨fun hx => ?_, fun hx => ⟨fun h2 => ?_, fun h2 => ⟨_, rfl, fun H' hp' => ?_⟩⟩⟩
    · simpa [lpb, hx] using q0
    · simpa [lpb, hx, h2] using q0
    · have h2 : x % 24 = t := by simpa using h2
      have := q (H' ++ [.list [.int (dDay (x / 24)), .int (dDay (x / 24) - mLen (x / 24) - 1)]]) (hp'.trans pre_new)
      have e : lpb (.month d t s) x = [dDay (x / 24), dDay (x / 24) - mLen (x / 24) - 1].contains d := by simp [lpb, hx, h2]
      rw [e] at this
      rw [em]
      exact this
  | frm h r => cases hp
  | til h r => cases hp
  | als h r => cases hp
  | but ds r => cases hp
noncomputable def Φc : Orc := ext "_law_plain_begins" C_plain_begins Φb

/- the plain law -/
theorem same_begins (r : Rl) (x : Int) (hp : r.plain = true) (hok : r.ok) : bg r x = (decide (0 ≤ x) && lpb r x) := by
  unfold bg
  by_cases hx : x < 0
  · have : ¬ 0 ≤ x := by omega
    simp [hx, this]
  · have h0 : 0 ≤ x := by omega
    simp only [hx, if_false, h0, decide_true, Bool.true_and]
    cases r with
    | once h s => rfl
    | every h s p => rfl
    | week ds t s => by_cases h2 : x % 24 = t <;> simp [bgo, bp, lpb, hx, h2]
    | month d t s =>
      by_cases h2 : x % 24 = t
      · simp only [bgo, bp, lpb, hx, h2]
        have hd : d ≠ 0 := hok
        have m := dMon_at (x / 24)
        have e1 : dDay (x / 24) ≥ 1 := by unfold dDay; omega
        have e2 : dDay (x / 24) - mLen (x / 24) - 1 < 0 := by unfold dDay mLen dMonth; omega
        by_cases hd2 : d < 0
        · have : (dDay (x / 24) == d) = false := by simp; omega
          rw [Bool.eq_iff_iff]
          simp [hd2]
          omega
        · rw [Bool.eq_iff_iff]
          simp [hd2]
          omega
      · simp [bgo, bp, lpb, hx, h2]
    | frm h r => cases hp
    | til h r => cases hp
    | als h r => cases hp
    | but ds r => cases hp
end Mine

set_option autoImplicit false
set_option linter.unusedSimpArgs false
set_option maxRecDepth 20000
namespace Mine
open PySem

noncomputable def wdGo : List Int → Int → List Int
  | [], _ => []
  | k :: r, b => if b % 2 = 1 then k :: wdGo r (b / 2) else wdGo r (b / 2)
noncomputable def wd (b : Int) : List Int := wdGo [0, 1, 2, 3, 4, 5, 6] b
noncomputable def C_weekdays : Ctr := fun vs H Q _ => ∃ b : Int, vs = [.int b] ∧ ∀ H', H <+: H' → Q (intsV (wd b)) H'
theorem wd_loop {XF : XS} {t3 t4 t5 : Option V} {H : Hp} {Q : QS} : ∀ (ks : List Int) (b : Int) (t2 : Option V) (acc : List Int), acc.length + ks.length ≤ 1000000 →
    (∀ b' t', Q .next [some (V.int b'), some (.ref H.length), t', t3, t4, t5] (H ++ [.list ((acc ++ wdGo ks b).map .int)])) →
    forGo (whBX Φc [(.ite (.cmp (.bin .Mod (.loc 0) (.lit (.int 2))) .Eq (.lit (.int 1))) [(.expr (.meth (.loc 1) .append [(.loc 2)]))] []), (.assign 0 (.bin .FloorDiv (.loc 0) (.lit (.int 2))))] XF) (fun _ => True) [2] (ks.map V.int)
      [some (V.int b), some (.ref H.length), t2, t3, t4, t5] (H ++ [.list (acc.map .int)]) Q := by
  intro ks
  induction ks with
  | nil =>
    intro b t2 acc _ q
    have := q b t2
    simp only [wdGo, List.append_nil] at this
    exact this
  | cons k r ih =>
    intro b t2 acc hl q
    rw [List.map_cons, foX_cons]
    simp only [↓X_lit, ↓X_loc, ↓X_bin, ↓negX_int, ↓X_neg, ↓X_not, ↓Y_not, ↓X_and, ↓Y_and, ↓X_or, ↓Y_or, ↓X_cmp, ↓X_cmp2, ↓X_ite, ↓Y_ite, ↓X_tup, ↓X_lst, ↓X_call, ↓X_meth, ↓X_sub, ↓X_comp, ↓Y_lit, ↓Y_loc, ↓Y_cmp, ↓Y_cmp2, ↓Y_call, ↓Y_sub, ↓XEs_nil, ↓XEs_cons, ↓XIfs_nil, ↓XIfs_cons, ↓Z_expr, ↓Z_assign, ↓Z_ret, ↓Z_retNone, ↓Z_ite, ↓Z_for, ↓Z_pass, ↓Z_brk, ↓Z_cont, ↓Zs_nil, ↓sqX_next, ↓sqX_brk, ↓sqX_cont, ↓sqX_ret, ↓Zs_cons, ↓wkX_next, ↓wkX_cont, ↓wkX_brk, ↓wkX_ret, ↓fkX_next, ↓fkX_cont, ↓fkX_brk, ↓fkX_ret, ↓xb_one, ↓oKK_some, ↓oK_some, ↓tX_bool, ↓iX_t, ↓iX_f, ↓iX_d, ↓q_add, ↓q_sub, ↓q_mul, ↓q_div, ↓q_mod, ↓q_pow, ↓q_list, ↓q_eq, ↓q_ne, ↓q_eqs, ↓q_nes, ↓q_eqb, ↓q_lt, ↓q_le, ↓q_gt, ↓q_ge, ↓q_in, ↓q_inl, ↓q_nin, ↓q_is, ↓q_isnot, ↓q_stup, ↓q_sref, ↓q_sscr, ↓q_fn, ↓q_lentup, ↓q_lenref, ↓q_lenscr, ↓q_isi, ↓q_all, ↓q_max, ↓q_min, ↓q_int, ↓q_tuple, ↓q_listc, ↓q_append, ↓q_clear, ↓q_index, ↓u_tup, ↓u_ref, ↓u_range, ↓q_slice, ↓oi_none, ↓oi_int, ↓X_slice, ↓XO_none, ↓XO_some, ↓u_rev, ↓u_range2, ↓retV_ret, ↓retV_next, List.getElem?_cons_zero, List.getElem?_cons_succ, List.set_cons_zero, List.set_cons_succ, Bool.not_true, Bool.not_false, idx_0, idx_1, idx_2, idx_3, idx_4, idx_5, Int.reduceAdd, Int.reduceSub, Int.reduceMul, Int.reduceNeg, Int.reducePow, Int.reduceLT, Int.reduceLE, Int.reduceEq, Int.reduceNe, Int.reduceToNat, Int.reduceAbs, Nat.reduceAdd, Nat.reduceLT, Nat.reduceLeDiff, Nat.reducePow, Nat.reduceLT, List.length_cons, List.length_nil, true_implies, false_implies, not_true_eq_false, not_false_eq_true, and_true, true_and, and_self, or_true, true_or, decide_true, decide_false, exists_eq_left', Option.some.injEq, listAt_new, set_new]
    simp only [List.length_cons] at hl
    refine ⟨fun h => ⟨⟨_, listAt_new⟩, ?_⟩, fun h => ?_⟩
    · have := ih (b / 2) (some (.int k)) (acc ++ [k]) (by simp; omega) (by
        intro b' t'
        have := q b' t'
        simp only [wdGo, h, if_true] at this
        simpa using this)
      refine ⟨by simp; omega, ?_⟩
      simpa using this
    · refine ih (b / 2) (some (.int k)) acc (by omega) ?_
      intro b' t'
      have := q b' t'
      simp only [wdGo, h, if_false] at this
      exact this
theorem range7 : rangeL 0 7 = [0, 1, 2, 3, 4, 5, 6].map V.int := rfl
theorem w_weekdays : ∀ vs H Q X, C_weekdays vs H Q X → wpFn Φc f_l_weekdays vs H Q X := by
  rintro vs H Q X ⟨b, rfl, q⟩
  refine fn_of rfl ?_
  simp only [f_l_weekdays, initL, List.map_cons, List.map_nil, List.replicate, List.cons_append, List.nil_append, ↓X_lit, ↓X_loc, ↓X_bin, ↓negX_int, ↓X_neg, ↓X_not, ↓Y_not, ↓X_and, ↓Y_and, ↓X_or, ↓Y_or, ↓X_cmp, ↓X_cmp2, ↓X_ite, ↓Y_ite, ↓X_tup, ↓X_lst, ↓X_call, ↓X_meth, ↓X_sub, ↓X_comp, ↓Y_lit, ↓Y_loc, ↓Y_cmp, ↓Y_cmp2, ↓Y_call, ↓Y_sub, ↓XEs_nil, ↓XEs_cons, ↓XIfs_nil, ↓XIfs_cons, ↓Z_expr, ↓Z_assign, ↓Z_ret, ↓Z_retNone, ↓Z_ite, ↓Z_for, ↓Z_pass, ↓Z_brk, ↓Z_cont, ↓Zs_nil, ↓sqX_next, ↓sqX_brk, ↓sqX_cont, ↓sqX_ret, ↓Zs_cons, ↓wkX_next, ↓wkX_cont, ↓wkX_brk, ↓wkX_ret, ↓fkX_next, ↓fkX_cont, ↓fkX_brk, ↓fkX_ret, ↓xb_one, ↓oKK_some, ↓oK_some, ↓tX_bool, ↓iX_t, ↓iX_f, ↓iX_d, ↓q_add, ↓q_sub, ↓q_mul, ↓q_div, ↓q_mod, ↓q_pow, ↓q_list, ↓q_eq, ↓q_ne, ↓q_eqs, ↓q_nes, ↓q_eqb, ↓q_lt, ↓q_le, ↓q_gt, ↓q_ge, ↓q_in, ↓q_inl, ↓q_nin, ↓q_is, ↓q_isnot, ↓q_stup, ↓q_sref, ↓q_sscr, ↓q_fn, ↓q_lentup, ↓q_lenref, ↓q_lenscr, ↓q_isi, ↓q_all, ↓q_max, ↓q_min, ↓q_int, ↓q_tuple, ↓q_listc, ↓q_append, ↓q_clear, ↓q_index, ↓u_tup, ↓u_ref, ↓u_range, ↓q_slice, ↓oi_none, ↓oi_int, ↓X_slice, ↓XO_none, ↓XO_some, ↓u_rev, ↓u_range2, ↓retV_ret, ↓retV_next, List.getElem?_cons_zero, List.getElem?_cons_succ, List.set_cons_zero, List.set_cons_succ, Bool.not_true, Bool.not_false, idx_0, idx_1, idx_2, idx_3, idx_4, idx_5, Int.reduceAdd, Int.reduceSub, Int.reduceMul, Int.reduceNeg, Int.reducePow, Int.reduceLT, Int.reduceLE, Int.reduceEq, Int.reduceNe, Int.reduceToNat, Int.reduceAbs, Nat.reduceAdd, Nat.reduceLT, Nat.reduceLeDiff, Nat.reducePow, Nat.reduceLT, List.length_cons, List.length_nil, true_implies, false_implies, not_true_eq_false, not_false_eq_true, and_true, true_and, and_self, or_true, true_or, decide_true, decide_false, exists_eq_left', Option.some.injEq]
  rw [range7]
  refine wd_loop (acc := []) [0, 1, 2, 3, 4, 5, 6] b _ (by decide) ?_
  intro b' t'
  simp only [↓X_lit, ↓X_loc, ↓X_bin, ↓negX_int, ↓X_neg, ↓X_not, ↓Y_not, ↓X_and, ↓Y_and, ↓X_or, ↓Y_or, ↓X_cmp, ↓X_cmp2, ↓X_ite, ↓Y_ite, ↓X_tup, ↓X_lst, ↓X_call, ↓X_meth, ↓X_sub, ↓X_comp, ↓Y_lit, ↓Y_loc, ↓Y_cmp, ↓Y_cmp2, ↓Y_call, ↓Y_sub, ↓XEs_nil, ↓XEs_cons, ↓XIfs_nil, ↓XIfs_cons, ↓Z_expr, ↓Z_assign, ↓Z_ret, ↓Z_retNone, ↓Z_ite, ↓Z_for, ↓Z_pass, ↓Z_brk, ↓Z_cont, ↓Zs_nil, ↓sqX_next, ↓sqX_brk, ↓sqX_cont, ↓sqX_ret, ↓Zs_cons, ↓wkX_next, ↓wkX_cont, ↓wkX_brk, ↓wkX_ret, ↓fkX_next, ↓fkX_cont, ↓fkX_brk, ↓fkX_ret, ↓xb_one, ↓oKK_some, ↓oK_some, ↓tX_bool, ↓iX_t, ↓iX_f, ↓iX_d, ↓q_add, ↓q_sub, ↓q_mul, ↓q_div, ↓q_mod, ↓q_pow, ↓q_list, ↓q_eq, ↓q_ne, ↓q_eqs, ↓q_nes, ↓q_eqb, ↓q_lt, ↓q_le, ↓q_gt, ↓q_ge, ↓q_in, ↓q_inl, ↓q_nin, ↓q_is, ↓q_isnot, ↓q_stup, ↓q_sref, ↓q_sscr, ↓q_fn, ↓q_lentup, ↓q_lenref, ↓q_lenscr, ↓q_isi, ↓q_all, ↓q_max, ↓q_min, ↓q_int, ↓q_tuple, ↓q_listc, ↓q_append, ↓q_clear, ↓q_index, ↓u_tup, ↓u_ref, ↓u_range, ↓q_slice, ↓oi_none, ↓oi_int, ↓X_slice, ↓XO_none, ↓XO_some, ↓u_rev, ↓u_range2, ↓retV_ret, ↓retV_next, List.getElem?_cons_zero, List.getElem?_cons_succ, List.set_cons_zero, List.set_cons_succ, Bool.not_true, Bool.not_false, idx_0, idx_1, idx_2, idx_3, idx_4, idx_5, Int.reduceAdd, Int.reduceSub, Int.reduceMul, Int.reduceNeg, Int.reducePow, Int.reduceLT, Int.reduceLE, Int.reduceEq, Int.reduceNe, Int.reduceToNat, Int.reduceAbs, Nat.reduceAdd, Nat.reduceLT, Nat.reduceLeDiff, Nat.reducePow, Nat.reduceLT, List.length_cons, List.length_nil, true_implies, false_implies, not_true_eq_false, not_false_eq_true, and_true, true_and, and_self, or_true, true_or, decide_true, decide_false, exists_eq_left', Option.some.injEq, listAt_new, List.nil_append]
  exact q _ pre_new
noncomputable def Φd : Orc := ext "_law_weekdays" C_weekdays Φc
theorem Pd_wd : Φd "_law_weekdays" = C_weekdays := rfl

noncomputable def mday0 (c : Int) : Int := if c / 62 % 2 = 1 then [-1, 0, 30, 29, 28, -31, -30, -29, -28, 27].getD (c / 124 % 10).toNat 0 else c % 62 - 31
noncomputable def mday (c : Int) : Int := mday0 c + (if 0 ≤ mday0 c then 1 else 0)
noncomputable def plainBy (a b c far most : Int) : Rl :=
  if a % 4 = 0 then .once (far + b % 60) (1 + a / 4 % most) else if a % 4 = 1 then .every (far + b % 60) (1 + a / 4 % most) (1 + c % 30)
  else if a % 4 = 2 then .week (wd (1 + c % 127)) (b % 24) (1 + a / 4 % most) else .month (mday c) (b % 24) (1 + a / 4 % most)
theorem tbl_at {k : Int} (h1 : 0 ≤ k) (h2 : k < 10) : idx [V.int (-1), .int 0, .int 30, .int 29, .int 28, .int (-31), .int (-30), .int (-29), .int (-28), .int 27] k = some (.int ([-1, 0, 30, 29, 28, -31, -30, -29, -28, 27].getD k.toNat 0)) :=
  idx_ints (l := [-1, 0, 30, 29, 28, -31, -30, -29, -28, 27]) h1 h2 0
noncomputable def C_plain_by : Ctr := fun vs H Q _ => ∃ i a b c far most, vs = [.ref i, .int far, .int most] ∧ listAt H i = some [.int a, .int b, .int c] ∧ 0 < most ∧ most < 2 ^ 64 ∧ ∀ H', H <+: H' → Q (rv (plainBy a b c far most)) H'
theorem w_plain_by : ∀ vs H Q X, C_plain_by vs H Q X → wpFn Φd f_l_plain_by vs H Q X := by
  rintro vs H Q X ⟨i, a, b, c, far, most, rfl, hl, hm, hm2, q⟩
  refine fn_of rfl ?_
  have hm3 : most < 2 ^ 128 := by omega
  have q0 := q H (List.prefix_refl _)
  have hl' : ∀ o, listAt (H ++ [o]) i = some [.int a, .int b, .int c] := fun o => listAt_pre pre_new hl
  have hk := tbl_at (k := c / 124 % 10) (Int.emod_nonneg _ (by decide)) (Int.emod_lt_of_pos _ (by decide))
  simp only [f_l_plain_by, initL, List.map_cons, List.map_nil, List.replicate, List.cons_append, List.nil_append, ↓X_lit, ↓X_loc, ↓X_bin, ↓negX_int, ↓X_neg, ↓X_not, ↓Y_not, ↓X_and, ↓Y_and, ↓X_or, ↓Y_or, ↓X_cmp, ↓X_cmp2, ↓X_ite, ↓Y_ite, ↓X_tup, ↓X_lst, ↓X_call, ↓X_meth, ↓X_sub, ↓X_comp, ↓Y_lit, ↓Y_loc, ↓Y_cmp, ↓Y_cmp2, ↓Y_call, ↓Y_sub, ↓XEs_nil, ↓XEs_cons, ↓XIfs_nil, ↓XIfs_cons, ↓Z_expr, ↓Z_assign, ↓Z_ret, ↓Z_retNone, ↓Z_ite, ↓Z_for, ↓Z_pass, ↓Z_brk, ↓Z_cont, ↓Zs_nil, ↓sqX_next, ↓sqX_brk, ↓sqX_cont, ↓sqX_ret, ↓Zs_cons, ↓wkX_next, ↓wkX_cont, ↓wkX_brk, ↓wkX_ret, ↓fkX_next, ↓fkX_cont, ↓fkX_brk, ↓fkX_ret, ↓xb_one, ↓oKK_some, ↓oK_some, ↓tX_bool, ↓iX_t, ↓iX_f, ↓iX_d, ↓q_add, ↓q_sub, ↓q_mul, ↓q_div, ↓q_mod, ↓q_pow, ↓q_list, ↓q_eq, ↓q_ne, ↓q_eqs, ↓q_nes, ↓q_eqb, ↓q_lt, ↓q_le, ↓q_gt, ↓q_ge, ↓q_in, ↓q_inl, ↓q_nin, ↓q_is, ↓q_isnot, ↓q_stup, ↓q_sref, ↓q_sscr, ↓q_fn, ↓q_lentup, ↓q_lenref, ↓q_lenscr, ↓q_isi, ↓q_all, ↓q_max, ↓q_min, ↓q_int, ↓q_tuple, ↓q_listc, ↓q_append, ↓q_clear, ↓q_index, ↓u_tup, ↓u_ref, ↓u_range, ↓q_slice, ↓oi_none, ↓oi_int, ↓X_slice, ↓XO_none, ↓XO_some, ↓u_rev, ↓u_range2, ↓retV_ret, ↓retV_next, List.getElem?_cons_zero, List.getElem?_cons_succ, List.set_cons_zero, List.set_cons_succ, Bool.not_true, Bool.not_false, idx_0, idx_1, idx_2, idx_3, idx_4, idx_5, Int.reduceAdd, Int.reduceSub, Int.reduceMul, Int.reduceNeg, Int.reducePow, Int.reduceLT, Int.reduceLE, Int.reduceEq, Int.reduceNe, Int.reduceToNat, Int.reduceAbs, Nat.reduceAdd, Nat.reduceLT, Nat.reduceLeDiff, Nat.reducePow, Nat.reduceLT, List.length_cons, List.length_nil, true_implies, false_implies, not_true_eq_false, not_false_eq_true, and_true, true_and, and_self, or_true, true_or, decide_true, decide_false, exists_eq_left', Option.some.injEq, hl, hl', ↓Pd_wd, C_weekdays, listAt_new, hk]
  refine ⟨⟨hm, hm3⟩, fun h => ?_, fun h => ⟨fun h1 => ?_, fun h1 => ⟨fun h2 => ⟨_, rfl, fun H' hp => ?_⟩, fun h2 => ⟨fun h3 => ?_, fun h3 => ?_⟩⟩⟩⟩
  · simpa [plainBy, h, rv] using q0
  · simpa [plainBy, h, h1, rv] using q0
  · have := q _ hp
    simp only [listAt_pre hp hl, ↓X_lit, ↓X_loc, ↓X_bin, ↓negX_int, ↓X_neg, ↓X_not, ↓Y_not, ↓X_and, ↓Y_and, ↓X_or, ↓Y_or, ↓X_cmp, ↓X_cmp2, ↓X_ite, ↓Y_ite, ↓X_tup, ↓X_lst, ↓X_call, ↓X_meth, ↓X_sub, ↓X_comp, ↓Y_lit, ↓Y_loc, ↓Y_cmp, ↓Y_cmp2, ↓Y_call, ↓Y_sub, ↓XEs_nil, ↓XEs_cons, ↓XIfs_nil, ↓XIfs_cons, ↓Z_expr, ↓Z_assign, ↓Z_ret, ↓Z_retNone, ↓Z_ite, ↓Z_for, ↓Z_pass, ↓Z_brk, ↓Z_cont, ↓Zs_nil, ↓sqX_next, ↓sqX_brk, ↓sqX_cont, ↓sqX_ret, ↓Zs_cons, ↓wkX_next, ↓wkX_cont, ↓wkX_brk, ↓wkX_ret, ↓fkX_next, ↓fkX_cont, ↓fkX_brk, ↓fkX_ret, ↓xb_one, ↓oKK_some, ↓oK_some, ↓tX_bool, ↓iX_t, ↓iX_f, ↓iX_d, ↓q_add, ↓q_sub, ↓q_mul, ↓q_div, ↓q_mod, ↓q_pow, ↓q_list, ↓q_eq, ↓q_ne, ↓q_eqs, ↓q_nes, ↓q_eqb, ↓q_lt, ↓q_le, ↓q_gt, ↓q_ge, ↓q_in, ↓q_inl, ↓q_nin, ↓q_is, ↓q_isnot, ↓q_stup, ↓q_sref, ↓q_sscr, ↓q_fn, ↓q_lentup, ↓q_lenref, ↓q_lenscr, ↓q_isi, ↓q_all, ↓q_max, ↓q_min, ↓q_int, ↓q_tuple, ↓q_listc, ↓q_append, ↓q_clear, ↓q_index, ↓u_tup, ↓u_ref, ↓u_range, ↓q_slice, ↓oi_none, ↓oi_int, ↓X_slice, ↓XO_none, ↓XO_some, ↓u_rev, ↓u_range2, ↓retV_ret, ↓retV_next, List.getElem?_cons_zero, List.getElem?_cons_succ, List.set_cons_zero, List.set_cons_succ, Bool.not_true, Bool.not_false, idx_0, idx_1, idx_2, idx_3, idx_4, idx_5, Int.reduceAdd, Int.reduceSub, Int.reduceMul, Int.reduceNeg, Int.reducePow, Int.reduceLT, Int.reduceLE, Int.reduceEq, Int.reduceNe, Int.reduceToNat, Int.reduceAbs, Nat.reduceAdd, Nat.reduceLT, Nat.reduceLeDiff, Nat.reducePow, Nat.reduceLT, List.length_cons, List.length_nil, true_implies, false_implies, not_true_eq_false, not_false_eq_true, and_true, true_and, and_self, or_true, true_or, decide_true, decide_false, exists_eq_left', Option.some.injEq]
    simpa [plainBy, h, h1, h2, rv] using this
  · have := q (H ++ [.list [.int (-1), .int 0, .int 30, .int 29, .int 28, .int (-31), .int (-30), .int (-29), .int (-28), .int 27]]) pre_new
    simpa [plainBy, h, h1, h2, rv, mday, mday0, h3] using this
  · simpa [plainBy, h, h1, h2, rv, mday, mday0, h3] using q0
noncomputable def Φe : Orc := ext "_law_plain_by" C_plain_by Φd

noncomputable def wkOk : Rl → Prop
  | .week ds _ _ => ds ≠ [] ∧ ds.length ≤ 7
  | _ => True
theorem wd_ok : ∀ k : Fin 127, wd (1 + (k.val : Int)) ≠ [] ∧ (wd (1 + (k.val : Int))).length ≤ 7 := by decide +kernel
theorem wd_at (c : Int) : wd (1 + c % 127) ≠ [] ∧ (wd (1 + c % 127)).length ≤ 7 := by
  have h1 : 0 ≤ c % 127 := Int.emod_nonneg _ (by decide)
  have h2 : c % 127 < 127 := Int.emod_lt_of_pos _ (by decide)
  have := wd_ok ⟨(c % 127).toNat, by omega⟩
  simp only at this
  rwa [Int.toNat_of_nonneg h1] at this
theorem mday_ne (c : Int) : mday c ≠ 0 := by unfold mday; split <;> omega
theorem plainBy_ok (a b c far most : Int) : (plainBy a b c far most).plain = true ∧ (plainBy a b c far most).ok ∧ wkOk (plainBy a b c far most) ∧ (plainBy a b c far most).size = 1 + a / 4 % most := by
  unfold plainBy
  split
  · exact ⟨rfl, trivial, trivial, rfl⟩
  · split
    · exact ⟨rfl, ⟨by omega, by omega⟩, trivial, rfl⟩
    · split
      · exact ⟨rfl, trivial, wd_at c, rfl⟩
      · exact ⟨rfl, mday_ne c, trivial, rfl⟩

theorem range3 : rangeL 0 3 = [.int 0, .int 1, .int 2] := rfl
theorem three_at {k x y z : Int} (h1 : 0 ≤ k) (h2 : k < 3) : ∃ f : Int, idx [V.int x, .int y, .int z] k = some (.int f) := ⟨_, idx_ints (l := [x, y, z]) h1 h2 0⟩

theorem idx_mod {ds : List Int} (h : ds ≠ []) (d : Int) : ∃ v : Int, idx (ds.map V.int) (d % (ds.length : Int)) = some (.int v) := by
  have hl : 0 < (ds.length : Int) := by have := List.length_pos_iff.mpr h; omega
  have h1 := Int.emod_nonneg d (Int.ne_of_gt hl)
  have h2 := Int.emod_lt_of_pos d hl
  have h3 : (d % (ds.length : Int)).toNat < ds.length := by omega
  refine ⟨ds[(d % (ds.length : Int)).toNat], ?_⟩
  simp only [idx, h1, if_true]
  simp [h3]
end Mine

set_option autoImplicit false
namespace Mine
open PySem

noncomputable def f_l_heads : Fn := { names := 5, params := 1, body := [
  (.assign 1 (.lst [])),
  (.while (.cmp (.sub (.loc 0) (.lit (.int 0))) .In (.lst [(.lit (.str "from")), (.lit (.str "until")), (.lit (.str "also")), (.lit (.str "but"))])) [(.expr (.meth (.loc 1) .append [(.loc 0)])), (.assign 0 (.sub (.loc 0) (.lit (.int 2))))]),
  (.ret (.bin .Add (.loc 1) (.lst [(.loc 0)])))] }

noncomputable def f_l_begun : Fn := { names := 8, params := 2, body := [
  (.assign 2 (.call (.fn "_law_heads") [(.loc 0)])),
  (.assign 3 (.call (.fn "_law_plain_begins") [(.sub (.loc 2) (.neg (.lit (.int 1)))), (.loc 1)])),
  (.for [4] .rev [(.slice (.loc 2) none (some (.neg (.lit (.int 1)))))] [(.ite (.cmp (.sub (.loc 4) (.lit (.int 0))) .Eq (.lit (.str "from"))) [(.assign 3 (.and (.loc 3) (.cmp (.loc 1) .GtE (.sub (.loc 4) (.lit (.int 1))))))] [(.ite (.cmp (.sub (.loc 4) (.lit (.int 0))) .Eq (.lit (.str "until"))) [(.assign 3 (.and (.loc 3) (.cmp (.loc 1) .Lt (.sub (.loc 4) (.lit (.int 1))))))] [(.ite (.cmp (.sub (.loc 4) (.lit (.int 0))) .Eq (.lit (.str "also"))) [(.assign 3 (.or (.loc 3) (.cmp (.loc 1) .Eq (.sub (.loc 4) (.lit (.int 1))))))] [(.assign 3 (.and (.loc 3) (.cmp (.bin .FloorDiv (.loc 1) (.lit (.int 24))) .NotIn (.sub (.loc 4) (.lit (.int 1))))))])])])]),
  (.ret (.loc 3))] }

noncomputable def f_l_size : Fn := { names := 5, params := 1, body := [
  (.assign 1 (.sub (.call (.fn "_law_heads") [(.loc 0)]) (.neg (.lit (.int 1))))),
  (.ite (.cmp (.sub (.loc 1) (.lit (.int 0))) .In (.lst [(.lit (.str "once")), (.lit (.str "every"))])) [(.ret (.sub (.loc 1) (.lit (.int 2))))] []),
  (.ret (.sub (.loc 1) (.lit (.int 3))))] }

noncomputable def f_l_head_by : Fn := { names := 9, params := 3, body := [
  (.assign 3 (.sub (.lst [(.lit (.str "from")), (.lit (.str "until")), (.lit (.str "also")), (.lit (.str "but"))]) (.bin .Mod (.loc 0) (.lit (.int 4))))),
  (.assign 4 (.bin .Add (.loc 1) (.bin .Mod (.bin .FloorDiv (.loc 0) (.lit (.int 4))) (.lit (.int 70))))),
  (.ite (.cmp (.loc 3) .NotEq (.lit (.str "but"))) [(.ret (.tup [(.loc 3), (.loc 4), (.loc 2)]))] []),
  (.assign 5 (.sub (.lst [(.lit (.int 1)), (.lit (.int 2)), (.lit (.int 5)), (.lit (.int 20))]) (.bin .Mod (.bin .FloorDiv (.loc 0) (.lit (.int 280))) (.lit (.int 4))))),
  (.ret (.tup [(.loc 3), (.call (.ty .tuple) [(.comp (.bin .Add (.bin .FloorDiv (.loc 4) (.lit (.int 24))) (.bin .Mult (.loc 6) (.bin .Add (.lit (.int 1)) (.bin .Mod (.bin .FloorDiv (.loc 0) (.lit (.int 1120))) (.lit (.int 3)))))) [6] .range [(.loc 5)] [])]), (.loc 2)]))] }
end Mine

set_option autoImplicit false
set_option linter.unusedSimpArgs false
set_option maxRecDepth 20000
/- heads of a rule, and what the law says of them -/
namespace Mine
open PySem

theorem listAt_set {H : Hp} {n : Nat} {l m : List V} (h : listAt H n = some l) : listAt (H.set n (.list m)) n = some m := by
  unfold listAt at h ⊢
  split at h
  · rename_i xs e
    have hlt := (List.getElem?_eq_some_iff.mp e).1
    rw [List.getElem?_set_self hlt]
  · cases h
theorem pre_set {H H' : Hp} {n : Nat} {o : O} (p : H <+: H') (hn : H.length ≤ n) : H <+: H'.set n o := by
  obtain ⟨Δ, rfl⟩ := p
  rw [List.set_append_right _ _ hn]
  exact List.prefix_append _ _

noncomputable def Rl.outer : Rl → List Rl
  | .frm h r => .frm h r :: r.outer
  | .til h r => .til h r :: r.outer
  | .als h r => .als h r :: r.outer
  | .but ds r => .but ds r :: r.outer
  | _ => []
theorem outer_length : ∀ r : Rl, r.outer.length = r.depth
  | .once _ _ => rfl
  | .every _ _ _ => rfl
  | .week _ _ _ => rfl
  | .month _ _ _ => rfl
  | .frm _ r => by simp [Rl.outer, Rl.depth, outer_length r]
  | .til _ r => by simp [Rl.outer, Rl.depth, outer_length r]
  | .als _ r => by simp [Rl.outer, Rl.depth, outer_length r]
  | .but _ r => by simp [Rl.outer, Rl.depth, outer_length r]
noncomputable def Rl.heads (r : Rl) : List Rl := r.outer ++ [r.inner]

noncomputable def C_bearing : Ctr := fun vs H Q _ => vs = [] ∧ Q (.ref H.length) (H ++ [.list [.str "from", .str "until", .str "also", .str "but"]])
noncomputable def Φf : Orc := ext "_law_bearing" C_bearing Φe
noncomputable abbrev hdT : IE := .cmp (.sub (.loc 0) (.lit (.int 0))) .In (.lst [(.lit (.str "from")), (.lit (.str "until")), (.lit (.str "also")), (.lit (.str "but"))])
noncomputable abbrev hdB : List IS := [(.expr (.meth (.loc 1) .append [(.loc 0)])), (.assign 0 (.sub (.loc 0) (.lit (.int 2))))]
noncomputable def HdT (T : IE) : Prop := ∀ {u : Str} {rest : List V} {Lr : Lc} {H : Hp} {P : Bool → Hp → Prop} {X : XL} {b : Bool}, memV (.str u) [.str "from", .str "until", .str "also", .str "but"] = some b → P b (H ++ [.list [.str "from", .str "until", .str "also", .str "but"]]) →
    (wp2 Φf T).T (some (.tup (.str u :: rest)) :: Lr) H P X
theorem hd_test : HdT hdT := by
  intro u rest Lr H P X b hm h
  simp only [↓X_lit, ↓X_loc, ↓X_bin, ↓negX_int, ↓X_neg, ↓X_not, ↓Y_not, ↓X_and, ↓Y_and, ↓X_or, ↓Y_or, ↓X_cmp, ↓X_cmp2, ↓X_ite, ↓Y_ite, ↓X_tup, ↓X_lst, ↓X_call, ↓X_meth, ↓X_sub, ↓X_comp, ↓Y_lit, ↓Y_loc, ↓Y_cmp, ↓Y_cmp2, ↓Y_call, ↓Y_sub, ↓XEs_nil, ↓XEs_cons, ↓XIfs_nil, ↓XIfs_cons, ↓Z_expr, ↓Z_assign, ↓Z_ret, ↓Z_retNone, ↓Z_ite, ↓Z_for, ↓Z_pass, ↓Z_brk, ↓Z_cont, ↓Zs_nil, ↓sqX_next, ↓sqX_brk, ↓sqX_cont, ↓sqX_ret, ↓Zs_cons, ↓wkX_next, ↓wkX_cont, ↓wkX_brk, ↓wkX_ret, ↓fkX_next, ↓fkX_cont, ↓fkX_brk, ↓fkX_ret, ↓xb_one, ↓oKK_some, ↓oK_some, ↓tX_bool, ↓iX_t, ↓iX_f, ↓iX_d, ↓q_add, ↓q_sub, ↓q_mul, ↓q_div, ↓q_mod, ↓q_pow, ↓q_list, ↓q_eq, ↓q_ne, ↓q_eqs, ↓q_nes, ↓q_eqb, ↓q_lt, ↓q_le, ↓q_gt, ↓q_ge, ↓q_in, ↓q_inl, ↓q_nin, ↓q_is, ↓q_isnot, ↓q_stup, ↓q_sref, ↓q_sscr, ↓q_fn, ↓q_lentup, ↓q_lenref, ↓q_lenscr, ↓q_isi, ↓q_all, ↓q_max, ↓q_min, ↓q_int, ↓q_tuple, ↓q_listc, ↓q_append, ↓q_clear, ↓q_index, ↓u_tup, ↓u_ref, ↓u_range, ↓q_slice, ↓oi_none, ↓oi_int, ↓X_slice, ↓XO_none, ↓XO_some, ↓u_rev, ↓u_range2, ↓retV_ret, ↓retV_next, List.getElem?_cons_zero, List.getElem?_cons_succ, List.set_cons_zero, List.set_cons_succ, Bool.not_true, Bool.not_false, idx_0, idx_1, idx_2, idx_3, idx_4, idx_5, Int.reduceAdd, Int.reduceSub, Int.reduceMul, Int.reduceNeg, Int.reducePow, Int.reduceLT, Int.reduceLE, Int.reduceEq, Int.reduceNe, Int.reduceToNat, Int.reduceAbs, Nat.reduceAdd, Nat.reduceLT, Nat.reduceLeDiff, Nat.reducePow, Nat.reduceLT, List.length_cons, List.length_nil, true_implies, false_implies, not_true_eq_false, not_false_eq_true, and_true, true_and, and_self, or_true, true_or, decide_true, decide_false, exists_eq_left', Option.some.injEq, listAt_new, hm]
  exact h
theorem hd_step {T : IE} (hT : HdT T) {u : Str} {v1 v2 : V} {rest : List V} {XF : XS} {t2 t3 t4 : Option V} {n : Nat} {Q : QS} {H H' : Hp} {acc : List V} {k : Nat} (hm : memV (.str u) [.str "from", .str "until", .str "also", .str "but"] = some true) (hp : H <+: H') (hn : n = H.length) (hl : listAt H' n = some acc) (hz : acc.length ≤ 1000000)
    (ih : ∀ H2, H <+: H2 → listAt H2 n = some (acc ++ [.tup (.str u :: v1 :: v2 :: rest)]) → whileGo (whTX Φf T XF) (whBX Φf hdB XF) k [some v2, some (.ref n), t2, t3, t4] H2 Q) :
    whileGo (whTX Φf T XF) (whBX Φf hdB XF) (k + 1) [some (.tup (.str u :: v1 :: v2 :: rest)), some (.ref n), t2, t3, t4] H' Q := by
  rw [whX_s]
  refine hT hm ?_
  have hl' := listAt_pre (pre_new (o := .list [.str "from", .str "until", .str "also", .str "but"])) hl
  simp only [↓X_lit, ↓X_loc, ↓X_bin, ↓negX_int, ↓X_neg, ↓X_not, ↓Y_not, ↓X_and, ↓Y_and, ↓X_or, ↓Y_or, ↓X_cmp, ↓X_cmp2, ↓X_ite, ↓Y_ite, ↓X_tup, ↓X_lst, ↓X_call, ↓X_meth, ↓X_sub, ↓X_comp, ↓Y_lit, ↓Y_loc, ↓Y_cmp, ↓Y_cmp2, ↓Y_call, ↓Y_sub, ↓XEs_nil, ↓XEs_cons, ↓XIfs_nil, ↓XIfs_cons, ↓Z_expr, ↓Z_assign, ↓Z_ret, ↓Z_retNone, ↓Z_ite, ↓Z_for, ↓Z_pass, ↓Z_brk, ↓Z_cont, ↓Zs_nil, ↓sqX_next, ↓sqX_brk, ↓sqX_cont, ↓sqX_ret, ↓Zs_cons, ↓wkX_next, ↓wkX_cont, ↓wkX_brk, ↓wkX_ret, ↓fkX_next, ↓fkX_cont, ↓fkX_brk, ↓fkX_ret, ↓xb_one, ↓oKK_some, ↓oK_some, ↓tX_bool, ↓iX_t, ↓iX_f, ↓iX_d, ↓q_add, ↓q_sub, ↓q_mul, ↓q_div, ↓q_mod, ↓q_pow, ↓q_list, ↓q_eq, ↓q_ne, ↓q_eqs, ↓q_nes, ↓q_eqb, ↓q_lt, ↓q_le, ↓q_gt, ↓q_ge, ↓q_in, ↓q_inl, ↓q_nin, ↓q_is, ↓q_isnot, ↓q_stup, ↓q_sref, ↓q_sscr, ↓q_fn, ↓q_lentup, ↓q_lenref, ↓q_lenscr, ↓q_isi, ↓q_all, ↓q_max, ↓q_min, ↓q_int, ↓q_tuple, ↓q_listc, ↓q_append, ↓q_clear, ↓q_index, ↓u_tup, ↓u_ref, ↓u_range, ↓q_slice, ↓oi_none, ↓oi_int, ↓X_slice, ↓XO_none, ↓XO_some, ↓u_rev, ↓u_range2, ↓retV_ret, ↓retV_next, List.getElem?_cons_zero, List.getElem?_cons_succ, List.set_cons_zero, List.set_cons_succ, Bool.not_true, Bool.not_false, idx_0, idx_1, idx_2, idx_3, idx_4, idx_5, Int.reduceAdd, Int.reduceSub, Int.reduceMul, Int.reduceNeg, Int.reducePow, Int.reduceLT, Int.reduceLE, Int.reduceEq, Int.reduceNe, Int.reduceToNat, Int.reduceAbs, Nat.reduceAdd, Nat.reduceLT, Nat.reduceLeDiff, Nat.reducePow, Nat.reduceLT, List.length_cons, List.length_nil, true_implies, false_implies, not_true_eq_false, not_false_eq_true, and_true, true_and, and_self, or_true, true_or, decide_true, decide_false, exists_eq_left', Option.some.injEq, hl']
  refine ⟨⟨_, hl'⟩, hz, ih _ (pre_set (hp.trans pre_new) (by omega)) (listAt_set hl')⟩
theorem hd_loop {T : IE} (hT : HdT T) {XF : XS} {t2 t3 t4 : Option V} {n : Nat} {Q : QS} {H : Hp} (hn : n = H.length) : ∀ (r : Rl) (acc : List V) (H' : Hp), H <+: H' → listAt H' n = some acc → acc.length + r.depth ≤ 1000000 →
    (∀ H2, H <+: H2 → listAt H2 n = some (acc ++ r.outer.map rv) → Q .next [some (rv r.inner), some (.ref n), t2, t3, t4] H2) →
    whileGo (whTX Φf T XF) (whBX Φf hdB XF) (r.depth + 1) [some (rv r), some (.ref n), t2, t3, t4] H' Q := by
  intro r
  induction r with
  | once h s => intro acc H' hp hl hz q; rw [whX_s]; exact hT mo_once (q _ (hp.trans pre_new) (by rw [listAt_pre pre_new hl]; simp [Rl.outer]))
  | every h s p => intro acc H' hp hl hz q; rw [whX_s]; exact hT mo_every (q _ (hp.trans pre_new) (by rw [listAt_pre pre_new hl]; simp [Rl.outer]))
  | week ds t s => intro acc H' hp hl hz q; rw [whX_s]; exact hT mo_week (q _ (hp.trans pre_new) (by rw [listAt_pre pre_new hl]; simp [Rl.outer]))
  | month d t s => intro acc H' hp hl hz q; rw [whX_s]; exact hT mo_month (q _ (hp.trans pre_new) (by rw [listAt_pre pre_new hl]; simp [Rl.outer]))
  | frm h r ih =>
    intro acc H' hp hl hz q
    simp only [Rl.depth] at hz
    exact hd_step hT mo_frm hp hn hl (by omega) fun H2 hp2 hl2 => ih _ H2 hp2 hl2 (by simp; omega) fun H3 hp3 hl3 => q H3 hp3 (by rw [hl3]; simp [Rl.outer, rv])
  | til h r ih =>
    intro acc H' hp hl hz q
    simp only [Rl.depth] at hz
    exact hd_step hT mo_til hp hn hl (by omega) fun H2 hp2 hl2 => ih _ H2 hp2 hl2 (by simp; omega) fun H3 hp3 hl3 => q H3 hp3 (by rw [hl3]; simp [Rl.outer, rv])
  | als h r ih =>
    intro acc H' hp hl hz q
    simp only [Rl.depth] at hz
    exact hd_step hT mo_als hp hn hl (by omega) fun H2 hp2 hl2 => ih _ H2 hp2 hl2 (by simp; omega) fun H3 hp3 hl3 => q H3 hp3 (by rw [hl3]; simp [Rl.outer, rv])
  | but ds r ih =>
    intro acc H' hp hl hz q
    simp only [Rl.depth] at hz
    exact hd_step hT mo_but hp hn hl (by omega) fun H2 hp2 hl2 => ih _ H2 hp2 hl2 (by simp; omega) fun H3 hp3 hl3 => q H3 hp3 (by rw [hl3]; simp [Rl.outer, rv])
noncomputable def C_heads : Ctr := fun vs H Q _ => ∃ r : Rl, vs = [rv r] ∧ r.depth ≤ 1000 ∧ ∀ H', H <+: H' → Q (.ref H'.length) (H' ++ [.list (r.heads.map rv)])
theorem w_heads : ∀ vs H Q X, C_heads vs H Q X → wpFn Φf f_l_heads vs H Q X := by
  rintro vs H Q X ⟨r, rfl, hd, q⟩
  refine fn_of rfl ?_
  change wpSs Φf f_l_heads.body [some (rv r), none, none, none, none] H _ _
  refine zs_cons ?_
  generalize hK : sqX Φf (_ :: _) = K
  simp only [↓X_lit, ↓X_loc, ↓X_bin, ↓negX_int, ↓X_neg, ↓X_not, ↓Y_not, ↓X_and, ↓Y_and, ↓X_or, ↓Y_or, ↓X_cmp, ↓X_cmp2, ↓X_ite, ↓Y_ite, ↓X_tup, ↓X_lst, ↓X_call, ↓X_meth, ↓X_sub, ↓X_comp, ↓Y_lit, ↓Y_loc, ↓Y_cmp, ↓Y_cmp2, ↓Y_call, ↓Y_sub, ↓XEs_nil, ↓XEs_cons, ↓XIfs_nil, ↓XIfs_cons, ↓Z_expr, ↓Z_assign, ↓Z_ret, ↓Z_retNone, ↓Z_ite, ↓Z_for, ↓Z_pass, ↓Z_brk, ↓Z_cont, ↓Zs_nil, ↓sqX_next, ↓sqX_brk, ↓sqX_cont, ↓sqX_ret, ↓Zs_cons, ↓wkX_next, ↓wkX_cont, ↓wkX_brk, ↓wkX_ret, ↓fkX_next, ↓fkX_cont, ↓fkX_brk, ↓fkX_ret, ↓xb_one, ↓oKK_some, ↓oK_some, ↓tX_bool, ↓iX_t, ↓iX_f, ↓iX_d, ↓q_add, ↓q_sub, ↓q_mul, ↓q_div, ↓q_mod, ↓q_pow, ↓q_list, ↓q_eq, ↓q_ne, ↓q_eqs, ↓q_nes, ↓q_eqb, ↓q_lt, ↓q_le, ↓q_gt, ↓q_ge, ↓q_in, ↓q_inl, ↓q_nin, ↓q_is, ↓q_isnot, ↓q_stup, ↓q_sref, ↓q_sscr, ↓q_fn, ↓q_lentup, ↓q_lenref, ↓q_lenscr, ↓q_isi, ↓q_all, ↓q_max, ↓q_min, ↓q_int, ↓q_tuple, ↓q_listc, ↓q_append, ↓q_clear, ↓q_index, ↓u_tup, ↓u_ref, ↓u_range, ↓q_slice, ↓oi_none, ↓oi_int, ↓X_slice, ↓XO_none, ↓XO_some, ↓u_rev, ↓u_range2, ↓retV_ret, ↓retV_next, List.getElem?_cons_zero, List.getElem?_cons_succ, List.set_cons_zero, List.set_cons_succ, Bool.not_true, Bool.not_false, idx_0, idx_1, idx_2, idx_3, idx_4, idx_5, Int.reduceAdd, Int.reduceSub, Int.reduceMul, Int.reduceNeg, Int.reducePow, Int.reduceLT, Int.reduceLE, Int.reduceEq, Int.reduceNe, Int.reduceToNat, Int.reduceAbs, Nat.reduceAdd, Nat.reduceLT, Nat.reduceLeDiff, Nat.reducePow, Nat.reduceLT, List.length_cons, List.length_nil, true_implies, false_implies, not_true_eq_false, not_false_eq_true, and_true, true_and, and_self, or_true, true_or, decide_true, decide_false, exists_eq_left', Option.some.injEq]
  subst hK
  refine zs_cons ?_
  rw [Z_while]
  refine ⟨r.depth + 1, hd_loop hd_test rfl r [] _ pre_new listAt_new (by simp; omega) ?_⟩
  intro H2 hp hl
  simp only [List.nil_append] at hl
  have hl' := listAt_pre (pre_new (o := .list [rv r.inner])) hl
  simp only [↓X_lit, ↓X_loc, ↓X_bin, ↓negX_int, ↓X_neg, ↓X_not, ↓Y_not, ↓X_and, ↓Y_and, ↓X_or, ↓Y_or, ↓X_cmp, ↓X_cmp2, ↓X_ite, ↓Y_ite, ↓X_tup, ↓X_lst, ↓X_call, ↓X_meth, ↓X_sub, ↓X_comp, ↓Y_lit, ↓Y_loc, ↓Y_cmp, ↓Y_cmp2, ↓Y_call, ↓Y_sub, ↓XEs_nil, ↓XEs_cons, ↓XIfs_nil, ↓XIfs_cons, ↓Z_expr, ↓Z_assign, ↓Z_ret, ↓Z_retNone, ↓Z_ite, ↓Z_for, ↓Z_pass, ↓Z_brk, ↓Z_cont, ↓Zs_nil, ↓sqX_next, ↓sqX_brk, ↓sqX_cont, ↓sqX_ret, ↓Zs_cons, ↓wkX_next, ↓wkX_cont, ↓wkX_brk, ↓wkX_ret, ↓fkX_next, ↓fkX_cont, ↓fkX_brk, ↓fkX_ret, ↓xb_one, ↓oKK_some, ↓oK_some, ↓tX_bool, ↓iX_t, ↓iX_f, ↓iX_d, ↓q_add, ↓q_sub, ↓q_mul, ↓q_div, ↓q_mod, ↓q_pow, ↓q_list, ↓q_eq, ↓q_ne, ↓q_eqs, ↓q_nes, ↓q_eqb, ↓q_lt, ↓q_le, ↓q_gt, ↓q_ge, ↓q_in, ↓q_inl, ↓q_nin, ↓q_is, ↓q_isnot, ↓q_stup, ↓q_sref, ↓q_sscr, ↓q_fn, ↓q_lentup, ↓q_lenref, ↓q_lenscr, ↓q_isi, ↓q_all, ↓q_max, ↓q_min, ↓q_int, ↓q_tuple, ↓q_listc, ↓q_append, ↓q_clear, ↓q_index, ↓u_tup, ↓u_ref, ↓u_range, ↓q_slice, ↓oi_none, ↓oi_int, ↓X_slice, ↓XO_none, ↓XO_some, ↓u_rev, ↓u_range2, ↓retV_ret, ↓retV_next, List.getElem?_cons_zero, List.getElem?_cons_succ, List.set_cons_zero, List.set_cons_succ, Bool.not_true, Bool.not_false, idx_0, idx_1, idx_2, idx_3, idx_4, idx_5, Int.reduceAdd, Int.reduceSub, Int.reduceMul, Int.reduceNeg, Int.reducePow, Int.reduceLT, Int.reduceLE, Int.reduceEq, Int.reduceNe, Int.reduceToNat, Int.reduceAbs, Nat.reduceAdd, Nat.reduceLT, Nat.reduceLeDiff, Nat.reducePow, Nat.reduceLT, List.length_cons, List.length_nil, true_implies, false_implies, not_true_eq_false, not_false_eq_true, and_true, true_and, and_self, or_true, true_or, decide_true, decide_false, exists_eq_left', Option.some.injEq, hl', listAt_new]
  have := q (H2 ++ [.list [rv r.inner]]) (hp.trans pre_new)
  refine ⟨by simp [outer_length]; omega, ?_⟩
  simpa [Rl.heads] using this
noncomputable def Ψ1 : Orc := ext "_law_heads" C_heads Φf
end Mine

set_option autoImplicit false
set_option linter.unusedSimpArgs false
set_option maxRecDepth 20000
namespace Mine
open PySem

theorem P1_he : Ψ1 "_law_heads" = C_heads := rfl
theorem P1_pl : Ψ1 "_law_plain_begins" = C_plain_begins := rfl
theorem idx_last {α : Type} {l : List α} {a : α} : idx (l ++ [a]) (-1) = some a := by
  have h1 : ¬ (0 : Int) ≤ -1 := by decide
  have h2 : (0 : Int) ≤ -1 + ((l ++ [a]).length : Int) := by simp; omega
  have h3 : (-1 + ((l ++ [a]).length : Int)).toNat = l.length := by simp; omega
  simp only [idx, h1, if_false, h2, if_true, h3]
  simp
theorem heads_map (r : Rl) : r.heads.map rv = r.outer.map rv ++ [rv r.inner] := by simp [Rl.heads]
theorem slice_init {α : Type} {l : List α} {a : α} : sliceL (l ++ [a]) none (some (-1)) = l := by
  have h1 : clampI (l ++ [a]).length (-1) = l.length := by simp [clampI]; omega
  simp only [sliceL, h1]
  simp

noncomputable def lst1 (x : Int) (d : Bool) : Rl → Bool
  | .frm h _ => d && decide (h ≤ x)
  | .til h _ => d && decide (x < h)
  | .als h _ => d || decide (x = h)
  | .but ds _ => d && !ds.contains (x / 24)
  | _ => d
noncomputable def lbg : Rl → Int → Bool
  | .frm h r, x => lst1 x (lbg r x) (.frm h r)
  | .til h r, x => lst1 x (lbg r x) (.til h r)
  | .als h r, x => lst1 x (lbg r x) (.als h r)
  | .but ds r, x => lst1 x (lbg r x) (.but ds r)
  | r, x => lpb r x
theorem lbg_fold (x : Int) : ∀ r : Rl, r.outer.reverse.foldl (lst1 x) (lpb r.inner x) = lbg r x
  | .once _ _ => rfl
  | .every _ _ _ => rfl
  | .week _ _ _ => rfl
  | .month _ _ _ => rfl
  | .frm h r => by simp only [Rl.outer, List.reverse_cons, List.foldl_append, Rl.inner, lbg_fold x r, List.foldl_cons, List.foldl_nil, lbg]
  | .til h r => by simp only [Rl.outer, List.reverse_cons, List.foldl_append, Rl.inner, lbg_fold x r, List.foldl_cons, List.foldl_nil, lbg]
  | .als h r => by simp only [Rl.outer, List.reverse_cons, List.foldl_append, Rl.inner, lbg_fold x r, List.foldl_cons, List.foldl_nil, lbg]
  | .but ds r => by simp only [Rl.outer, List.reverse_cons, List.foldl_append, Rl.inner, lbg_fold x r, List.foldl_cons, List.foldl_nil, lbg]
theorem outer_heads : ∀ (r e : Rl), e ∈ r.outer → e.plain = false
  | .once _ _, e, h => by cases h
  | .every _ _ _, e, h => by cases h
  | .week _ _ _, e, h => by cases h
  | .month _ _ _, e, h => by cases h
  | .frm h r, e, hm => by rcases List.mem_cons.mp hm with q | q; (subst q; rfl); exact outer_heads r e q
  | .til h r, e, hm => by rcases List.mem_cons.mp hm with q | q; (subst q; rfl); exact outer_heads r e q
  | .als h r, e, hm => by rcases List.mem_cons.mp hm with q | q; (subst q; rfl); exact outer_heads r e q
  | .but ds r, e, hm => by rcases List.mem_cons.mp hm with q | q; (subst q; rfl); exact outer_heads r e q
theorem inner_ok : ∀ r : Rl, r.ok → r.inner.ok
  | .once _ _, h => h
  | .every _ _ _, h => h
  | .week _ _ _, h => h
  | .month _ _ _, h => h
  | .frm _ r, h => inner_ok r h
  | .til _ r, h => inner_ok r h
  | .als _ r, h => inner_ok r h
  | .but _ r, h => inner_ok r h

noncomputable abbrev bgB : List IS := [(.ite (.cmp (.sub (.loc 4) (.lit (.int 0))) .Eq (.lit (.str "from"))) [(.assign 3 (.and (.loc 3) (.cmp (.loc 1) .GtE (.sub (.loc 4) (.lit (.int 1))))))] [(.ite (.cmp (.sub (.loc 4) (.lit (.int 0))) .Eq (.lit (.str "until"))) [(.assign 3 (.and (.loc 3) (.cmp (.loc 1) .Lt (.sub (.loc 4) (.lit (.int 1))))))] [(.ite (.cmp (.sub (.loc 4) (.lit (.int 0))) .Eq (.lit (.str "also"))) [(.assign 3 (.or (.loc 3) (.cmp (.loc 1) .Eq (.sub (.loc 4) (.lit (.int 1))))))] [(.assign 3 (.and (.loc 3) (.cmp (.bin .FloorDiv (.loc 1) (.lit (.int 24))) .NotIn (.sub (.loc 4) (.lit (.int 1))))))])])])]
theorem bg_loop {XF : XS} {v0 v2 : V} {x : Int} {t5 t6 t7 : Option V} {H : Hp} {Q : QS} {st : Hp → Prop} (hst : st H) : ∀ (ls : List Rl) (d : Bool) (t4 : Option V), (∀ e ∈ ls, e.plain = false) →
    (∀ t4', Q .next [some v0, some (.int x), some v2, some (.bool (ls.foldl (lst1 x) d)), t4', t5, t6, t7] H) →
    forGo (whBX Ψ1 bgB XF) st [4] (ls.map rv) [some v0, some (.int x), some v2, some (.bool d), t4, t5, t6, t7] H Q := by
  intro ls
  induction ls with
  | nil => intro d t4 _ q; exact q t4
  | cons e ls ih =>
    intro d t4 hp q
    rw [List.map_cons, foX_cons]
    have ih' := fun d' (h : lst1 x d e = d') => ih d' (some (rv e)) (fun e he => hp e (List.mem_cons_of_mem _ he)) (by intro t4'; have := q t4'; rw [List.foldl_cons, h] at this; exact this)
    have hpe := hp e List.mem_cons_self
    cases e with
    | frm h r =>
      simp only [↓X_lit, ↓X_loc, ↓X_bin, ↓negX_int, ↓X_neg, ↓X_not, ↓Y_not, ↓X_and, ↓Y_and, ↓X_or, ↓Y_or, ↓X_cmp, ↓X_cmp2, ↓X_ite, ↓Y_ite, ↓X_tup, ↓X_lst, ↓X_call, ↓X_meth, ↓X_sub, ↓X_comp, ↓Y_lit, ↓Y_loc, ↓Y_cmp, ↓Y_cmp2, ↓Y_call, ↓Y_sub, ↓XEs_nil, ↓XEs_cons, ↓XIfs_nil, ↓XIfs_cons, ↓Z_expr, ↓Z_assign, ↓Z_ret, ↓Z_retNone, ↓Z_ite, ↓Z_for, ↓Z_pass, ↓Z_brk, ↓Z_cont, ↓Zs_nil, ↓sqX_next, ↓sqX_brk, ↓sqX_cont, ↓sqX_ret, ↓Zs_cons, ↓wkX_next, ↓wkX_cont, ↓wkX_brk, ↓wkX_ret, ↓fkX_next, ↓fkX_cont, ↓fkX_brk, ↓fkX_ret, ↓xb_one, ↓oKK_some, ↓oK_some, ↓tX_bool, ↓iX_t, ↓iX_f, ↓iX_d, ↓q_add, ↓q_sub, ↓q_mul, ↓q_div, ↓q_mod, ↓q_pow, ↓q_list, ↓q_eq, ↓q_ne, ↓q_eqs, ↓q_nes, ↓q_eqb, ↓q_lt, ↓q_le, ↓q_gt, ↓q_ge, ↓q_in, ↓q_inl, ↓q_nin, ↓q_is, ↓q_isnot, ↓q_stup, ↓q_sref, ↓q_sscr, ↓q_fn, ↓q_lentup, ↓q_lenref, ↓q_lenscr, ↓q_isi, ↓q_all, ↓q_max, ↓q_min, ↓q_int, ↓q_tuple, ↓q_listc, ↓q_append, ↓q_clear, ↓q_index, ↓u_tup, ↓u_ref, ↓u_range, ↓q_slice, ↓oi_none, ↓oi_int, ↓X_slice, ↓XO_none, ↓XO_some, ↓u_rev, ↓u_range2, ↓retV_ret, ↓retV_next, List.getElem?_cons_zero, List.getElem?_cons_succ, List.set_cons_zero, List.set_cons_succ, Bool.not_true, Bool.not_false, idx_0, idx_1, idx_2, idx_3, idx_4, idx_5, Int.reduceAdd, Int.reduceSub, Int.reduceMul, Int.reduceNeg, Int.reducePow, Int.reduceLT, Int.reduceLE, Int.reduceEq, Int.reduceNe, Int.reduceToNat, Int.reduceAbs, Nat.reduceAdd, Nat.reduceLT, Nat.reduceLeDiff, Nat.reducePow, Nat.reduceLT, List.length_cons, List.length_nil, true_implies, false_implies, not_true_eq_false, not_false_eq_true, and_true, true_and, and_self, or_true, true_or, decide_true, decide_false, exists_eq_left', Option.some.injEq, rv, sw_once_once, sw_once_every, sw_once_week, sw_once_month, sw_once_from, sw_once_until, sw_once_also, sw_once_but, sw_every_once, sw_every_every, sw_every_week, sw_every_month, sw_every_from, sw_every_until, sw_every_also, sw_every_but, sw_week_once, sw_week_every, sw_week_week, sw_week_month, sw_week_from, sw_week_until, sw_week_also, sw_week_but, sw_month_once, sw_month_every, sw_month_week, sw_month_month, sw_month_from, sw_month_until, sw_month_also, sw_month_but, sw_from_once, sw_from_every, sw_from_week, sw_from_month, sw_from_from, sw_from_until, sw_from_also, sw_from_but, sw_until_once, sw_until_every, sw_until_week, sw_until_month, sw_until_from, sw_until_until, sw_until_also, sw_until_but, sw_also_once, sw_also_every, sw_also_week, sw_also_month, sw_also_from, sw_also_until, sw_also_also, sw_also_but, sw_but_once, sw_but_every, sw_but_week, sw_but_month, sw_but_from, sw_but_until, sw_but_also, sw_but_but]
      cases d with
      | true => simp only [↓X_lit, ↓X_loc, ↓X_bin, ↓negX_int, ↓X_neg, ↓X_not, ↓Y_not, ↓X_and, ↓Y_and, ↓X_or, ↓Y_or, ↓X_cmp, ↓X_cmp2, ↓X_ite, ↓Y_ite, ↓X_tup, ↓X_lst, ↓X_call, ↓X_meth, ↓X_sub, ↓X_comp, ↓Y_lit, ↓Y_loc, ↓Y_cmp, ↓Y_cmp2, ↓Y_call, ↓Y_sub, ↓XEs_nil, ↓XEs_cons, ↓XIfs_nil, ↓XIfs_cons, ↓Z_expr, ↓Z_assign, ↓Z_ret, ↓Z_retNone, ↓Z_ite, ↓Z_for, ↓Z_pass, ↓Z_brk, ↓Z_cont, ↓Zs_nil, ↓sqX_next, ↓sqX_brk, ↓sqX_cont, ↓sqX_ret, ↓Zs_cons, ↓wkX_next, ↓wkX_cont, ↓wkX_brk, ↓wkX_ret, ↓fkX_next, ↓fkX_cont, ↓fkX_brk, ↓fkX_ret, ↓xb_one, ↓oKK_some, ↓oK_some, ↓tX_bool, ↓iX_t, ↓iX_f, ↓iX_d, ↓q_add, ↓q_sub, ↓q_mul, ↓q_div, ↓q_mod, ↓q_pow, ↓q_list, ↓q_eq, ↓q_ne, ↓q_eqs, ↓q_nes, ↓q_eqb, ↓q_lt, ↓q_le, ↓q_gt, ↓q_ge, ↓q_in, ↓q_inl, ↓q_nin, ↓q_is, ↓q_isnot, ↓q_stup, ↓q_sref, ↓q_sscr, ↓q_fn, ↓q_lentup, ↓q_lenref, ↓q_lenscr, ↓q_isi, ↓q_all, ↓q_max, ↓q_min, ↓q_int, ↓q_tuple, ↓q_listc, ↓q_append, ↓q_clear, ↓q_index, ↓u_tup, ↓u_ref, ↓u_range, ↓q_slice, ↓oi_none, ↓oi_int, ↓X_slice, ↓XO_none, ↓XO_some, ↓u_rev, ↓u_range2, ↓retV_ret, ↓retV_next, List.getElem?_cons_zero, List.getElem?_cons_succ, List.set_cons_zero, List.set_cons_succ, Bool.not_true, Bool.not_false, idx_0, idx_1, idx_2, idx_3, idx_4, idx_5, Int.reduceAdd, Int.reduceSub, Int.reduceMul, Int.reduceNeg, Int.reducePow, Int.reduceLT, Int.reduceLE, Int.reduceEq, Int.reduceNe, Int.reduceToNat, Int.reduceAbs, Nat.reduceAdd, Nat.reduceLT, Nat.reduceLeDiff, Nat.reducePow, Nat.reduceLT, List.length_cons, List.length_nil, true_implies, false_implies, not_true_eq_false, not_false_eq_true, and_true, true_and, and_self, or_true, true_or, decide_true, decide_false, exists_eq_left', Option.some.injEq]; exact ⟨hst, ih' _ (by simp [lst1])⟩
      | false => simp only [↓X_lit, ↓X_loc, ↓X_bin, ↓negX_int, ↓X_neg, ↓X_not, ↓Y_not, ↓X_and, ↓Y_and, ↓X_or, ↓Y_or, ↓X_cmp, ↓X_cmp2, ↓X_ite, ↓Y_ite, ↓X_tup, ↓X_lst, ↓X_call, ↓X_meth, ↓X_sub, ↓X_comp, ↓Y_lit, ↓Y_loc, ↓Y_cmp, ↓Y_cmp2, ↓Y_call, ↓Y_sub, ↓XEs_nil, ↓XEs_cons, ↓XIfs_nil, ↓XIfs_cons, ↓Z_expr, ↓Z_assign, ↓Z_ret, ↓Z_retNone, ↓Z_ite, ↓Z_for, ↓Z_pass, ↓Z_brk, ↓Z_cont, ↓Zs_nil, ↓sqX_next, ↓sqX_brk, ↓sqX_cont, ↓sqX_ret, ↓Zs_cons, ↓wkX_next, ↓wkX_cont, ↓wkX_brk, ↓wkX_ret, ↓fkX_next, ↓fkX_cont, ↓fkX_brk, ↓fkX_ret, ↓xb_one, ↓oKK_some, ↓oK_some, ↓tX_bool, ↓iX_t, ↓iX_f, ↓iX_d, ↓q_add, ↓q_sub, ↓q_mul, ↓q_div, ↓q_mod, ↓q_pow, ↓q_list, ↓q_eq, ↓q_ne, ↓q_eqs, ↓q_nes, ↓q_eqb, ↓q_lt, ↓q_le, ↓q_gt, ↓q_ge, ↓q_in, ↓q_inl, ↓q_nin, ↓q_is, ↓q_isnot, ↓q_stup, ↓q_sref, ↓q_sscr, ↓q_fn, ↓q_lentup, ↓q_lenref, ↓q_lenscr, ↓q_isi, ↓q_all, ↓q_max, ↓q_min, ↓q_int, ↓q_tuple, ↓q_listc, ↓q_append, ↓q_clear, ↓q_index, ↓u_tup, ↓u_ref, ↓u_range, ↓q_slice, ↓oi_none, ↓oi_int, ↓X_slice, ↓XO_none, ↓XO_some, ↓u_rev, ↓u_range2, ↓retV_ret, ↓retV_next, List.getElem?_cons_zero, List.getElem?_cons_succ, List.set_cons_zero, List.set_cons_succ, Bool.not_true, Bool.not_false, idx_0, idx_1, idx_2, idx_3, idx_4, idx_5, Int.reduceAdd, Int.reduceSub, Int.reduceMul, Int.reduceNeg, Int.reducePow, Int.reduceLT, Int.reduceLE, Int.reduceEq, Int.reduceNe, Int.reduceToNat, Int.reduceAbs, Nat.reduceAdd, Nat.reduceLT, Nat.reduceLeDiff, Nat.reducePow, Nat.reduceLT, List.length_cons, List.length_nil, true_implies, false_implies, not_true_eq_false, not_false_eq_true, and_true, true_and, and_self, or_true, true_or, decide_true, decide_false, exists_eq_left', Option.some.injEq]; exact ⟨hst, ih' _ (by simp [lst1])⟩
    | til h r =>
      simp only [↓X_lit, ↓X_loc, ↓X_bin, ↓negX_int, ↓X_neg, ↓X_not, ↓Y_not, ↓X_and, ↓Y_and, ↓X_or, ↓Y_or, ↓X_cmp, ↓X_cmp2, ↓X_ite, ↓Y_ite, ↓X_tup, ↓X_lst, ↓X_call, ↓X_meth, ↓X_sub, ↓X_comp, ↓Y_lit, ↓Y_loc, ↓Y_cmp, ↓Y_cmp2, ↓Y_call, ↓Y_sub, ↓XEs_nil, ↓XEs_cons, ↓XIfs_nil, ↓XIfs_cons, ↓Z_expr, ↓Z_assign, ↓Z_ret, ↓Z_retNone, ↓Z_ite, ↓Z_for, ↓Z_pass, ↓Z_brk, ↓Z_cont, ↓Zs_nil, ↓sqX_next, ↓sqX_brk, ↓sqX_cont, ↓sqX_ret, ↓Zs_cons, ↓wkX_next, ↓wkX_cont, ↓wkX_brk, ↓wkX_ret, ↓fkX_next, ↓fkX_cont, ↓fkX_brk, ↓fkX_ret, ↓xb_one, ↓oKK_some, ↓oK_some, ↓tX_bool, ↓iX_t, ↓iX_f, ↓iX_d, ↓q_add, ↓q_sub, ↓q_mul, ↓q_div, ↓q_mod, ↓q_pow, ↓q_list, ↓q_eq, ↓q_ne, ↓q_eqs, ↓q_nes, ↓q_eqb, ↓q_lt, ↓q_le, ↓q_gt, ↓q_ge, ↓q_in, ↓q_inl, ↓q_nin, ↓q_is, ↓q_isnot, ↓q_stup, ↓q_sref, ↓q_sscr, ↓q_fn, ↓q_lentup, ↓q_lenref, ↓q_lenscr, ↓q_isi, ↓q_all, ↓q_max, ↓q_min, ↓q_int, ↓q_tuple, ↓q_listc, ↓q_append, ↓q_clear, ↓q_index, ↓u_tup, ↓u_ref, ↓u_range, ↓q_slice, ↓oi_none, ↓oi_int, ↓X_slice, ↓XO_none, ↓XO_some, ↓u_rev, ↓u_range2, ↓retV_ret, ↓retV_next, List.getElem?_cons_zero, List.getElem?_cons_succ, List.set_cons_zero, List.set_cons_succ, Bool.not_true, Bool.not_false, idx_0, idx_1, idx_2, idx_3, idx_4, idx_5, Int.reduceAdd, Int.reduceSub, Int.reduceMul, Int.reduceNeg, Int.reducePow, Int.reduceLT, Int.reduceLE, Int.reduceEq, Int.reduceNe, Int.reduceToNat, Int.reduceAbs, Nat.reduceAdd, Nat.reduceLT, Nat.reduceLeDiff, Nat.reducePow, Nat.reduceLT, List.length_cons, List.length_nil, true_implies, false_implies, not_true_eq_false, not_false_eq_true, and_true, true_and, and_self, or_true, true_or, decide_true, decide_false, exists_eq_left', Option.some.injEq, rv, sw_once_once, sw_once_every, sw_once_week, sw_once_month, sw_once_from, sw_once_until, sw_once_also, sw_once_but, sw_every_once, sw_every_every, sw_every_week, sw_every_month, sw_every_from, sw_every_until, sw_every_also, sw_every_but, sw_week_once, sw_week_every, sw_week_week, sw_week_month, sw_week_from, sw_week_until, sw_week_also, sw_week_but, sw_month_once, sw_month_every, sw_month_week, sw_month_month, sw_month_from, sw_month_until, sw_month_also, sw_month_but, sw_from_once, sw_from_every, sw_from_week, sw_from_month, sw_from_from, sw_from_until, sw_from_also, sw_from_but, sw_until_once, sw_until_every, sw_until_week, sw_until_month, sw_until_from, sw_until_until, sw_until_also, sw_until_but, sw_also_once, sw_also_every, sw_also_week, sw_also_month, sw_also_from, sw_also_until, sw_also_also, sw_also_but, sw_but_once, sw_but_every, sw_but_week, sw_but_month, sw_but_from, sw_but_until, sw_but_also, sw_but_but]
      cases d with
      | true => simp only [↓X_lit, ↓X_loc, ↓X_bin, ↓negX_int, ↓X_neg, ↓X_not, ↓Y_not, ↓X_and, ↓Y_and, ↓X_or, ↓Y_or, ↓X_cmp, ↓X_cmp2, ↓X_ite, ↓Y_ite, ↓X_tup, ↓X_lst, ↓X_call, ↓X_meth, ↓X_sub, ↓X_comp, ↓Y_lit, ↓Y_loc, ↓Y_cmp, ↓Y_cmp2, ↓Y_call, ↓Y_sub, ↓XEs_nil, ↓XEs_cons, ↓XIfs_nil, ↓XIfs_cons, ↓Z_expr, ↓Z_assign, ↓Z_ret, ↓Z_retNone, ↓Z_ite, ↓Z_for, ↓Z_pass, ↓Z_brk, ↓Z_cont, ↓Zs_nil, ↓sqX_next, ↓sqX_brk, ↓sqX_cont, ↓sqX_ret, ↓Zs_cons, ↓wkX_next, ↓wkX_cont, ↓wkX_brk, ↓wkX_ret, ↓fkX_next, ↓fkX_cont, ↓fkX_brk, ↓fkX_ret, ↓xb_one, ↓oKK_some, ↓oK_some, ↓tX_bool, ↓iX_t, ↓iX_f, ↓iX_d, ↓q_add, ↓q_sub, ↓q_mul, ↓q_div, ↓q_mod, ↓q_pow, ↓q_list, ↓q_eq, ↓q_ne, ↓q_eqs, ↓q_nes, ↓q_eqb, ↓q_lt, ↓q_le, ↓q_gt, ↓q_ge, ↓q_in, ↓q_inl, ↓q_nin, ↓q_is, ↓q_isnot, ↓q_stup, ↓q_sref, ↓q_sscr, ↓q_fn, ↓q_lentup, ↓q_lenref, ↓q_lenscr, ↓q_isi, ↓q_all, ↓q_max, ↓q_min, ↓q_int, ↓q_tuple, ↓q_listc, ↓q_append, ↓q_clear, ↓q_index, ↓u_tup, ↓u_ref, ↓u_range, ↓q_slice, ↓oi_none, ↓oi_int, ↓X_slice, ↓XO_none, ↓XO_some, ↓u_rev, ↓u_range2, ↓retV_ret, ↓retV_next, List.getElem?_cons_zero, List.getElem?_cons_succ, List.set_cons_zero, List.set_cons_succ, Bool.not_true, Bool.not_false, idx_0, idx_1, idx_2, idx_3, idx_4, idx_5, Int.reduceAdd, Int.reduceSub, Int.reduceMul, Int.reduceNeg, Int.reducePow, Int.reduceLT, Int.reduceLE, Int.reduceEq, Int.reduceNe, Int.reduceToNat, Int.reduceAbs, Nat.reduceAdd, Nat.reduceLT, Nat.reduceLeDiff, Nat.reducePow, Nat.reduceLT, List.length_cons, List.length_nil, true_implies, false_implies, not_true_eq_false, not_false_eq_true, and_true, true_and, and_self, or_true, true_or, decide_true, decide_false, exists_eq_left', Option.some.injEq]; exact ⟨hst, ih' _ (by simp [lst1])⟩
      | false => simp only [↓X_lit, ↓X_loc, ↓X_bin, ↓negX_int, ↓X_neg, ↓X_not, ↓Y_not, ↓X_and, ↓Y_and, ↓X_or, ↓Y_or, ↓X_cmp, ↓X_cmp2, ↓X_ite, ↓Y_ite, ↓X_tup, ↓X_lst, ↓X_call, ↓X_meth, ↓X_sub, ↓X_comp, ↓Y_lit, ↓Y_loc, ↓Y_cmp, ↓Y_cmp2, ↓Y_call, ↓Y_sub, ↓XEs_nil, ↓XEs_cons, ↓XIfs_nil, ↓XIfs_cons, ↓Z_expr, ↓Z_assign, ↓Z_ret, ↓Z_retNone, ↓Z_ite, ↓Z_for, ↓Z_pass, ↓Z_brk, ↓Z_cont, ↓Zs_nil, ↓sqX_next, ↓sqX_brk, ↓sqX_cont, ↓sqX_ret, ↓Zs_cons, ↓wkX_next, ↓wkX_cont, ↓wkX_brk, ↓wkX_ret, ↓fkX_next, ↓fkX_cont, ↓fkX_brk, ↓fkX_ret, ↓xb_one, ↓oKK_some, ↓oK_some, ↓tX_bool, ↓iX_t, ↓iX_f, ↓iX_d, ↓q_add, ↓q_sub, ↓q_mul, ↓q_div, ↓q_mod, ↓q_pow, ↓q_list, ↓q_eq, ↓q_ne, ↓q_eqs, ↓q_nes, ↓q_eqb, ↓q_lt, ↓q_le, ↓q_gt, ↓q_ge, ↓q_in, ↓q_inl, ↓q_nin, ↓q_is, ↓q_isnot, ↓q_stup, ↓q_sref, ↓q_sscr, ↓q_fn, ↓q_lentup, ↓q_lenref, ↓q_lenscr, ↓q_isi, ↓q_all, ↓q_max, ↓q_min, ↓q_int, ↓q_tuple, ↓q_listc, ↓q_append, ↓q_clear, ↓q_index, ↓u_tup, ↓u_ref, ↓u_range, ↓q_slice, ↓oi_none, ↓oi_int, ↓X_slice, ↓XO_none, ↓XO_some, ↓u_rev, ↓u_range2, ↓retV_ret, ↓retV_next, List.getElem?_cons_zero, List.getElem?_cons_succ, List.set_cons_zero, List.set_cons_succ, Bool.not_true, Bool.not_false, idx_0, idx_1, idx_2, idx_3, idx_4, idx_5, Int.reduceAdd, Int.reduceSub, Int.reduceMul, Int.reduceNeg, Int.reducePow, Int.reduceLT, Int.reduceLE, Int.reduceEq, Int.reduceNe, Int.reduceToNat, Int.reduceAbs, Nat.reduceAdd, Nat.reduceLT, Nat.reduceLeDiff, Nat.reducePow, Nat.reduceLT, List.length_cons, List.length_nil, true_implies, false_implies, not_true_eq_false, not_false_eq_true, and_true, true_and, and_self, or_true, true_or, decide_true, decide_false, exists_eq_left', Option.some.injEq]; exact ⟨hst, ih' _ (by simp [lst1])⟩
    | als h r =>
      simp only [↓X_lit, ↓X_loc, ↓X_bin, ↓negX_int, ↓X_neg, ↓X_not, ↓Y_not, ↓X_and, ↓Y_and, ↓X_or, ↓Y_or, ↓X_cmp, ↓X_cmp2, ↓X_ite, ↓Y_ite, ↓X_tup, ↓X_lst, ↓X_call, ↓X_meth, ↓X_sub, ↓X_comp, ↓Y_lit, ↓Y_loc, ↓Y_cmp, ↓Y_cmp2, ↓Y_call, ↓Y_sub, ↓XEs_nil, ↓XEs_cons, ↓XIfs_nil, ↓XIfs_cons, ↓Z_expr, ↓Z_assign, ↓Z_ret, ↓Z_retNone, ↓Z_ite, ↓Z_for, ↓Z_pass, ↓Z_brk, ↓Z_cont, ↓Zs_nil, ↓sqX_next, ↓sqX_brk, ↓sqX_cont, ↓sqX_ret, ↓Zs_cons, ↓wkX_next, ↓wkX_cont, ↓wkX_brk, ↓wkX_ret, ↓fkX_next, ↓fkX_cont, ↓fkX_brk, ↓fkX_ret, ↓xb_one, ↓oKK_some, ↓oK_some, ↓tX_bool, ↓iX_t, ↓iX_f, ↓iX_d, ↓q_add, ↓q_sub, ↓q_mul, ↓q_div, ↓q_mod, ↓q_pow, ↓q_list, ↓q_eq, ↓q_ne, ↓q_eqs, ↓q_nes, ↓q_eqb, ↓q_lt, ↓q_le, ↓q_gt, ↓q_ge, ↓q_in, ↓q_inl, ↓q_nin, ↓q_is, ↓q_isnot, ↓q_stup, ↓q_sref, ↓q_sscr, ↓q_fn, ↓q_lentup, ↓q_lenref, ↓q_lenscr, ↓q_isi, ↓q_all, ↓q_max, ↓q_min, ↓q_int, ↓q_tuple, ↓q_listc, ↓q_append, ↓q_clear, ↓q_index, ↓u_tup, ↓u_ref, ↓u_range, ↓q_slice, ↓oi_none, ↓oi_int, ↓X_slice, ↓XO_none, ↓XO_some, ↓u_rev, ↓u_range2, ↓retV_ret, ↓retV_next, List.getElem?_cons_zero, List.getElem?_cons_succ, List.set_cons_zero, List.set_cons_succ, Bool.not_true, Bool.not_false, idx_0, idx_1, idx_2, idx_3, idx_4, idx_5, Int.reduceAdd, Int.reduceSub, Int.reduceMul, Int.reduceNeg, Int.reducePow, Int.reduceLT, Int.reduceLE, Int.reduceEq, Int.reduceNe, Int.reduceToNat, Int.reduceAbs, Nat.reduceAdd, Nat.reduceLT, Nat.reduceLeDiff, Nat.reducePow, Nat.reduceLT, List.length_cons, List.length_nil, true_implies, false_implies, not_true_eq_false, not_false_eq_true, and_true, true_and, and_self, or_true, true_or, decide_true, decide_false, exists_eq_left', Option.some.injEq, rv, sw_once_once, sw_once_every, sw_once_week, sw_once_month, sw_once_from, sw_once_until, sw_once_also, sw_once_but, sw_every_once, sw_every_every, sw_every_week, sw_every_month, sw_every_from, sw_every_until, sw_every_also, sw_every_but, sw_week_once, sw_week_every, sw_week_week, sw_week_month, sw_week_from, sw_week_until, sw_week_also, sw_week_but, sw_month_once, sw_month_every, sw_month_week, sw_month_month, sw_month_from, sw_month_until, sw_month_also, sw_month_but, sw_from_once, sw_from_every, sw_from_week, sw_from_month, sw_from_from, sw_from_until, sw_from_also, sw_from_but, sw_until_once, sw_until_every, sw_until_week, sw_until_month, sw_until_from, sw_until_until, sw_until_also, sw_until_but, sw_also_once, sw_also_every, sw_also_week, sw_also_month, sw_also_from, sw_also_until, sw_also_also, sw_also_but, sw_but_once, sw_but_every, sw_but_week, sw_but_month, sw_but_from, sw_but_until, sw_but_also, sw_but_but]
      cases d with
      | true => simp only [↓X_lit, ↓X_loc, ↓X_bin, ↓negX_int, ↓X_neg, ↓X_not, ↓Y_not, ↓X_and, ↓Y_and, ↓X_or, ↓Y_or, ↓X_cmp, ↓X_cmp2, ↓X_ite, ↓Y_ite, ↓X_tup, ↓X_lst, ↓X_call, ↓X_meth, ↓X_sub, ↓X_comp, ↓Y_lit, ↓Y_loc, ↓Y_cmp, ↓Y_cmp2, ↓Y_call, ↓Y_sub, ↓XEs_nil, ↓XEs_cons, ↓XIfs_nil, ↓XIfs_cons, ↓Z_expr, ↓Z_assign, ↓Z_ret, ↓Z_retNone, ↓Z_ite, ↓Z_for, ↓Z_pass, ↓Z_brk, ↓Z_cont, ↓Zs_nil, ↓sqX_next, ↓sqX_brk, ↓sqX_cont, ↓sqX_ret, ↓Zs_cons, ↓wkX_next, ↓wkX_cont, ↓wkX_brk, ↓wkX_ret, ↓fkX_next, ↓fkX_cont, ↓fkX_brk, ↓fkX_ret, ↓xb_one, ↓oKK_some, ↓oK_some, ↓tX_bool, ↓iX_t, ↓iX_f, ↓iX_d, ↓q_add, ↓q_sub, ↓q_mul, ↓q_div, ↓q_mod, ↓q_pow, ↓q_list, ↓q_eq, ↓q_ne, ↓q_eqs, ↓q_nes, ↓q_eqb, ↓q_lt, ↓q_le, ↓q_gt, ↓q_ge, ↓q_in, ↓q_inl, ↓q_nin, ↓q_is, ↓q_isnot, ↓q_stup, ↓q_sref, ↓q_sscr, ↓q_fn, ↓q_lentup, ↓q_lenref, ↓q_lenscr, ↓q_isi, ↓q_all, ↓q_max, ↓q_min, ↓q_int, ↓q_tuple, ↓q_listc, ↓q_append, ↓q_clear, ↓q_index, ↓u_tup, ↓u_ref, ↓u_range, ↓q_slice, ↓oi_none, ↓oi_int, ↓X_slice, ↓XO_none, ↓XO_some, ↓u_rev, ↓u_range2, ↓retV_ret, ↓retV_next, List.getElem?_cons_zero, List.getElem?_cons_succ, List.set_cons_zero, List.set_cons_succ, Bool.not_true, Bool.not_false, idx_0, idx_1, idx_2, idx_3, idx_4, idx_5, Int.reduceAdd, Int.reduceSub, Int.reduceMul, Int.reduceNeg, Int.reducePow, Int.reduceLT, Int.reduceLE, Int.reduceEq, Int.reduceNe, Int.reduceToNat, Int.reduceAbs, Nat.reduceAdd, Nat.reduceLT, Nat.reduceLeDiff, Nat.reducePow, Nat.reduceLT, List.length_cons, List.length_nil, true_implies, false_implies, not_true_eq_false, not_false_eq_true, and_true, true_and, and_self, or_true, true_or, decide_true, decide_false, exists_eq_left', Option.some.injEq]; exact ⟨hst, ih' _ (by simp [lst1])⟩
      | false => simp only [↓X_lit, ↓X_loc, ↓X_bin, ↓negX_int, ↓X_neg, ↓X_not, ↓Y_not, ↓X_and, ↓Y_and, ↓X_or, ↓Y_or, ↓X_cmp, ↓X_cmp2, ↓X_ite, ↓Y_ite, ↓X_tup, ↓X_lst, ↓X_call, ↓X_meth, ↓X_sub, ↓X_comp, ↓Y_lit, ↓Y_loc, ↓Y_cmp, ↓Y_cmp2, ↓Y_call, ↓Y_sub, ↓XEs_nil, ↓XEs_cons, ↓XIfs_nil, ↓XIfs_cons, ↓Z_expr, ↓Z_assign, ↓Z_ret, ↓Z_retNone, ↓Z_ite, ↓Z_for, ↓Z_pass, ↓Z_brk, ↓Z_cont, ↓Zs_nil, ↓sqX_next, ↓sqX_brk, ↓sqX_cont, ↓sqX_ret, ↓Zs_cons, ↓wkX_next, ↓wkX_cont, ↓wkX_brk, ↓wkX_ret, ↓fkX_next, ↓fkX_cont, ↓fkX_brk, ↓fkX_ret, ↓xb_one, ↓oKK_some, ↓oK_some, ↓tX_bool, ↓iX_t, ↓iX_f, ↓iX_d, ↓q_add, ↓q_sub, ↓q_mul, ↓q_div, ↓q_mod, ↓q_pow, ↓q_list, ↓q_eq, ↓q_ne, ↓q_eqs, ↓q_nes, ↓q_eqb, ↓q_lt, ↓q_le, ↓q_gt, ↓q_ge, ↓q_in, ↓q_inl, ↓q_nin, ↓q_is, ↓q_isnot, ↓q_stup, ↓q_sref, ↓q_sscr, ↓q_fn, ↓q_lentup, ↓q_lenref, ↓q_lenscr, ↓q_isi, ↓q_all, ↓q_max, ↓q_min, ↓q_int, ↓q_tuple, ↓q_listc, ↓q_append, ↓q_clear, ↓q_index, ↓u_tup, ↓u_ref, ↓u_range, ↓q_slice, ↓oi_none, ↓oi_int, ↓X_slice, ↓XO_none, ↓XO_some, ↓u_rev, ↓u_range2, ↓retV_ret, ↓retV_next, List.getElem?_cons_zero, List.getElem?_cons_succ, List.set_cons_zero, List.set_cons_succ, Bool.not_true, Bool.not_false, idx_0, idx_1, idx_2, idx_3, idx_4, idx_5, Int.reduceAdd, Int.reduceSub, Int.reduceMul, Int.reduceNeg, Int.reducePow, Int.reduceLT, Int.reduceLE, Int.reduceEq, Int.reduceNe, Int.reduceToNat, Int.reduceAbs, Nat.reduceAdd, Nat.reduceLT, Nat.reduceLeDiff, Nat.reducePow, Nat.reduceLT, List.length_cons, List.length_nil, true_implies, false_implies, not_true_eq_false, not_false_eq_true, and_true, true_and, and_self, or_true, true_or, decide_true, decide_false, exists_eq_left', Option.some.injEq]; exact ⟨hst, ih' _ (by simp [lst1])⟩
    | but ds r =>
      simp only [↓X_lit, ↓X_loc, ↓X_bin, ↓negX_int, ↓X_neg, ↓X_not, ↓Y_not, ↓X_and, ↓Y_and, ↓X_or, ↓Y_or, ↓X_cmp, ↓X_cmp2, ↓X_ite, ↓Y_ite, ↓X_tup, ↓X_lst, ↓X_call, ↓X_meth, ↓X_sub, ↓X_comp, ↓Y_lit, ↓Y_loc, ↓Y_cmp, ↓Y_cmp2, ↓Y_call, ↓Y_sub, ↓XEs_nil, ↓XEs_cons, ↓XIfs_nil, ↓XIfs_cons, ↓Z_expr, ↓Z_assign, ↓Z_ret, ↓Z_retNone, ↓Z_ite, ↓Z_for, ↓Z_pass, ↓Z_brk, ↓Z_cont, ↓Zs_nil, ↓sqX_next, ↓sqX_brk, ↓sqX_cont, ↓sqX_ret, ↓Zs_cons, ↓wkX_next, ↓wkX_cont, ↓wkX_brk, ↓wkX_ret, ↓fkX_next, ↓fkX_cont, ↓fkX_brk, ↓fkX_ret, ↓xb_one, ↓oKK_some, ↓oK_some, ↓tX_bool, ↓iX_t, ↓iX_f, ↓iX_d, ↓q_add, ↓q_sub, ↓q_mul, ↓q_div, ↓q_mod, ↓q_pow, ↓q_list, ↓q_eq, ↓q_ne, ↓q_eqs, ↓q_nes, ↓q_eqb, ↓q_lt, ↓q_le, ↓q_gt, ↓q_ge, ↓q_in, ↓q_inl, ↓q_nin, ↓q_is, ↓q_isnot, ↓q_stup, ↓q_sref, ↓q_sscr, ↓q_fn, ↓q_lentup, ↓q_lenref, ↓q_lenscr, ↓q_isi, ↓q_all, ↓q_max, ↓q_min, ↓q_int, ↓q_tuple, ↓q_listc, ↓q_append, ↓q_clear, ↓q_index, ↓u_tup, ↓u_ref, ↓u_range, ↓q_slice, ↓oi_none, ↓oi_int, ↓X_slice, ↓XO_none, ↓XO_some, ↓u_rev, ↓u_range2, ↓retV_ret, ↓retV_next, List.getElem?_cons_zero, List.getElem?_cons_succ, List.set_cons_zero, List.set_cons_succ, Bool.not_true, Bool.not_false, idx_0, idx_1, idx_2, idx_3, idx_4, idx_5, Int.reduceAdd, Int.reduceSub, Int.reduceMul, Int.reduceNeg, Int.reducePow, Int.reduceLT, Int.reduceLE, Int.reduceEq, Int.reduceNe, Int.reduceToNat, Int.reduceAbs, Nat.reduceAdd, Nat.reduceLT, Nat.reduceLeDiff, Nat.reducePow, Nat.reduceLT, List.length_cons, List.length_nil, true_implies, false_implies, not_true_eq_false, not_false_eq_true, and_true, true_and, and_self, or_true, true_or, decide_true, decide_false, exists_eq_left', Option.some.injEq, rv, sw_once_once, sw_once_every, sw_once_week, sw_once_month, sw_once_from, sw_once_until, sw_once_also, sw_once_but, sw_every_once, sw_every_every, sw_every_week, sw_every_month, sw_every_from, sw_every_until, sw_every_also, sw_every_but, sw_week_once, sw_week_every, sw_week_week, sw_week_month, sw_week_from, sw_week_until, sw_week_also, sw_week_but, sw_month_once, sw_month_every, sw_month_week, sw_month_month, sw_month_from, sw_month_until, sw_month_also, sw_month_but, sw_from_once, sw_from_every, sw_from_week, sw_from_month, sw_from_from, sw_from_until, sw_from_also, sw_from_but, sw_until_once, sw_until_every, sw_until_week, sw_until_month, sw_until_from, sw_until_until, sw_until_also, sw_until_but, sw_also_once, sw_also_every, sw_also_week, sw_also_month, sw_also_from, sw_also_until, sw_also_also, sw_also_but, sw_but_once, sw_but_every, sw_but_week, sw_but_month, sw_but_from, sw_but_until, sw_but_also, sw_but_but, intsV, mem_ints]
      cases d with
      | true => simp only [↓X_lit, ↓X_loc, ↓X_bin, ↓negX_int, ↓X_neg, ↓X_not, ↓Y_not, ↓X_and, ↓Y_and, ↓X_or, ↓Y_or, ↓X_cmp, ↓X_cmp2, ↓X_ite, ↓Y_ite, ↓X_tup, ↓X_lst, ↓X_call, ↓X_meth, ↓X_sub, ↓X_comp, ↓Y_lit, ↓Y_loc, ↓Y_cmp, ↓Y_cmp2, ↓Y_call, ↓Y_sub, ↓XEs_nil, ↓XEs_cons, ↓XIfs_nil, ↓XIfs_cons, ↓Z_expr, ↓Z_assign, ↓Z_ret, ↓Z_retNone, ↓Z_ite, ↓Z_for, ↓Z_pass, ↓Z_brk, ↓Z_cont, ↓Zs_nil, ↓sqX_next, ↓sqX_brk, ↓sqX_cont, ↓sqX_ret, ↓Zs_cons, ↓wkX_next, ↓wkX_cont, ↓wkX_brk, ↓wkX_ret, ↓fkX_next, ↓fkX_cont, ↓fkX_brk, ↓fkX_ret, ↓xb_one, ↓oKK_some, ↓oK_some, ↓tX_bool, ↓iX_t, ↓iX_f, ↓iX_d, ↓q_add, ↓q_sub, ↓q_mul, ↓q_div, ↓q_mod, ↓q_pow, ↓q_list, ↓q_eq, ↓q_ne, ↓q_eqs, ↓q_nes, ↓q_eqb, ↓q_lt, ↓q_le, ↓q_gt, ↓q_ge, ↓q_in, ↓q_inl, ↓q_nin, ↓q_is, ↓q_isnot, ↓q_stup, ↓q_sref, ↓q_sscr, ↓q_fn, ↓q_lentup, ↓q_lenref, ↓q_lenscr, ↓q_isi, ↓q_all, ↓q_max, ↓q_min, ↓q_int, ↓q_tuple, ↓q_listc, ↓q_append, ↓q_clear, ↓q_index, ↓u_tup, ↓u_ref, ↓u_range, ↓q_slice, ↓oi_none, ↓oi_int, ↓X_slice, ↓XO_none, ↓XO_some, ↓u_rev, ↓u_range2, ↓retV_ret, ↓retV_next, List.getElem?_cons_zero, List.getElem?_cons_succ, List.set_cons_zero, List.set_cons_succ, Bool.not_true, Bool.not_false, idx_0, idx_1, idx_2, idx_3, idx_4, idx_5, Int.reduceAdd, Int.reduceSub, Int.reduceMul, Int.reduceNeg, Int.reducePow, Int.reduceLT, Int.reduceLE, Int.reduceEq, Int.reduceNe, Int.reduceToNat, Int.reduceAbs, Nat.reduceAdd, Nat.reduceLT, Nat.reduceLeDiff, Nat.reducePow, Nat.reduceLT, List.length_cons, List.length_nil, true_implies, false_implies, not_true_eq_false, not_false_eq_true, and_true, true_and, and_self, or_true, true_or, decide_true, decide_false, exists_eq_left', Option.some.injEq]; exact ⟨hst, ih' _ (by simp [lst1])⟩
      | false => simp only [↓X_lit, ↓X_loc, ↓X_bin, ↓negX_int, ↓X_neg, ↓X_not, ↓Y_not, ↓X_and, ↓Y_and, ↓X_or, ↓Y_or, ↓X_cmp, ↓X_cmp2, ↓X_ite, ↓Y_ite, ↓X_tup, ↓X_lst, ↓X_call, ↓X_meth, ↓X_sub, ↓X_comp, ↓Y_lit, ↓Y_loc, ↓Y_cmp, ↓Y_cmp2, ↓Y_call, ↓Y_sub, ↓XEs_nil, ↓XEs_cons, ↓XIfs_nil, ↓XIfs_cons, ↓Z_expr, ↓Z_assign, ↓Z_ret, ↓Z_retNone, ↓Z_ite, ↓Z_for, ↓Z_pass, ↓Z_brk, ↓Z_cont, ↓Zs_nil, ↓sqX_next, ↓sqX_brk, ↓sqX_cont, ↓sqX_ret, ↓Zs_cons, ↓wkX_next, ↓wkX_cont, ↓wkX_brk, ↓wkX_ret, ↓fkX_next, ↓fkX_cont, ↓fkX_brk, ↓fkX_ret, ↓xb_one, ↓oKK_some, ↓oK_some, ↓tX_bool, ↓iX_t, ↓iX_f, ↓iX_d, ↓q_add, ↓q_sub, ↓q_mul, ↓q_div, ↓q_mod, ↓q_pow, ↓q_list, ↓q_eq, ↓q_ne, ↓q_eqs, ↓q_nes, ↓q_eqb, ↓q_lt, ↓q_le, ↓q_gt, ↓q_ge, ↓q_in, ↓q_inl, ↓q_nin, ↓q_is, ↓q_isnot, ↓q_stup, ↓q_sref, ↓q_sscr, ↓q_fn, ↓q_lentup, ↓q_lenref, ↓q_lenscr, ↓q_isi, ↓q_all, ↓q_max, ↓q_min, ↓q_int, ↓q_tuple, ↓q_listc, ↓q_append, ↓q_clear, ↓q_index, ↓u_tup, ↓u_ref, ↓u_range, ↓q_slice, ↓oi_none, ↓oi_int, ↓X_slice, ↓XO_none, ↓XO_some, ↓u_rev, ↓u_range2, ↓retV_ret, ↓retV_next, List.getElem?_cons_zero, List.getElem?_cons_succ, List.set_cons_zero, List.set_cons_succ, Bool.not_true, Bool.not_false, idx_0, idx_1, idx_2, idx_3, idx_4, idx_5, Int.reduceAdd, Int.reduceSub, Int.reduceMul, Int.reduceNeg, Int.reducePow, Int.reduceLT, Int.reduceLE, Int.reduceEq, Int.reduceNe, Int.reduceToNat, Int.reduceAbs, Nat.reduceAdd, Nat.reduceLT, Nat.reduceLeDiff, Nat.reducePow, Nat.reduceLT, List.length_cons, List.length_nil, true_implies, false_implies, not_true_eq_false, not_false_eq_true, and_true, true_and, and_self, or_true, true_or, decide_true, decide_false, exists_eq_left', Option.some.injEq]; exact ⟨hst, ih' _ (by simp [lst1])⟩
    | once h s => cases hpe
    | every h s p => cases hpe
    | week ds t s => cases hpe
    | month d t s => cases hpe

noncomputable def C_begun : Ctr := fun vs H Q _ => ∃ (r : Rl) (x : Int), vs = [rv r, .int x] ∧ r.ok ∧ r.depth ≤ 1000 ∧ ∀ H', H <+: H' → Q (.bool (lbg r x)) H'
theorem w_begun : ∀ vs H Q X, C_begun vs H Q X → wpFn Ψ1 f_l_begun vs H Q X := by
  rintro vs H Q X ⟨r, x, rfl, hok, hd, q⟩
  refine fn_of rfl ?_
  change wpSs Ψ1 f_l_begun.body [some (rv r), some (.int x), none, none, none, none, none, none] H _ _
  refine zs_cons ?_
  generalize hK : sqX Ψ1 (_ :: _) = K
  simp only [↓X_lit, ↓X_loc, ↓X_bin, ↓negX_int, ↓X_neg, ↓X_not, ↓Y_not, ↓X_and, ↓Y_and, ↓X_or, ↓Y_or, ↓X_cmp, ↓X_cmp2, ↓X_ite, ↓Y_ite, ↓X_tup, ↓X_lst, ↓X_call, ↓X_meth, ↓X_sub, ↓X_comp, ↓Y_lit, ↓Y_loc, ↓Y_cmp, ↓Y_cmp2, ↓Y_call, ↓Y_sub, ↓XEs_nil, ↓XEs_cons, ↓XIfs_nil, ↓XIfs_cons, ↓Z_expr, ↓Z_assign, ↓Z_ret, ↓Z_retNone, ↓Z_ite, ↓Z_for, ↓Z_pass, ↓Z_brk, ↓Z_cont, ↓Zs_nil, ↓sqX_next, ↓sqX_brk, ↓sqX_cont, ↓sqX_ret, ↓Zs_cons, ↓wkX_next, ↓wkX_cont, ↓wkX_brk, ↓wkX_ret, ↓fkX_next, ↓fkX_cont, ↓fkX_brk, ↓fkX_ret, ↓xb_one, ↓oKK_some, ↓oK_some, ↓tX_bool, ↓iX_t, ↓iX_f, ↓iX_d, ↓q_add, ↓q_sub, ↓q_mul, ↓q_div, ↓q_mod, ↓q_pow, ↓q_list, ↓q_eq, ↓q_ne, ↓q_eqs, ↓q_nes, ↓q_eqb, ↓q_lt, ↓q_le, ↓q_gt, ↓q_ge, ↓q_in, ↓q_inl, ↓q_nin, ↓q_is, ↓q_isnot, ↓q_stup, ↓q_sref, ↓q_sscr, ↓q_fn, ↓q_lentup, ↓q_lenref, ↓q_lenscr, ↓q_isi, ↓q_all, ↓q_max, ↓q_min, ↓q_int, ↓q_tuple, ↓q_listc, ↓q_append, ↓q_clear, ↓q_index, ↓u_tup, ↓u_ref, ↓u_range, ↓q_slice, ↓oi_none, ↓oi_int, ↓X_slice, ↓XO_none, ↓XO_some, ↓u_rev, ↓u_range2, ↓retV_ret, ↓retV_next, List.getElem?_cons_zero, List.getElem?_cons_succ, List.set_cons_zero, List.set_cons_succ, Bool.not_true, Bool.not_false, idx_0, idx_1, idx_2, idx_3, idx_4, idx_5, Int.reduceAdd, Int.reduceSub, Int.reduceMul, Int.reduceNeg, Int.reducePow, Int.reduceLT, Int.reduceLE, Int.reduceEq, Int.reduceNe, Int.reduceToNat, Int.reduceAbs, Nat.reduceAdd, Nat.reduceLT, Nat.reduceLeDiff, Nat.reducePow, Nat.reduceLT, List.length_cons, List.length_nil, true_implies, false_implies, not_true_eq_false, not_false_eq_true, and_true, true_and, and_self, or_true, true_or, decide_true, decide_false, exists_eq_left', Option.some.injEq, ↓P1_he]
  refine ⟨r, rfl, hd, fun H1 hp1 => ?_⟩
  subst hK
  refine zs_cons ?_
  generalize hK : sqX Ψ1 (_ :: _) = K
  simp only [↓X_lit, ↓X_loc, ↓X_bin, ↓negX_int, ↓X_neg, ↓X_not, ↓Y_not, ↓X_and, ↓Y_and, ↓X_or, ↓Y_or, ↓X_cmp, ↓X_cmp2, ↓X_ite, ↓Y_ite, ↓X_tup, ↓X_lst, ↓X_call, ↓X_meth, ↓X_sub, ↓X_comp, ↓Y_lit, ↓Y_loc, ↓Y_cmp, ↓Y_cmp2, ↓Y_call, ↓Y_sub, ↓XEs_nil, ↓XEs_cons, ↓XIfs_nil, ↓XIfs_cons, ↓Z_expr, ↓Z_assign, ↓Z_ret, ↓Z_retNone, ↓Z_ite, ↓Z_for, ↓Z_pass, ↓Z_brk, ↓Z_cont, ↓Zs_nil, ↓sqX_next, ↓sqX_brk, ↓sqX_cont, ↓sqX_ret, ↓Zs_cons, ↓wkX_next, ↓wkX_cont, ↓wkX_brk, ↓wkX_ret, ↓fkX_next, ↓fkX_cont, ↓fkX_brk, ↓fkX_ret, ↓xb_one, ↓oKK_some, ↓oK_some, ↓tX_bool, ↓iX_t, ↓iX_f, ↓iX_d, ↓q_add, ↓q_sub, ↓q_mul, ↓q_div, ↓q_mod, ↓q_pow, ↓q_list, ↓q_eq, ↓q_ne, ↓q_eqs, ↓q_nes, ↓q_eqb, ↓q_lt, ↓q_le, ↓q_gt, ↓q_ge, ↓q_in, ↓q_inl, ↓q_nin, ↓q_is, ↓q_isnot, ↓q_stup, ↓q_sref, ↓q_sscr, ↓q_fn, ↓q_lentup, ↓q_lenref, ↓q_lenscr, ↓q_isi, ↓q_all, ↓q_max, ↓q_min, ↓q_int, ↓q_tuple, ↓q_listc, ↓q_append, ↓q_clear, ↓q_index, ↓u_tup, ↓u_ref, ↓u_range, ↓q_slice, ↓oi_none, ↓oi_int, ↓X_slice, ↓XO_none, ↓XO_some, ↓u_rev, ↓u_range2, ↓retV_ret, ↓retV_next, List.getElem?_cons_zero, List.getElem?_cons_succ, List.set_cons_zero, List.set_cons_succ, Bool.not_true, Bool.not_false, idx_0, idx_1, idx_2, idx_3, idx_4, idx_5, Int.reduceAdd, Int.reduceSub, Int.reduceMul, Int.reduceNeg, Int.reducePow, Int.reduceLT, Int.reduceLE, Int.reduceEq, Int.reduceNe, Int.reduceToNat, Int.reduceAbs, Nat.reduceAdd, Nat.reduceLT, Nat.reduceLeDiff, Nat.reducePow, Nat.reduceLT, List.length_cons, List.length_nil, true_implies, false_implies, not_true_eq_false, not_false_eq_true, and_true, true_and, and_self, or_true, true_or, decide_true, decide_false, exists_eq_left', Option.some.injEq, ↓P1_pl, listAt_new, heads_map, idx_last]
  refine ⟨r.inner, x, rfl, inner_plain r, inner_ok r hok, fun H2 hp2 => ?_⟩
  subst hK
  refine zs_cons ?_
  generalize hK : sqX Ψ1 (_ :: _) = K
  have hl2 := listAt_pre hp2 (listAt_new (H := H1) (l := r.outer.map rv ++ [rv r.inner]))
  simp only [↓X_lit, ↓X_loc, ↓X_bin, ↓negX_int, ↓X_neg, ↓X_not, ↓Y_not, ↓X_and, ↓Y_and, ↓X_or, ↓Y_or, ↓X_cmp, ↓X_cmp2, ↓X_ite, ↓Y_ite, ↓X_tup, ↓X_lst, ↓X_call, ↓X_meth, ↓X_sub, ↓X_comp, ↓Y_lit, ↓Y_loc, ↓Y_cmp, ↓Y_cmp2, ↓Y_call, ↓Y_sub, ↓XEs_nil, ↓XEs_cons, ↓XIfs_nil, ↓XIfs_cons, ↓Z_expr, ↓Z_assign, ↓Z_ret, ↓Z_retNone, ↓Z_ite, ↓Z_for, ↓Z_pass, ↓Z_brk, ↓Z_cont, ↓Zs_nil, ↓sqX_next, ↓sqX_brk, ↓sqX_cont, ↓sqX_ret, ↓Zs_cons, ↓wkX_next, ↓wkX_cont, ↓wkX_brk, ↓wkX_ret, ↓fkX_next, ↓fkX_cont, ↓fkX_brk, ↓fkX_ret, ↓xb_one, ↓oKK_some, ↓oK_some, ↓tX_bool, ↓iX_t, ↓iX_f, ↓iX_d, ↓q_add, ↓q_sub, ↓q_mul, ↓q_div, ↓q_mod, ↓q_pow, ↓q_list, ↓q_eq, ↓q_ne, ↓q_eqs, ↓q_nes, ↓q_eqb, ↓q_lt, ↓q_le, ↓q_gt, ↓q_ge, ↓q_in, ↓q_inl, ↓q_nin, ↓q_is, ↓q_isnot, ↓q_stup, ↓q_sref, ↓q_sscr, ↓q_fn, ↓q_lentup, ↓q_lenref, ↓q_lenscr, ↓q_isi, ↓q_all, ↓q_max, ↓q_min, ↓q_int, ↓q_tuple, ↓q_listc, ↓q_append, ↓q_clear, ↓q_index, ↓u_tup, ↓u_ref, ↓u_range, ↓q_slice, ↓oi_none, ↓oi_int, ↓X_slice, ↓XO_none, ↓XO_some, ↓u_rev, ↓u_range2, ↓retV_ret, ↓retV_next, List.getElem?_cons_zero, List.getElem?_cons_succ, List.set_cons_zero, List.set_cons_succ, Bool.not_true, Bool.not_false, idx_0, idx_1, idx_2, idx_3, idx_4, idx_5, Int.reduceAdd, Int.reduceSub, Int.reduceMul, Int.reduceNeg, Int.reducePow, Int.reduceLT, Int.reduceLE, Int.reduceEq, Int.reduceNe, Int.reduceToNat, Int.reduceAbs, Nat.reduceAdd, Nat.reduceLT, Nat.reduceLeDiff, Nat.reducePow, Nat.reduceLT, List.length_cons, List.length_nil, true_implies, false_implies, not_true_eq_false, not_false_eq_true, and_true, true_and, and_self, or_true, true_or, decide_true, decide_false, exists_eq_left', Option.some.injEq, hl2, slice_init, listAt_new, ← List.map_reverse]
  subst hK
  refine bg_loop listAt_new r.outer.reverse _ _ (fun e he => outer_heads r e (by simpa using he)) ?_
  intro t4'
  simp only [↓X_lit, ↓X_loc, ↓X_bin, ↓negX_int, ↓X_neg, ↓X_not, ↓Y_not, ↓X_and, ↓Y_and, ↓X_or, ↓Y_or, ↓X_cmp, ↓X_cmp2, ↓X_ite, ↓Y_ite, ↓X_tup, ↓X_lst, ↓X_call, ↓X_meth, ↓X_sub, ↓X_comp, ↓Y_lit, ↓Y_loc, ↓Y_cmp, ↓Y_cmp2, ↓Y_call, ↓Y_sub, ↓XEs_nil, ↓XEs_cons, ↓XIfs_nil, ↓XIfs_cons, ↓Z_expr, ↓Z_assign, ↓Z_ret, ↓Z_retNone, ↓Z_ite, ↓Z_for, ↓Z_pass, ↓Z_brk, ↓Z_cont, ↓Zs_nil, ↓sqX_next, ↓sqX_brk, ↓sqX_cont, ↓sqX_ret, ↓Zs_cons, ↓wkX_next, ↓wkX_cont, ↓wkX_brk, ↓wkX_ret, ↓fkX_next, ↓fkX_cont, ↓fkX_brk, ↓fkX_ret, ↓xb_one, ↓oKK_some, ↓oK_some, ↓tX_bool, ↓iX_t, ↓iX_f, ↓iX_d, ↓q_add, ↓q_sub, ↓q_mul, ↓q_div, ↓q_mod, ↓q_pow, ↓q_list, ↓q_eq, ↓q_ne, ↓q_eqs, ↓q_nes, ↓q_eqb, ↓q_lt, ↓q_le, ↓q_gt, ↓q_ge, ↓q_in, ↓q_inl, ↓q_nin, ↓q_is, ↓q_isnot, ↓q_stup, ↓q_sref, ↓q_sscr, ↓q_fn, ↓q_lentup, ↓q_lenref, ↓q_lenscr, ↓q_isi, ↓q_all, ↓q_max, ↓q_min, ↓q_int, ↓q_tuple, ↓q_listc, ↓q_append, ↓q_clear, ↓q_index, ↓u_tup, ↓u_ref, ↓u_range, ↓q_slice, ↓oi_none, ↓oi_int, ↓X_slice, ↓XO_none, ↓XO_some, ↓u_rev, ↓u_range2, ↓retV_ret, ↓retV_next, List.getElem?_cons_zero, List.getElem?_cons_succ, List.set_cons_zero, List.set_cons_succ, Bool.not_true, Bool.not_false, idx_0, idx_1, idx_2, idx_3, idx_4, idx_5, Int.reduceAdd, Int.reduceSub, Int.reduceMul, Int.reduceNeg, Int.reducePow, Int.reduceLT, Int.reduceLE, Int.reduceEq, Int.reduceNe, Int.reduceToNat, Int.reduceAbs, Nat.reduceAdd, Nat.reduceLT, Nat.reduceLeDiff, Nat.reducePow, Nat.reduceLT, List.length_cons, List.length_nil, true_implies, false_implies, not_true_eq_false, not_false_eq_true, and_true, true_and, and_self, or_true, true_or, decide_true, decide_false, exists_eq_left', Option.some.injEq]
  rw [lbg_fold]
  exact q _ (hp1.trans (pre_new.trans (hp2.trans pre_new)))
noncomputable def Ψ2 : Orc := ext "_law_begun" C_begun Ψ1
theorem P2_he : Ψ2 "_law_heads" = C_heads := rfl
theorem me_once : memV (.str "once") [V.str "once", .str "every"] = some true := by decide
theorem me_every : memV (.str "every") [V.str "once", .str "every"] = some true := by decide
theorem me_week : memV (.str "week") [V.str "once", .str "every"] = some false := by decide
theorem me_month : memV (.str "month") [V.str "once", .str "every"] = some false := by decide
noncomputable def C_size : Ctr := fun vs H Q _ => ∃ r : Rl, vs = [rv r] ∧ r.depth ≤ 1000 ∧ ∀ H', H <+: H' → Q (.int r.size) H'
theorem w_size : ∀ vs H Q X, C_size vs H Q X → wpFn Ψ2 f_l_size vs H Q X := by
  rintro vs H Q X ⟨r, rfl, hd, q⟩
  refine fn_of rfl ?_
  change wpSs Ψ2 f_l_size.body [some (rv r), none, none, none, none] H _ _
  refine zs_cons ?_
  generalize hK : sqX Ψ2 (_ :: _) = K
  simp only [↓X_lit, ↓X_loc, ↓X_bin, ↓negX_int, ↓X_neg, ↓X_not, ↓Y_not, ↓X_and, ↓Y_and, ↓X_or, ↓Y_or, ↓X_cmp, ↓X_cmp2, ↓X_ite, ↓Y_ite, ↓X_tup, ↓X_lst, ↓X_call, ↓X_meth, ↓X_sub, ↓X_comp, ↓Y_lit, ↓Y_loc, ↓Y_cmp, ↓Y_cmp2, ↓Y_call, ↓Y_sub, ↓XEs_nil, ↓XEs_cons, ↓XIfs_nil, ↓XIfs_cons, ↓Z_expr, ↓Z_assign, ↓Z_ret, ↓Z_retNone, ↓Z_ite, ↓Z_for, ↓Z_pass, ↓Z_brk, ↓Z_cont, ↓Zs_nil, ↓sqX_next, ↓sqX_brk, ↓sqX_cont, ↓sqX_ret, ↓Zs_cons, ↓wkX_next, ↓wkX_cont, ↓wkX_brk, ↓wkX_ret, ↓fkX_next, ↓fkX_cont, ↓fkX_brk, ↓fkX_ret, ↓xb_one, ↓oKK_some, ↓oK_some, ↓tX_bool, ↓iX_t, ↓iX_f, ↓iX_d, ↓q_add, ↓q_sub, ↓q_mul, ↓q_div, ↓q_mod, ↓q_pow, ↓q_list, ↓q_eq, ↓q_ne, ↓q_eqs, ↓q_nes, ↓q_eqb, ↓q_lt, ↓q_le, ↓q_gt, ↓q_ge, ↓q_in, ↓q_inl, ↓q_nin, ↓q_is, ↓q_isnot, ↓q_stup, ↓q_sref, ↓q_sscr, ↓q_fn, ↓q_lentup, ↓q_lenref, ↓q_lenscr, ↓q_isi, ↓q_all, ↓q_max, ↓q_min, ↓q_int, ↓q_tuple, ↓q_listc, ↓q_append, ↓q_clear, ↓q_index, ↓u_tup, ↓u_ref, ↓u_range, ↓q_slice, ↓oi_none, ↓oi_int, ↓X_slice, ↓XO_none, ↓XO_some, ↓u_rev, ↓u_range2, ↓retV_ret, ↓retV_next, List.getElem?_cons_zero, List.getElem?_cons_succ, List.set_cons_zero, List.set_cons_succ, Bool.not_true, Bool.not_false, idx_0, idx_1, idx_2, idx_3, idx_4, idx_5, Int.reduceAdd, Int.reduceSub, Int.reduceMul, Int.reduceNeg, Int.reducePow, Int.reduceLT, Int.reduceLE, Int.reduceEq, Int.reduceNe, Int.reduceToNat, Int.reduceAbs, Nat.reduceAdd, Nat.reduceLT, Nat.reduceLeDiff, Nat.reducePow, Nat.reduceLT, List.length_cons, List.length_nil, true_implies, false_implies, not_true_eq_false, not_false_eq_true, and_true, true_and, and_self, or_true, true_or, decide_true, decide_false, exists_eq_left', Option.some.injEq, ↓P2_he]
  refine ⟨r, rfl, hd, fun H1 hp1 => ?_⟩
  simp only [↓X_lit, ↓X_loc, ↓X_bin, ↓negX_int, ↓X_neg, ↓X_not, ↓Y_not, ↓X_and, ↓Y_and, ↓X_or, ↓Y_or, ↓X_cmp, ↓X_cmp2, ↓X_ite, ↓Y_ite, ↓X_tup, ↓X_lst, ↓X_call, ↓X_meth, ↓X_sub, ↓X_comp, ↓Y_lit, ↓Y_loc, ↓Y_cmp, ↓Y_cmp2, ↓Y_call, ↓Y_sub, ↓XEs_nil, ↓XEs_cons, ↓XIfs_nil, ↓XIfs_cons, ↓Z_expr, ↓Z_assign, ↓Z_ret, ↓Z_retNone, ↓Z_ite, ↓Z_for, ↓Z_pass, ↓Z_brk, ↓Z_cont, ↓Zs_nil, ↓sqX_next, ↓sqX_brk, ↓sqX_cont, ↓sqX_ret, ↓Zs_cons, ↓wkX_next, ↓wkX_cont, ↓wkX_brk, ↓wkX_ret, ↓fkX_next, ↓fkX_cont, ↓fkX_brk, ↓fkX_ret, ↓xb_one, ↓oKK_some, ↓oK_some, ↓tX_bool, ↓iX_t, ↓iX_f, ↓iX_d, ↓q_add, ↓q_sub, ↓q_mul, ↓q_div, ↓q_mod, ↓q_pow, ↓q_list, ↓q_eq, ↓q_ne, ↓q_eqs, ↓q_nes, ↓q_eqb, ↓q_lt, ↓q_le, ↓q_gt, ↓q_ge, ↓q_in, ↓q_inl, ↓q_nin, ↓q_is, ↓q_isnot, ↓q_stup, ↓q_sref, ↓q_sscr, ↓q_fn, ↓q_lentup, ↓q_lenref, ↓q_lenscr, ↓q_isi, ↓q_all, ↓q_max, ↓q_min, ↓q_int, ↓q_tuple, ↓q_listc, ↓q_append, ↓q_clear, ↓q_index, ↓u_tup, ↓u_ref, ↓u_range, ↓q_slice, ↓oi_none, ↓oi_int, ↓X_slice, ↓XO_none, ↓XO_some, ↓u_rev, ↓u_range2, ↓retV_ret, ↓retV_next, List.getElem?_cons_zero, List.getElem?_cons_succ, List.set_cons_zero, List.set_cons_succ, Bool.not_true, Bool.not_false, idx_0, idx_1, idx_2, idx_3, idx_4, idx_5, Int.reduceAdd, Int.reduceSub, Int.reduceMul, Int.reduceNeg, Int.reducePow, Int.reduceLT, Int.reduceLE, Int.reduceEq, Int.reduceNe, Int.reduceToNat, Int.reduceAbs, Nat.reduceAdd, Nat.reduceLT, Nat.reduceLeDiff, Nat.reducePow, Nat.reduceLT, List.length_cons, List.length_nil, true_implies, false_implies, not_true_eq_false, not_false_eq_true, and_true, true_and, and_self, or_true, true_or, decide_true, decide_false, exists_eq_left', Option.some.injEq, listAt_new, heads_map, idx_last]
  have q' : ∀ o, Q (.int r.inner.size) ((H1 ++ [.list (r.outer.map rv ++ [rv r.inner])]) ++ [o]) := fun o => by rw [inner_size]; exact q _ (hp1.trans (pre_new.trans pre_new))
  have hp := inner_plain r
  generalize H1 ++ [O.list (r.outer.map rv ++ [rv r.inner])] = H3 at *
  subst hK
  revert q' hp
  cases r.inner with
  | once h s => intro _ q'; simp only [↓X_lit, ↓X_loc, ↓X_bin, ↓negX_int, ↓X_neg, ↓X_not, ↓Y_not, ↓X_and, ↓Y_and, ↓X_or, ↓Y_or, ↓X_cmp, ↓X_cmp2, ↓X_ite, ↓Y_ite, ↓X_tup, ↓X_lst, ↓X_call, ↓X_meth, ↓X_sub, ↓X_comp, ↓Y_lit, ↓Y_loc, ↓Y_cmp, ↓Y_cmp2, ↓Y_call, ↓Y_sub, ↓XEs_nil, ↓XEs_cons, ↓XIfs_nil, ↓XIfs_cons, ↓Z_expr, ↓Z_assign, ↓Z_ret, ↓Z_retNone, ↓Z_ite, ↓Z_for, ↓Z_pass, ↓Z_brk, ↓Z_cont, ↓Zs_nil, ↓sqX_next, ↓sqX_brk, ↓sqX_cont, ↓sqX_ret, ↓Zs_cons, ↓wkX_next, ↓wkX_cont, ↓wkX_brk, ↓wkX_ret, ↓fkX_next, ↓fkX_cont, ↓fkX_brk, ↓fkX_ret, ↓xb_one, ↓oKK_some, ↓oK_some, ↓tX_bool, ↓iX_t, ↓iX_f, ↓iX_d, ↓q_add, ↓q_sub, ↓q_mul, ↓q_div, ↓q_mod, ↓q_pow, ↓q_list, ↓q_eq, ↓q_ne, ↓q_eqs, ↓q_nes, ↓q_eqb, ↓q_lt, ↓q_le, ↓q_gt, ↓q_ge, ↓q_in, ↓q_inl, ↓q_nin, ↓q_is, ↓q_isnot, ↓q_stup, ↓q_sref, ↓q_sscr, ↓q_fn, ↓q_lentup, ↓q_lenref, ↓q_lenscr, ↓q_isi, ↓q_all, ↓q_max, ↓q_min, ↓q_int, ↓q_tuple, ↓q_listc, ↓q_append, ↓q_clear, ↓q_index, ↓u_tup, ↓u_ref, ↓u_range, ↓q_slice, ↓oi_none, ↓oi_int, ↓X_slice, ↓XO_none, ↓XO_some, ↓u_rev, ↓u_range2, ↓retV_ret, ↓retV_next, List.getElem?_cons_zero, List.getElem?_cons_succ, List.set_cons_zero, List.set_cons_succ, Bool.not_true, Bool.not_false, idx_0, idx_1, idx_2, idx_3, idx_4, idx_5, Int.reduceAdd, Int.reduceSub, Int.reduceMul, Int.reduceNeg, Int.reducePow, Int.reduceLT, Int.reduceLE, Int.reduceEq, Int.reduceNe, Int.reduceToNat, Int.reduceAbs, Nat.reduceAdd, Nat.reduceLT, Nat.reduceLeDiff, Nat.reducePow, Nat.reduceLT, List.length_cons, List.length_nil, true_implies, false_implies, not_true_eq_false, not_false_eq_true, and_true, true_and, and_self, or_true, true_or, decide_true, decide_false, exists_eq_left', Option.some.injEq, rv, listAt_new, me_once]; exact q' _
  | every h s p => intro _ q'; simp only [↓X_lit, ↓X_loc, ↓X_bin, ↓negX_int, ↓X_neg, ↓X_not, ↓Y_not, ↓X_and, ↓Y_and, ↓X_or, ↓Y_or, ↓X_cmp, ↓X_cmp2, ↓X_ite, ↓Y_ite, ↓X_tup, ↓X_lst, ↓X_call, ↓X_meth, ↓X_sub, ↓X_comp, ↓Y_lit, ↓Y_loc, ↓Y_cmp, ↓Y_cmp2, ↓Y_call, ↓Y_sub, ↓XEs_nil, ↓XEs_cons, ↓XIfs_nil, ↓XIfs_cons, ↓Z_expr, ↓Z_assign, ↓Z_ret, ↓Z_retNone, ↓Z_ite, ↓Z_for, ↓Z_pass, ↓Z_brk, ↓Z_cont, ↓Zs_nil, ↓sqX_next, ↓sqX_brk, ↓sqX_cont, ↓sqX_ret, ↓Zs_cons, ↓wkX_next, ↓wkX_cont, ↓wkX_brk, ↓wkX_ret, ↓fkX_next, ↓fkX_cont, ↓fkX_brk, ↓fkX_ret, ↓xb_one, ↓oKK_some, ↓oK_some, ↓tX_bool, ↓iX_t, ↓iX_f, ↓iX_d, ↓q_add, ↓q_sub, ↓q_mul, ↓q_div, ↓q_mod, ↓q_pow, ↓q_list, ↓q_eq, ↓q_ne, ↓q_eqs, ↓q_nes, ↓q_eqb, ↓q_lt, ↓q_le, ↓q_gt, ↓q_ge, ↓q_in, ↓q_inl, ↓q_nin, ↓q_is, ↓q_isnot, ↓q_stup, ↓q_sref, ↓q_sscr, ↓q_fn, ↓q_lentup, ↓q_lenref, ↓q_lenscr, ↓q_isi, ↓q_all, ↓q_max, ↓q_min, ↓q_int, ↓q_tuple, ↓q_listc, ↓q_append, ↓q_clear, ↓q_index, ↓u_tup, ↓u_ref, ↓u_range, ↓q_slice, ↓oi_none, ↓oi_int, ↓X_slice, ↓XO_none, ↓XO_some, ↓u_rev, ↓u_range2, ↓retV_ret, ↓retV_next, List.getElem?_cons_zero, List.getElem?_cons_succ, List.set_cons_zero, List.set_cons_succ, Bool.not_true, Bool.not_false, idx_0, idx_1, idx_2, idx_3, idx_4, idx_5, Int.reduceAdd, Int.reduceSub, Int.reduceMul, Int.reduceNeg, Int.reducePow, Int.reduceLT, Int.reduceLE, Int.reduceEq, Int.reduceNe, Int.reduceToNat, Int.reduceAbs, Nat.reduceAdd, Nat.reduceLT, Nat.reduceLeDiff, Nat.reducePow, Nat.reduceLT, List.length_cons, List.length_nil, true_implies, false_implies, not_true_eq_false, not_false_eq_true, and_true, true_and, and_self, or_true, true_or, decide_true, decide_false, exists_eq_left', Option.some.injEq, rv, listAt_new, me_every]; exact q' _
  | week ds t s => intro _ q'; simp only [↓X_lit, ↓X_loc, ↓X_bin, ↓negX_int, ↓X_neg, ↓X_not, ↓Y_not, ↓X_and, ↓Y_and, ↓X_or, ↓Y_or, ↓X_cmp, ↓X_cmp2, ↓X_ite, ↓Y_ite, ↓X_tup, ↓X_lst, ↓X_call, ↓X_meth, ↓X_sub, ↓X_comp, ↓Y_lit, ↓Y_loc, ↓Y_cmp, ↓Y_cmp2, ↓Y_call, ↓Y_sub, ↓XEs_nil, ↓XEs_cons, ↓XIfs_nil, ↓XIfs_cons, ↓Z_expr, ↓Z_assign, ↓Z_ret, ↓Z_retNone, ↓Z_ite, ↓Z_for, ↓Z_pass, ↓Z_brk, ↓Z_cont, ↓Zs_nil, ↓sqX_next, ↓sqX_brk, ↓sqX_cont, ↓sqX_ret, ↓Zs_cons, ↓wkX_next, ↓wkX_cont, ↓wkX_brk, ↓wkX_ret, ↓fkX_next, ↓fkX_cont, ↓fkX_brk, ↓fkX_ret, ↓xb_one, ↓oKK_some, ↓oK_some, ↓tX_bool, ↓iX_t, ↓iX_f, ↓iX_d, ↓q_add, ↓q_sub, ↓q_mul, ↓q_div, ↓q_mod, ↓q_pow, ↓q_list, ↓q_eq, ↓q_ne, ↓q_eqs, ↓q_nes, ↓q_eqb, ↓q_lt, ↓q_le, ↓q_gt, ↓q_ge, ↓q_in, ↓q_inl, ↓q_nin, ↓q_is, ↓q_isnot, ↓q_stup, ↓q_sref, ↓q_sscr, ↓q_fn, ↓q_lentup, ↓q_lenref, ↓q_lenscr, ↓q_isi, ↓q_all, ↓q_max, ↓q_min, ↓q_int, ↓q_tuple, ↓q_listc, ↓q_append, ↓q_clear, ↓q_index, ↓u_tup, ↓u_ref, ↓u_range, ↓q_slice, ↓oi_none, ↓oi_int, ↓X_slice, ↓XO_none, ↓XO_some, ↓u_rev, ↓u_range2, ↓retV_ret, ↓retV_next, List.getElem?_cons_zero, List.getElem?_cons_succ, List.set_cons_zero, List.set_cons_succ, Bool.not_true, Bool.not_false, idx_0, idx_1, idx_2, idx_3, idx_4, idx_5, Int.reduceAdd, Int.reduceSub, Int.reduceMul, Int.reduceNeg, Int.reducePow, Int.reduceLT, Int.reduceLE, Int.reduceEq, Int.reduceNe, Int.reduceToNat, Int.reduceAbs, Nat.reduceAdd, Nat.reduceLT, Nat.reduceLeDiff, Nat.reducePow, Nat.reduceLT, List.length_cons, List.length_nil, true_implies, false_implies, not_true_eq_false, not_false_eq_true, and_true, true_and, and_self, or_true, true_or, decide_true, decide_false, exists_eq_left', Option.some.injEq, rv, listAt_new, me_week]; exact q' _
  | month d t s => intro _ q'; simp only [↓X_lit, ↓X_loc, ↓X_bin, ↓negX_int, ↓X_neg, ↓X_not, ↓Y_not, ↓X_and, ↓Y_and, ↓X_or, ↓Y_or, ↓X_cmp, ↓X_cmp2, ↓X_ite, ↓Y_ite, ↓X_tup, ↓X_lst, ↓X_call, ↓X_meth, ↓X_sub, ↓X_comp, ↓Y_lit, ↓Y_loc, ↓Y_cmp, ↓Y_cmp2, ↓Y_call, ↓Y_sub, ↓XEs_nil, ↓XEs_cons, ↓XIfs_nil, ↓XIfs_cons, ↓Z_expr, ↓Z_assign, ↓Z_ret, ↓Z_retNone, ↓Z_ite, ↓Z_for, ↓Z_pass, ↓Z_brk, ↓Z_cont, ↓Zs_nil, ↓sqX_next, ↓sqX_brk, ↓sqX_cont, ↓sqX_ret, ↓Zs_cons, ↓wkX_next, ↓wkX_cont, ↓wkX_brk, ↓wkX_ret, ↓fkX_next, ↓fkX_cont, ↓fkX_brk, ↓fkX_ret, ↓xb_one, ↓oKK_some, ↓oK_some, ↓tX_bool, ↓iX_t, ↓iX_f, ↓iX_d, ↓q_add, ↓q_sub, ↓q_mul, ↓q_div, ↓q_mod, ↓q_pow, ↓q_list, ↓q_eq, ↓q_ne, ↓q_eqs, ↓q_nes, ↓q_eqb, ↓q_lt, ↓q_le, ↓q_gt, ↓q_ge, ↓q_in, ↓q_inl, ↓q_nin, ↓q_is, ↓q_isnot, ↓q_stup, ↓q_sref, ↓q_sscr, ↓q_fn, ↓q_lentup, ↓q_lenref, ↓q_lenscr, ↓q_isi, ↓q_all, ↓q_max, ↓q_min, ↓q_int, ↓q_tuple, ↓q_listc, ↓q_append, ↓q_clear, ↓q_index, ↓u_tup, ↓u_ref, ↓u_range, ↓q_slice, ↓oi_none, ↓oi_int, ↓X_slice, ↓XO_none, ↓XO_some, ↓u_rev, ↓u_range2, ↓retV_ret, ↓retV_next, List.getElem?_cons_zero, List.getElem?_cons_succ, List.set_cons_zero, List.set_cons_succ, Bool.not_true, Bool.not_false, idx_0, idx_1, idx_2, idx_3, idx_4, idx_5, Int.reduceAdd, Int.reduceSub, Int.reduceMul, Int.reduceNeg, Int.reducePow, Int.reduceLT, Int.reduceLE, Int.reduceEq, Int.reduceNe, Int.reduceToNat, Int.reduceAbs, Nat.reduceAdd, Nat.reduceLT, Nat.reduceLeDiff, Nat.reducePow, Nat.reduceLT, List.length_cons, List.length_nil, true_implies, false_implies, not_true_eq_false, not_false_eq_true, and_true, true_and, and_self, or_true, true_or, decide_true, decide_false, exists_eq_left', Option.some.injEq, rv, listAt_new, me_month]; exact q' _
  | frm h r => intro hp; cases hp
  | til h r => intro hp; cases hp
  | als h r => intro hp; cases hp
  | but ds r => intro hp; cases hp
noncomputable def Ψ3 : Orc := ext "_law_size" C_size Ψ2
end Mine

set_option autoImplicit false
set_option linter.unusedSimpArgs false
set_option maxRecDepth 20000
namespace Mine
open PySem

noncomputable def rangeI (b : Int) : List Int := (List.range b.toNat).map fun (k : Nat) => (k : Int)
theorem rangeL_I (b : Int) : rangeL 0 b = (rangeI b).map V.int := by
  simp [rangeL, rangeI, List.map_map, Function.comp_def]
noncomputable def manyOf (c : Int) : Int := [1, 2, 5, 20].getD (c / 280 % 4).toNat 1
noncomputable def headBy (c far : Int) (r : Rl) : Rl :=
  if c % 4 = 0 then .frm (far + c / 4 % 70) r else if c % 4 = 1 then .til (far + c / 4 % 70) r else if c % 4 = 2 then .als (far + c / 4 % 70) r
  else .but ((rangeI (manyOf c)).map fun k => (far + c / 4 % 70) / 24 + k * (1 + c / 1120 % 3)) r
theorem many_at {k : Int} (h1 : 0 ≤ k) (h2 : k < 4) : idx [V.int 1, .int 2, .int 5, .int 20] k = some (.int ([1, 2, 5, 20].getD k.toNat 1)) := idx_ints (l := [1, 2, 5, 20]) h1 h2 1
theorem many_all : ∀ k : Fin 4, (1 : Int) ≤ [1, 2, 5, 20].getD k.val 1 ∧ [1, 2, 5, 20].getD k.val (1 : Int) ≤ 20 := by decide
theorem manyOf_at (c : Int) : 1 ≤ manyOf c ∧ manyOf c ≤ 20 := by
  have h1 : 0 ≤ c / 280 % 4 := Int.emod_nonneg _ (by decide)
  have h2 : c / 280 % 4 < 4 := Int.emod_lt_of_pos _ (by decide)
  exact many_all ⟨(c / 280 % 4).toNat, by omega⟩
theorem manyOf_le (c : Int) : 0 ≤ manyOf c ∧ manyOf c ≤ 20 := ⟨by have := (manyOf_at c).1; omega, (manyOf_at c).2⟩
theorem rangeI_len (b : Int) : (rangeI b).length = b.toNat := by simp [rangeI]
noncomputable def C_head_by : Ctr := fun vs H Q _ => ∃ (c far : Int) (r : Rl), vs = [.int c, .int far, rv r] ∧ ∀ H', H <+: H' → Q (rv (headBy c far r)) H'
theorem hb_comp {c far h5 : Int} {v2 v3 : V} {t5 t7 t8 : Option V} {H : Hp} {X : XL} {Q : List V → Hp → Prop} {t6 : Option V} : ∀ (ks : List Int) (acc : List V), Q (acc ++ ks.map fun k => V.int (h5 / 24 + k * (1 + c / 1120 % 3))) H →
    compGo (coTX Ψ3 [] X) (coEX Ψ3 (.bin .Add (.bin .FloorDiv (.loc 4) (.lit (.int 24))) (.bin .Mult (.loc 6) (.bin .Add (.lit (.int 1)) (.bin .Mod (.bin .FloorDiv (.loc 0) (.lit (.int 1120))) (.lit (.int 3)))))) X) (fun _ => True) [6]
      [some (.int c), some (.int far), some v2, some v3, some (.int h5), t5, t6, t7, t8] (ks.map V.int) acc H Q := by
  intro ks
  induction ks with
  | nil => intro acc q; simp only [List.map_nil, List.append_nil] at q; exact q
  | cons k ks ih =>
    intro acc q
    rw [List.map_cons, coX_cons]
    simp only [↓X_lit, ↓X_loc, ↓X_bin, ↓negX_int, ↓X_neg, ↓X_not, ↓Y_not, ↓X_and, ↓Y_and, ↓X_or, ↓Y_or, ↓X_cmp, ↓X_cmp2, ↓X_ite, ↓Y_ite, ↓X_tup, ↓X_lst, ↓X_call, ↓X_meth, ↓X_sub, ↓X_comp, ↓Y_lit, ↓Y_loc, ↓Y_cmp, ↓Y_cmp2, ↓Y_call, ↓Y_sub, ↓XEs_nil, ↓XEs_cons, ↓XIfs_nil, ↓XIfs_cons, ↓Z_expr, ↓Z_assign, ↓Z_ret, ↓Z_retNone, ↓Z_ite, ↓Z_for, ↓Z_pass, ↓Z_brk, ↓Z_cont, ↓Zs_nil, ↓sqX_next, ↓sqX_brk, ↓sqX_cont, ↓sqX_ret, ↓Zs_cons, ↓wkX_next, ↓wkX_cont, ↓wkX_brk, ↓wkX_ret, ↓fkX_next, ↓fkX_cont, ↓fkX_brk, ↓fkX_ret, ↓xb_one, ↓oKK_some, ↓oK_some, ↓tX_bool, ↓iX_t, ↓iX_f, ↓iX_d, ↓q_add, ↓q_sub, ↓q_mul, ↓q_div, ↓q_mod, ↓q_pow, ↓q_list, ↓q_eq, ↓q_ne, ↓q_eqs, ↓q_nes, ↓q_eqb, ↓q_lt, ↓q_le, ↓q_gt, ↓q_ge, ↓q_in, ↓q_inl, ↓q_nin, ↓q_is, ↓q_isnot, ↓q_stup, ↓q_sref, ↓q_sscr, ↓q_fn, ↓q_lentup, ↓q_lenref, ↓q_lenscr, ↓q_isi, ↓q_all, ↓q_max, ↓q_min, ↓q_int, ↓q_tuple, ↓q_listc, ↓q_append, ↓q_clear, ↓q_index, ↓u_tup, ↓u_ref, ↓u_range, ↓q_slice, ↓oi_none, ↓oi_int, ↓X_slice, ↓XO_none, ↓XO_some, ↓u_rev, ↓u_range2, ↓retV_ret, ↓retV_next, List.getElem?_cons_zero, List.getElem?_cons_succ, List.set_cons_zero, List.set_cons_succ, Bool.not_true, Bool.not_false, idx_0, idx_1, idx_2, idx_3, idx_4, idx_5, Int.reduceAdd, Int.reduceSub, Int.reduceMul, Int.reduceNeg, Int.reducePow, Int.reduceLT, Int.reduceLE, Int.reduceEq, Int.reduceNe, Int.reduceToNat, Int.reduceAbs, Nat.reduceAdd, Nat.reduceLT, Nat.reduceLeDiff, Nat.reducePow, Nat.reduceLT, List.length_cons, List.length_nil, true_implies, false_implies, not_true_eq_false, not_false_eq_true, and_true, true_and, and_self, or_true, true_or, decide_true, decide_false, exists_eq_left', Option.some.injEq]
    refine ⟨.inr ⟨by omega, by omega⟩, ih _ ?_⟩
    simpa using q
theorem w_head_by : ∀ vs H Q X, C_head_by vs H Q X → wpFn Ψ3 f_l_head_by vs H Q X := by
  rintro vs H Q X ⟨c, far, r, rfl, q⟩
  refine fn_of rfl ?_
  change wpSs Ψ3 f_l_head_by.body [some (.int c), some (.int far), some (rv r), none, none, none, none, none, none] H _ _
  have h1 : 0 ≤ c % 4 := Int.emod_nonneg _ (by decide)
  have h2 : c % 4 < 4 := Int.emod_lt_of_pos _ (by decide)
  have hk := many_at (k := c / 280 % 4) (Int.emod_nonneg _ (by decide)) (Int.emod_lt_of_pos _ (by decide))
  have hw : c % 4 = 0 ∨ c % 4 = 1 ∨ c % 4 = 2 ∨ c % 4 = 3 := by omega
  refine zs_cons ?_
  generalize hK : sqX Ψ3 (_ :: _) = K
  simp only [↓X_lit, ↓X_loc, ↓X_bin, ↓negX_int, ↓X_neg, ↓X_not, ↓Y_not, ↓X_and, ↓Y_and, ↓X_or, ↓Y_or, ↓X_cmp, ↓X_cmp2, ↓X_ite, ↓Y_ite, ↓X_tup, ↓X_lst, ↓X_call, ↓X_meth, ↓X_sub, ↓X_comp, ↓Y_lit, ↓Y_loc, ↓Y_cmp, ↓Y_cmp2, ↓Y_call, ↓Y_sub, ↓XEs_nil, ↓XEs_cons, ↓XIfs_nil, ↓XIfs_cons, ↓Z_expr, ↓Z_assign, ↓Z_ret, ↓Z_retNone, ↓Z_ite, ↓Z_for, ↓Z_pass, ↓Z_brk, ↓Z_cont, ↓Zs_nil, ↓sqX_next, ↓sqX_brk, ↓sqX_cont, ↓sqX_ret, ↓Zs_cons, ↓wkX_next, ↓wkX_cont, ↓wkX_brk, ↓wkX_ret, ↓fkX_next, ↓fkX_cont, ↓fkX_brk, ↓fkX_ret, ↓xb_one, ↓oKK_some, ↓oK_some, ↓tX_bool, ↓iX_t, ↓iX_f, ↓iX_d, ↓q_add, ↓q_sub, ↓q_mul, ↓q_div, ↓q_mod, ↓q_pow, ↓q_list, ↓q_eq, ↓q_ne, ↓q_eqs, ↓q_nes, ↓q_eqb, ↓q_lt, ↓q_le, ↓q_gt, ↓q_ge, ↓q_in, ↓q_inl, ↓q_nin, ↓q_is, ↓q_isnot, ↓q_stup, ↓q_sref, ↓q_sscr, ↓q_fn, ↓q_lentup, ↓q_lenref, ↓q_lenscr, ↓q_isi, ↓q_all, ↓q_max, ↓q_min, ↓q_int, ↓q_tuple, ↓q_listc, ↓q_append, ↓q_clear, ↓q_index, ↓u_tup, ↓u_ref, ↓u_range, ↓q_slice, ↓oi_none, ↓oi_int, ↓X_slice, ↓XO_none, ↓XO_some, ↓u_rev, ↓u_range2, ↓retV_ret, ↓retV_next, List.getElem?_cons_zero, List.getElem?_cons_succ, List.set_cons_zero, List.set_cons_succ, Bool.not_true, Bool.not_false, idx_0, idx_1, idx_2, idx_3, idx_4, idx_5, Int.reduceAdd, Int.reduceSub, Int.reduceMul, Int.reduceNeg, Int.reducePow, Int.reduceLT, Int.reduceLE, Int.reduceEq, Int.reduceNe, Int.reduceToNat, Int.reduceAbs, Nat.reduceAdd, Nat.reduceLT, Nat.reduceLeDiff, Nat.reducePow, Nat.reduceLT, List.length_cons, List.length_nil, true_implies, false_implies, not_true_eq_false, not_false_eq_true, and_true, true_and, and_self, or_true, true_or, decide_true, decide_false, exists_eq_left', Option.some.injEq, listAt_new]
  subst hK
  generalize hH : H ++ [O.list [V.str "from", .str "until", .str "also", .str "but"]] = H1
  have q : ∀ H', H1 <+: H' → Q (rv (headBy c far r)) H' := fun H' hp => q H' (by subst hH; exact pre_new.trans hp)
  rcases hw with e | e | e | e
  · rw [e]; simp only [↓X_lit, ↓X_loc, ↓X_bin, ↓negX_int, ↓X_neg, ↓X_not, ↓Y_not, ↓X_and, ↓Y_and, ↓X_or, ↓Y_or, ↓X_cmp, ↓X_cmp2, ↓X_ite, ↓Y_ite, ↓X_tup, ↓X_lst, ↓X_call, ↓X_meth, ↓X_sub, ↓X_comp, ↓Y_lit, ↓Y_loc, ↓Y_cmp, ↓Y_cmp2, ↓Y_call, ↓Y_sub, ↓XEs_nil, ↓XEs_cons, ↓XIfs_nil, ↓XIfs_cons, ↓Z_expr, ↓Z_assign, ↓Z_ret, ↓Z_retNone, ↓Z_ite, ↓Z_for, ↓Z_pass, ↓Z_brk, ↓Z_cont, ↓Zs_nil, ↓sqX_next, ↓sqX_brk, ↓sqX_cont, ↓sqX_ret, ↓Zs_cons, ↓wkX_next, ↓wkX_cont, ↓wkX_brk, ↓wkX_ret, ↓fkX_next, ↓fkX_cont, ↓fkX_brk, ↓fkX_ret, ↓xb_one, ↓oKK_some, ↓oK_some, ↓tX_bool, ↓iX_t, ↓iX_f, ↓iX_d, ↓q_add, ↓q_sub, ↓q_mul, ↓q_div, ↓q_mod, ↓q_pow, ↓q_list, ↓q_eq, ↓q_ne, ↓q_eqs, ↓q_nes, ↓q_eqb, ↓q_lt, ↓q_le, ↓q_gt, ↓q_ge, ↓q_in, ↓q_inl, ↓q_nin, ↓q_is, ↓q_isnot, ↓q_stup, ↓q_sref, ↓q_sscr, ↓q_fn, ↓q_lentup, ↓q_lenref, ↓q_lenscr, ↓q_isi, ↓q_all, ↓q_max, ↓q_min, ↓q_int, ↓q_tuple, ↓q_listc, ↓q_append, ↓q_clear, ↓q_index, ↓u_tup, ↓u_ref, ↓u_range, ↓q_slice, ↓oi_none, ↓oi_int, ↓X_slice, ↓XO_none, ↓XO_some, ↓u_rev, ↓u_range2, ↓retV_ret, ↓retV_next, List.getElem?_cons_zero, List.getElem?_cons_succ, List.set_cons_zero, List.set_cons_succ, Bool.not_true, Bool.not_false, idx_0, idx_1, idx_2, idx_3, idx_4, idx_5, Int.reduceAdd, Int.reduceSub, Int.reduceMul, Int.reduceNeg, Int.reducePow, Int.reduceLT, Int.reduceLE, Int.reduceEq, Int.reduceNe, Int.reduceToNat, Int.reduceAbs, Nat.reduceAdd, Nat.reduceLT, Nat.reduceLeDiff, Nat.reducePow, Nat.reduceLT, List.length_cons, List.length_nil, true_implies, false_implies, not_true_eq_false, not_false_eq_true, and_true, true_and, and_self, or_true, true_or, decide_true, decide_false, exists_eq_left', Option.some.injEq, sw_once_once, sw_once_every, sw_once_week, sw_once_month, sw_once_from, sw_once_until, sw_once_also, sw_once_but, sw_every_once, sw_every_every, sw_every_week, sw_every_month, sw_every_from, sw_every_until, sw_every_also, sw_every_but, sw_week_once, sw_week_every, sw_week_week, sw_week_month, sw_week_from, sw_week_until, sw_week_also, sw_week_but, sw_month_once, sw_month_every, sw_month_week, sw_month_month, sw_month_from, sw_month_until, sw_month_also, sw_month_but, sw_from_once, sw_from_every, sw_from_week, sw_from_month, sw_from_from, sw_from_until, sw_from_also, sw_from_but, sw_until_once, sw_until_every, sw_until_week, sw_until_month, sw_until_from, sw_until_until, sw_until_also, sw_until_but, sw_also_once, sw_also_every, sw_also_week, sw_also_month, sw_also_from, sw_also_until, sw_also_also, sw_also_but, sw_but_once, sw_but_every, sw_but_week, sw_but_month, sw_but_from, sw_but_until, sw_but_also, sw_but_but]
    have := q H1 (List.prefix_refl _)
    simpa [headBy, e, rv] using this
  · rw [e]; simp only [↓X_lit, ↓X_loc, ↓X_bin, ↓negX_int, ↓X_neg, ↓X_not, ↓Y_not, ↓X_and, ↓Y_and, ↓X_or, ↓Y_or, ↓X_cmp, ↓X_cmp2, ↓X_ite, ↓Y_ite, ↓X_tup, ↓X_lst, ↓X_call, ↓X_meth, ↓X_sub, ↓X_comp, ↓Y_lit, ↓Y_loc, ↓Y_cmp, ↓Y_cmp2, ↓Y_call, ↓Y_sub, ↓XEs_nil, ↓XEs_cons, ↓XIfs_nil, ↓XIfs_cons, ↓Z_expr, ↓Z_assign, ↓Z_ret, ↓Z_retNone, ↓Z_ite, ↓Z_for, ↓Z_pass, ↓Z_brk, ↓Z_cont, ↓Zs_nil, ↓sqX_next, ↓sqX_brk, ↓sqX_cont, ↓sqX_ret, ↓Zs_cons, ↓wkX_next, ↓wkX_cont, ↓wkX_brk, ↓wkX_ret, ↓fkX_next, ↓fkX_cont, ↓fkX_brk, ↓fkX_ret, ↓xb_one, ↓oKK_some, ↓oK_some, ↓tX_bool, ↓iX_t, ↓iX_f, ↓iX_d, ↓q_add, ↓q_sub, ↓q_mul, ↓q_div, ↓q_mod, ↓q_pow, ↓q_list, ↓q_eq, ↓q_ne, ↓q_eqs, ↓q_nes, ↓q_eqb, ↓q_lt, ↓q_le, ↓q_gt, ↓q_ge, ↓q_in, ↓q_inl, ↓q_nin, ↓q_is, ↓q_isnot, ↓q_stup, ↓q_sref, ↓q_sscr, ↓q_fn, ↓q_lentup, ↓q_lenref, ↓q_lenscr, ↓q_isi, ↓q_all, ↓q_max, ↓q_min, ↓q_int, ↓q_tuple, ↓q_listc, ↓q_append, ↓q_clear, ↓q_index, ↓u_tup, ↓u_ref, ↓u_range, ↓q_slice, ↓oi_none, ↓oi_int, ↓X_slice, ↓XO_none, ↓XO_some, ↓u_rev, ↓u_range2, ↓retV_ret, ↓retV_next, List.getElem?_cons_zero, List.getElem?_cons_succ, List.set_cons_zero, List.set_cons_succ, Bool.not_true, Bool.not_false, idx_0, idx_1, idx_2, idx_3, idx_4, idx_5, Int.reduceAdd, Int.reduceSub, Int.reduceMul, Int.reduceNeg, Int.reducePow, Int.reduceLT, Int.reduceLE, Int.reduceEq, Int.reduceNe, Int.reduceToNat, Int.reduceAbs, Nat.reduceAdd, Nat.reduceLT, Nat.reduceLeDiff, Nat.reducePow, Nat.reduceLT, List.length_cons, List.length_nil, true_implies, false_implies, not_true_eq_false, not_false_eq_true, and_true, true_and, and_self, or_true, true_or, decide_true, decide_false, exists_eq_left', Option.some.injEq, sw_once_once, sw_once_every, sw_once_week, sw_once_month, sw_once_from, sw_once_until, sw_once_also, sw_once_but, sw_every_once, sw_every_every, sw_every_week, sw_every_month, sw_every_from, sw_every_until, sw_every_also, sw_every_but, sw_week_once, sw_week_every, sw_week_week, sw_week_month, sw_week_from, sw_week_until, sw_week_also, sw_week_but, sw_month_once, sw_month_every, sw_month_week, sw_month_month, sw_month_from, sw_month_until, sw_month_also, sw_month_but, sw_from_once, sw_from_every, sw_from_week, sw_from_month, sw_from_from, sw_from_until, sw_from_also, sw_from_but, sw_until_once, sw_until_every, sw_until_week, sw_until_month, sw_until_from, sw_until_until, sw_until_also, sw_until_but, sw_also_once, sw_also_every, sw_also_week, sw_also_month, sw_also_from, sw_also_until, sw_also_also, sw_also_but, sw_but_once, sw_but_every, sw_but_week, sw_but_month, sw_but_from, sw_but_until, sw_but_also, sw_but_but]
    have := q H1 (List.prefix_refl _)
    simpa [headBy, e, rv] using this
  · rw [e]; simp only [↓X_lit, ↓X_loc, ↓X_bin, ↓negX_int, ↓X_neg, ↓X_not, ↓Y_not, ↓X_and, ↓Y_and, ↓X_or, ↓Y_or, ↓X_cmp, ↓X_cmp2, ↓X_ite, ↓Y_ite, ↓X_tup, ↓X_lst, ↓X_call, ↓X_meth, ↓X_sub, ↓X_comp, ↓Y_lit, ↓Y_loc, ↓Y_cmp, ↓Y_cmp2, ↓Y_call, ↓Y_sub, ↓XEs_nil, ↓XEs_cons, ↓XIfs_nil, ↓XIfs_cons, ↓Z_expr, ↓Z_assign, ↓Z_ret, ↓Z_retNone, ↓Z_ite, ↓Z_for, ↓Z_pass, ↓Z_brk, ↓Z_cont, ↓Zs_nil, ↓sqX_next, ↓sqX_brk, ↓sqX_cont, ↓sqX_ret, ↓Zs_cons, ↓wkX_next, ↓wkX_cont, ↓wkX_brk, ↓wkX_ret, ↓fkX_next, ↓fkX_cont, ↓fkX_brk, ↓fkX_ret, ↓xb_one, ↓oKK_some, ↓oK_some, ↓tX_bool, ↓iX_t, ↓iX_f, ↓iX_d, ↓q_add, ↓q_sub, ↓q_mul, ↓q_div, ↓q_mod, ↓q_pow, ↓q_list, ↓q_eq, ↓q_ne, ↓q_eqs, ↓q_nes, ↓q_eqb, ↓q_lt, ↓q_le, ↓q_gt, ↓q_ge, ↓q_in, ↓q_inl, ↓q_nin, ↓q_is, ↓q_isnot, ↓q_stup, ↓q_sref, ↓q_sscr, ↓q_fn, ↓q_lentup, ↓q_lenref, ↓q_lenscr, ↓q_isi, ↓q_all, ↓q_max, ↓q_min, ↓q_int, ↓q_tuple, ↓q_listc, ↓q_append, ↓q_clear, ↓q_index, ↓u_tup, ↓u_ref, ↓u_range, ↓q_slice, ↓oi_none, ↓oi_int, ↓X_slice, ↓XO_none, ↓XO_some, ↓u_rev, ↓u_range2, ↓retV_ret, ↓retV_next, List.getElem?_cons_zero, List.getElem?_cons_succ, List.set_cons_zero, List.set_cons_succ, Bool.not_true, Bool.not_false, idx_0, idx_1, idx_2, idx_3, idx_4, idx_5, Int.reduceAdd, Int.reduceSub, Int.reduceMul, Int.reduceNeg, Int.reducePow, Int.reduceLT, Int.reduceLE, Int.reduceEq, Int.reduceNe, Int.reduceToNat, Int.reduceAbs, Nat.reduceAdd, Nat.reduceLT, Nat.reduceLeDiff, Nat.reducePow, Nat.reduceLT, List.length_cons, List.length_nil, true_implies, false_implies, not_true_eq_false, not_false_eq_true, and_true, true_and, and_self, or_true, true_or, decide_true, decide_false, exists_eq_left', Option.some.injEq, sw_once_once, sw_once_every, sw_once_week, sw_once_month, sw_once_from, sw_once_until, sw_once_also, sw_once_but, sw_every_once, sw_every_every, sw_every_week, sw_every_month, sw_every_from, sw_every_until, sw_every_also, sw_every_but, sw_week_once, sw_week_every, sw_week_week, sw_week_month, sw_week_from, sw_week_until, sw_week_also, sw_week_but, sw_month_once, sw_month_every, sw_month_week, sw_month_month, sw_month_from, sw_month_until, sw_month_also, sw_month_but, sw_from_once, sw_from_every, sw_from_week, sw_from_month, sw_from_from, sw_from_until, sw_from_also, sw_from_but, sw_until_once, sw_until_every, sw_until_week, sw_until_month, sw_until_from, sw_until_until, sw_until_also, sw_until_but, sw_also_once, sw_also_every, sw_also_week, sw_also_month, sw_also_from, sw_also_until, sw_also_also, sw_also_but, sw_but_once, sw_but_every, sw_but_week, sw_but_month, sw_but_from, sw_but_until, sw_but_also, sw_but_but]
    have := q H1 (List.prefix_refl _)
    simpa [headBy, e, rv] using this
  · rw [e]; simp only [↓X_lit, ↓X_loc, ↓X_bin, ↓negX_int, ↓X_neg, ↓X_not, ↓Y_not, ↓X_and, ↓Y_and, ↓X_or, ↓Y_or, ↓X_cmp, ↓X_cmp2, ↓X_ite, ↓Y_ite, ↓X_tup, ↓X_lst, ↓X_call, ↓X_meth, ↓X_sub, ↓X_comp, ↓Y_lit, ↓Y_loc, ↓Y_cmp, ↓Y_cmp2, ↓Y_call, ↓Y_sub, ↓XEs_nil, ↓XEs_cons, ↓XIfs_nil, ↓XIfs_cons, ↓Z_expr, ↓Z_assign, ↓Z_ret, ↓Z_retNone, ↓Z_ite, ↓Z_for, ↓Z_pass, ↓Z_brk, ↓Z_cont, ↓Zs_nil, ↓sqX_next, ↓sqX_brk, ↓sqX_cont, ↓sqX_ret, ↓Zs_cons, ↓wkX_next, ↓wkX_cont, ↓wkX_brk, ↓wkX_ret, ↓fkX_next, ↓fkX_cont, ↓fkX_brk, ↓fkX_ret, ↓xb_one, ↓oKK_some, ↓oK_some, ↓tX_bool, ↓iX_t, ↓iX_f, ↓iX_d, ↓q_add, ↓q_sub, ↓q_mul, ↓q_div, ↓q_mod, ↓q_pow, ↓q_list, ↓q_eq, ↓q_ne, ↓q_eqs, ↓q_nes, ↓q_eqb, ↓q_lt, ↓q_le, ↓q_gt, ↓q_ge, ↓q_in, ↓q_inl, ↓q_nin, ↓q_is, ↓q_isnot, ↓q_stup, ↓q_sref, ↓q_sscr, ↓q_fn, ↓q_lentup, ↓q_lenref, ↓q_lenscr, ↓q_isi, ↓q_all, ↓q_max, ↓q_min, ↓q_int, ↓q_tuple, ↓q_listc, ↓q_append, ↓q_clear, ↓q_index, ↓u_tup, ↓u_ref, ↓u_range, ↓q_slice, ↓oi_none, ↓oi_int, ↓X_slice, ↓XO_none, ↓XO_some, ↓u_rev, ↓u_range2, ↓retV_ret, ↓retV_next, List.getElem?_cons_zero, List.getElem?_cons_succ, List.set_cons_zero, List.set_cons_succ, Bool.not_true, Bool.not_false, idx_0, idx_1, idx_2, idx_3, idx_4, idx_5, Int.reduceAdd, Int.reduceSub, Int.reduceMul, Int.reduceNeg, Int.reducePow, Int.reduceLT, Int.reduceLE, Int.reduceEq, Int.reduceNe, Int.reduceToNat, Int.reduceAbs, Nat.reduceAdd, Nat.reduceLT, Nat.reduceLeDiff, Nat.reducePow, Nat.reduceLT, List.length_cons, List.length_nil, true_implies, false_implies, not_true_eq_false, not_false_eq_true, and_true, true_and, and_self, or_true, true_or, decide_true, decide_false, exists_eq_left', Option.some.injEq, sw_once_once, sw_once_every, sw_once_week, sw_once_month, sw_once_from, sw_once_until, sw_once_also, sw_once_but, sw_every_once, sw_every_every, sw_every_week, sw_every_month, sw_every_from, sw_every_until, sw_every_also, sw_every_but, sw_week_once, sw_week_every, sw_week_week, sw_week_month, sw_week_from, sw_week_until, sw_week_also, sw_week_but, sw_month_once, sw_month_every, sw_month_week, sw_month_month, sw_month_from, sw_month_until, sw_month_also, sw_month_but, sw_from_once, sw_from_every, sw_from_week, sw_from_month, sw_from_from, sw_from_until, sw_from_also, sw_from_but, sw_until_once, sw_until_every, sw_until_week, sw_until_month, sw_until_from, sw_until_until, sw_until_also, sw_until_but, sw_also_once, sw_also_every, sw_also_week, sw_also_month, sw_also_from, sw_also_until, sw_also_also, sw_also_but, sw_but_once, sw_but_every, sw_but_week, sw_but_month, sw_but_from, sw_but_until, sw_but_also, sw_but_but, listAt_new, hk]
    have hm := manyOf_le c
    refine ⟨⟨by have := hm.1; unfold manyOf at this; omega, by have := hm.2; unfold manyOf at this; omega⟩, ?_⟩
    rw [rangeL_I]
    refine hb_comp _ [] ?_
    rw [List.nil_append]
    refine ⟨by rw [List.length_map, rangeI_len]; have := hm.2; unfold manyOf at this; omega, ?_⟩
    have := q _ (pre_new.trans (pre_new (o := O.list ((rangeI (manyOf c)).map fun k => V.int ((far + c / 4 % 70) / 24 + k * (1 + c / 1120 % 3))))) : H1 <+: H1 ++ [O.list [V.int 1, V.int 2, V.int 5, V.int 20]] ++ [_])
    simpa [headBy, e, rv, intsV, manyOf, List.map_map, Function.comp_def] using this
noncomputable def Ψ4 : Orc := ext "_law_head_by" C_head_by Ψ3
end Mine

set_option autoImplicit false
set_option linter.unusedSimpArgs false
set_option maxRecDepth 20000
namespace Mine
open PySem

theorem lbg_plain : ∀ r : Rl, r.plain = true → ∀ x, lbg r x = lpb r x
  | .once _ _, _, _ => rfl
  | .every _ _ _, _, _ => rfl
  | .week _ _ _, _, _ => rfl
  | .month _ _ _, _, _ => rfl
theorem bg_plain {r : Rl} {x : Int} (hp : r.plain = true) (hok : r.ok) (hx : ¬ x < 0) : bgo r x = lpb r x := by
  have := same_begins r x hp hok
  have h0 : 0 ≤ x := by omega
  simpa [bg, hx, h0] using this
theorem same_begun : ∀ (r : Rl) (x : Int), r.ok → ¬ x < 0 → bgo r x = lbg r x
  | .once h s, x, hok, hx => bg_plain (r := .once h s) rfl hok hx
  | .every h s p, x, hok, hx => bg_plain (r := .every h s p) rfl hok hx
  | .week ds t s, x, hok, hx => bg_plain (r := .week ds t s) rfl hok hx
  | .month d t s, x, hok, hx => bg_plain (r := .month d t s) rfl hok hx
  | .frm h r, x, hok, hx => by
    simp only [bgo, lbg, lst1, same_begun r x hok hx]
    by_cases c : x < h
    · have : ¬ h ≤ x := by omega
      simp [c, this]
    · have : h ≤ x := by omega
      simp [c, this]
  | .til h r, x, hok, hx => by
    simp only [bgo, lbg, lst1, same_begun r x hok hx]
    by_cases c : h ≤ x
    · have : ¬ x < h := by omega
      simp [c, this]
    · have : x < h := by omega
      simp [c, this]
  | .als h r, x, hok, hx => by
    simp only [bgo, lbg, lst1, same_begun r x hok hx]
    by_cases c : x = h <;> simp [c]
  | .but ds r, x, hok, hx => by
    simp only [bgo, lbg, lst1, same_begun r x hok hx]
    cases c : ds.contains (x / 24) <;> simp

theorem depth_ints : ∀ ns : List Int, PyData.depthAll (ns.map PyData.int) = 0
  | [] => rfl
  | n :: r => by simp [PyData.depthAll, PyData.depth, depth_ints r]
theorem eq_nil {H : Hp} {i j : Nat} {ns : List Int} (h1 : listAt H i = some (ns.map V.int)) (h2 : listAt H j = some []) : eqH H (.ref i) (.ref j) = some ns.isEmpty := by
  have e1 : toPyH H (.ref i) = some (.list (ns.map PyData.int)) := by simp [toPyH, h1, toPys_ints]
  have e2 : toPyH H (.ref j) = some (.list []) := by simp [toPyH, h2, toPys]
  unfold eqH
  rw [e1, e2]
  simp only
  rw [if_pos (by simp [PyData.depth, depth_ints])]
  cases ns <;> rfl

theorem q_nref {H : Hp} {Q : V → Hp → Prop} {m n : Nat} : pCmp .NotEq (.ref m) (.ref n) H Q = oK (eqH H (.ref m) (.ref n)) fun c => Q (.bool (!c)) H := rfl
theorem heads_len (r : Rl) : r.heads.length = r.depth + 1 := by simp [Rl.heads, outer_length]
theorem headBy_ok (c far : Int) (r : Rl) : ((headBy c far r).ok ↔ r.ok) ∧ (headBy c far r).depth = r.depth + 1 := by
  unfold headBy
  split
  · exact ⟨Iff.rfl, rfl⟩
  · split
    · exact ⟨Iff.rfl, rfl⟩
    · split
      · exact ⟨Iff.rfl, rfl⟩
      · exact ⟨Iff.rfl, rfl⟩

theorem plain_depth : ∀ r : Rl, r.plain = true → r.depth = 0
  | .once _ _, _ => rfl
  | .every _ _ _, _ => rfl
  | .week _ _ _, _ => rfl
  | .month _ _ _, _ => rfl
theorem rangeI_nonneg {b k : Int} (h : k ∈ rangeI b) : 0 ≤ k := by
  unfold rangeI at h
  obtain ⟨n, _, rfl⟩ := List.mem_map.mp h
  omega
noncomputable def C_law0 : Ctr := fun vs H Q _ => ∃ ns, vs = [.scr ns] ∧ ∀ H', H <+: H' → Q (.bool true) H'
theorem eqvAll_ints : ∀ ns : List Int, PyData.eqvAll (ns.map PyData.int) (ns.map PyData.int) = true
  | [] => rfl
  | n :: r => by
    show (PyData.eqv (.int n) (.int n) && PyData.eqvAll (r.map PyData.int) (r.map PyData.int)) = true
    rw [eqv_int, eqvAll_ints r, decide_eq_true rfl]; rfl
theorem eq_ints {H : Hp} {i j : Nat} {ns : List Int} (h1 : listAt H i = some (ns.map V.int)) (h2 : listAt H j = some (ns.map V.int)) : eqH H (.ref i) (.ref j) = some true := by
  have e : ∀ i, listAt H i = some (ns.map V.int) → toPyH H (.ref i) = some (.list (ns.map PyData.int)) := fun i h => by
    show ((listAt H i).bind toPys).map PyData.list = _
    rw [h, Option.bind_some, toPys_ints]; rfl
  unfold eqH
  rw [e i h1, e j h2]
  show (if _ then _ else _) = _
  have hd : PyData.depth (.list (ns.map PyData.int)) ≤ 60 := by simp [PyData.depth, depth_ints]
  rw [if_pos hd]
  exact congrArg some (eqvAll_ints ns)
theorem whole_comp {Φ : Orc} (hw : Φ "_law_whole" = C_whole) {L : Lc} {v : Nat} {X : XL} {H : Hp} {Q : List V → Hp → Prop} {st : Hp → Prop} (hs : st H) (hv : v < L.length) : ∀ (ks : List Int) (acc : List V), Q (acc ++ ks.map fun _ => V.bool true) H →
    compGo (coTX Φ [] X) (coEX Φ (.call (.fn "_law_whole") [(.loc v)]) X) st [v] L (ks.map V.int) acc H Q := by
  intro ks
  induction ks with
  | nil => intro acc q; rw [List.map_nil, List.append_nil] at q; exact q
  | cons k ks ih =>
    intro acc q
    rw [List.map_cons, coX_cons]
    simp only [↓X_lit, ↓X_loc, ↓X_bin, ↓negX_int, ↓X_neg, ↓X_not, ↓Y_not, ↓X_and, ↓Y_and, ↓X_or, ↓Y_or, ↓X_cmp, ↓X_cmp2, ↓X_ite, ↓Y_ite, ↓X_tup, ↓X_lst, ↓X_call, ↓X_meth, ↓X_sub, ↓X_comp, ↓Y_lit, ↓Y_loc, ↓Y_cmp, ↓Y_cmp2, ↓Y_call, ↓Y_sub, ↓XEs_nil, ↓XEs_cons, ↓XIfs_nil, ↓XIfs_cons, ↓Z_expr, ↓Z_assign, ↓Z_ret, ↓Z_retNone, ↓Z_ite, ↓Z_for, ↓Z_pass, ↓Z_brk, ↓Z_cont, ↓Zs_nil, ↓sqX_next, ↓sqX_brk, ↓sqX_cont, ↓sqX_ret, ↓Zs_cons, ↓wkX_next, ↓wkX_cont, ↓wkX_brk, ↓wkX_ret, ↓fkX_next, ↓fkX_cont, ↓fkX_brk, ↓fkX_ret, ↓xb_one, ↓oKK_some, ↓oK_some, ↓tX_bool, ↓iX_t, ↓iX_f, ↓iX_d, ↓q_add, ↓q_sub, ↓q_mul, ↓q_div, ↓q_mod, ↓q_pow, ↓q_list, ↓q_eq, ↓q_ne, ↓q_eqs, ↓q_nes, ↓q_eqb, ↓q_lt, ↓q_le, ↓q_gt, ↓q_ge, ↓q_in, ↓q_inl, ↓q_nin, ↓q_is, ↓q_isnot, ↓q_stup, ↓q_sref, ↓q_sscr, ↓q_fn, ↓q_lentup, ↓q_lenref, ↓q_lenscr, ↓q_isi, ↓q_all, ↓q_max, ↓q_min, ↓q_int, ↓q_tuple, ↓q_listc, ↓q_append, ↓q_clear, ↓q_index, ↓u_tup, ↓u_ref, ↓u_range, ↓q_slice, ↓oi_none, ↓oi_int, ↓X_slice, ↓XO_none, ↓XO_some, ↓u_rev, ↓u_range2, ↓retV_ret, ↓retV_next, List.getElem?_cons_zero, List.getElem?_cons_succ, List.set_cons_zero, List.set_cons_succ, Bool.not_true, Bool.not_false, idx_0, idx_1, idx_2, idx_3, idx_4, idx_5, Int.reduceAdd, Int.reduceSub, Int.reduceMul, Int.reduceNeg, Int.reducePow, Int.reduceLT, Int.reduceLE, Int.reduceEq, Int.reduceNe, Int.reduceToNat, Int.reduceAbs, Nat.reduceAdd, Nat.reduceLT, Nat.reduceLeDiff, Nat.reducePow, Nat.reduceLT, List.length_cons, List.length_nil, true_implies, false_implies, not_true_eq_false, not_false_eq_true, and_true, true_and, and_self, or_true, true_or, decide_true, decide_false, exists_eq_left', Option.some.injEq, List.getElem?_set_self hv]
    rw [hw]
    refine ⟨k, rfl, hs, ih _ ?_⟩
    rw [List.append_assoc]; exact q
theorem all_trues : ∀ ks : List Int, allBools (ks.map fun _ => V.bool true) = some (ks.map fun _ => true)
  | [] => rfl
  | k :: r => by
    show (allBools (r.map fun _ => V.bool true)).map _ = _
    rw [all_trues r]; rfl
theorem all_id (ks : List Int) : (ks.map fun _ => true).all id = true := by simp
theorem three_mem {x y z d : Int} : ∀ k : Nat, k < 3 → [x, y, z].getD k d = x ∨ [x, y, z].getD k d = y ∨ [x, y, z].getD k d = z
  | 0, _ => .inl rfl
  | 1, _ => .inr (.inl rfl)
  | 2, _ => .inr (.inr rfl)
theorem three_of {k x y z : Int} (h1 : 0 ≤ k) (h2 : k < 3) : ∃ f : Int, idx [V.int x, .int y, .int z] k = some (.int f) ∧ (f = x ∨ f = y ∨ f = z) :=
  ⟨_, idx_ints (l := [x, y, z]) h1 h2 0, three_mem _ (by omega)⟩
end Mine

set_option autoImplicit false
namespace Mine
open PySem

noncomputable def f_lawC : Fn := { names := 14, params := 1, body := [
  (.assign 1 (.call (.fn "_law_cell_at") [(.loc 0), (.lit (.int 3))])),
  (.assign 2 (.sub (.lst [(.lit (.int 0)), (.bin .Mod (.bin .FloorDiv (.loc 1) (.lit (.int 9))) (.bin .Pow (.lit (.int 10)) (.lit (.int 6)))), (.bin .Mod (.bin .FloorDiv (.loc 1) (.lit (.int 9))) (.bin .Sub (.bin .Pow (.lit (.int 10)) (.lit (.int 12))) (.bin .Mult (.lit (.int 2)) (.bin .Pow (.lit (.int 10)) (.lit (.int 6))))))]) (.bin .Mod (.loc 1) (.lit (.int 3))))),
  (.assign 4 (.call (.fn "_law_plain_by") [(.comp (.call (.fn "_law_cell_at") [(.loc 0), (.loc 11)]) [11] .range [(.lit (.int 3))] []), (.loc 2), (.lit (.int 48))])),
  (.for [3] .range [(.bin .Mod (.call (.fn "_law_cell_at") [(.loc 0), (.lit (.int 4))]) (.lit (.int 8)))] [(.assign 5 (.call (.fn "_law_cell_at") [(.loc 0), (.bin .Add (.lit (.int 7)) (.loc 3))])), (.ite (.cmp (.bin .Mod (.bin .FloorDiv (.loc 1) (.lit (.int 3))) (.lit (.int 3))) .Eq (.lit (.int 1))) [(.assign 5 (.bin .Add (.bin .Add (.bin .Mod (.loc 5) (.lit (.int 4))) (.bin .Mult (.lit (.int 4)) (.bin .Mod (.call (.fn "_law_cell_at") [(.loc 0), (.lit (.int 7))]) (.lit (.int 70))))) (.bin .Mult (.bin .FloorDiv (.loc 5) (.lit (.int 280))) (.lit (.int 280)))))] []), (.assign 6 (.bin .Mult (.bin .Mod (.call (.fn "_law_cell_at") [(.loc 0), (.bin .Add (.lit (.int 15)) (.loc 3))]) (.bin .Pow (.lit (.int 10)) (.lit (.int 6)))) (.call (.ty .int) [(.cmp (.bin .Mod (.bin .FloorDiv (.loc 1) (.lit (.int 3))) (.lit (.int 3))) .Eq (.lit (.int 2)))]))), (.assign 4 (.call (.fn "_law_head_by") [(.loc 5), (.bin .Add (.loc 2) (.loc 6)), (.loc 4)]))]),
  (.assign 7 (.bin .Sub (.bin .Add (.loc 2) (.bin .Mod (.call (.fn "_law_cell_at") [(.loc 0), (.lit (.int 5))]) (.lit (.int 103)))) (.lit (.int 3)))),
  (.ite (.and (.cmp (.bin .Mod (.bin .FloorDiv (.loc 1) (.lit (.int 3))) (.lit (.int 3))) .Eq (.lit (.int 2))) (.cmp (.bin .Mod (.bin .FloorDiv (.call (.fn "_law_cell_at") [(.loc 0), (.lit (.int 6))]) (.lit (.int 6))) (.lit (.int 2))) .Eq (.lit (.int 1)))) [(.assign 7 (.bin .Add (.loc 2) (.bin .Mod (.call (.fn "_law_cell_at") [(.loc 0), (.lit (.int 5))]) (.bin .Add (.bin .Pow (.lit (.int 10)) (.lit (.int 6))) (.lit (.int 200))))))] []),
  (.assign 8 (.comp (.sub (.loc 11) (.lit (.int 1))) [11] .val [(.call (.fn "_law_heads") [(.loc 4)])] [(.cmp (.sub (.loc 11) (.lit (.int 0))) .In (.lst [(.lit (.str "from")), (.lit (.str "until")), (.lit (.str "also")), (.lit (.str "once")), (.lit (.str "every"))]))])),
  (.ite (.and (.cmp (.bin .Mod (.call (.fn "_law_cell_at") [(.loc 0), (.lit (.int 6))]) (.lit (.int 2))) .Eq (.lit (.int 1))) (.cmp (.loc 8) .NotEq (.lst []))) [(.assign 7 (.bin .Sub (.bin .Add (.sub (.loc 8) (.bin .Mod (.call (.fn "_law_cell_at") [(.loc 0), (.lit (.int 5))]) (.call (.bi .len) [(.loc 8)]))) (.bin .Mod (.bin .FloorDiv (.call (.fn "_law_cell_at") [(.loc 0), (.lit (.int 6))]) (.lit (.int 2))) (.lit (.int 3)))) (.lit (.int 1))))] []),
  (.assign 9 (.call (.fn "length_of") [(.loc 4)])),
  (.ite (.or (.not (.call (.fn "_law_whole") [(.loc 9)])) (.cmp (.loc 9) .NotEq (.call (.fn "_law_size") [(.loc 4)]))) [(.ret (.lit (.bool false)))] []),
  (.assign 10 (.call (.fn "begins") [(.loc 4), (.loc 7)])),
  (.ret (.and (.call (.bi .isinstance) [(.loc 10), (.lit (.ty .bool))]) (.cmp (.loc 10) .Eq (.and (.cmp (.loc 7) .GtE (.lit (.int 0))) (.call (.fn "_law_begun") [(.loc 4), (.loc 7)])))))] }
end Mine

set_option autoImplicit false
set_option linter.unusedSimpArgs false
set_option maxRecDepth 20000
namespace Mine
open PySem

theorem p4_ca : Ψ4 "_law_cell_at" = C_cell_at := rfl
theorem p4_pb : Ψ4 "_law_plain_by" = C_plain_by := rfl
theorem p4_hb : Ψ4 "_law_head_by" = C_head_by := rfl
theorem p4_he : Ψ4 "_law_heads" = C_heads := rfl
theorem p4_lo : Ψ4 "length_of" = C_length_of := rfl
theorem p4_wh : Ψ4 "_law_whole" = C_whole := rfl
theorem p4_si : Ψ4 "_law_size" = C_size := rfl
theorem p4_be : Ψ4 "begins" = C_begins := rfl
theorem p4_bu : Ψ4 "_law_begun" = C_begun := rfl

theorem tail_three {ns : List Int} {r : Rl} {x : Int} {H : Hp} {Q : V → Hp → Prop} {X : XL} {t1 t2 t3 t5 t6 t8 t9 t10 t11 t12 t13 : Option V} (hok : r.ok) (hd : r.depth ≤ 1000) (q : ∀ H', H <+: H' → Q (.bool true) H') :
    wpSs Ψ4 (f_lawC.body.drop 8) [some (.scr ns), t1, t2, t3, some (rv r), t5, t6, some (.int x), t8, t9, t10, t11, t12, t13] H (fun fl _ H1 => Q (retV fl) H1) (fun x _ H1 => X x H1) := by
  refine zs_cons ?_
  generalize hK : sqX Ψ4 (_ :: _) = K
  simp only [↓X_lit, ↓X_loc, ↓X_bin, ↓negX_int, ↓X_neg, ↓X_not, ↓Y_not, ↓X_and, ↓Y_and, ↓X_or, ↓Y_or, ↓X_cmp, ↓X_cmp2, ↓X_ite, ↓Y_ite, ↓X_tup, ↓X_lst, ↓X_call, ↓X_meth, ↓X_sub, ↓X_comp, ↓Y_lit, ↓Y_loc, ↓Y_cmp, ↓Y_cmp2, ↓Y_call, ↓Y_sub, ↓XEs_nil, ↓XEs_cons, ↓XIfs_nil, ↓XIfs_cons, ↓Z_expr, ↓Z_assign, ↓Z_ret, ↓Z_retNone, ↓Z_ite, ↓Z_for, ↓Z_pass, ↓Z_brk, ↓Z_cont, ↓Zs_nil, ↓sqX_next, ↓sqX_brk, ↓sqX_cont, ↓sqX_ret, ↓Zs_cons, ↓wkX_next, ↓wkX_cont, ↓wkX_brk, ↓wkX_ret, ↓fkX_next, ↓fkX_cont, ↓fkX_brk, ↓fkX_ret, ↓xb_one, ↓oKK_some, ↓oK_some, ↓tX_bool, ↓iX_t, ↓iX_f, ↓iX_d, ↓q_add, ↓q_sub, ↓q_mul, ↓q_div, ↓q_mod, ↓q_pow, ↓q_list, ↓q_eq, ↓q_ne, ↓q_eqs, ↓q_nes, ↓q_eqb, ↓q_lt, ↓q_le, ↓q_gt, ↓q_ge, ↓q_in, ↓q_inl, ↓q_nin, ↓q_is, ↓q_isnot, ↓q_stup, ↓q_sref, ↓q_sscr, ↓q_fn, ↓q_lentup, ↓q_lenref, ↓q_lenscr, ↓q_isi, ↓q_all, ↓q_max, ↓q_min, ↓q_int, ↓q_tuple, ↓q_listc, ↓q_append, ↓q_clear, ↓q_index, ↓u_tup, ↓u_ref, ↓u_range, ↓q_slice, ↓oi_none, ↓oi_int, ↓X_slice, ↓XO_none, ↓XO_some, ↓u_rev, ↓u_range2, ↓retV_ret, ↓retV_next, List.getElem?_cons_zero, List.getElem?_cons_succ, List.set_cons_zero, List.set_cons_succ, Bool.not_true, Bool.not_false, idx_0, idx_1, idx_2, idx_3, idx_4, idx_5, Int.reduceAdd, Int.reduceSub, Int.reduceMul, Int.reduceNeg, Int.reducePow, Int.reduceLT, Int.reduceLE, Int.reduceEq, Int.reduceNe, Int.reduceToNat, Int.reduceAbs, Nat.reduceAdd, Nat.reduceLT, Nat.reduceLeDiff, Nat.reducePow, Nat.reduceLT, List.length_cons, List.length_nil, true_implies, false_implies, not_true_eq_false, not_false_eq_true, and_true, true_and, and_self, or_true, true_or, decide_true, decide_false, exists_eq_left', Option.some.injEq, ↓p4_lo]
  refine ⟨r, rfl, ?_⟩
  subst hK
  refine zs_cons ?_
  generalize hK : sqX Ψ4 (_ :: _) = K
  simp only [↓X_lit, ↓X_loc, ↓X_bin, ↓negX_int, ↓X_neg, ↓X_not, ↓Y_not, ↓X_and, ↓Y_and, ↓X_or, ↓Y_or, ↓X_cmp, ↓X_cmp2, ↓X_ite, ↓Y_ite, ↓X_tup, ↓X_lst, ↓X_call, ↓X_meth, ↓X_sub, ↓X_comp, ↓Y_lit, ↓Y_loc, ↓Y_cmp, ↓Y_cmp2, ↓Y_call, ↓Y_sub, ↓XEs_nil, ↓XEs_cons, ↓XIfs_nil, ↓XIfs_cons, ↓Z_expr, ↓Z_assign, ↓Z_ret, ↓Z_retNone, ↓Z_ite, ↓Z_for, ↓Z_pass, ↓Z_brk, ↓Z_cont, ↓Zs_nil, ↓sqX_next, ↓sqX_brk, ↓sqX_cont, ↓sqX_ret, ↓Zs_cons, ↓wkX_next, ↓wkX_cont, ↓wkX_brk, ↓wkX_ret, ↓fkX_next, ↓fkX_cont, ↓fkX_brk, ↓fkX_ret, ↓xb_one, ↓oKK_some, ↓oK_some, ↓tX_bool, ↓iX_t, ↓iX_f, ↓iX_d, ↓q_add, ↓q_sub, ↓q_mul, ↓q_div, ↓q_mod, ↓q_pow, ↓q_list, ↓q_eq, ↓q_ne, ↓q_eqs, ↓q_nes, ↓q_eqb, ↓q_lt, ↓q_le, ↓q_gt, ↓q_ge, ↓q_in, ↓q_inl, ↓q_nin, ↓q_is, ↓q_isnot, ↓q_stup, ↓q_sref, ↓q_sscr, ↓q_fn, ↓q_lentup, ↓q_lenref, ↓q_lenscr, ↓q_isi, ↓q_all, ↓q_max, ↓q_min, ↓q_int, ↓q_tuple, ↓q_listc, ↓q_append, ↓q_clear, ↓q_index, ↓u_tup, ↓u_ref, ↓u_range, ↓q_slice, ↓oi_none, ↓oi_int, ↓X_slice, ↓XO_none, ↓XO_some, ↓u_rev, ↓u_range2, ↓retV_ret, ↓retV_next, List.getElem?_cons_zero, List.getElem?_cons_succ, List.set_cons_zero, List.set_cons_succ, Bool.not_true, Bool.not_false, idx_0, idx_1, idx_2, idx_3, idx_4, idx_5, Int.reduceAdd, Int.reduceSub, Int.reduceMul, Int.reduceNeg, Int.reducePow, Int.reduceLT, Int.reduceLE, Int.reduceEq, Int.reduceNe, Int.reduceToNat, Int.reduceAbs, Nat.reduceAdd, Nat.reduceLT, Nat.reduceLeDiff, Nat.reducePow, Nat.reduceLT, List.length_cons, List.length_nil, true_implies, false_implies, not_true_eq_false, not_false_eq_true, and_true, true_and, and_self, or_true, true_or, decide_true, decide_false, exists_eq_left', Option.some.injEq, ↓p4_wh, ↓p4_si]
  refine ⟨r.size, rfl, ?_⟩
  simp only [↓X_lit, ↓X_loc, ↓X_bin, ↓negX_int, ↓X_neg, ↓X_not, ↓Y_not, ↓X_and, ↓Y_and, ↓X_or, ↓Y_or, ↓X_cmp, ↓X_cmp2, ↓X_ite, ↓Y_ite, ↓X_tup, ↓X_lst, ↓X_call, ↓X_meth, ↓X_sub, ↓X_comp, ↓Y_lit, ↓Y_loc, ↓Y_cmp, ↓Y_cmp2, ↓Y_call, ↓Y_sub, ↓XEs_nil, ↓XEs_cons, ↓XIfs_nil, ↓XIfs_cons, ↓Z_expr, ↓Z_assign, ↓Z_ret, ↓Z_retNone, ↓Z_ite, ↓Z_for, ↓Z_pass, ↓Z_brk, ↓Z_cont, ↓Zs_nil, ↓sqX_next, ↓sqX_brk, ↓sqX_cont, ↓sqX_ret, ↓Zs_cons, ↓wkX_next, ↓wkX_cont, ↓wkX_brk, ↓wkX_ret, ↓fkX_next, ↓fkX_cont, ↓fkX_brk, ↓fkX_ret, ↓xb_one, ↓oKK_some, ↓oK_some, ↓tX_bool, ↓iX_t, ↓iX_f, ↓iX_d, ↓q_add, ↓q_sub, ↓q_mul, ↓q_div, ↓q_mod, ↓q_pow, ↓q_list, ↓q_eq, ↓q_ne, ↓q_eqs, ↓q_nes, ↓q_eqb, ↓q_lt, ↓q_le, ↓q_gt, ↓q_ge, ↓q_in, ↓q_inl, ↓q_nin, ↓q_is, ↓q_isnot, ↓q_stup, ↓q_sref, ↓q_sscr, ↓q_fn, ↓q_lentup, ↓q_lenref, ↓q_lenscr, ↓q_isi, ↓q_all, ↓q_max, ↓q_min, ↓q_int, ↓q_tuple, ↓q_listc, ↓q_append, ↓q_clear, ↓q_index, ↓u_tup, ↓u_ref, ↓u_range, ↓q_slice, ↓oi_none, ↓oi_int, ↓X_slice, ↓XO_none, ↓XO_some, ↓u_rev, ↓u_range2, ↓retV_ret, ↓retV_next, List.getElem?_cons_zero, List.getElem?_cons_succ, List.set_cons_zero, List.set_cons_succ, Bool.not_true, Bool.not_false, idx_0, idx_1, idx_2, idx_3, idx_4, idx_5, Int.reduceAdd, Int.reduceSub, Int.reduceMul, Int.reduceNeg, Int.reducePow, Int.reduceLT, Int.reduceLE, Int.reduceEq, Int.reduceNe, Int.reduceToNat, Int.reduceAbs, Nat.reduceAdd, Nat.reduceLT, Nat.reduceLeDiff, Nat.reducePow, Nat.reduceLT, List.length_cons, List.length_nil, true_implies, false_implies, not_true_eq_false, not_false_eq_true, and_true, true_and, and_self, or_true, true_or, decide_true, decide_false, exists_eq_left', Option.some.injEq]
  refine ⟨r, rfl, hd, fun H1 hp1 => ?_⟩
  subst hK
  simp only [↓X_lit, ↓X_loc, ↓X_bin, ↓negX_int, ↓X_neg, ↓X_not, ↓Y_not, ↓X_and, ↓Y_and, ↓X_or, ↓Y_or, ↓X_cmp, ↓X_cmp2, ↓X_ite, ↓Y_ite, ↓X_tup, ↓X_lst, ↓X_call, ↓X_meth, ↓X_sub, ↓X_comp, ↓Y_lit, ↓Y_loc, ↓Y_cmp, ↓Y_cmp2, ↓Y_call, ↓Y_sub, ↓XEs_nil, ↓XEs_cons, ↓XIfs_nil, ↓XIfs_cons, ↓Z_expr, ↓Z_assign, ↓Z_ret, ↓Z_retNone, ↓Z_ite, ↓Z_for, ↓Z_pass, ↓Z_brk, ↓Z_cont, ↓Zs_nil, ↓sqX_next, ↓sqX_brk, ↓sqX_cont, ↓sqX_ret, ↓Zs_cons, ↓wkX_next, ↓wkX_cont, ↓wkX_brk, ↓wkX_ret, ↓fkX_next, ↓fkX_cont, ↓fkX_brk, ↓fkX_ret, ↓xb_one, ↓oKK_some, ↓oK_some, ↓tX_bool, ↓iX_t, ↓iX_f, ↓iX_d, ↓q_add, ↓q_sub, ↓q_mul, ↓q_div, ↓q_mod, ↓q_pow, ↓q_list, ↓q_eq, ↓q_ne, ↓q_eqs, ↓q_nes, ↓q_eqb, ↓q_lt, ↓q_le, ↓q_gt, ↓q_ge, ↓q_in, ↓q_inl, ↓q_nin, ↓q_is, ↓q_isnot, ↓q_stup, ↓q_sref, ↓q_sscr, ↓q_fn, ↓q_lentup, ↓q_lenref, ↓q_lenscr, ↓q_isi, ↓q_all, ↓q_max, ↓q_min, ↓q_int, ↓q_tuple, ↓q_listc, ↓q_append, ↓q_clear, ↓q_index, ↓u_tup, ↓u_ref, ↓u_range, ↓q_slice, ↓oi_none, ↓oi_int, ↓X_slice, ↓XO_none, ↓XO_some, ↓u_rev, ↓u_range2, ↓retV_ret, ↓retV_next, List.getElem?_cons_zero, List.getElem?_cons_succ, List.set_cons_zero, List.set_cons_succ, Bool.not_true, Bool.not_false, idx_0, idx_1, idx_2, idx_3, idx_4, idx_5, Int.reduceAdd, Int.reduceSub, Int.reduceMul, Int.reduceNeg, Int.reducePow, Int.reduceLT, Int.reduceLE, Int.reduceEq, Int.reduceNe, Int.reduceToNat, Int.reduceAbs, Nat.reduceAdd, Nat.reduceLT, Nat.reduceLeDiff, Nat.reducePow, Nat.reduceLT, List.length_cons, List.length_nil, true_implies, false_implies, not_true_eq_false, not_false_eq_true, and_true, true_and, and_self, or_true, true_or, decide_true, decide_false, exists_eq_left', Option.some.injEq]
  refine ⟨fun h => absurd rfl h, fun _ => ?_⟩
  rw [p4_be]
  refine ⟨r, x, rfl, hok, ?_⟩
  simp only [↓X_lit, ↓X_loc, ↓X_bin, ↓negX_int, ↓X_neg, ↓X_not, ↓Y_not, ↓X_and, ↓Y_and, ↓X_or, ↓Y_or, ↓X_cmp, ↓X_cmp2, ↓X_ite, ↓Y_ite, ↓X_tup, ↓X_lst, ↓X_call, ↓X_meth, ↓X_sub, ↓X_comp, ↓Y_lit, ↓Y_loc, ↓Y_cmp, ↓Y_cmp2, ↓Y_call, ↓Y_sub, ↓XEs_nil, ↓XEs_cons, ↓XIfs_nil, ↓XIfs_cons, ↓Z_expr, ↓Z_assign, ↓Z_ret, ↓Z_retNone, ↓Z_ite, ↓Z_for, ↓Z_pass, ↓Z_brk, ↓Z_cont, ↓Zs_nil, ↓sqX_next, ↓sqX_brk, ↓sqX_cont, ↓sqX_ret, ↓Zs_cons, ↓wkX_next, ↓wkX_cont, ↓wkX_brk, ↓wkX_ret, ↓fkX_next, ↓fkX_cont, ↓fkX_brk, ↓fkX_ret, ↓xb_one, ↓oKK_some, ↓oK_some, ↓tX_bool, ↓iX_t, ↓iX_f, ↓iX_d, ↓q_add, ↓q_sub, ↓q_mul, ↓q_div, ↓q_mod, ↓q_pow, ↓q_list, ↓q_eq, ↓q_ne, ↓q_eqs, ↓q_nes, ↓q_eqb, ↓q_lt, ↓q_le, ↓q_gt, ↓q_ge, ↓q_in, ↓q_inl, ↓q_nin, ↓q_is, ↓q_isnot, ↓q_stup, ↓q_sref, ↓q_sscr, ↓q_fn, ↓q_lentup, ↓q_lenref, ↓q_lenscr, ↓q_isi, ↓q_all, ↓q_max, ↓q_min, ↓q_int, ↓q_tuple, ↓q_listc, ↓q_append, ↓q_clear, ↓q_index, ↓u_tup, ↓u_ref, ↓u_range, ↓q_slice, ↓oi_none, ↓oi_int, ↓X_slice, ↓XO_none, ↓XO_some, ↓u_rev, ↓u_range2, ↓retV_ret, ↓retV_next, List.getElem?_cons_zero, List.getElem?_cons_succ, List.set_cons_zero, List.set_cons_succ, Bool.not_true, Bool.not_false, idx_0, idx_1, idx_2, idx_3, idx_4, idx_5, Int.reduceAdd, Int.reduceSub, Int.reduceMul, Int.reduceNeg, Int.reducePow, Int.reduceLT, Int.reduceLE, Int.reduceEq, Int.reduceNe, Int.reduceToNat, Int.reduceAbs, Nat.reduceAdd, Nat.reduceLT, Nat.reduceLeDiff, Nat.reducePow, Nat.reduceLT, List.length_cons, List.length_nil, true_implies, false_implies, not_true_eq_false, not_false_eq_true, and_true, true_and, and_self, or_true, true_or, decide_true, decide_false, exists_eq_left', Option.some.injEq, isi_bool_bool, ↓p4_bu]
  refine ⟨fun hx => ⟨r, x, rfl, hok, hd, fun H2 hp2 => ?_⟩, fun hx => ?_⟩
  · have hx' : ¬ x < 0 := by omega
    have e : (bg r x == lbg r x) = true := by simp [bg, hx', same_begun r x hok hx']
    show Q (.bool (bg r x == lbg r x)) H2
    rw [e]; exact q _ (hp1.trans hp2)
  · have hx' : x < 0 := by omega
    have e : (bg r x == decide (0 ≤ x)) = true := by simp [bg, hx', hx]
    rw [e]; exact q _ hp1

/- hours that the rule itself names -/
noncomputable abbrev soT : List IE := [(.cmp (.sub (.loc 11) (.lit (.int 0))) .In (.lst [(.lit (.str "from")), (.lit (.str "until")), (.lit (.str "also")), (.lit (.str "once")), (.lit (.str "every"))]))]
noncomputable abbrev soE : IE := .sub (.loc 11) (.lit (.int 1))
noncomputable def inSo (u : Str) : Bool := u == "from" || u == "until" || u == "also" || u == "once" || u == "every"
theorem m5_from : memV (.str "from") [V.str "from", .str "until", .str "also", .str "once", .str "every"] = some true := by decide
theorem m5_until : memV (.str "until") [V.str "from", .str "until", .str "also", .str "once", .str "every"] = some true := by decide
theorem m5_also : memV (.str "also") [V.str "from", .str "until", .str "also", .str "once", .str "every"] = some true := by decide
theorem m5_once : memV (.str "once") [V.str "from", .str "until", .str "also", .str "once", .str "every"] = some true := by decide
theorem m5_every : memV (.str "every") [V.str "from", .str "until", .str "also", .str "once", .str "every"] = some true := by decide
theorem m5_but : memV (.str "but") [V.str "from", .str "until", .str "also", .str "once", .str "every"] = some false := by decide
theorem m5_week : memV (.str "week") [V.str "from", .str "until", .str "also", .str "once", .str "every"] = some false := by decide
theorem m5_month : memV (.str "month") [V.str "from", .str "until", .str "also", .str "once", .str "every"] = some false := by decide
theorem so_comp {v0 v1 v2 v4 v7 : V} {t3 t5 t6 t8 t9 t10 t11 t12 t13 : Option V} {X : XL} {i : Nat} {l : List V} {Q : List V → Hp → Prop} : ∀ (es : List Rl) (acc : List Int) (H : Hp), listAt H i = some l →
    (∀ (ys : List Int) (H2 : Hp), H <+: H2 → ys.length ≤ acc.length + es.length → Q (ys.map V.int) H2) →
    compGo (coTX Ψ4 soT X) (coEX Ψ4 soE X) (fun H' => listAt H' i = some l) [11] [some v0, some v1, some v2, t3, some v4, t5, t6, some v7, t8, t9, t10, t11, t12, t13] (es.map rv) (acc.map V.int) H Q := by
  intro es
  induction es with
  | nil => intro acc H hl q; exact q acc H (List.prefix_refl _) (by simp)
  | cons e es ih =>
    intro acc H hl q
    rw [List.map_cons, coX_cons]
    have hl' : ∀ o, listAt (H ++ [o]) i = some l := fun o => listAt_pre pre_new hl
    have yes : ∀ (h : Int) (o : O), compGo (coTX Ψ4 soT X) (coEX Ψ4 soE X) (fun H' => listAt H' i = some l) [11] [some v0, some v1, some v2, t3, some v4, t5, t6, some v7, t8, t9, t10, t11, t12, t13] (es.map rv) (acc.map V.int ++ [.int h]) (H ++ [o]) Q := fun h o => by
      have := ih (acc ++ [h]) (H ++ [o]) (hl' o) (fun ys H2 hp hy => q ys H2 (pre_new.trans hp) (by simp at hy ⊢; omega))
      simpa using this
    have no : ∀ (o : O), compGo (coTX Ψ4 soT X) (coEX Ψ4 soE X) (fun H' => listAt H' i = some l) [11] [some v0, some v1, some v2, t3, some v4, t5, t6, some v7, t8, t9, t10, t11, t12, t13] (es.map rv) (acc.map V.int) (H ++ [o]) Q := fun o =>
      ih acc (H ++ [o]) (hl' o) (fun ys H2 hp hy => q ys H2 (pre_new.trans hp) (by simp at hy ⊢; omega))
    cases e with
    | once h s => simp only [↓X_lit, ↓X_loc, ↓X_bin, ↓negX_int, ↓X_neg, ↓X_not, ↓Y_not, ↓X_and, ↓Y_and, ↓X_or, ↓Y_or, ↓X_cmp, ↓X_cmp2, ↓X_ite, ↓Y_ite, ↓X_tup, ↓X_lst, ↓X_call, ↓X_meth, ↓X_sub, ↓X_comp, ↓Y_lit, ↓Y_loc, ↓Y_cmp, ↓Y_cmp2, ↓Y_call, ↓Y_sub, ↓XEs_nil, ↓XEs_cons, ↓XIfs_nil, ↓XIfs_cons, ↓Z_expr, ↓Z_assign, ↓Z_ret, ↓Z_retNone, ↓Z_ite, ↓Z_for, ↓Z_pass, ↓Z_brk, ↓Z_cont, ↓Zs_nil, ↓sqX_next, ↓sqX_brk, ↓sqX_cont, ↓sqX_ret, ↓Zs_cons, ↓wkX_next, ↓wkX_cont, ↓wkX_brk, ↓wkX_ret, ↓fkX_next, ↓fkX_cont, ↓fkX_brk, ↓fkX_ret, ↓xb_one, ↓oKK_some, ↓oK_some, ↓tX_bool, ↓iX_t, ↓iX_f, ↓iX_d, ↓q_add, ↓q_sub, ↓q_mul, ↓q_div, ↓q_mod, ↓q_pow, ↓q_list, ↓q_eq, ↓q_ne, ↓q_eqs, ↓q_nes, ↓q_eqb, ↓q_lt, ↓q_le, ↓q_gt, ↓q_ge, ↓q_in, ↓q_inl, ↓q_nin, ↓q_is, ↓q_isnot, ↓q_stup, ↓q_sref, ↓q_sscr, ↓q_fn, ↓q_lentup, ↓q_lenref, ↓q_lenscr, ↓q_isi, ↓q_all, ↓q_max, ↓q_min, ↓q_int, ↓q_tuple, ↓q_listc, ↓q_append, ↓q_clear, ↓q_index, ↓u_tup, ↓u_ref, ↓u_range, ↓q_slice, ↓oi_none, ↓oi_int, ↓X_slice, ↓XO_none, ↓XO_some, ↓u_rev, ↓u_range2, ↓retV_ret, ↓retV_next, List.getElem?_cons_zero, List.getElem?_cons_succ, List.set_cons_zero, List.set_cons_succ, Bool.not_true, Bool.not_false, idx_0, idx_1, idx_2, idx_3, idx_4, idx_5, Int.reduceAdd, Int.reduceSub, Int.reduceMul, Int.reduceNeg, Int.reducePow, Int.reduceLT, Int.reduceLE, Int.reduceEq, Int.reduceNe, Int.reduceToNat, Int.reduceAbs, Nat.reduceAdd, Nat.reduceLT, Nat.reduceLeDiff, Nat.reducePow, Nat.reduceLT, List.length_cons, List.length_nil, true_implies, false_implies, not_true_eq_false, not_false_eq_true, and_true, true_and, and_self, or_true, true_or, decide_true, decide_false, exists_eq_left', Option.some.injEq, rv, listAt_new, m5_once]; exact ⟨hl' _, yes _ _⟩
    | every h s p => simp only [↓X_lit, ↓X_loc, ↓X_bin, ↓negX_int, ↓X_neg, ↓X_not, ↓Y_not, ↓X_and, ↓Y_and, ↓X_or, ↓Y_or, ↓X_cmp, ↓X_cmp2, ↓X_ite, ↓Y_ite, ↓X_tup, ↓X_lst, ↓X_call, ↓X_meth, ↓X_sub, ↓X_comp, ↓Y_lit, ↓Y_loc, ↓Y_cmp, ↓Y_cmp2, ↓Y_call, ↓Y_sub, ↓XEs_nil, ↓XEs_cons, ↓XIfs_nil, ↓XIfs_cons, ↓Z_expr, ↓Z_assign, ↓Z_ret, ↓Z_retNone, ↓Z_ite, ↓Z_for, ↓Z_pass, ↓Z_brk, ↓Z_cont, ↓Zs_nil, ↓sqX_next, ↓sqX_brk, ↓sqX_cont, ↓sqX_ret, ↓Zs_cons, ↓wkX_next, ↓wkX_cont, ↓wkX_brk, ↓wkX_ret, ↓fkX_next, ↓fkX_cont, ↓fkX_brk, ↓fkX_ret, ↓xb_one, ↓oKK_some, ↓oK_some, ↓tX_bool, ↓iX_t, ↓iX_f, ↓iX_d, ↓q_add, ↓q_sub, ↓q_mul, ↓q_div, ↓q_mod, ↓q_pow, ↓q_list, ↓q_eq, ↓q_ne, ↓q_eqs, ↓q_nes, ↓q_eqb, ↓q_lt, ↓q_le, ↓q_gt, ↓q_ge, ↓q_in, ↓q_inl, ↓q_nin, ↓q_is, ↓q_isnot, ↓q_stup, ↓q_sref, ↓q_sscr, ↓q_fn, ↓q_lentup, ↓q_lenref, ↓q_lenscr, ↓q_isi, ↓q_all, ↓q_max, ↓q_min, ↓q_int, ↓q_tuple, ↓q_listc, ↓q_append, ↓q_clear, ↓q_index, ↓u_tup, ↓u_ref, ↓u_range, ↓q_slice, ↓oi_none, ↓oi_int, ↓X_slice, ↓XO_none, ↓XO_some, ↓u_rev, ↓u_range2, ↓retV_ret, ↓retV_next, List.getElem?_cons_zero, List.getElem?_cons_succ, List.set_cons_zero, List.set_cons_succ, Bool.not_true, Bool.not_false, idx_0, idx_1, idx_2, idx_3, idx_4, idx_5, Int.reduceAdd, Int.reduceSub, Int.reduceMul, Int.reduceNeg, Int.reducePow, Int.reduceLT, Int.reduceLE, Int.reduceEq, Int.reduceNe, Int.reduceToNat, Int.reduceAbs, Nat.reduceAdd, Nat.reduceLT, Nat.reduceLeDiff, Nat.reducePow, Nat.reduceLT, List.length_cons, List.length_nil, true_implies, false_implies, not_true_eq_false, not_false_eq_true, and_true, true_and, and_self, or_true, true_or, decide_true, decide_false, exists_eq_left', Option.some.injEq, rv, listAt_new, m5_every]; exact ⟨hl' _, yes _ _⟩
    | frm h r => simp only [↓X_lit, ↓X_loc, ↓X_bin, ↓negX_int, ↓X_neg, ↓X_not, ↓Y_not, ↓X_and, ↓Y_and, ↓X_or, ↓Y_or, ↓X_cmp, ↓X_cmp2, ↓X_ite, ↓Y_ite, ↓X_tup, ↓X_lst, ↓X_call, ↓X_meth, ↓X_sub, ↓X_comp, ↓Y_lit, ↓Y_loc, ↓Y_cmp, ↓Y_cmp2, ↓Y_call, ↓Y_sub, ↓XEs_nil, ↓XEs_cons, ↓XIfs_nil, ↓XIfs_cons, ↓Z_expr, ↓Z_assign, ↓Z_ret, ↓Z_retNone, ↓Z_ite, ↓Z_for, ↓Z_pass, ↓Z_brk, ↓Z_cont, ↓Zs_nil, ↓sqX_next, ↓sqX_brk, ↓sqX_cont, ↓sqX_ret, ↓Zs_cons, ↓wkX_next, ↓wkX_cont, ↓wkX_brk, ↓wkX_ret, ↓fkX_next, ↓fkX_cont, ↓fkX_brk, ↓fkX_ret, ↓xb_one, ↓oKK_some, ↓oK_some, ↓tX_bool, ↓iX_t, ↓iX_f, ↓iX_d, ↓q_add, ↓q_sub, ↓q_mul, ↓q_div, ↓q_mod, ↓q_pow, ↓q_list, ↓q_eq, ↓q_ne, ↓q_eqs, ↓q_nes, ↓q_eqb, ↓q_lt, ↓q_le, ↓q_gt, ↓q_ge, ↓q_in, ↓q_inl, ↓q_nin, ↓q_is, ↓q_isnot, ↓q_stup, ↓q_sref, ↓q_sscr, ↓q_fn, ↓q_lentup, ↓q_lenref, ↓q_lenscr, ↓q_isi, ↓q_all, ↓q_max, ↓q_min, ↓q_int, ↓q_tuple, ↓q_listc, ↓q_append, ↓q_clear, ↓q_index, ↓u_tup, ↓u_ref, ↓u_range, ↓q_slice, ↓oi_none, ↓oi_int, ↓X_slice, ↓XO_none, ↓XO_some, ↓u_rev, ↓u_range2, ↓retV_ret, ↓retV_next, List.getElem?_cons_zero, List.getElem?_cons_succ, List.set_cons_zero, List.set_cons_succ, Bool.not_true, Bool.not_false, idx_0, idx_1, idx_2, idx_3, idx_4, idx_5, Int.reduceAdd, Int.reduceSub, Int.reduceMul, Int.reduceNeg, Int.reducePow, Int.reduceLT, Int.reduceLE, Int.reduceEq, Int.reduceNe, Int.reduceToNat, Int.reduceAbs, Nat.reduceAdd, Nat.reduceLT, Nat.reduceLeDiff, Nat.reducePow, Nat.reduceLT, List.length_cons, List.length_nil, true_implies, false_implies, not_true_eq_false, not_false_eq_true, and_true, true_and, and_self, or_true, true_or, decide_true, decide_false, exists_eq_left', Option.some.injEq, rv, listAt_new, m5_from]; exact ⟨hl' _, yes _ _⟩
    | til h r => simp only [↓X_lit, ↓X_loc, ↓X_bin, ↓negX_int, ↓X_neg, ↓X_not, ↓Y_not, ↓X_and, ↓Y_and, ↓X_or, ↓Y_or, ↓X_cmp, ↓X_cmp2, ↓X_ite, ↓Y_ite, ↓X_tup, ↓X_lst, ↓X_call, ↓X_meth, ↓X_sub, ↓X_comp, ↓Y_lit, ↓Y_loc, ↓Y_cmp, ↓Y_cmp2, ↓Y_call, ↓Y_sub, ↓XEs_nil, ↓XEs_cons, ↓XIfs_nil, ↓XIfs_cons, ↓Z_expr, ↓Z_assign, ↓Z_ret, ↓Z_retNone, ↓Z_ite, ↓Z_for, ↓Z_pass, ↓Z_brk, ↓Z_cont, ↓Zs_nil, ↓sqX_next, ↓sqX_brk, ↓sqX_cont, ↓sqX_ret, ↓Zs_cons, ↓wkX_next, ↓wkX_cont, ↓wkX_brk, ↓wkX_ret, ↓fkX_next, ↓fkX_cont, ↓fkX_brk, ↓fkX_ret, ↓xb_one, ↓oKK_some, ↓oK_some, ↓tX_bool, ↓iX_t, ↓iX_f, ↓iX_d, ↓q_add, ↓q_sub, ↓q_mul, ↓q_div, ↓q_mod, ↓q_pow, ↓q_list, ↓q_eq, ↓q_ne, ↓q_eqs, ↓q_nes, ↓q_eqb, ↓q_lt, ↓q_le, ↓q_gt, ↓q_ge, ↓q_in, ↓q_inl, ↓q_nin, ↓q_is, ↓q_isnot, ↓q_stup, ↓q_sref, ↓q_sscr, ↓q_fn, ↓q_lentup, ↓q_lenref, ↓q_lenscr, ↓q_isi, ↓q_all, ↓q_max, ↓q_min, ↓q_int, ↓q_tuple, ↓q_listc, ↓q_append, ↓q_clear, ↓q_index, ↓u_tup, ↓u_ref, ↓u_range, ↓q_slice, ↓oi_none, ↓oi_int, ↓X_slice, ↓XO_none, ↓XO_some, ↓u_rev, ↓u_range2, ↓retV_ret, ↓retV_next, List.getElem?_cons_zero, List.getElem?_cons_succ, List.set_cons_zero, List.set_cons_succ, Bool.not_true, Bool.not_false, idx_0, idx_1, idx_2, idx_3, idx_4, idx_5, Int.reduceAdd, Int.reduceSub, Int.reduceMul, Int.reduceNeg, Int.reducePow, Int.reduceLT, Int.reduceLE, Int.reduceEq, Int.reduceNe, Int.reduceToNat, Int.reduceAbs, Nat.reduceAdd, Nat.reduceLT, Nat.reduceLeDiff, Nat.reducePow, Nat.reduceLT, List.length_cons, List.length_nil, true_implies, false_implies, not_true_eq_false, not_false_eq_true, and_true, true_and, and_self, or_true, true_or, decide_true, decide_false, exists_eq_left', Option.some.injEq, rv, listAt_new, m5_until]; exact ⟨hl' _, yes _ _⟩
    | als h r => simp only [↓X_lit, ↓X_loc, ↓X_bin, ↓negX_int, ↓X_neg, ↓X_not, ↓Y_not, ↓X_and, ↓Y_and, ↓X_or, ↓Y_or, ↓X_cmp, ↓X_cmp2, ↓X_ite, ↓Y_ite, ↓X_tup, ↓X_lst, ↓X_call, ↓X_meth, ↓X_sub, ↓X_comp, ↓Y_lit, ↓Y_loc, ↓Y_cmp, ↓Y_cmp2, ↓Y_call, ↓Y_sub, ↓XEs_nil, ↓XEs_cons, ↓XIfs_nil, ↓XIfs_cons, ↓Z_expr, ↓Z_assign, ↓Z_ret, ↓Z_retNone, ↓Z_ite, ↓Z_for, ↓Z_pass, ↓Z_brk, ↓Z_cont, ↓Zs_nil, ↓sqX_next, ↓sqX_brk, ↓sqX_cont, ↓sqX_ret, ↓Zs_cons, ↓wkX_next, ↓wkX_cont, ↓wkX_brk, ↓wkX_ret, ↓fkX_next, ↓fkX_cont, ↓fkX_brk, ↓fkX_ret, ↓xb_one, ↓oKK_some, ↓oK_some, ↓tX_bool, ↓iX_t, ↓iX_f, ↓iX_d, ↓q_add, ↓q_sub, ↓q_mul, ↓q_div, ↓q_mod, ↓q_pow, ↓q_list, ↓q_eq, ↓q_ne, ↓q_eqs, ↓q_nes, ↓q_eqb, ↓q_lt, ↓q_le, ↓q_gt, ↓q_ge, ↓q_in, ↓q_inl, ↓q_nin, ↓q_is, ↓q_isnot, ↓q_stup, ↓q_sref, ↓q_sscr, ↓q_fn, ↓q_lentup, ↓q_lenref, ↓q_lenscr, ↓q_isi, ↓q_all, ↓q_max, ↓q_min, ↓q_int, ↓q_tuple, ↓q_listc, ↓q_append, ↓q_clear, ↓q_index, ↓u_tup, ↓u_ref, ↓u_range, ↓q_slice, ↓oi_none, ↓oi_int, ↓X_slice, ↓XO_none, ↓XO_some, ↓u_rev, ↓u_range2, ↓retV_ret, ↓retV_next, List.getElem?_cons_zero, List.getElem?_cons_succ, List.set_cons_zero, List.set_cons_succ, Bool.not_true, Bool.not_false, idx_0, idx_1, idx_2, idx_3, idx_4, idx_5, Int.reduceAdd, Int.reduceSub, Int.reduceMul, Int.reduceNeg, Int.reducePow, Int.reduceLT, Int.reduceLE, Int.reduceEq, Int.reduceNe, Int.reduceToNat, Int.reduceAbs, Nat.reduceAdd, Nat.reduceLT, Nat.reduceLeDiff, Nat.reducePow, Nat.reduceLT, List.length_cons, List.length_nil, true_implies, false_implies, not_true_eq_false, not_false_eq_true, and_true, true_and, and_self, or_true, true_or, decide_true, decide_false, exists_eq_left', Option.some.injEq, rv, listAt_new, m5_also]; exact ⟨hl' _, yes _ _⟩
    | week ds t s => simp only [↓X_lit, ↓X_loc, ↓X_bin, ↓negX_int, ↓X_neg, ↓X_not, ↓Y_not, ↓X_and, ↓Y_and, ↓X_or, ↓Y_or, ↓X_cmp, ↓X_cmp2, ↓X_ite, ↓Y_ite, ↓X_tup, ↓X_lst, ↓X_call, ↓X_meth, ↓X_sub, ↓X_comp, ↓Y_lit, ↓Y_loc, ↓Y_cmp, ↓Y_cmp2, ↓Y_call, ↓Y_sub, ↓XEs_nil, ↓XEs_cons, ↓XIfs_nil, ↓XIfs_cons, ↓Z_expr, ↓Z_assign, ↓Z_ret, ↓Z_retNone, ↓Z_ite, ↓Z_for, ↓Z_pass, ↓Z_brk, ↓Z_cont, ↓Zs_nil, ↓sqX_next, ↓sqX_brk, ↓sqX_cont, ↓sqX_ret, ↓Zs_cons, ↓wkX_next, ↓wkX_cont, ↓wkX_brk, ↓wkX_ret, ↓fkX_next, ↓fkX_cont, ↓fkX_brk, ↓fkX_ret, ↓xb_one, ↓oKK_some, ↓oK_some, ↓tX_bool, ↓iX_t, ↓iX_f, ↓iX_d, ↓q_add, ↓q_sub, ↓q_mul, ↓q_div, ↓q_mod, ↓q_pow, ↓q_list, ↓q_eq, ↓q_ne, ↓q_eqs, ↓q_nes, ↓q_eqb, ↓q_lt, ↓q_le, ↓q_gt, ↓q_ge, ↓q_in, ↓q_inl, ↓q_nin, ↓q_is, ↓q_isnot, ↓q_stup, ↓q_sref, ↓q_sscr, ↓q_fn, ↓q_lentup, ↓q_lenref, ↓q_lenscr, ↓q_isi, ↓q_all, ↓q_max, ↓q_min, ↓q_int, ↓q_tuple, ↓q_listc, ↓q_append, ↓q_clear, ↓q_index, ↓u_tup, ↓u_ref, ↓u_range, ↓q_slice, ↓oi_none, ↓oi_int, ↓X_slice, ↓XO_none, ↓XO_some, ↓u_rev, ↓u_range2, ↓retV_ret, ↓retV_next, List.getElem?_cons_zero, List.getElem?_cons_succ, List.set_cons_zero, List.set_cons_succ, Bool.not_true, Bool.not_false, idx_0, idx_1, idx_2, idx_3, idx_4, idx_5, Int.reduceAdd, Int.reduceSub, Int.reduceMul, Int.reduceNeg, Int.reducePow, Int.reduceLT, Int.reduceLE, Int.reduceEq, Int.reduceNe, Int.reduceToNat, Int.reduceAbs, Nat.reduceAdd, Nat.reduceLT, Nat.reduceLeDiff, Nat.reducePow, Nat.reduceLT, List.length_cons, List.length_nil, true_implies, false_implies, not_true_eq_false, not_false_eq_true, and_true, true_and, and_self, or_true, true_or, decide_true, decide_false, exists_eq_left', Option.some.injEq, rv, listAt_new, m5_week]; exact ⟨hl' _, no _⟩
    | month d t s => simp only [↓X_lit, ↓X_loc, ↓X_bin, ↓negX_int, ↓X_neg, ↓X_not, ↓Y_not, ↓X_and, ↓Y_and, ↓X_or, ↓Y_or, ↓X_cmp, ↓X_cmp2, ↓X_ite, ↓Y_ite, ↓X_tup, ↓X_lst, ↓X_call, ↓X_meth, ↓X_sub, ↓X_comp, ↓Y_lit, ↓Y_loc, ↓Y_cmp, ↓Y_cmp2, ↓Y_call, ↓Y_sub, ↓XEs_nil, ↓XEs_cons, ↓XIfs_nil, ↓XIfs_cons, ↓Z_expr, ↓Z_assign, ↓Z_ret, ↓Z_retNone, ↓Z_ite, ↓Z_for, ↓Z_pass, ↓Z_brk, ↓Z_cont, ↓Zs_nil, ↓sqX_next, ↓sqX_brk, ↓sqX_cont, ↓sqX_ret, ↓Zs_cons, ↓wkX_next, ↓wkX_cont, ↓wkX_brk, ↓wkX_ret, ↓fkX_next, ↓fkX_cont, ↓fkX_brk, ↓fkX_ret, ↓xb_one, ↓oKK_some, ↓oK_some, ↓tX_bool, ↓iX_t, ↓iX_f, ↓iX_d, ↓q_add, ↓q_sub, ↓q_mul, ↓q_div, ↓q_mod, ↓q_pow, ↓q_list, ↓q_eq, ↓q_ne, ↓q_eqs, ↓q_nes, ↓q_eqb, ↓q_lt, ↓q_le, ↓q_gt, ↓q_ge, ↓q_in, ↓q_inl, ↓q_nin, ↓q_is, ↓q_isnot, ↓q_stup, ↓q_sref, ↓q_sscr, ↓q_fn, ↓q_lentup, ↓q_lenref, ↓q_lenscr, ↓q_isi, ↓q_all, ↓q_max, ↓q_min, ↓q_int, ↓q_tuple, ↓q_listc, ↓q_append, ↓q_clear, ↓q_index, ↓u_tup, ↓u_ref, ↓u_range, ↓q_slice, ↓oi_none, ↓oi_int, ↓X_slice, ↓XO_none, ↓XO_some, ↓u_rev, ↓u_range2, ↓retV_ret, ↓retV_next, List.getElem?_cons_zero, List.getElem?_cons_succ, List.set_cons_zero, List.set_cons_succ, Bool.not_true, Bool.not_false, idx_0, idx_1, idx_2, idx_3, idx_4, idx_5, Int.reduceAdd, Int.reduceSub, Int.reduceMul, Int.reduceNeg, Int.reducePow, Int.reduceLT, Int.reduceLE, Int.reduceEq, Int.reduceNe, Int.reduceToNat, Int.reduceAbs, Nat.reduceAdd, Nat.reduceLT, Nat.reduceLeDiff, Nat.reducePow, Nat.reduceLT, List.length_cons, List.length_nil, true_implies, false_implies, not_true_eq_false, not_false_eq_true, and_true, true_and, and_self, or_true, true_or, decide_true, decide_false, exists_eq_left', Option.some.injEq, rv, listAt_new, m5_month]; exact ⟨hl' _, no _⟩
    | but ds r => simp only [↓X_lit, ↓X_loc, ↓X_bin, ↓negX_int, ↓X_neg, ↓X_not, ↓Y_not, ↓X_and, ↓Y_and, ↓X_or, ↓Y_or, ↓X_cmp, ↓X_cmp2, ↓X_ite, ↓Y_ite, ↓X_tup, ↓X_lst, ↓X_call, ↓X_meth, ↓X_sub, ↓X_comp, ↓Y_lit, ↓Y_loc, ↓Y_cmp, ↓Y_cmp2, ↓Y_call, ↓Y_sub, ↓XEs_nil, ↓XEs_cons, ↓XIfs_nil, ↓XIfs_cons, ↓Z_expr, ↓Z_assign, ↓Z_ret, ↓Z_retNone, ↓Z_ite, ↓Z_for, ↓Z_pass, ↓Z_brk, ↓Z_cont, ↓Zs_nil, ↓sqX_next, ↓sqX_brk, ↓sqX_cont, ↓sqX_ret, ↓Zs_cons, ↓wkX_next, ↓wkX_cont, ↓wkX_brk, ↓wkX_ret, ↓fkX_next, ↓fkX_cont, ↓fkX_brk, ↓fkX_ret, ↓xb_one, ↓oKK_some, ↓oK_some, ↓tX_bool, ↓iX_t, ↓iX_f, ↓iX_d, ↓q_add, ↓q_sub, ↓q_mul, ↓q_div, ↓q_mod, ↓q_pow, ↓q_list, ↓q_eq, ↓q_ne, ↓q_eqs, ↓q_nes, ↓q_eqb, ↓q_lt, ↓q_le, ↓q_gt, ↓q_ge, ↓q_in, ↓q_inl, ↓q_nin, ↓q_is, ↓q_isnot, ↓q_stup, ↓q_sref, ↓q_sscr, ↓q_fn, ↓q_lentup, ↓q_lenref, ↓q_lenscr, ↓q_isi, ↓q_all, ↓q_max, ↓q_min, ↓q_int, ↓q_tuple, ↓q_listc, ↓q_append, ↓q_clear, ↓q_index, ↓u_tup, ↓u_ref, ↓u_range, ↓q_slice, ↓oi_none, ↓oi_int, ↓X_slice, ↓XO_none, ↓XO_some, ↓u_rev, ↓u_range2, ↓retV_ret, ↓retV_next, List.getElem?_cons_zero, List.getElem?_cons_succ, List.set_cons_zero, List.set_cons_succ, Bool.not_true, Bool.not_false, idx_0, idx_1, idx_2, idx_3, idx_4, idx_5, Int.reduceAdd, Int.reduceSub, Int.reduceMul, Int.reduceNeg, Int.reducePow, Int.reduceLT, Int.reduceLE, Int.reduceEq, Int.reduceNe, Int.reduceToNat, Int.reduceAbs, Nat.reduceAdd, Nat.reduceLT, Nat.reduceLeDiff, Nat.reducePow, Nat.reduceLT, List.length_cons, List.length_nil, true_implies, false_implies, not_true_eq_false, not_false_eq_true, and_true, true_and, and_self, or_true, true_or, decide_true, decide_false, exists_eq_left', Option.some.injEq, rv, listAt_new, m5_but]; exact ⟨hl' _, no _⟩
end Mine

set_option autoImplicit false
set_option linter.unusedSimpArgs false
set_option maxRecDepth 20000
namespace Mine
open PySem

theorem mid_three {ns : List Int} {r : Rl} {x b far : Int} {H : Hp} {Q : V → Hp → Prop} {X : XL} {t3 t5 t6 t8 t9 t10 t11 t12 t13 : Option V} (hok : r.ok) (hd : r.depth ≤ 900) (q : ∀ H', H <+: H' → Q (.bool true) H') :
    wpSs Ψ4 (f_lawC.body.drop 6) [some (.scr ns), some (.int b), some (.int far), t3, some (rv r), t5, t6, some (.int x), t8, t9, t10, t11, t12, t13] H (fun fl _ H1 => Q (retV fl) H1) (fun x _ H1 => X x H1) := by
  refine zs_cons ?_
  generalize hK : sqX Ψ4 (_ :: _) = K
  simp only [↓X_lit, ↓X_loc, ↓X_bin, ↓negX_int, ↓X_neg, ↓X_not, ↓Y_not, ↓X_and, ↓Y_and, ↓X_or, ↓Y_or, ↓X_cmp, ↓X_cmp2, ↓X_ite, ↓Y_ite, ↓X_tup, ↓X_lst, ↓X_call, ↓X_meth, ↓X_sub, ↓X_comp, ↓Y_lit, ↓Y_loc, ↓Y_cmp, ↓Y_cmp2, ↓Y_call, ↓Y_sub, ↓XEs_nil, ↓XEs_cons, ↓XIfs_nil, ↓XIfs_cons, ↓Z_expr, ↓Z_assign, ↓Z_ret, ↓Z_retNone, ↓Z_ite, ↓Z_for, ↓Z_pass, ↓Z_brk, ↓Z_cont, ↓Zs_nil, ↓sqX_next, ↓sqX_brk, ↓sqX_cont, ↓sqX_ret, ↓Zs_cons, ↓wkX_next, ↓wkX_cont, ↓wkX_brk, ↓wkX_ret, ↓fkX_next, ↓fkX_cont, ↓fkX_brk, ↓fkX_ret, ↓xb_one, ↓oKK_some, ↓oK_some, ↓tX_bool, ↓iX_t, ↓iX_f, ↓iX_d, ↓q_add, ↓q_sub, ↓q_mul, ↓q_div, ↓q_mod, ↓q_pow, ↓q_list, ↓q_eq, ↓q_ne, ↓q_eqs, ↓q_nes, ↓q_eqb, ↓q_lt, ↓q_le, ↓q_gt, ↓q_ge, ↓q_in, ↓q_inl, ↓q_nin, ↓q_is, ↓q_isnot, ↓q_stup, ↓q_sref, ↓q_sscr, ↓q_fn, ↓q_lentup, ↓q_lenref, ↓q_lenscr, ↓q_isi, ↓q_all, ↓q_max, ↓q_min, ↓q_int, ↓q_tuple, ↓q_listc, ↓q_append, ↓q_clear, ↓q_index, ↓u_tup, ↓u_ref, ↓u_range, ↓q_slice, ↓oi_none, ↓oi_int, ↓X_slice, ↓XO_none, ↓XO_some, ↓u_rev, ↓u_range2, ↓retV_ret, ↓retV_next, List.getElem?_cons_zero, List.getElem?_cons_succ, List.set_cons_zero, List.set_cons_succ, Bool.not_true, Bool.not_false, idx_0, idx_1, idx_2, idx_3, idx_4, idx_5, Int.reduceAdd, Int.reduceSub, Int.reduceMul, Int.reduceNeg, Int.reducePow, Int.reduceLT, Int.reduceLE, Int.reduceEq, Int.reduceNe, Int.reduceToNat, Int.reduceAbs, Nat.reduceAdd, Nat.reduceLT, Nat.reduceLeDiff, Nat.reducePow, Nat.reduceLT, List.length_cons, List.length_nil, true_implies, false_implies, not_true_eq_false, not_false_eq_true, and_true, true_and, and_self, or_true, true_or, decide_true, decide_false, exists_eq_left', Option.some.injEq, ↓p4_he]
  refine ⟨r, rfl, by omega, fun H1 hp1 => ?_⟩
  simp only [↓X_lit, ↓X_loc, ↓X_bin, ↓negX_int, ↓X_neg, ↓X_not, ↓Y_not, ↓X_and, ↓Y_and, ↓X_or, ↓Y_or, ↓X_cmp, ↓X_cmp2, ↓X_ite, ↓Y_ite, ↓X_tup, ↓X_lst, ↓X_call, ↓X_meth, ↓X_sub, ↓X_comp, ↓Y_lit, ↓Y_loc, ↓Y_cmp, ↓Y_cmp2, ↓Y_call, ↓Y_sub, ↓XEs_nil, ↓XEs_cons, ↓XIfs_nil, ↓XIfs_cons, ↓Z_expr, ↓Z_assign, ↓Z_ret, ↓Z_retNone, ↓Z_ite, ↓Z_for, ↓Z_pass, ↓Z_brk, ↓Z_cont, ↓Zs_nil, ↓sqX_next, ↓sqX_brk, ↓sqX_cont, ↓sqX_ret, ↓Zs_cons, ↓wkX_next, ↓wkX_cont, ↓wkX_brk, ↓wkX_ret, ↓fkX_next, ↓fkX_cont, ↓fkX_brk, ↓fkX_ret, ↓xb_one, ↓oKK_some, ↓oK_some, ↓tX_bool, ↓iX_t, ↓iX_f, ↓iX_d, ↓q_add, ↓q_sub, ↓q_mul, ↓q_div, ↓q_mod, ↓q_pow, ↓q_list, ↓q_eq, ↓q_ne, ↓q_eqs, ↓q_nes, ↓q_eqb, ↓q_lt, ↓q_le, ↓q_gt, ↓q_ge, ↓q_in, ↓q_inl, ↓q_nin, ↓q_is, ↓q_isnot, ↓q_stup, ↓q_sref, ↓q_sscr, ↓q_fn, ↓q_lentup, ↓q_lenref, ↓q_lenscr, ↓q_isi, ↓q_all, ↓q_max, ↓q_min, ↓q_int, ↓q_tuple, ↓q_listc, ↓q_append, ↓q_clear, ↓q_index, ↓u_tup, ↓u_ref, ↓u_range, ↓q_slice, ↓oi_none, ↓oi_int, ↓X_slice, ↓XO_none, ↓XO_some, ↓u_rev, ↓u_range2, ↓retV_ret, ↓retV_next, List.getElem?_cons_zero, List.getElem?_cons_succ, List.set_cons_zero, List.set_cons_succ, Bool.not_true, Bool.not_false, idx_0, idx_1, idx_2, idx_3, idx_4, idx_5, Int.reduceAdd, Int.reduceSub, Int.reduceMul, Int.reduceNeg, Int.reducePow, Int.reduceLT, Int.reduceLE, Int.reduceEq, Int.reduceNe, Int.reduceToNat, Int.reduceAbs, Nat.reduceAdd, Nat.reduceLT, Nat.reduceLeDiff, Nat.reducePow, Nat.reduceLT, List.length_cons, List.length_nil, true_implies, false_implies, not_true_eq_false, not_false_eq_true, and_true, true_and, and_self, or_true, true_or, decide_true, decide_false, exists_eq_left', Option.some.injEq, listAt_new]
  refine so_comp r.heads [] _ listAt_new ?_
  intro ys H2 hp2 hy
  rw [heads_len] at hy
  simp only [List.length_nil] at hy
  refine ⟨by simp; omega, ?_⟩
  subst hK
  refine zs_cons ?_
  have q2 : ∀ H', H2 <+: H' → Q (.bool true) H' := fun H' hp => q H' (hp1.trans (pre_new.trans (hp2.trans hp)))
  have tl : ∀ (x : Int) (H' : Hp), H2 <+: H' → wpSs Ψ4 (f_lawC.body.drop 8) [some (.scr ns), some (.int b), some (.int far), t3, some (rv r), t5, t6, some (.int x), some (.ref H2.length), t9, t10, t11, t12, t13] H' (fun fl _ H1 => Q (retV fl) H1) (fun x _ H1 => X x H1) :=
    fun x H' hp => tail_three hok (by omega) (fun H3 hp3 => q2 H3 (hp.trans hp3))
  generalize hK : sqX Ψ4 (_ :: _) = K
  have e := eq_nil (H := H2 ++ [O.list (ys.map V.int)] ++ [O.list []]) (i := H2.length) (j := (H2 ++ [O.list (ys.map V.int)]).length) (ns := ys) (listAt_pre pre_new listAt_new) listAt_new
  have hl := listAt_pre (pre_new (o := O.list [])) (listAt_new (H := H2) (l := ys.map V.int))
  simp only [↓X_lit, ↓X_loc, ↓X_bin, ↓negX_int, ↓X_neg, ↓X_not, ↓Y_not, ↓X_and, ↓Y_and, ↓X_or, ↓Y_or, ↓X_cmp, ↓X_cmp2, ↓X_ite, ↓Y_ite, ↓X_tup, ↓X_lst, ↓X_call, ↓X_meth, ↓X_sub, ↓X_comp, ↓Y_lit, ↓Y_loc, ↓Y_cmp, ↓Y_cmp2, ↓Y_call, ↓Y_sub, ↓XEs_nil, ↓XEs_cons, ↓XIfs_nil, ↓XIfs_cons, ↓Z_expr, ↓Z_assign, ↓Z_ret, ↓Z_retNone, ↓Z_ite, ↓Z_for, ↓Z_pass, ↓Z_brk, ↓Z_cont, ↓Zs_nil, ↓sqX_next, ↓sqX_brk, ↓sqX_cont, ↓sqX_ret, ↓Zs_cons, ↓wkX_next, ↓wkX_cont, ↓wkX_brk, ↓wkX_ret, ↓fkX_next, ↓fkX_cont, ↓fkX_brk, ↓fkX_ret, ↓xb_one, ↓oKK_some, ↓oK_some, ↓tX_bool, ↓iX_t, ↓iX_f, ↓iX_d, ↓q_add, ↓q_sub, ↓q_mul, ↓q_div, ↓q_mod, ↓q_pow, ↓q_list, ↓q_eq, ↓q_ne, ↓q_eqs, ↓q_nes, ↓q_eqb, ↓q_lt, ↓q_le, ↓q_gt, ↓q_ge, ↓q_in, ↓q_inl, ↓q_nin, ↓q_is, ↓q_isnot, ↓q_stup, ↓q_sref, ↓q_sscr, ↓q_fn, ↓q_lentup, ↓q_lenref, ↓q_lenscr, ↓q_isi, ↓q_all, ↓q_max, ↓q_min, ↓q_int, ↓q_tuple, ↓q_listc, ↓q_append, ↓q_clear, ↓q_index, ↓u_tup, ↓u_ref, ↓u_range, ↓q_slice, ↓oi_none, ↓oi_int, ↓X_slice, ↓XO_none, ↓XO_some, ↓u_rev, ↓u_range2, ↓retV_ret, ↓retV_next, List.getElem?_cons_zero, List.getElem?_cons_succ, List.set_cons_zero, List.set_cons_succ, Bool.not_true, Bool.not_false, idx_0, idx_1, idx_2, idx_3, idx_4, idx_5, Int.reduceAdd, Int.reduceSub, Int.reduceMul, Int.reduceNeg, Int.reducePow, Int.reduceLT, Int.reduceLE, Int.reduceEq, Int.reduceNe, Int.reduceToNat, Int.reduceAbs, Nat.reduceAdd, Nat.reduceLT, Nat.reduceLeDiff, Nat.reducePow, Nat.reduceLT, List.length_cons, List.length_nil, true_implies, false_implies, not_true_eq_false, not_false_eq_true, and_true, true_and, and_self, or_true, true_or, decide_true, decide_false, exists_eq_left', Option.some.injEq, ↓p4_ca, ↓cc_cell, ↓q_nref, e, hl, List.length_map]
  refine ⟨fun h6 => ?_, fun _ => by subst hK; exact tl _ _ pre_new⟩
  refine iX_b (fun hy' => ?_) (fun _ => by subst hK; exact tl _ _ (pre_new.trans pre_new))
  have hne : ys ≠ [] := by rintro rfl; simp at hy'
  obtain ⟨v, hv⟩ := idx_mod hne (cell ns 5)
  have hpos : 0 < (ys.length : Int) := by have := List.length_pos_iff.mpr hne; omega
  simp only [hv, ↓X_lit, ↓X_loc, ↓X_bin, ↓negX_int, ↓X_neg, ↓X_not, ↓Y_not, ↓X_and, ↓Y_and, ↓X_or, ↓Y_or, ↓X_cmp, ↓X_cmp2, ↓X_ite, ↓Y_ite, ↓X_tup, ↓X_lst, ↓X_call, ↓X_meth, ↓X_sub, ↓X_comp, ↓Y_lit, ↓Y_loc, ↓Y_cmp, ↓Y_cmp2, ↓Y_call, ↓Y_sub, ↓XEs_nil, ↓XEs_cons, ↓XIfs_nil, ↓XIfs_cons, ↓Z_expr, ↓Z_assign, ↓Z_ret, ↓Z_retNone, ↓Z_ite, ↓Z_for, ↓Z_pass, ↓Z_brk, ↓Z_cont, ↓Zs_nil, ↓sqX_next, ↓sqX_brk, ↓sqX_cont, ↓sqX_ret, ↓Zs_cons, ↓wkX_next, ↓wkX_cont, ↓wkX_brk, ↓wkX_ret, ↓fkX_next, ↓fkX_cont, ↓fkX_brk, ↓fkX_ret, ↓xb_one, ↓oKK_some, ↓oK_some, ↓tX_bool, ↓iX_t, ↓iX_f, ↓iX_d, ↓q_add, ↓q_sub, ↓q_mul, ↓q_div, ↓q_mod, ↓q_pow, ↓q_list, ↓q_eq, ↓q_ne, ↓q_eqs, ↓q_nes, ↓q_eqb, ↓q_lt, ↓q_le, ↓q_gt, ↓q_ge, ↓q_in, ↓q_inl, ↓q_nin, ↓q_is, ↓q_isnot, ↓q_stup, ↓q_sref, ↓q_sscr, ↓q_fn, ↓q_lentup, ↓q_lenref, ↓q_lenscr, ↓q_isi, ↓q_all, ↓q_max, ↓q_min, ↓q_int, ↓q_tuple, ↓q_listc, ↓q_append, ↓q_clear, ↓q_index, ↓u_tup, ↓u_ref, ↓u_range, ↓q_slice, ↓oi_none, ↓oi_int, ↓X_slice, ↓XO_none, ↓XO_some, ↓u_rev, ↓u_range2, ↓retV_ret, ↓retV_next, List.getElem?_cons_zero, List.getElem?_cons_succ, List.set_cons_zero, List.set_cons_succ, Bool.not_true, Bool.not_false, idx_0, idx_1, idx_2, idx_3, idx_4, idx_5, Int.reduceAdd, Int.reduceSub, Int.reduceMul, Int.reduceNeg, Int.reducePow, Int.reduceLT, Int.reduceLE, Int.reduceEq, Int.reduceNe, Int.reduceToNat, Int.reduceAbs, Nat.reduceAdd, Nat.reduceLT, Nat.reduceLeDiff, Nat.reducePow, Nat.reduceLT, List.length_cons, List.length_nil, true_implies, false_implies, not_true_eq_false, not_false_eq_true, and_true, true_and, and_self, or_true, true_or, decide_true, decide_false, exists_eq_left', Option.some.injEq]
  subst hK
  exact ⟨⟨hpos, by omega⟩, tl _ _ (pre_new.trans pre_new)⟩

noncomputable abbrev ruB : List IS := [(.assign 5 (.call (.fn "_law_cell_at") [(.loc 0), (.bin .Add (.lit (.int 7)) (.loc 3))])), (.ite (.cmp (.bin .Mod (.bin .FloorDiv (.loc 1) (.lit (.int 3))) (.lit (.int 3))) .Eq (.lit (.int 1))) [(.assign 5 (.bin .Add (.bin .Add (.bin .Mod (.loc 5) (.lit (.int 4))) (.bin .Mult (.lit (.int 4)) (.bin .Mod (.call (.fn "_law_cell_at") [(.loc 0), (.lit (.int 7))]) (.lit (.int 70))))) (.bin .Mult (.bin .FloorDiv (.loc 5) (.lit (.int 280))) (.lit (.int 280)))))] []), (.assign 6 (.bin .Mult (.bin .Mod (.call (.fn "_law_cell_at") [(.loc 0), (.bin .Add (.lit (.int 15)) (.loc 3))]) (.bin .Pow (.lit (.int 10)) (.lit (.int 6)))) (.call (.ty .int) [(.cmp (.bin .Mod (.bin .FloorDiv (.loc 1) (.lit (.int 3))) (.lit (.int 3))) .Eq (.lit (.int 2)))]))), (.assign 4 (.call (.fn "_law_head_by") [(.loc 5), (.bin .Add (.loc 2) (.loc 6)), (.loc 4)]))]
theorem ru_last {ns : List Int} {b far k c : Int} {r : Rl} {H : Hp} {t6 t7 t8 t9 t10 t11 t12 t13 : Option V} {QF : QS} {XF : XS} (hk : 0 ≤ k)
    (q : ∀ (c far' w : Int) (H' : Hp), H <+: H' → QF .next [some (.scr ns), some (.int b), some (.int far), some (.int k), some (rv (headBy c far' r)), some (.int c), some (.int w), t7, t8, t9, t10, t11, t12, t13] H') :
    wpSs Ψ4 (ruB.drop 2) [some (.scr ns), some (.int b), some (.int far), some (.int k), some (rv r), some (.int c), t6, t7, t8, t9, t10, t11, t12, t13] H QF XF := by
  simp only [ruB, List.drop_succ_cons, List.drop_zero]
  simp only [↓X_lit, ↓X_loc, ↓X_bin, ↓negX_int, ↓X_neg, ↓X_not, ↓Y_not, ↓X_and, ↓Y_and, ↓X_or, ↓Y_or, ↓X_cmp, ↓X_cmp2, ↓X_ite, ↓Y_ite, ↓X_tup, ↓X_lst, ↓X_call, ↓X_meth, ↓X_sub, ↓X_comp, ↓Y_lit, ↓Y_loc, ↓Y_cmp, ↓Y_cmp2, ↓Y_call, ↓Y_sub, ↓XEs_nil, ↓XEs_cons, ↓XIfs_nil, ↓XIfs_cons, ↓Z_expr, ↓Z_assign, ↓Z_ret, ↓Z_retNone, ↓Z_ite, ↓Z_for, ↓Z_pass, ↓Z_brk, ↓Z_cont, ↓Zs_nil, ↓sqX_next, ↓sqX_brk, ↓sqX_cont, ↓sqX_ret, ↓Zs_cons, ↓wkX_next, ↓wkX_cont, ↓wkX_brk, ↓wkX_ret, ↓fkX_next, ↓fkX_cont, ↓fkX_brk, ↓fkX_ret, ↓xb_one, ↓oKK_some, ↓oK_some, ↓tX_bool, ↓iX_t, ↓iX_f, ↓iX_d, ↓q_add, ↓q_sub, ↓q_mul, ↓q_div, ↓q_mod, ↓q_pow, ↓q_list, ↓q_eq, ↓q_ne, ↓q_eqs, ↓q_nes, ↓q_eqb, ↓q_lt, ↓q_le, ↓q_gt, ↓q_ge, ↓q_in, ↓q_inl, ↓q_nin, ↓q_is, ↓q_isnot, ↓q_stup, ↓q_sref, ↓q_sscr, ↓q_fn, ↓q_lentup, ↓q_lenref, ↓q_lenscr, ↓q_isi, ↓q_all, ↓q_max, ↓q_min, ↓q_int, ↓q_tuple, ↓q_listc, ↓q_append, ↓q_clear, ↓q_index, ↓u_tup, ↓u_ref, ↓u_range, ↓q_slice, ↓oi_none, ↓oi_int, ↓X_slice, ↓XO_none, ↓XO_some, ↓u_rev, ↓u_range2, ↓retV_ret, ↓retV_next, List.getElem?_cons_zero, List.getElem?_cons_succ, List.set_cons_zero, List.set_cons_succ, Bool.not_true, Bool.not_false, idx_0, idx_1, idx_2, idx_3, idx_4, idx_5, Int.reduceAdd, Int.reduceSub, Int.reduceMul, Int.reduceNeg, Int.reducePow, Int.reduceLT, Int.reduceLE, Int.reduceEq, Int.reduceNe, Int.reduceToNat, Int.reduceAbs, Nat.reduceAdd, Nat.reduceLT, Nat.reduceLeDiff, Nat.reducePow, Nat.reduceLT, List.length_cons, List.length_nil, true_implies, false_implies, not_true_eq_false, not_false_eq_true, and_true, true_and, and_self, or_true, true_or, decide_true, decide_false, exists_eq_left', Option.some.injEq, ↓p4_ca, ↓cc_cell, ↓p4_hb]
  exact ⟨by omega, .inl ⟨by omega, by omega⟩, _, _, r, rfl, fun H' hp => q _ _ _ H' hp⟩
theorem ru_loop {ns : List Int} {b far : Int} {t7 t8 t9 t10 t11 t12 t13 : Option V} {Q : QS} {XF : XS} : ∀ (ks : List Int) (r : Rl) (H : Hp) (t3 t5 t6 : Option V), (∀ k ∈ ks, 0 ≤ k) → r.ok → r.depth + ks.length ≤ 900 →
    (∀ (r' : Rl) (t3' t5' t6' : Option V) (H' : Hp), H <+: H' → r'.ok → r'.depth ≤ 900 → Q .next [some (.scr ns), some (.int b), some (.int far), t3', some (rv r'), t5', t6', t7, t8, t9, t10, t11, t12, t13] H') →
    forGo (whBX Ψ4 ruB XF) (fun _ => True) [3] (ks.map V.int) [some (.scr ns), some (.int b), some (.int far), t3, some (rv r), t5, t6, t7, t8, t9, t10, t11, t12, t13] H Q := by
  intro ks
  induction ks with
  | nil => intro r H t3 t5 t6 _ hok hd q; exact q r t3 t5 t6 H (List.prefix_refl _) hok (by simpa using hd)
  | cons k ks ih =>
    intro r H t3 t5 t6 hk hok hd q
    rw [List.map_cons, foX_cons]
    have hk0 := hk k List.mem_cons_self
    have nxt : ∀ (c far' w : Int) (H' : Hp), H <+: H' → fkX (whBX Ψ4 ruB XF) (fun _ => True) [3] (ks.map V.int) Q .next [some (.scr ns), some (.int b), some (.int far), some (.int k), some (rv (headBy c far' r)), some (.int c), some (.int w), t7, t8, t9, t10, t11, t12, t13] H' := by
      intro c far' w H' hp
      obtain ⟨h1, h2⟩ := headBy_ok c far' r
      simp only [List.length_cons] at hd
      exact ⟨trivial, ih _ H' _ _ _ (fun k' h => hk k' (List.mem_cons_of_mem _ h)) (h1.mpr hok) (by omega) fun r' t3' t5' t6' H2 hp2 => q r' t3' t5' t6' H2 (hp.trans hp2)⟩
    refine zs_cons ?_
    generalize hK : sqX Ψ4 (_ :: _) = K
    simp only [↓X_lit, ↓X_loc, ↓X_bin, ↓negX_int, ↓X_neg, ↓X_not, ↓Y_not, ↓X_and, ↓Y_and, ↓X_or, ↓Y_or, ↓X_cmp, ↓X_cmp2, ↓X_ite, ↓Y_ite, ↓X_tup, ↓X_lst, ↓X_call, ↓X_meth, ↓X_sub, ↓X_comp, ↓Y_lit, ↓Y_loc, ↓Y_cmp, ↓Y_cmp2, ↓Y_call, ↓Y_sub, ↓XEs_nil, ↓XEs_cons, ↓XIfs_nil, ↓XIfs_cons, ↓Z_expr, ↓Z_assign, ↓Z_ret, ↓Z_retNone, ↓Z_ite, ↓Z_for, ↓Z_pass, ↓Z_brk, ↓Z_cont, ↓Zs_nil, ↓sqX_next, ↓sqX_brk, ↓sqX_cont, ↓sqX_ret, ↓Zs_cons, ↓wkX_next, ↓wkX_cont, ↓wkX_brk, ↓wkX_ret, ↓fkX_next, ↓fkX_cont, ↓fkX_brk, ↓fkX_ret, ↓xb_one, ↓oKK_some, ↓oK_some, ↓tX_bool, ↓iX_t, ↓iX_f, ↓iX_d, ↓q_add, ↓q_sub, ↓q_mul, ↓q_div, ↓q_mod, ↓q_pow, ↓q_list, ↓q_eq, ↓q_ne, ↓q_eqs, ↓q_nes, ↓q_eqb, ↓q_lt, ↓q_le, ↓q_gt, ↓q_ge, ↓q_in, ↓q_inl, ↓q_nin, ↓q_is, ↓q_isnot, ↓q_stup, ↓q_sref, ↓q_sscr, ↓q_fn, ↓q_lentup, ↓q_lenref, ↓q_lenscr, ↓q_isi, ↓q_all, ↓q_max, ↓q_min, ↓q_int, ↓q_tuple, ↓q_listc, ↓q_append, ↓q_clear, ↓q_index, ↓u_tup, ↓u_ref, ↓u_range, ↓q_slice, ↓oi_none, ↓oi_int, ↓X_slice, ↓XO_none, ↓XO_some, ↓u_rev, ↓u_range2, ↓retV_ret, ↓retV_next, List.getElem?_cons_zero, List.getElem?_cons_succ, List.set_cons_zero, List.set_cons_succ, Bool.not_true, Bool.not_false, idx_0, idx_1, idx_2, idx_3, idx_4, idx_5, Int.reduceAdd, Int.reduceSub, Int.reduceMul, Int.reduceNeg, Int.reducePow, Int.reduceLT, Int.reduceLE, Int.reduceEq, Int.reduceNe, Int.reduceToNat, Int.reduceAbs, Nat.reduceAdd, Nat.reduceLT, Nat.reduceLeDiff, Nat.reducePow, Nat.reduceLT, List.length_cons, List.length_nil, true_implies, false_implies, not_true_eq_false, not_false_eq_true, and_true, true_and, and_self, or_true, true_or, decide_true, decide_false, exists_eq_left', Option.some.injEq, ↓p4_ca, ↓cc_cell]
    refine ⟨by omega, ?_⟩
    subst hK
    refine zs_cons ?_
    generalize hK : sqX Ψ4 (_ :: _) = K
    simp only [↓X_lit, ↓X_loc, ↓X_bin, ↓negX_int, ↓X_neg, ↓X_not, ↓Y_not, ↓X_and, ↓Y_and, ↓X_or, ↓Y_or, ↓X_cmp, ↓X_cmp2, ↓X_ite, ↓Y_ite, ↓X_tup, ↓X_lst, ↓X_call, ↓X_meth, ↓X_sub, ↓X_comp, ↓Y_lit, ↓Y_loc, ↓Y_cmp, ↓Y_cmp2, ↓Y_call, ↓Y_sub, ↓XEs_nil, ↓XEs_cons, ↓XIfs_nil, ↓XIfs_cons, ↓Z_expr, ↓Z_assign, ↓Z_ret, ↓Z_retNone, ↓Z_ite, ↓Z_for, ↓Z_pass, ↓Z_brk, ↓Z_cont, ↓Zs_nil, ↓sqX_next, ↓sqX_brk, ↓sqX_cont, ↓sqX_ret, ↓Zs_cons, ↓wkX_next, ↓wkX_cont, ↓wkX_brk, ↓wkX_ret, ↓fkX_next, ↓fkX_cont, ↓fkX_brk, ↓fkX_ret, ↓xb_one, ↓oKK_some, ↓oK_some, ↓tX_bool, ↓iX_t, ↓iX_f, ↓iX_d, ↓q_add, ↓q_sub, ↓q_mul, ↓q_div, ↓q_mod, ↓q_pow, ↓q_list, ↓q_eq, ↓q_ne, ↓q_eqs, ↓q_nes, ↓q_eqb, ↓q_lt, ↓q_le, ↓q_gt, ↓q_ge, ↓q_in, ↓q_inl, ↓q_nin, ↓q_is, ↓q_isnot, ↓q_stup, ↓q_sref, ↓q_sscr, ↓q_fn, ↓q_lentup, ↓q_lenref, ↓q_lenscr, ↓q_isi, ↓q_all, ↓q_max, ↓q_min, ↓q_int, ↓q_tuple, ↓q_listc, ↓q_append, ↓q_clear, ↓q_index, ↓u_tup, ↓u_ref, ↓u_range, ↓q_slice, ↓oi_none, ↓oi_int, ↓X_slice, ↓XO_none, ↓XO_some, ↓u_rev, ↓u_range2, ↓retV_ret, ↓retV_next, List.getElem?_cons_zero, List.getElem?_cons_succ, List.set_cons_zero, List.set_cons_succ, Bool.not_true, Bool.not_false, idx_0, idx_1, idx_2, idx_3, idx_4, idx_5, Int.reduceAdd, Int.reduceSub, Int.reduceMul, Int.reduceNeg, Int.reducePow, Int.reduceLT, Int.reduceLE, Int.reduceEq, Int.reduceNe, Int.reduceToNat, Int.reduceAbs, Nat.reduceAdd, Nat.reduceLT, Nat.reduceLeDiff, Nat.reducePow, Nat.reduceLT, List.length_cons, List.length_nil, true_implies, false_implies, not_true_eq_false, not_false_eq_true, and_true, true_and, and_self, or_true, true_or, decide_true, decide_false, exists_eq_left', Option.some.injEq, ↓p4_ca, ↓cc_cell]
    subst hK
    refine ⟨fun _ => ?_, fun _ => ru_last hk0 nxt⟩
    exact ru_last hk0 nxt

theorem four_three {ns : List Int} {r : Rl} {b far : Int} {H : Hp} {Q : V → Hp → Prop} {X : XL} {t3 t5 t6 t7 t8 t9 t10 t11 t12 t13 : Option V} (hok : r.ok) (hd : r.depth ≤ 900) (q : ∀ H', H <+: H' → Q (.bool true) H') :
    wpSs Ψ4 (f_lawC.body.drop 4) [some (.scr ns), some (.int b), some (.int far), t3, some (rv r), t5, t6, t7, t8, t9, t10, t11, t12, t13] H (fun fl _ H1 => Q (retV fl) H1) (fun x _ H1 => X x H1) := by
  refine zs_cons ?_
  generalize hK : sqX Ψ4 (_ :: _) = K
  simp only [↓X_lit, ↓X_loc, ↓X_bin, ↓negX_int, ↓X_neg, ↓X_not, ↓Y_not, ↓X_and, ↓Y_and, ↓X_or, ↓Y_or, ↓X_cmp, ↓X_cmp2, ↓X_ite, ↓Y_ite, ↓X_tup, ↓X_lst, ↓X_call, ↓X_meth, ↓X_sub, ↓X_comp, ↓Y_lit, ↓Y_loc, ↓Y_cmp, ↓Y_cmp2, ↓Y_call, ↓Y_sub, ↓XEs_nil, ↓XEs_cons, ↓XIfs_nil, ↓XIfs_cons, ↓Z_expr, ↓Z_assign, ↓Z_ret, ↓Z_retNone, ↓Z_ite, ↓Z_for, ↓Z_pass, ↓Z_brk, ↓Z_cont, ↓Zs_nil, ↓sqX_next, ↓sqX_brk, ↓sqX_cont, ↓sqX_ret, ↓Zs_cons, ↓wkX_next, ↓wkX_cont, ↓wkX_brk, ↓wkX_ret, ↓fkX_next, ↓fkX_cont, ↓fkX_brk, ↓fkX_ret, ↓xb_one, ↓oKK_some, ↓oK_some, ↓tX_bool, ↓iX_t, ↓iX_f, ↓iX_d, ↓q_add, ↓q_sub, ↓q_mul, ↓q_div, ↓q_mod, ↓q_pow, ↓q_list, ↓q_eq, ↓q_ne, ↓q_eqs, ↓q_nes, ↓q_eqb, ↓q_lt, ↓q_le, ↓q_gt, ↓q_ge, ↓q_in, ↓q_inl, ↓q_nin, ↓q_is, ↓q_isnot, ↓q_stup, ↓q_sref, ↓q_sscr, ↓q_fn, ↓q_lentup, ↓q_lenref, ↓q_lenscr, ↓q_isi, ↓q_all, ↓q_max, ↓q_min, ↓q_int, ↓q_tuple, ↓q_listc, ↓q_append, ↓q_clear, ↓q_index, ↓u_tup, ↓u_ref, ↓u_range, ↓q_slice, ↓oi_none, ↓oi_int, ↓X_slice, ↓XO_none, ↓XO_some, ↓u_rev, ↓u_range2, ↓retV_ret, ↓retV_next, List.getElem?_cons_zero, List.getElem?_cons_succ, List.set_cons_zero, List.set_cons_succ, Bool.not_true, Bool.not_false, idx_0, idx_1, idx_2, idx_3, idx_4, idx_5, Int.reduceAdd, Int.reduceSub, Int.reduceMul, Int.reduceNeg, Int.reducePow, Int.reduceLT, Int.reduceLE, Int.reduceEq, Int.reduceNe, Int.reduceToNat, Int.reduceAbs, Nat.reduceAdd, Nat.reduceLT, Nat.reduceLeDiff, Nat.reducePow, Nat.reduceLT, List.length_cons, List.length_nil, true_implies, false_implies, not_true_eq_false, not_false_eq_true, and_true, true_and, and_self, or_true, true_or, decide_true, decide_false, exists_eq_left', Option.some.injEq, ↓p4_ca, ↓cc_cell]
  subst hK
  refine zs_cons ?_
  generalize hK : sqX Ψ4 (_ :: _) = K
  simp only [↓X_lit, ↓X_loc, ↓X_bin, ↓negX_int, ↓X_neg, ↓X_not, ↓Y_not, ↓X_and, ↓Y_and, ↓X_or, ↓Y_or, ↓X_cmp, ↓X_cmp2, ↓X_ite, ↓Y_ite, ↓X_tup, ↓X_lst, ↓X_call, ↓X_meth, ↓X_sub, ↓X_comp, ↓Y_lit, ↓Y_loc, ↓Y_cmp, ↓Y_cmp2, ↓Y_call, ↓Y_sub, ↓XEs_nil, ↓XEs_cons, ↓XIfs_nil, ↓XIfs_cons, ↓Z_expr, ↓Z_assign, ↓Z_ret, ↓Z_retNone, ↓Z_ite, ↓Z_for, ↓Z_pass, ↓Z_brk, ↓Z_cont, ↓Zs_nil, ↓sqX_next, ↓sqX_brk, ↓sqX_cont, ↓sqX_ret, ↓Zs_cons, ↓wkX_next, ↓wkX_cont, ↓wkX_brk, ↓wkX_ret, ↓fkX_next, ↓fkX_cont, ↓fkX_brk, ↓fkX_ret, ↓xb_one, ↓oKK_some, ↓oK_some, ↓tX_bool, ↓iX_t, ↓iX_f, ↓iX_d, ↓q_add, ↓q_sub, ↓q_mul, ↓q_div, ↓q_mod, ↓q_pow, ↓q_list, ↓q_eq, ↓q_ne, ↓q_eqs, ↓q_nes, ↓q_eqb, ↓q_lt, ↓q_le, ↓q_gt, ↓q_ge, ↓q_in, ↓q_inl, ↓q_nin, ↓q_is, ↓q_isnot, ↓q_stup, ↓q_sref, ↓q_sscr, ↓q_fn, ↓q_lentup, ↓q_lenref, ↓q_lenscr, ↓q_isi, ↓q_all, ↓q_max, ↓q_min, ↓q_int, ↓q_tuple, ↓q_listc, ↓q_append, ↓q_clear, ↓q_index, ↓u_tup, ↓u_ref, ↓u_range, ↓q_slice, ↓oi_none, ↓oi_int, ↓X_slice, ↓XO_none, ↓XO_some, ↓u_rev, ↓u_range2, ↓retV_ret, ↓retV_next, List.getElem?_cons_zero, List.getElem?_cons_succ, List.set_cons_zero, List.set_cons_succ, Bool.not_true, Bool.not_false, idx_0, idx_1, idx_2, idx_3, idx_4, idx_5, Int.reduceAdd, Int.reduceSub, Int.reduceMul, Int.reduceNeg, Int.reducePow, Int.reduceLT, Int.reduceLE, Int.reduceEq, Int.reduceNe, Int.reduceToNat, Int.reduceAbs, Nat.reduceAdd, Nat.reduceLT, Nat.reduceLeDiff, Nat.reducePow, Nat.reduceLT, List.length_cons, List.length_nil, true_implies, false_implies, not_true_eq_false, not_false_eq_true, and_true, true_and, and_self, or_true, true_or, decide_true, decide_false, exists_eq_left', Option.some.injEq, ↓p4_ca, ↓cc_cell]
  subst hK
  exact ⟨fun _ => ⟨fun _ => mid_three hok hd q, fun _ => mid_three hok hd q⟩, fun _ => mid_three hok hd q⟩

theorem w_lawC : ∀ vs H Q X, C_law0 vs H Q X → wpFn Ψ4 f_lawC vs H Q X := by
  rintro vs H Q X ⟨ns, rfl, q⟩
  refine fn_of rfl ?_
  change wpSs Ψ4 f_lawC.body [some (.scr ns), none, none, none, none, none, none, none, none, none, none, none, none, none] H _ _
  refine zs_cons ?_
  generalize hK : sqX Ψ4 (_ :: _) = K
  simp only [↓X_lit, ↓X_loc, ↓X_bin, ↓negX_int, ↓X_neg, ↓X_not, ↓Y_not, ↓X_and, ↓Y_and, ↓X_or, ↓Y_or, ↓X_cmp, ↓X_cmp2, ↓X_ite, ↓Y_ite, ↓X_tup, ↓X_lst, ↓X_call, ↓X_meth, ↓X_sub, ↓X_comp, ↓Y_lit, ↓Y_loc, ↓Y_cmp, ↓Y_cmp2, ↓Y_call, ↓Y_sub, ↓XEs_nil, ↓XEs_cons, ↓XIfs_nil, ↓XIfs_cons, ↓Z_expr, ↓Z_assign, ↓Z_ret, ↓Z_retNone, ↓Z_ite, ↓Z_for, ↓Z_pass, ↓Z_brk, ↓Z_cont, ↓Zs_nil, ↓sqX_next, ↓sqX_brk, ↓sqX_cont, ↓sqX_ret, ↓Zs_cons, ↓wkX_next, ↓wkX_cont, ↓wkX_brk, ↓wkX_ret, ↓fkX_next, ↓fkX_cont, ↓fkX_brk, ↓fkX_ret, ↓xb_one, ↓oKK_some, ↓oK_some, ↓tX_bool, ↓iX_t, ↓iX_f, ↓iX_d, ↓q_add, ↓q_sub, ↓q_mul, ↓q_div, ↓q_mod, ↓q_pow, ↓q_list, ↓q_eq, ↓q_ne, ↓q_eqs, ↓q_nes, ↓q_eqb, ↓q_lt, ↓q_le, ↓q_gt, ↓q_ge, ↓q_in, ↓q_inl, ↓q_nin, ↓q_is, ↓q_isnot, ↓q_stup, ↓q_sref, ↓q_sscr, ↓q_fn, ↓q_lentup, ↓q_lenref, ↓q_lenscr, ↓q_isi, ↓q_all, ↓q_max, ↓q_min, ↓q_int, ↓q_tuple, ↓q_listc, ↓q_append, ↓q_clear, ↓q_index, ↓u_tup, ↓u_ref, ↓u_range, ↓q_slice, ↓oi_none, ↓oi_int, ↓X_slice, ↓XO_none, ↓XO_some, ↓u_rev, ↓u_range2, ↓retV_ret, ↓retV_next, List.getElem?_cons_zero, List.getElem?_cons_succ, List.set_cons_zero, List.set_cons_succ, Bool.not_true, Bool.not_false, idx_0, idx_1, idx_2, idx_3, idx_4, idx_5, Int.reduceAdd, Int.reduceSub, Int.reduceMul, Int.reduceNeg, Int.reducePow, Int.reduceLT, Int.reduceLE, Int.reduceEq, Int.reduceNe, Int.reduceToNat, Int.reduceAbs, Nat.reduceAdd, Nat.reduceLT, Nat.reduceLeDiff, Nat.reducePow, Nat.reduceLT, List.length_cons, List.length_nil, true_implies, false_implies, not_true_eq_false, not_false_eq_true, and_true, true_and, and_self, or_true, true_or, decide_true, decide_false, exists_eq_left', Option.some.injEq, ↓p4_ca, ↓cc_cell]
  subst hK
  refine zs_cons ?_
  obtain ⟨far, hf⟩ := three_at (k := cell ns 3 % 3) (x := 0) (y := cell ns 3 / 9 % 1000000) (z := cell ns 3 / 9 % 999998000000) (Int.emod_nonneg _ (by decide)) (Int.emod_lt_of_pos _ (by decide))
  generalize hK : sqX Ψ4 (_ :: _) = K
  simp only [↓X_lit, ↓X_loc, ↓X_bin, ↓negX_int, ↓X_neg, ↓X_not, ↓Y_not, ↓X_and, ↓Y_and, ↓X_or, ↓Y_or, ↓X_cmp, ↓X_cmp2, ↓X_ite, ↓Y_ite, ↓X_tup, ↓X_lst, ↓X_call, ↓X_meth, ↓X_sub, ↓X_comp, ↓Y_lit, ↓Y_loc, ↓Y_cmp, ↓Y_cmp2, ↓Y_call, ↓Y_sub, ↓XEs_nil, ↓XEs_cons, ↓XIfs_nil, ↓XIfs_cons, ↓Z_expr, ↓Z_assign, ↓Z_ret, ↓Z_retNone, ↓Z_ite, ↓Z_for, ↓Z_pass, ↓Z_brk, ↓Z_cont, ↓Zs_nil, ↓sqX_next, ↓sqX_brk, ↓sqX_cont, ↓sqX_ret, ↓Zs_cons, ↓wkX_next, ↓wkX_cont, ↓wkX_brk, ↓wkX_ret, ↓fkX_next, ↓fkX_cont, ↓fkX_brk, ↓fkX_ret, ↓xb_one, ↓oKK_some, ↓oK_some, ↓tX_bool, ↓iX_t, ↓iX_f, ↓iX_d, ↓q_add, ↓q_sub, ↓q_mul, ↓q_div, ↓q_mod, ↓q_pow, ↓q_list, ↓q_eq, ↓q_ne, ↓q_eqs, ↓q_nes, ↓q_eqb, ↓q_lt, ↓q_le, ↓q_gt, ↓q_ge, ↓q_in, ↓q_inl, ↓q_nin, ↓q_is, ↓q_isnot, ↓q_stup, ↓q_sref, ↓q_sscr, ↓q_fn, ↓q_lentup, ↓q_lenref, ↓q_lenscr, ↓q_isi, ↓q_all, ↓q_max, ↓q_min, ↓q_int, ↓q_tuple, ↓q_listc, ↓q_append, ↓q_clear, ↓q_index, ↓u_tup, ↓u_ref, ↓u_range, ↓q_slice, ↓oi_none, ↓oi_int, ↓X_slice, ↓XO_none, ↓XO_some, ↓u_rev, ↓u_range2, ↓retV_ret, ↓retV_next, List.getElem?_cons_zero, List.getElem?_cons_succ, List.set_cons_zero, List.set_cons_succ, Bool.not_true, Bool.not_false, idx_0, idx_1, idx_2, idx_3, idx_4, idx_5, Int.reduceAdd, Int.reduceSub, Int.reduceMul, Int.reduceNeg, Int.reducePow, Int.reduceLT, Int.reduceLE, Int.reduceEq, Int.reduceNe, Int.reduceToNat, Int.reduceAbs, Nat.reduceAdd, Nat.reduceLT, Nat.reduceLeDiff, Nat.reducePow, Nat.reduceLT, List.length_cons, List.length_nil, true_implies, false_implies, not_true_eq_false, not_false_eq_true, and_true, true_and, and_self, or_true, true_or, decide_true, decide_false, exists_eq_left', Option.some.injEq, listAt_new, hf]
  subst hK
  refine zs_cons ?_
  generalize hK : sqX Ψ4 (_ :: _) = K
  simp only [↓X_lit, ↓X_loc, ↓X_bin, ↓negX_int, ↓X_neg, ↓X_not, ↓Y_not, ↓X_and, ↓Y_and, ↓X_or, ↓Y_or, ↓X_cmp, ↓X_cmp2, ↓X_ite, ↓Y_ite, ↓X_tup, ↓X_lst, ↓X_call, ↓X_meth, ↓X_sub, ↓X_comp, ↓Y_lit, ↓Y_loc, ↓Y_cmp, ↓Y_cmp2, ↓Y_call, ↓Y_sub, ↓XEs_nil, ↓XEs_cons, ↓XIfs_nil, ↓XIfs_cons, ↓Z_expr, ↓Z_assign, ↓Z_ret, ↓Z_retNone, ↓Z_ite, ↓Z_for, ↓Z_pass, ↓Z_brk, ↓Z_cont, ↓Zs_nil, ↓sqX_next, ↓sqX_brk, ↓sqX_cont, ↓sqX_ret, ↓Zs_cons, ↓wkX_next, ↓wkX_cont, ↓wkX_brk, ↓wkX_ret, ↓fkX_next, ↓fkX_cont, ↓fkX_brk, ↓fkX_ret, ↓xb_one, ↓oKK_some, ↓oK_some, ↓tX_bool, ↓iX_t, ↓iX_f, ↓iX_d, ↓q_add, ↓q_sub, ↓q_mul, ↓q_div, ↓q_mod, ↓q_pow, ↓q_list, ↓q_eq, ↓q_ne, ↓q_eqs, ↓q_nes, ↓q_eqb, ↓q_lt, ↓q_le, ↓q_gt, ↓q_ge, ↓q_in, ↓q_inl, ↓q_nin, ↓q_is, ↓q_isnot, ↓q_stup, ↓q_sref, ↓q_sscr, ↓q_fn, ↓q_lentup, ↓q_lenref, ↓q_lenscr, ↓q_isi, ↓q_all, ↓q_max, ↓q_min, ↓q_int, ↓q_tuple, ↓q_listc, ↓q_append, ↓q_clear, ↓q_index, ↓u_tup, ↓u_ref, ↓u_range, ↓q_slice, ↓oi_none, ↓oi_int, ↓X_slice, ↓XO_none, ↓XO_some, ↓u_rev, ↓u_range2, ↓retV_ret, ↓retV_next, List.getElem?_cons_zero, List.getElem?_cons_succ, List.set_cons_zero, List.set_cons_succ, Bool.not_true, Bool.not_false, idx_0, idx_1, idx_2, idx_3, idx_4, idx_5, Int.reduceAdd, Int.reduceSub, Int.reduceMul, Int.reduceNeg, Int.reducePow, Int.reduceLT, Int.reduceLE, Int.reduceEq, Int.reduceNe, Int.reduceToNat, Int.reduceAbs, Nat.reduceAdd, Nat.reduceLT, Nat.reduceLeDiff, Nat.reducePow, Nat.reduceLT, List.length_cons, List.length_nil, true_implies, false_implies, not_true_eq_false, not_false_eq_true, and_true, true_and, and_self, or_true, true_or, decide_true, decide_false, exists_eq_left', Option.some.injEq, ↓coX_nil, ↓coX_cons, ↓p4_ca, ↓p4_pb, ↓cc_cell, range3, List.nil_append, List.cons_append]
  refine ⟨_, cell ns 0, cell ns 1, cell ns 2, far, 48, rfl, listAt_new, by decide, by decide, fun H2 hp2 => ?_⟩
  subst hK
  have q : ∀ H', H2 <+: H' → Q (.bool true) H' := fun H' hp => q H' (pre_new.trans (pre_new.trans (hp2.trans hp)))
  obtain ⟨h1, h2, _, _⟩ := plainBy_ok (cell ns 0) (cell ns 1) (cell ns 2) far 48
  generalize plainBy (cell ns 0) (cell ns 1) (cell ns 2) far 48 = r at *
  refine zs_cons ?_
  generalize hK : sqX Ψ4 (_ :: _) = K
  simp only [↓X_lit, ↓X_loc, ↓X_bin, ↓negX_int, ↓X_neg, ↓X_not, ↓Y_not, ↓X_and, ↓Y_and, ↓X_or, ↓Y_or, ↓X_cmp, ↓X_cmp2, ↓X_ite, ↓Y_ite, ↓X_tup, ↓X_lst, ↓X_call, ↓X_meth, ↓X_sub, ↓X_comp, ↓Y_lit, ↓Y_loc, ↓Y_cmp, ↓Y_cmp2, ↓Y_call, ↓Y_sub, ↓XEs_nil, ↓XEs_cons, ↓XIfs_nil, ↓XIfs_cons, ↓Z_expr, ↓Z_assign, ↓Z_ret, ↓Z_retNone, ↓Z_ite, ↓Z_for, ↓Z_pass, ↓Z_brk, ↓Z_cont, ↓Zs_nil, ↓sqX_next, ↓sqX_brk, ↓sqX_cont, ↓sqX_ret, ↓Zs_cons, ↓wkX_next, ↓wkX_cont, ↓wkX_brk, ↓wkX_ret, ↓fkX_next, ↓fkX_cont, ↓fkX_brk, ↓fkX_ret, ↓xb_one, ↓oKK_some, ↓oK_some, ↓tX_bool, ↓iX_t, ↓iX_f, ↓iX_d, ↓q_add, ↓q_sub, ↓q_mul, ↓q_div, ↓q_mod, ↓q_pow, ↓q_list, ↓q_eq, ↓q_ne, ↓q_eqs, ↓q_nes, ↓q_eqb, ↓q_lt, ↓q_le, ↓q_gt, ↓q_ge, ↓q_in, ↓q_inl, ↓q_nin, ↓q_is, ↓q_isnot, ↓q_stup, ↓q_sref, ↓q_sscr, ↓q_fn, ↓q_lentup, ↓q_lenref, ↓q_lenscr, ↓q_isi, ↓q_all, ↓q_max, ↓q_min, ↓q_int, ↓q_tuple, ↓q_listc, ↓q_append, ↓q_clear, ↓q_index, ↓u_tup, ↓u_ref, ↓u_range, ↓q_slice, ↓oi_none, ↓oi_int, ↓X_slice, ↓XO_none, ↓XO_some, ↓u_rev, ↓u_range2, ↓retV_ret, ↓retV_next, List.getElem?_cons_zero, List.getElem?_cons_succ, List.set_cons_zero, List.set_cons_succ, Bool.not_true, Bool.not_false, idx_0, idx_1, idx_2, idx_3, idx_4, idx_5, Int.reduceAdd, Int.reduceSub, Int.reduceMul, Int.reduceNeg, Int.reducePow, Int.reduceLT, Int.reduceLE, Int.reduceEq, Int.reduceNe, Int.reduceToNat, Int.reduceAbs, Nat.reduceAdd, Nat.reduceLT, Nat.reduceLeDiff, Nat.reducePow, Nat.reduceLT, List.length_cons, List.length_nil, true_implies, false_implies, not_true_eq_false, not_false_eq_true, and_true, true_and, and_self, or_true, true_or, decide_true, decide_false, exists_eq_left', Option.some.injEq, ↓p4_ca, ↓cc_cell]
  refine ⟨⟨by omega, by omega⟩, ?_⟩
  rw [rangeL_I]
  subst hK
  refine ru_loop _ r H2 _ _ _ (fun k hk => rangeI_nonneg hk) h2 (by rw [plain_depth r h1, rangeI_len]; omega) ?_
  intro r' t3' t5' t6' H' hp' hok' hd'
  exact four_three hok' hd' fun H3 hp3 => q H3 (hp'.trans hp3)
end Mine

namespace Mine
open PySem
noncomputable def G03 : List (Str × V) := ("FOUR_YEARS", .int 1461) :: ("BEFORE_YEAR", .tup [.int 0, .int 366, .int 731, .int 1096]) :: ("MONTHS", .tup [.int 31, .int 28, .int 31, .int 30, .int 31, .int 30, .int 31, .int 31, .int 30, .int 31, .int 30, .int 31]) :: ("OUTER", .tup [.str "from", .str "until", .str "also", .str "but"]) :: ("isinstance", .bi .isinstance) :: ("len", .bi .len) :: ("int", .ty .int) :: ("bool", .ty .bool) :: ("tuple", .ty .tuple) :: ("range", .ty .range) :: ("reversed", .ty .reversed) :: ("month_length", .fn "month_length") :: ("date_of", .fn "date_of") :: ("from_end", .fn "from_end") :: ("innermost", .fn "innermost") :: ("length_of", .fn "length_of") :: ("begins_plain", .fn "begins_plain") :: ("begins", .fn "begins") :: ("_law_cell_at", .fn "_law_cell_at") :: ("_law_whole", .fn "_law_whole") :: ("_law_days", .fn "_law_days") :: ("_law_in_month", .fn "_law_in_month") :: ("_law_plain_begins", .fn "_law_plain_begins") :: ("_law_weekdays", .fn "_law_weekdays") :: ("_law_plain_by", .fn "_law_plain_by") :: ("_law_heads", .fn "_law_heads") :: ("_law_begun", .fn "_law_begun") :: ("_law_size", .fn "_law_size") :: ("_law_head_by", .fn "_law_head_by") :: []
noncomputable def ΦL03 : Orc := ext "law" C_law0 Ψ4
end Mine

open PySem PySem.W PyProof.Rows Mine
namespace Mine
noncomputable def K03 (P : Params) : Frag := [(3, { cls := Value.type "dict", data := Data.dict #[{ hash := PyData.keyHash P (Str.ofString "__name__"), key := Value.str (Str.ofString "__name__") 165, val := Value.str (Str.ofString "law_uf010016_03") 275 }, { hash := PyData.keyHash P (Str.ofString "__doc__"), key := Value.str (Str.ofString "__doc__") 166, val := Value.none }, { hash := PyData.keyHash P (Str.ofString "__package__"), key := Value.str (Str.ofString "__package__") 167, val := Value.none }, { hash := PyData.keyHash P (Str.ofString "__loader__"), key := Value.str (Str.ofString "__loader__") 168, val := Value.builtin "__main__.__loader__#opaque" }, { hash := PyData.keyHash P (Str.ofString "__spec__"), key := Value.str (Str.ofString "__spec__") 169, val := Value.none }, { hash := PyData.keyHash P (Str.ofString "__annotations__"), key := Value.str (Str.ofString "__annotations__") 170, val := Value.ref 6 }, { hash := PyData.keyHash P (Str.ofString "__builtins__"), key := Value.str (Str.ofString "__builtins__") 171, val := Value.ref 4 }, { hash := PyData.keyHash P (Str.ofString "__file__"), key := Value.str (Str.ofString "__file__") 173, val := Value.str (Str.ofString "/claim/cut.py") 172 }, { hash := PyData.keyHash P (Str.ofString "__cached__"), key := Value.str (Str.ofString "__cached__") 174, val := Value.none }, { hash := PyData.keyHash P (Str.ofString "FOUR_YEARS"), key := Value.str (Str.ofString "FOUR_YEARS") 190, val := Value.int 1461 189 }, { hash := PyData.keyHash P (Str.ofString "BEFORE_YEAR"), key := Value.str (Str.ofString "BEFORE_YEAR") 195, val := Value.ref 15 }, { hash := PyData.keyHash P (Str.ofString "MONTHS"), key := Value.str (Str.ofString "MONTHS") 208, val := Value.ref 16 }, { hash := PyData.keyHash P (Str.ofString "month_length"), key := Value.str (Str.ofString "month_length") 216, val := Value.ref 23 }, { hash := PyData.keyHash P (Str.ofString "date_of"), key := Value.str (Str.ofString "date_of") 227, val := Value.ref 30 }, { hash := PyData.keyHash P (Str.ofString "from_end"), key := Value.str (Str.ofString "from_end") 235, val := Value.ref 37 }, { hash := PyData.keyHash P (Str.ofString "OUTER"), key := Value.str (Str.ofString "OUTER") 242, val := Value.ref 38 }, { hash := PyData.keyHash P (Str.ofString "innermost"), key := Value.str (Str.ofString "innermost") 249, val := Value.ref 45 }, { hash := PyData.keyHash P (Str.ofString "length_of"), key := Value.str (Str.ofString "length_of") 257, val := Value.ref 52 }, { hash := PyData.keyHash P (Str.ofString "begins_plain"), key := Value.str (Str.ofString "begins_plain") 266, val := Value.ref 59 }, { hash := PyData.keyHash P (Str.ofString "begins"), key := Value.str (Str.ofString "begins") 274, val := Value.ref 66 }, { hash := PyData.keyHash P (Str.ofString "_law_cell_at"), key := Value.str (Str.ofString "_law_cell_at") 284, val := Value.ref 73 }, { hash := PyData.keyHash P (Str.ofString "_law_whole"), key := Value.str (Str.ofString "_law_whole") 291, val := Value.ref 80 }, { hash := PyData.keyHash P (Str.ofString "_law_days"), key := Value.str (Str.ofString "_law_days") 300, val := Value.ref 87 }, { hash := PyData.keyHash P (Str.ofString "_law_in_month"), key := Value.str (Str.ofString "_law_in_month") 310, val := Value.ref 94 }, { hash := PyData.keyHash P (Str.ofString "_law_plain_begins"), key := Value.str (Str.ofString "_law_plain_begins") 318, val := Value.ref 101 }, { hash := PyData.keyHash P (Str.ofString "_law_heads"), key := Value.str (Str.ofString "_law_heads") 326, val := Value.ref 108 }, { hash := PyData.keyHash P (Str.ofString "_law_begun"), key := Value.str (Str.ofString "_law_begun") 337, val := Value.ref 115 }, { hash := PyData.keyHash P (Str.ofString "_law_size"), key := Value.str (Str.ofString "_law_size") 345, val := Value.ref 122 }, { hash := PyData.keyHash P (Str.ofString "_law_weekdays"), key := Value.str (Str.ofString "_law_weekdays") 354, val := Value.ref 129 }, { hash := PyData.keyHash P (Str.ofString "_law_plain_by"), key := Value.str (Str.ofString "_law_plain_by") 367, val := Value.ref 136 }, { hash := PyData.keyHash P (Str.ofString "_law_head_by"), key := Value.str (Str.ofString "_law_head_by") 373, val := Value.ref 141 }, { hash := PyData.keyHash P (Str.ofString "law"), key := Value.str (Str.ofString "law") 379, val := Value.ref 146 }] 32 }), (15, { cls := Value.type "tuple", data := Data.seq #[Value.int 0 191, Value.int 366 192, Value.int 731 193, Value.int 1096 194] }), (16, { cls := Value.type "tuple", data := Data.seq #[Value.int 31 196, Value.int 28 197, Value.int 31 198, Value.int 30 199, Value.int 31 200, Value.int 30 201, Value.int 31 202, Value.int 31 203, Value.int 30 204, Value.int 31 205, Value.int 30 206, Value.int 31 207] }), (38, { cls := Value.type "tuple", data := Data.seq #[Value.str (Str.ofString "from") 238, Value.str (Str.ofString "until") 239, Value.str (Str.ofString "also") 240, Value.str (Str.ofString "but") 241] })]
noncomputable def H03 : Hook := kHook K03 [3, 15, 16, 38] (fun _ => rfl)
noncomputable def V03 : Program := viewOf Challenge.pw_uf010016_03
end Mine
set_option maxRecDepth 100000 in
set_option maxHeartbeats 8000000 in
theorem PySem.Challenge.cw_uf010016_03_holds : PySem.Challenge.rw_uf010016_03.Holds := by
  w_on
  refine holds_law (by kernel_rfl) fun said => ?_
  refine holds_open (q := V03) (loose := []) (Xt := fun s => xlAt V03 [] s && recOk (RowW.records (OpenRow.toRowW Challenge.rw_uf010016_03.row)) s) (XP := XL V03 []) (Yf := Hook.obs H03) (Ya := Hook.val H03) (YP := Hook.says H03) (N := 1450) ?hl (Hook.of H03) (Hook.keeps H03) (fun s e => xl_of s (Bool.and_eq_true_iff.mp e).1) XL.keeps (by rfl) (by rfl) (by rfl) (fun s e => recFacts_of (Bool.and_eq_true_iff.mp e).2) (by rfl) (by first | assumption | decide +kernel) (by decide +kernel) ⟨rfl, rfl, rfl, rfl, rfl, by decide +kernel⟩ ?hw ?hc
  case hl => intro w; kernel_rfl
  case hw => w_witness2
  intro w s₀ s₁ mg mb G Y fa o pm cd doc dV kV ho hd hcd hD hmg hg args vals as hpre hlay hrd hwl hlo
  have KX := kIn_of Y
  refine Ground.open G ?_
  intro T B D TE TW
  wrow_args hpre hlay hrd hwl hlo
  have GA : GAll ⟨Challenge.rw_uf010016_03.row.prog, w, s₁.heap, mg, mb⟩ G03 := by
    refine ⟨gv_int (mg_of (v := .int 1461 189) KX T.g (by kernel_rfl)), ?_⟩
    refine ⟨gv_tup (vs := [Value.int 0 191, Value.int 366 192, Value.int 731 193, Value.int 1096 194]) (n := 0) (mg_of (v := .ref 15) KX T.g (by kernel_rfl)) (KX _ _ (by kernel_rfl)) (by decide) (fun _ => (reps_int (reps_int (reps_int (reps_int reps_nil))))), ?_⟩
    refine ⟨gv_tup (vs := [Value.int 31 196, Value.int 28 197, Value.int 31 198, Value.int 30 199, Value.int 31 200, Value.int 30 201, Value.int 31 202, Value.int 31 203, Value.int 30 204, Value.int 31 205, Value.int 30 206, Value.int 31 207]) (n := 0) (mg_of (v := .ref 16) KX T.g (by kernel_rfl)) (KX _ _ (by kernel_rfl)) (by decide) (fun _ => (reps_int (reps_int (reps_int (reps_int (reps_int (reps_int (reps_int (reps_int (reps_int (reps_int (reps_int (reps_int reps_nil))))))))))))), ?_⟩
    refine ⟨gv_tup (vs := [Value.str (Str.ofString "from") 238, Value.str (Str.ofString "until") 239, Value.str (Str.ofString "also") 240, Value.str (Str.ofString "but") 241]) (n := 0) (mg_of (v := .ref 38) KX T.g (by kernel_rfl)) (KX _ _ (by kernel_rfl)) (by decide) (fun _ => (reps_str ⟨by decide +kernel, by decide +kernel⟩ (reps_str ⟨by decide +kernel, by decide +kernel⟩ (reps_str ⟨by decide +kernel, by decide +kernel⟩ (reps_str ⟨by decide +kernel, by decide +kernel⟩ reps_nil))))), ?_⟩
    refine ⟨gv_bi (ns_none_of KX T.g (by kernel_rfl)) ((T.builtins _ (by decide)).trans rfl), ?_⟩
    refine ⟨gv_bi (ns_none_of KX T.g (by kernel_rfl)) ((T.builtins _ (by decide)).trans rfl), ?_⟩
    refine ⟨gv_ty (ns_none_of KX T.g (by kernel_rfl)) ((T.builtins _ (by decide)).trans rfl), ?_⟩
    refine ⟨gv_ty (ns_none_of KX T.g (by kernel_rfl)) ((T.builtins _ (by decide)).trans rfl), ?_⟩
    refine ⟨gv_ty (ns_none_of KX T.g (by kernel_rfl)) ((T.builtins _ (by decide)).trans rfl), ?_⟩
    refine ⟨gv_ty (ns_none_of KX T.g (by kernel_rfl)) ((T.builtins _ (by decide)).trans rfl), ?_⟩
    refine ⟨gv_ty (ns_none_of KX T.g (by kernel_rfl)) ((T.builtins _ (by decide)).trans rfl), ?_⟩
    refine ⟨gv_fn (mg_of (v := .ref 23) KX T.g (by kernel_rfl)), ?_⟩
    refine ⟨gv_fn (mg_of (v := .ref 30) KX T.g (by kernel_rfl)), ?_⟩
    refine ⟨gv_fn (mg_of (v := .ref 37) KX T.g (by kernel_rfl)), ?_⟩
    refine ⟨gv_fn (mg_of (v := .ref 45) KX T.g (by kernel_rfl)), ?_⟩
    refine ⟨gv_fn (mg_of (v := .ref 52) KX T.g (by kernel_rfl)), ?_⟩
    refine ⟨gv_fn (mg_of (v := .ref 59) KX T.g (by kernel_rfl)), ?_⟩
    refine ⟨gv_fn (mg_of (v := .ref 66) KX T.g (by kernel_rfl)), ?_⟩
    refine ⟨gv_fn (mg_of (v := .ref 73) KX T.g (by kernel_rfl)), ?_⟩
    refine ⟨gv_fn (mg_of (v := .ref 80) KX T.g (by kernel_rfl)), ?_⟩
    refine ⟨gv_fn (mg_of (v := .ref 87) KX T.g (by kernel_rfl)), ?_⟩
    refine ⟨gv_fn (mg_of (v := .ref 94) KX T.g (by kernel_rfl)), ?_⟩
    refine ⟨gv_fn (mg_of (v := .ref 101) KX T.g (by kernel_rfl)), ?_⟩
    refine ⟨gv_fn (mg_of (v := .ref 129) KX T.g (by kernel_rfl)), ?_⟩
    refine ⟨gv_fn (mg_of (v := .ref 136) KX T.g (by kernel_rfl)), ?_⟩
    refine ⟨gv_fn (mg_of (v := .ref 108) KX T.g (by kernel_rfl)), ?_⟩
    refine ⟨gv_fn (mg_of (v := .ref 115) KX T.g (by kernel_rfl)), ?_⟩
    refine ⟨gv_fn (mg_of (v := .ref 122) KX T.g (by kernel_rfl)), ?_⟩
    refine ⟨gv_fn (mg_of (v := .ref 141) KX T.g (by kernel_rfl)), ?_⟩
    exact trivial
  have g : GOk ⟨Challenge.rw_uf010016_03.row.prog, w, s₁.heap, mg, mb⟩ G03 := gok T GA
  have o1 : OrcOk ⟨Challenge.rw_uf010016_03.row.prog, w, s₁.heap, mg, mb⟩ 1 Φ1 := ext_ok g noΦ_ok (fnOk_of_top T (x := "month_length") (f := f_month_length) (by kernel_rfl)) w_month_length
  have o2 : OrcOk ⟨Challenge.rw_uf010016_03.row.prog, w, s₁.heap, mg, mb⟩ 2 Φ2 := ext_ok g o1 (fnOk_of_top T (x := "date_of") (f := f_date_of) (by kernel_rfl)) w_date_of
  have o3 : OrcOk ⟨Challenge.rw_uf010016_03.row.prog, w, s₁.heap, mg, mb⟩ 3 Φ3 := ext_ok g o2 (fnOk_of_top T (x := "from_end") (f := f_from_end) (by kernel_rfl)) w_from_end
  have o4 : OrcOk ⟨Challenge.rw_uf010016_03.row.prog, w, s₁.heap, mg, mb⟩ 4 Φ4 := ext_ok g o3 (fnOk_of_top T (x := "innermost") (f := f_innermost) (by kernel_rfl)) w_innermost
  have o5 : OrcOk ⟨Challenge.rw_uf010016_03.row.prog, w, s₁.heap, mg, mb⟩ 5 Φ5 := ext_ok g o4 (fnOk_of_top T (x := "length_of") (f := f_length_of) (by kernel_rfl)) w_length_of
  have o6 : OrcOk ⟨Challenge.rw_uf010016_03.row.prog, w, s₁.heap, mg, mb⟩ 6 Φ6 := ext_ok g o5 (fnOk_of_top T (x := "begins_plain") (f := f_begins_plain) (by kernel_rfl)) w_begins_plain
  have o7 : OrcOk ⟨Challenge.rw_uf010016_03.row.prog, w, s₁.heap, mg, mb⟩ 7 Φ7 := ext_ok g o6 (fnOk_of_top T (x := "begins") (f := f_begins) (by kernel_rfl)) w_begins
  have o8 : OrcOk ⟨Challenge.rw_uf010016_03.row.prog, w, s₁.heap, mg, mb⟩ 8 Φ8 := ext_ok g o7 (fnOk_of_top T (x := "_law_cell_at") (f := f_l_cell_at) (by kernel_rfl)) w_cell_at
  have o9 : OrcOk ⟨Challenge.rw_uf010016_03.row.prog, w, s₁.heap, mg, mb⟩ 9 Φ9 := ext_ok g o8 (fnOk_of_top T (x := "_law_whole") (f := f_l_whole) (by kernel_rfl)) w_whole
  have o10 : OrcOk ⟨Challenge.rw_uf010016_03.row.prog, w, s₁.heap, mg, mb⟩ 10 Φa := ext_ok g o9 (fnOk_of_top T (x := "_law_days") (f := f_l_days) (by kernel_rfl)) w_days
  have o11 : OrcOk ⟨Challenge.rw_uf010016_03.row.prog, w, s₁.heap, mg, mb⟩ 11 Φb := ext_ok g o10 (fnOk_of_top T (x := "_law_in_month") (f := f_l_in_month) (by kernel_rfl)) w_in_month
  have o12 : OrcOk ⟨Challenge.rw_uf010016_03.row.prog, w, s₁.heap, mg, mb⟩ 12 Φc := ext_ok g o11 (fnOk_of_top T (x := "_law_plain_begins") (f := f_l_plain_begins) (by kernel_rfl)) w_plain_begins
  have o13 : OrcOk ⟨Challenge.rw_uf010016_03.row.prog, w, s₁.heap, mg, mb⟩ 13 Φd := ext_ok g o12 (fnOk_of_top T (x := "_law_weekdays") (f := f_l_weekdays) (by kernel_rfl)) w_weekdays
  have o14 : OrcOk ⟨Challenge.rw_uf010016_03.row.prog, w, s₁.heap, mg, mb⟩ 14 Φe := ext_ok g o13 (fnOk_of_top T (x := "_law_plain_by") (f := f_l_plain_by) (by kernel_rfl)) w_plain_by
  have o15 : OrcOk ⟨Challenge.rw_uf010016_03.row.prog, w, s₁.heap, mg, mb⟩ 14 Φf := ext_none (ns_none_of KX T.g (by kernel_rfl)) o14
  have o16 : OrcOk ⟨Challenge.rw_uf010016_03.row.prog, w, s₁.heap, mg, mb⟩ 15 Ψ1 := ext_ok g o15 (fnOk_of_top T (x := "_law_heads") (f := f_l_heads) (by kernel_rfl)) w_heads
  have o17 : OrcOk ⟨Challenge.rw_uf010016_03.row.prog, w, s₁.heap, mg, mb⟩ 16 Ψ2 := ext_ok g o16 (fnOk_of_top T (x := "_law_begun") (f := f_l_begun) (by kernel_rfl)) w_begun
  have o18 : OrcOk ⟨Challenge.rw_uf010016_03.row.prog, w, s₁.heap, mg, mb⟩ 17 Ψ3 := ext_ok g o17 (fnOk_of_top T (x := "_law_size") (f := f_l_size) (by kernel_rfl)) w_size
  have o19 : OrcOk ⟨Challenge.rw_uf010016_03.row.prog, w, s₁.heap, mg, mb⟩ 18 Ψ4 := ext_ok g o18 (fnOk_of_top T (x := "_law_head_by") (f := f_l_head_by) (by kernel_rfl)) w_head_by
  have o20 : OrcOk ⟨Challenge.rw_uf010016_03.row.prog, w, s₁.heap, mg, mb⟩ 19 ΦL03 := ext_ok g o19 (fnOk_of_top T (x := "law") (f := f_lawC) (by kernel_rfl)) w_lawC
  exact law_top o20 (caller_ok (by decide)) hmg ⟨_, rfl, fun _ _ => rfl⟩ (by assumption) (by assumption) (by omega) hg (fun _ => rfl) (by first | rfl | wrow_post)
